/- Part A23. -/
import Derived.Deep.Onto
import Derived.OwnWalk
import Derived.Laws.AppendOwn
import Derived.Test.YtnjonlnemagomaaGreatDoorA22
namespace Go.Proofs.YtnjonlnemagomaaGreatDoor
open Go.RowKit Big
open Go.Lib (hid)
set_option maxRecDepth 100000
set_option maxHeartbeats 8000000
theorem cos_minus (va:Value)(w:World)(he:Env w)(hx:IsFrac w va (Rat.divInt (-3) 8)):Calls Tryz.prog 163 #[va,.int .i64 3] w (SpPost w (rs (Rat.divInt (-708) 1000)) (rs (Rat.divInt (-708+1) 1000)) 0):=by
 obtain ⟨sa,aa,la,ca,ta,ba,ma,na,rfl⟩:=hx.shape;have fb:FB 10 (Rat.divInt (-3) 8):=FB.divInt (by unfold BdK;decide +kernel) (by unfold BdK;decide +kernel) (by decide);have f5:FB 10 (Rat.divInt 5 8):=FB.divInt (by unfold BdK;decide +kernel) (by unfold BdK;decide +kernel) (by decide);have f3:FB 10 (Rat.divInt 3 8):=FB.divInt (by unfold BdK;decide +kernel) (by unfold BdK;decide +kernel) (by decide);have f2:FB 10 (Rat.divInt 1 2):=FB.divInt (by unfold BdK;decide +kernel) (by unfold BdK;decide +kernel) (by decide);have f4:FB 10 (Rat.divInt 1 4):=FB.divInt (by unfold BdK;decide +kernel) (by unfold BdK;decide +kernel) (by decide);have f1:FB 10 ((1:Int):Rat):=FB.int (by unfold BdK;decide +kernel) (by omega);have hfl:=fun va W h=>floor_calls va (Rat.divInt (-3) 8) 10 W h fb (by omega);rw[show (Rat.divInt (-3) 8).floor= -1 by decide +kernel] at hfl;have hwh:=fun va W h=>whole_calls va (-1) W h;have hsu:=fun va vb W h1 h2=>fsub_calls va vb (Rat.divInt (-3) 8) ((-1:Int):Rat) 10 10 W h1 h2 fb (FB.int (by unfold BdK;decide +kernel) (by omega)) (by omega);rw[show Rat.divInt (-3) 8 - ((-1:Int):Rat)=Rat.divInt 5 8 by decide +kernel] at hsu;have htx:=fun va W h hW=>text_calls va (Rat.divInt 5 8) W h (f5.mono (by omega)) hW;obtain ⟨X1,hX1,hfs⟩:∃ X1:ByteArray,(⟨(ratText (Rat.divInt 5 8)).toArray⟩:ByteArray)=X1∧findS X1 ratEs 0=none:=⟨_,rfl,by kernel_rfl⟩;simp only[hX1] at htx;have hcm1:=fun va vb W h1 h2=>fcmp_calls va vb (Rat.divInt 5 8) (Rat.divInt 1 2) 10 10 W h1 h2 f5 f2 (by omega);have hcm2:=fun va vb W h1 h2=>fcmp_calls va vb (Rat.divInt 3 8) (Rat.divInt 1 4) 10 10 W h1 h2 f3 f4 (by omega);unfold SignPost at hcm1 hcm2;rw[show (crossed (Rat.divInt 5 8) (Rat.divInt 1 2)).sign=1 by decide +kernel] at hcm1;rw[show (crossed (Rat.divInt 3 8) (Rat.divInt 1 4)).sign=1 by decide +kernel] at hcm2;have hsu2:=fun va vb W h1 h2=>fsub_calls va vb ((1:Int):Rat) (Rat.divInt 5 8) 10 10 W h1 h2 f1 f5 (by omega);rw[show ((1:Int):Rat) - Rat.divInt 5 8=Rat.divInt 3 8 by decide +kernel] at hsu2;have hsu3:=fun va vb W h1 h2=>fsub_calls va vb (Rat.divInt 1 2) (Rat.divInt 3 8) 10 10 W h1 h2 f2 f3 (by omega);rw[show Rat.divInt 1 2 - Rat.divInt 3 8=Rat.divInt 1 8 by decide +kernel] at hsu3;have hng:=fun va W h=>neg_calls va 707 W h;have hsb:=fun va W h=>sub_calls va (.agg #[.int .i64 1,.slice none 0 0]) (-707) 1 W h (.small rfl (by omega) (by omega)) ⟨40,by omega,by decide⟩ ⟨40,by omega,by decide⟩;rw[show (-707:Int) - 1= -708 by decide] at hsb;have hten:=fun W=>ten_calls 3 W (by omega);rw[show (10:Int)^3=1000 by decide,show ((3:Nat):Int)=3 from rfl] at hten;have bd:∀ z:Int,z.natAbs < 2^40→Bd z:=fun z h=>⟨40,by omega,h⟩;have hmk2:=fun W=>make_of 1 2 W (by decide) (by decide) (by decide);have hmk4:=fun W=>make_of 1 4 W (by decide) (by decide) (by decide);have hbe:=fun va W h=>below_calls va W h;have s1:∀ W,IsInt W (.agg #[.int .i64 1,.slice none 0 0]) 1:=fun W=>.small rfl (by omega) (by omega);have hmA:=fun va vb W h1 h2=>make_calls va vb (-708) 1000 W h1 h2 (bd _ (by decide)) (bd _ (by decide)) (by decide);have hmB:=fun va vb W h1 h2=>make_calls va vb ((-708)+1) 1000 W h1 h2 (bd _ (by decide)) (bd _ (by decide)) (by decide);have had1:=fun va W h=>add_calls va _ (-708) 1 W h (s1 W) (bd _ (by decide)) (bd _ (by decide));have fA:FB 1800 (Rat.divInt (-708) 1000):=FB.mono (j:=40) (FB.divInt (by unfold BdK;decide) (by unfold BdK;decide) (by decide)) (by omega);have fB:FB 1800 (Rat.divInt ((-708)+1) 1000):=FB.mono (j:=40) (FB.divInt (by unfold BdK;decide) (by unfold BdK;decide) (by decide)) (by omega);have hsp:=fun va vb W h1 h2 hW=>nspan_calls va vb (Rat.divInt (-708) 1000) (Rat.divInt ((-708)+1) 1000) W h1 h2 fA fB hW;obtain ⟨X,hX⟩:∃ X,rs (Rat.divInt (-708) 1000)=X:=⟨_,rfl⟩;obtain ⟨Y,hY⟩:∃ X,rs (Rat.divInt ((-708)+1) 1000)=X:=⟨_,rfl⟩;obtain ⟨qA,hqA⟩:∃ q,Rat.divInt (-708) 1000=q:=⟨_,rfl⟩;obtain ⟨qB,hqB⟩:∃ q,Rat.divInt ((-708)+1) 1000=q:=⟨_,rfl⟩;obtain ⟨zB,hzB⟩:∃ z:Int,(-708)+1=z:=⟨_,rfl⟩;rw[hqA] at hX;rw[hqB] at hY;unfold SpPost at hsp;simp only[hqA,hqB,hX,hY] at hsp hmA hmB;simp only[hzB] at hmB had1;clear fA fB s1;rw[hqA,hqB,hX,hY];unfold SpPost;clear hX1 fb f2 f4 f5 f3 f1 hX hY hqA hqB hzB bd;have HE:=hid he;have HX:=hid hx;have HFL:=hid hfl;have HWH:=hid hwh;have HSU:=hid hsu;have HTX:=hid htx;have HFS:=hid hfs;have HCM1:=hid hcm1;have HCM2:=hid hcm2;have HTEN:=hid hten;have HMK2:=hid hmk2;have HMK4:=hid hmk4;have HBE:=hid hbe;have HMA:=hid hmA;have HMB:=hid hmB;have HAD1:=hid had1;have HSP:=hid hsp;have HSU2:=hid hsu2;have HSU3:=hid hsu3;have HNG:=hid hng;have HSB:=hid hsb;clear he hx hfl hwh hsu htx hfs hcm1 hcm2 hten hmk2 hmk4 hbe hmA hmB had1 hsp hsu2 hsu3 hng hsb;go_enter Tryz.func163,Tryz.ntmps163;go_upto_region 1 with (fail);obtain ⟨BA,BP,HN⟩:=lay2 w 115 #[.int .i64 sa,.slice aa la ca,.int .i64 ta,.slice ba ma na] 53 #[.string ⟨#[]⟩,.string ⟨#[]⟩];replace HX:=hid (HX.out.new HN.out);obtain ⟨w0,hw0⟩:∃ u,(w.alloc (.cells #[.int .i64 sa,.slice aa la ca,.int .i64 ta,.slice ba ma na] 115)).alloc (.cells #[.string ⟨#[]⟩,.string ⟨#[]⟩] 53)=u:=⟨_,rfl⟩;rw[hw0] at BA BP HN HX⊢;clear hw0;obtain ⟨⟨pa0,pa1,pa2,pa3⟩,pa4,pa5,pa6,pa7,pa8⟩:=BA.out.four;refine wp_region_T 5 (fun W=>W.cell? ⟨w.heap.size,0,none⟩=some (.int .i64 sa)∧W.cell? ⟨w.heap.size,1,none⟩=some (.slice aa la ca)∧W.cell? ⟨w.heap.size,2,none⟩=some (.int .i64 ta)∧W.cell? ⟨w.heap.size,3,none⟩=some (.slice ba ma na)) 6 #[false,false,false,false,false,false] rfl (by kernel_rfl) (by kernel_rfl) ?_;refine tk 0 (by exact ⟨pa0,pa1,pa2,pa3⟩) ?_
 try simp only[PT]
 refine tk 1 (by exact ⟨pa0,pa1,pa2,pa3⟩) ?_
 try simp only[PT]
 refine wpT_one 2 rfl (by kernel_rfl) (fun K hK=>?_);go_simp;refine (HFL.out _ _ (HX.out.new (New.refl _).drew)).mono ?_;rintro e w1 ⟨v1,rfl,hn,hi⟩;have hn:=hn.undrew;have HI1:=hid hi;clear hi;clear pa0 pa1 pa2 pa3 pa4 pa5 pa6 pa7 pa8;replace BA:=hid (BA.out.new hn);replace BP:=hid (BP.out.new hn);replace HX:=hid (HX.out.new hn);replace HN:=hid (HN.out.trans hn);clear hn;obtain ⟨⟨pa0,pa1,pa2,pa3⟩,pa4,pa5,pa6,pa7,pa8⟩:=BA.out.four;refine hK.out _ _ (fun _=>?_) ?_
 ·exact ⟨pa0,pa1,pa2,pa3⟩
 clear hK K
 try simp only[PT]
 refine wpT_one 3 rfl (by kernel_rfl) (fun K hK=>?_);go_simp;refine (HWH.out _ _ HI1.out).mono ?_;rintro e w2 ⟨v2,rfl,hn,hf⟩;clear HI1;have HF2:=hid hf;clear hf;clear pa0 pa1 pa2 pa3 pa4 pa5 pa6 pa7 pa8;replace BA:=hid (BA.out.new hn);replace BP:=hid (BP.out.new hn);replace HX:=hid (HX.out.new hn);replace HN:=hid (HN.out.trans hn);clear hn;obtain ⟨⟨pa0,pa1,pa2,pa3⟩,pa4,pa5,pa6,pa7,pa8⟩:=BA.out.four;refine hK.out _ _ (fun _=>?_) ?_
 ·exact ⟨pa0,pa1,pa2,pa3⟩
 clear hK K
 try simp only[PT]
 refine wpT_one 4 rfl (by kernel_rfl) (fun K hK=>?_);go_simp;refine (HSU.out _ _ _ HX.out HF2.out).mono ?_;rintro e w3 ⟨v3,rfl,hn,hf⟩;obtain ⟨s4,a4,l4,k4,t4,d4,m4,n4,rfl⟩:=hf.shape;clear HF2 HX;have HFA:=hid hf;clear hf;clear pa0 pa1 pa2 pa3 pa4 pa5 pa6 pa7 pa8;replace BA:=hid (BA.out.new hn);replace BP:=hid (BP.out.new hn);replace HN:=hid (HN.out.trans hn);clear hn;obtain ⟨⟨pa0,pa1,pa2,pa3⟩,pa4,pa5,pa6,pa7,pa8⟩:=BA.out.four;refine hK.out _ _ (fun _=>?_) ?_
 ·exact ⟨pa0,pa1,pa2,pa3⟩
 clear hK K
 try simp only[PT]
 refine wpT_tail rfl (by kernel_rfl) ?_;simp only[List.drop_succ_cons,List.drop_zero];go_upto_region 2 with (fail);clear pa0 pa1 pa2 pa3 pa4 pa5 pa6 pa7 pa8;have N_:=HN.out.put4 (B:=w.heap.size) (Nat.le_refl _) (.int .i64 s4) (.slice a4 l4 k4) (.int .i64 t4) (.slice d4 m4 n4);have A_:=BA.out.put4 (.int .i64 s4) (.slice a4 l4 k4) (.int .i64 t4) (.slice d4 m4 n4);have P_:=BP.out.other4w (B':=w.heap.size) (by omega) (.int .i64 s4) (.slice a4 l4 k4) (.int .i64 t4) (.slice d4 m4 n4);have F_:=HFA.out.put4 BA.out s4 t4 a4 d4 l4 k4 m4 n4;obtain ⟨w4,hw4⟩:∃ u,((((w3.setCell ⟨w.heap.size,0,none⟩ (.int .i64 s4)).setCell ⟨w.heap.size,1,none⟩ (.slice a4 l4 k4)).setCell ⟨w.heap.size,2,none⟩ (.int .i64 t4)).setCell ⟨w.heap.size,3,none⟩ (.slice d4 m4 n4))=u:=⟨_,rfl⟩;rw[hw4] at N_ A_ P_ F_⊢;clear hw4 HN BA BP HFA;have HN:=hid N_;have BA:=hid A_;have BP:=hid P_;have HFA:=hid F_;clear N_ A_ P_ F_;obtain ⟨⟨pa0,pa1,pa2,pa3⟩,pa4,pa5,pa6,pa7,pa8⟩:=BA.out.four;refine wp_region_T 8 (fun W=>W.cell? ⟨w.heap.size,0,none⟩=some (.int .i64 s4)∧W.cell? ⟨w.heap.size,1,none⟩=some (.slice a4 l4 k4)∧W.cell? ⟨w.heap.size,2,none⟩=some (.int .i64 t4)∧W.cell? ⟨w.heap.size,3,none⟩=some (.slice d4 m4 n4)) 9 #[false,false,false,false,false,false,false,false,false] rfl (by kernel_rfl) (by kernel_rfl) ?_;refine tk 1 (by exact ⟨pa0,pa1,pa2,pa3⟩) ?_
 try simp only[List.getElem_toArray,List.getElem_cons_zero,List.getElem_cons_succ,Act.put,List.setIfInBounds_toArray,List.set_cons_zero,List.set_cons_succ]
 refine wpT_one 0 rfl (by kernel_rfl) (fun K hK=>?_)
 try simp only[List.getElem_toArray,List.getElem_cons_zero]
 go_simp;refine (rational_calls _).mono ?_;rintro e w5 ⟨bm,rfl,hn,tm⟩;have hn:=hn.undrew;have TM:=hid tm;clear tm;clear pa0 pa1 pa2 pa3 pa4 pa5 pa6 pa7 pa8;replace BA:=hid (BA.out.new hn);replace BP:=hid (BP.out.new hn);replace HFA:=hid (HFA.out.new hn);replace HN:=hid (HN.out.trans hn);clear hn;obtain ⟨⟨pa0,pa1,pa2,pa3⟩,pa4,pa5,pa6,pa7,pa8⟩:=BA.out.four;refine hK.out _ _ (fun _=>?_) ?_
 ·exact ⟨pa0,pa1,pa2,pa3⟩
 clear hK K
 try simp only[List.setIfInBounds_toArray,List.set_cons_zero]
 refine wpT_one 2 rfl (by kernel_rfl) (fun K hK=>?_)
 try simp only[List.getElem_toArray,List.getElem_cons_zero,List.getElem_cons_succ]
 go_simp;refine (HTX.out _ _ HFA.out (HE.out.new HN.out)).mono ?_;rintro e w6 ⟨rfl,hn⟩;clear pa0 pa1 pa2 pa3 pa4 pa5 pa6 pa7 pa8;replace BA:=hid (BA.out.new hn);replace BP:=hid (BP.out.new hn);replace HFA:=hid (HFA.out.new hn);replace TM:=hid (TM.out.new hn);replace HN:=hid (HN.out.trans hn);clear hn;obtain ⟨⟨pa0,pa1,pa2,pa3⟩,pa4,pa5,pa6,pa7,pa8⟩:=BA.out.four;refine hK.out _ _ (fun _=>?_) ?_
 ·exact ⟨pa0,pa1,pa2,pa3⟩
 clear hK K
 try simp only[List.setIfInBounds_toArray,List.set_cons_zero,List.set_cons_succ]
 refine wpT_one 3 rfl (by kernel_rfl) (fun K hK=>?_)
 try simp only[List.getElem_toArray,List.getElem_cons_zero,List.getElem_cons_succ]
 go_simp;have hlk:=TM.out.look (P:=Tryz.prog) Tryz.underlying212 Tryz.underlying23 zero_rat X1;rw[HFS.out] at hlk;rw[hlk];go_simp;clear hlk TM;refine hK.out _ _ (fun _=>?_) ?_
 ·exact ⟨pa0,pa1,pa2,pa3⟩
 clear hK K
 try simp only[List.setIfInBounds_toArray,List.set_cons_zero,List.set_cons_succ]
 refine tk 4 (by exact ⟨pa0,pa1,pa2,pa3⟩) ?_
 try simp only[List.getElem_toArray,List.getElem_cons_zero,List.getElem_cons_succ,Act.put,List.setIfInBounds_toArray,List.set_cons_zero,List.set_cons_succ]
 refine tk 5 (by exact ⟨pa0,pa1,pa2,pa3⟩) ?_
 try simp only[List.getElem_toArray,List.getElem_cons_zero,List.getElem_cons_succ,Act.put,List.setIfInBounds_toArray,List.set_cons_zero,List.set_cons_succ]
 refine tk 6 (by exact ⟨pa0,pa1,pa2,pa3⟩) ?_
 try simp only[List.getElem_toArray,List.getElem_cons_zero,List.getElem_cons_succ,Act.put,List.setIfInBounds_toArray,List.set_cons_zero,List.set_cons_succ]
 refine tk 7 (by exact ⟨pa0,pa1,pa2,pa3⟩) ?_
 try simp only[List.getElem_toArray,List.getElem_cons_zero,List.getElem_cons_succ,Act.put,List.setIfInBounds_toArray,List.set_cons_zero,List.set_cons_succ]
 refine wpT_tail rfl (by kernel_rfl) ?_;simp only[List.drop_succ_cons,List.drop_zero];clear pa0 pa1 pa2 pa3 pa4 pa5 pa6 pa7 pa8;go_upto_region 5 with (fail);go_wp2_with fail;refine (of_calls 1 _).mono ?_;rintro e w7 ⟨rfl,hn⟩;replace BA:=hid (BA.out.new hn);replace BP:=hid (BP.out.new hn);replace HFA:=hid (HFA.out.new hn);replace HN:=hid (HN.out.trans hn);clear hn;go_wp2_with fail;refine (of_calls 2 _).mono ?_;rintro e w8 ⟨rfl,hn⟩;replace BA:=hid (BA.out.new hn);replace BP:=hid (BP.out.new hn);replace HFA:=hid (HFA.out.new hn);replace HN:=hid (HN.out.trans hn);clear hn;go_wp2_with fail;refine (HMK2.out _).mono ?_;rintro e w9 ⟨v9,rfl,hn,hf⟩;obtain ⟨s5,a5,l5,k5,t5,d5,m5,n5,rfl⟩:=hf.shape;have HFH:=hid hf;clear hf;replace BA:=hid (BA.out.new hn);replace BP:=hid (BP.out.new hn);replace HFA:=hid (HFA.out.new hn);replace HN:=hid (HN.out.trans hn);clear hn;have lo1:=BP.out.lt;go_upto_region 6 with (fail);have HN0:=HN;clear HN;obtain ⟨BH,HN⟩:=lay1 w9 115 #[.int .i64 s5,.slice a5 l5 k5,.int .i64 t5,.slice d5 m5 n5];replace BA:=hid (BA.out.new HN.out);replace BP:=hid (BP.out.new HN.out);replace HFA:=hid (HFA.out.new HN.out);replace HFH:=hid (HFH.out.new HN.out);have HN_:=HN0.out.trans HN.out;clear HN HN0;have HN:=hid HN_;clear HN_;obtain ⟨wa,hwa⟩:∃ u,w9.alloc (.cells #[.int .i64 s5,.slice a5 l5 k5,.int .i64 t5,.slice d5 m5 n5] 115)=u:=⟨_,rfl⟩;rw[hwa] at BH BA BP HN HFA HFH⊢;clear hwa;obtain ⟨⟨pa0,pa1,pa2,pa3⟩,pa4,pa5,pa6,pa7,pa8⟩:=BA.out.four;obtain ⟨⟨ph0,ph1,ph2,ph3⟩,ph4,ph5,ph6,ph7,ph8⟩:=BH.out.four;go_wp2_with fail;refine (HCM1.out _ _ _ HFA.out HFH.out).mono ?_;rintro e wb ⟨rfl,hn⟩;clear pa0 pa1 pa2 pa3 pa4 pa5 pa6 pa7 pa8 ph0 ph1 ph2 ph3 ph4 ph5 ph6 ph7 ph8;replace BA:=hid (BA.out.new hn);replace BP:=hid (BP.out.new hn);replace BH:=hid (BH.out.new hn);replace HFA:=hid (HFA.out.new hn);replace HFH:=hid (HFH.out.new hn);replace HN:=hid (HN.out.trans hn);clear hn;go_upto_region 7 with (fail);obtain ⟨⟨pa0,pa1,pa2,pa3⟩,pa4,pa5,pa6,pa7,pa8⟩:=BA.out.four;refine wp_region_T 3 (fun W=>W.cell? ⟨w.heap.size,0,none⟩=some (.int .i64 s4)∧W.cell? ⟨w.heap.size,1,none⟩=some (.slice a4 l4 k4)∧W.cell? ⟨w.heap.size,2,none⟩=some (.int .i64 t4)∧W.cell? ⟨w.heap.size,3,none⟩=some (.slice d4 m4 n4)) 4 #[false,false,false,false] rfl (by kernel_rfl) (by kernel_rfl) ?_;refine tk 1 (by exact ⟨pa0,pa1,pa2,pa3⟩) ?_
 try simp only[PT]
 refine wpT_one 0 rfl (by kernel_rfl) (fun K hK=>?_);go_simp;refine (f_calls 1 _ (by omega) (by omega)).mono ?_;rintro e wq ⟨vq,rfl,hn,hf⟩;have hn:=hn.undrew;have HF1:=hid hf;clear hf;clear pa0 pa1 pa2 pa3 pa4 pa5 pa6 pa7 pa8;replace BA:=hid (BA.out.new hn);replace BP:=hid (BP.out.new hn);replace BH:=hid (BH.out.new hn);replace HFA:=hid (HFA.out.new hn);replace HFH:=hid (HFH.out.new hn);replace HN:=hid (HN.out.trans hn);clear hn;obtain ⟨⟨pa0,pa1,pa2,pa3⟩,pa4,pa5,pa6,pa7,pa8⟩:=BA.out.four;refine hK.out _ _ (fun _=>?_) ?_
 ·exact ⟨pa0,pa1,pa2,pa3⟩
 clear hK K
 try simp only[PT]
 refine wpT_one 2 rfl (by kernel_rfl) (fun K hK=>?_);go_simp;refine (HSU2.out _ _ _ HF1.out HFA.out).mono ?_;rintro e wr ⟨vr,rfl,hn,hf⟩;obtain ⟨s7,a7,l7,k7,t7,d7,m7,n7,rfl⟩:=hf.shape;clear HF1 HFA;have HFA:=hid hf;clear hf;clear pa0 pa1 pa2 pa3 pa4 pa5 pa6 pa7 pa8;replace BA:=hid (BA.out.new hn);replace BP:=hid (BP.out.new hn);replace BH:=hid (BH.out.new hn);replace HFH:=hid (HFH.out.new hn);replace HN:=hid (HN.out.trans hn);clear hn;obtain ⟨⟨pa0,pa1,pa2,pa3⟩,pa4,pa5,pa6,pa7,pa8⟩:=BA.out.four;refine hK.out _ _ (fun _=>?_) ?_
 ·exact ⟨pa0,pa1,pa2,pa3⟩
 clear hK K
 try simp only[PT]
 refine wpT_tail rfl (by kernel_rfl) ?_;simp only[List.drop_succ_cons,List.drop_zero];go_upto_region 8 with (fail);clear pa0 pa1 pa2 pa3 pa4 pa5 pa6 pa7 pa8;have N_:=HN.out.put4 (B:=w.heap.size) (Nat.le_refl _) (.int .i64 s7) (.slice a7 l7 k7) (.int .i64 t7) (.slice d7 m7 n7);have A_:=BA.out.put4 (.int .i64 s7) (.slice a7 l7 k7) (.int .i64 t7) (.slice d7 m7 n7);have P_:=BP.out.other4w (B':=w.heap.size) (by omega) (.int .i64 s7) (.slice a7 l7 k7) (.int .i64 t7) (.slice d7 m7 n7);have F_:=HFA.out.put4 BA.out s7 t7 a7 d7 l7 k7 m7 n7;have H_:=BH.out.other4w (B':=w.heap.size) (by omega) (.int .i64 s7) (.slice a7 l7 k7) (.int .i64 t7) (.slice d7 m7 n7);have Q_:=HFH.out.put4 BA.out s7 t7 a7 d7 l7 k7 m7 n7;obtain ⟨ws,hww⟩:∃ u,((((wr.setCell ⟨w.heap.size,0,none⟩ (.int .i64 s7)).setCell ⟨w.heap.size,1,none⟩ (.slice a7 l7 k7)).setCell ⟨w.heap.size,2,none⟩ (.int .i64 t7)).setCell ⟨w.heap.size,3,none⟩ (.slice d7 m7 n7))=u:=⟨_,rfl⟩;rw[hww] at N_ A_ P_ F_ H_ Q_⊢;clear hww HN BA BP HFA BH HFH;have HN:=hid N_;have BA:=hid A_;have BP:=hid P_;have HFA:=hid F_;have BH:=hid H_;have HFH:=hid Q_;clear N_ A_ P_ F_ H_ Q_;obtain ⟨⟨pa0,pa1,pa2,pa3⟩,pa4,pa5,pa6,pa7,pa8⟩:=BA.out.four;refine wp_region_T 6 (fun W=>W.cell? ⟨w.heap.size,0,none⟩=some (.int .i64 s7)∧W.cell? ⟨w.heap.size,1,none⟩=some (.slice a7 l7 k7)∧W.cell? ⟨w.heap.size,2,none⟩=some (.int .i64 t7)∧W.cell? ⟨w.heap.size,3,none⟩=some (.slice d7 m7 n7)) 7 #[false,false,false,false,false,false,false] rfl (by kernel_rfl) (by kernel_rfl) ?_;refine tk 0 (by exact ⟨pa0,pa1,pa2,pa3⟩) ?_
 try simp only[PT]
 refine wpT_one 1 rfl (by kernel_rfl) (fun K hK=>?_);go_simp;refine (of_calls 1 _).mono ?_;rintro e wc ⟨rfl,hn⟩;have hn:=hn.undrew;clear pa0 pa1 pa2 pa3 pa4 pa5 pa6 pa7 pa8;replace BA:=hid (BA.out.new hn);replace BP:=hid (BP.out.new hn);replace BH:=hid (BH.out.new hn);replace HFA:=hid (HFA.out.new hn);replace HFH:=hid (HFH.out.new hn);replace HN:=hid (HN.out.trans hn);clear hn;obtain ⟨⟨pa0,pa1,pa2,pa3⟩,pa4,pa5,pa6,pa7,pa8⟩:=BA.out.four;refine hK.out _ _ (fun _=>?_) ?_
 ·exact ⟨pa0,pa1,pa2,pa3⟩
 clear hK K
 try simp only[PT]
 refine wpT_one 2 rfl (by kernel_rfl) (fun K hK=>?_);go_simp;refine (of_calls 4 _).mono ?_;rintro e wd ⟨rfl,hn⟩;clear pa0 pa1 pa2 pa3 pa4 pa5 pa6 pa7 pa8;replace BA:=hid (BA.out.new hn);replace BP:=hid (BP.out.new hn);replace BH:=hid (BH.out.new hn);replace HFA:=hid (HFA.out.new hn);replace HFH:=hid (HFH.out.new hn);replace HN:=hid (HN.out.trans hn);clear hn;obtain ⟨⟨pa0,pa1,pa2,pa3⟩,pa4,pa5,pa6,pa7,pa8⟩:=BA.out.four;refine hK.out _ _ (fun _=>?_) ?_
 ·exact ⟨pa0,pa1,pa2,pa3⟩
 clear hK K
 try simp only[PT]
 refine wpT_one 3 rfl (by kernel_rfl) (fun K hK=>?_);go_simp;refine (HMK4.out _).mono ?_;rintro e we ⟨ve,rfl,hn,hf⟩;have HFQ:=hid hf;clear hf;clear pa0 pa1 pa2 pa3 pa4 pa5 pa6 pa7 pa8;replace BA:=hid (BA.out.new hn);replace BP:=hid (BP.out.new hn);replace BH:=hid (BH.out.new hn);replace HFA:=hid (HFA.out.new hn);replace HFH:=hid (HFH.out.new hn);replace HN:=hid (HN.out.trans hn);clear hn;obtain ⟨⟨pa0,pa1,pa2,pa3⟩,pa4,pa5,pa6,pa7,pa8⟩:=BA.out.four;refine hK.out _ _ (fun _=>?_) ?_
 ·exact ⟨pa0,pa1,pa2,pa3⟩
 clear hK K
 try simp only[PT]
 refine wpT_one 4 rfl (by kernel_rfl) (fun K hK=>?_);go_simp;refine (HCM2.out _ _ _ HFA.out HFQ.out).mono ?_;rintro e wf ⟨rfl,hn⟩;clear HFQ;clear pa0 pa1 pa2 pa3 pa4 pa5 pa6 pa7 pa8;replace BA:=hid (BA.out.new hn);replace BP:=hid (BP.out.new hn);replace BH:=hid (BH.out.new hn);replace HFA:=hid (HFA.out.new hn);replace HFH:=hid (HFH.out.new hn);replace HN:=hid (HN.out.trans hn);clear hn;obtain ⟨⟨pa0,pa1,pa2,pa3⟩,pa4,pa5,pa6,pa7,pa8⟩:=BA.out.four;refine hK.out _ _ (fun _=>?_) ?_
 ·exact ⟨pa0,pa1,pa2,pa3⟩
 clear hK K
 try simp only[PT]
 refine tk 5 (by exact ⟨pa0,pa1,pa2,pa3⟩) ?_
 try simp only[PT]
 refine wpT_tail rfl (by kernel_rfl) ?_;simp only[List.drop_succ_cons,List.drop_zero];clear pa0 pa1 pa2 pa3 pa4 pa5 pa6 pa7 pa8;go_upto_region 10 with (fail);obtain ⟨⟨pa0,pa1,pa2,pa3⟩,pa4,pa5,pa6,pa7,pa8⟩:=BA.out.four;obtain ⟨⟨ph0,ph1,ph2,ph3⟩,ph4,ph5,ph6,ph7,ph8⟩:=BH.out.four;go_wp2_with fail;refine (HSU3.out _ _ _ HFH.out HFA.out).mono ?_;rintro e wt ⟨vt,rfl,hn,hf⟩;obtain ⟨s8,a8,l8,k8,t8,d8,m8,n8,rfl⟩:=hf.shape;clear pa0 pa1 pa2 pa3 pa4 pa5 pa6 pa7 pa8 ph0 ph1 ph2 ph3 ph4 ph5 ph6 ph7 ph8;clear HFH HFA BH;have HFA:=hid hf;clear hf;replace BA:=hid (BA.out.new hn);replace BP:=hid (BP.out.new hn);replace HN:=hid (HN.out.trans hn);clear hn;obtain ⟨⟨pa0,pa1,pa2,pa3⟩,pa4,pa5,pa6,pa7,pa8⟩:=BA.out.four;go_upto_region 11 with (fail);clear pa0 pa1 pa2 pa3 pa4 pa5 pa6 pa7 pa8;have N_:=HN.out.put4 (B:=w.heap.size) (Nat.le_refl _) (.int .i64 s8) (.slice a8 l8 k8) (.int .i64 t8) (.slice d8 m8 n8);have A_:=BA.out.put4 (.int .i64 s8) (.slice a8 l8 k8) (.int .i64 t8) (.slice d8 m8 n8);have P_:=BP.out.other4w (B':=w.heap.size) (by omega) (.int .i64 s8) (.slice a8 l8 k8) (.int .i64 t8) (.slice d8 m8 n8);have F_:=HFA.out.put4 BA.out s8 t8 a8 d8 l8 k8 m8 n8;obtain ⟨wu,hww⟩:∃ u,((((wt.setCell ⟨w.heap.size,0,none⟩ (.int .i64 s8)).setCell ⟨w.heap.size,1,none⟩ (.slice a8 l8 k8)).setCell ⟨w.heap.size,2,none⟩ (.int .i64 t8)).setCell ⟨w.heap.size,3,none⟩ (.slice d8 m8 n8))=u:=⟨_,rfl⟩;rw[hww] at N_ A_ P_ F_⊢;clear hww HN BA BP HFA;have HN:=hid N_;have BA:=hid A_;have BP:=hid P_;have HFA:=hid F_;clear N_ A_ P_ F_;obtain ⟨⟨pa0,pa1,pa2,pa3⟩,pa4,pa5,pa6,pa7,pa8⟩:=BA.out.four;go_wp2_with fail;refine (HBE.out _ _ HFA.out).mono ?_;rintro e wg ⟨vg,rfl,hn,hi⟩;obtain ⟨s6,a6,l6,k6,rfl⟩:=hi.shape;clear pa0 pa1 pa2 pa3 pa4 pa5 pa6 pa7 pa8;clear BA HFA;have HIN:=hid hi;clear hi;replace BP:=hid (BP.out.new hn);replace HN:=hid (HN.out.trans hn);clear hn;have lo2:=BP.out.lt;go_upto_region 12 with (fail);have HN0:=HN;clear HN;obtain ⟨BN,HN⟩:=lay1 wg 113 #[.int .i64 s6,.slice a6 l6 k6];replace BP:=hid (BP.out.new HN.out);replace HIN:=hid (HIN.out.new HN.out);have HN_:=HN0.out.trans HN.out;clear HN HN0;have HN:=hid HN_;clear HN_;obtain ⟨wh,hwh⟩:∃ u,wg.alloc (.cells #[.int .i64 s6,.slice a6 l6 k6] 113)=u:=⟨_,rfl⟩;rw[hwh] at BN BP HN HIN⊢;clear hwh;go_upto_region 13 with (fail);obtain ⟨pn0,pn1,pn2,pn3,pn4⟩:=BN.out.two;go_wp2_with fail;refine (HNG.out _ _ HIN.out).mono ?_;rintro e wv ⟨vv,rfl,hn,hi⟩;clear HIN;have HI1:=hid hi;clear hi;clear pn0 pn1 pn2 pn3 pn4;replace BP:=hid (BP.out.new hn);replace BN:=hid (BN.out.new hn);replace HN:=hid (HN.out.trans hn);clear hn;obtain ⟨pn0,pn1,pn2,pn3,pn4⟩:=BN.out.two;go_wp2_with fail;refine (of_calls 1 _).mono ?_;rintro e wy ⟨rfl,hn⟩;clear pn0 pn1 pn2 pn3 pn4;replace BP:=hid (BP.out.new hn);replace BN:=hid (BN.out.new hn);replace HI1:=hid (HI1.out.new hn);replace HN:=hid (HN.out.trans hn);clear hn;obtain ⟨pn0,pn1,pn2,pn3,pn4⟩:=BN.out.two;go_wp2_with fail;refine (HSB.out _ _ HI1.out).mono ?_;rintro e wz ⟨vz,rfl,hn,hi⟩;obtain ⟨s9,a9,l9,k9,rfl⟩:=hi.shape;clear HI1;have HIN:=hid hi;clear hi;clear pn0 pn1 pn2 pn3 pn4;replace BP:=hid (BP.out.new hn);replace BN:=hid (BN.out.new hn);replace HN:=hid (HN.out.trans hn);clear hn;obtain ⟨pn0,pn1,pn2,pn3,pn4⟩:=BN.out.two;go_upto_region 14 with (fail);clear pn0 pn1 pn2 pn3 pn4;have BP_:=BP.out.away BN.out (by omega) (.int .i64 s9) (.slice a9 l9 k9);have HIN_:=HIN.out.put2 BN.out s9 a9 l9 k9;have HN_:=HN.out.putAt BN.out (by omega) (.int .i64 s9) (.slice a9 l9 k9);have BN_:=BN.out.put2 (.int .i64 s9) (.slice a9 l9 k9);clear BP HIN HN BN;have BP:=hid BP_;have HIN:=hid HIN_;have HN:=hid HN_;have BN:=hid BN_;clear BP_ HIN_ HN_ BN_;obtain ⟨wx,hwx⟩:∃ u,((wz.setCell ⟨wg.heap.size,0,none⟩ (.int .i64 s9)).setCell ⟨wg.heap.size,1,none⟩ (.slice a9 l9 k9))=u:=⟨_,rfl⟩;rw[hwx] at BN BP HN HIN⊢;clear hwx;obtain ⟨pn0,pn1,pn2,pn3,pn4⟩:=BN.out.two;refine wp_region_T 13 (fun W=>W.cell? ⟨wg.heap.size,0,none⟩=some (.int .i64 s9)∧W.cell? ⟨wg.heap.size,1,none⟩=some (.slice a9 l9 k9)) 15 #[false,false,false,false,false,false,false,false,false,false,false,false,false,false,false] rfl (by kernel_rfl) (by kernel_rfl) ?_;refine tk 0 (by exact ⟨pn0,pn1⟩) ?_
 try simp only[List.getElem_toArray,List.getElem_cons_zero,Act.put,List.setIfInBounds_toArray,List.set_cons_zero,List.set_cons_succ]
 refine tk 1 (by exact ⟨pn0,pn1⟩) ?_
 try simp only[List.getElem_toArray,List.getElem_cons_zero,List.getElem_cons_succ,Act.put,List.setIfInBounds_toArray,List.set_cons_zero,List.set_cons_succ]
 refine tk 4 (by exact ⟨pn0,pn1⟩) ?_
 try simp only[List.getElem_toArray,List.getElem_cons_zero,List.getElem_cons_succ,Act.put,List.setIfInBounds_toArray,List.set_cons_zero,List.set_cons_succ]
 refine tk 7 (by exact ⟨pn0,pn1⟩) ?_
 try simp only[List.getElem_toArray,List.getElem_cons_zero,List.getElem_cons_succ,Act.put,List.setIfInBounds_toArray,List.set_cons_zero,List.set_cons_succ]
 refine wpT_one 2 rfl (by kernel_rfl) (fun K hK=>?_)
 try simp only[List.getElem_toArray,List.getElem_cons_zero,List.getElem_cons_succ]
 go_simp;refine (HTEN.out _).mono ?_;rintro e wi ⟨vi,rfl,hn,hi⟩;have hn:=hn.undrew;have HI1:=hid hi;clear hi;clear pn0 pn1 pn2 pn3 pn4;replace BP:=hid (BP.out.new hn);replace BN:=hid (BN.out.new hn);replace HIN:=hid (HIN.out.new hn);replace HN:=hid (HN.out.trans hn);clear hn;obtain ⟨pn0,pn1,pn2,pn3,pn4⟩:=BN.out.two;refine hK.out _ _ (fun _=>?_) ?_
 ·exact ⟨pn0,pn1⟩
 clear hK K
 try simp only[List.setIfInBounds_toArray,List.set_cons_zero,List.set_cons_succ]
 refine wpT_one 3 rfl (by kernel_rfl) (fun K hK=>?_)
 try simp only[List.getElem_toArray,List.getElem_cons_zero,List.getElem_cons_succ]
 go_simp;refine (HMA.out _ _ _ HIN.out HI1.out).mono ?_;rintro e wj ⟨vj,rfl,hn,hf⟩;clear HI1;have HF1:=hid hf;clear hf;clear pn0 pn1 pn2 pn3 pn4;replace BP:=hid (BP.out.new hn);replace BN:=hid (BN.out.new hn);replace HIN:=hid (HIN.out.new hn);replace HN:=hid (HN.out.trans hn);clear hn;obtain ⟨pn0,pn1,pn2,pn3,pn4⟩:=BN.out.two;refine hK.out _ _ (fun _=>?_) ?_
 ·exact ⟨pn0,pn1⟩
 clear hK K
 try simp only[List.setIfInBounds_toArray,List.set_cons_zero,List.set_cons_succ]
 refine wpT_one 5 rfl (by kernel_rfl) (fun K hK=>?_)
 try simp only[List.getElem_toArray,List.getElem_cons_zero,List.getElem_cons_succ]
 go_simp;refine (of_calls 1 _).mono ?_;rintro e wk ⟨rfl,hn⟩;clear pn0 pn1 pn2 pn3 pn4;replace BP:=hid (BP.out.new hn);replace BN:=hid (BN.out.new hn);replace HIN:=hid (HIN.out.new hn);replace HF1:=hid (HF1.out.new hn);replace HN:=hid (HN.out.trans hn);clear hn;obtain ⟨pn0,pn1,pn2,pn3,pn4⟩:=BN.out.two;refine hK.out _ _ (fun _=>?_) ?_
 ·exact ⟨pn0,pn1⟩
 clear hK K
 try simp only[List.setIfInBounds_toArray,List.set_cons_zero,List.set_cons_succ]
 refine wpT_one 6 rfl (by kernel_rfl) (fun K hK=>?_)
 try simp only[List.getElem_toArray,List.getElem_cons_zero,List.getElem_cons_succ]
 go_simp;refine (HAD1.out _ _ HIN.out).mono ?_;rintro e wl ⟨vl,rfl,hn,hi⟩;have HI2:=hid hi;clear hi;clear pn0 pn1 pn2 pn3 pn4;replace BP:=hid (BP.out.new hn);replace BN:=hid (BN.out.new hn);replace HIN:=hid (HIN.out.new hn);replace HF1:=hid (HF1.out.new hn);replace HN:=hid (HN.out.trans hn);clear hn;obtain ⟨pn0,pn1,pn2,pn3,pn4⟩:=BN.out.two;refine hK.out _ _ (fun _=>?_) ?_
 ·exact ⟨pn0,pn1⟩
 clear hK K
 try simp only[List.setIfInBounds_toArray,List.set_cons_zero,List.set_cons_succ]
 refine wpT_one 8 rfl (by kernel_rfl) (fun K hK=>?_)
 try simp only[List.getElem_toArray,List.getElem_cons_zero,List.getElem_cons_succ]
 go_simp;refine (HTEN.out _).mono ?_;rintro e wm ⟨vm,rfl,hn,hi⟩;have HI1:=hid hi;clear hi;clear pn0 pn1 pn2 pn3 pn4;replace BP:=hid (BP.out.new hn);replace BN:=hid (BN.out.new hn);replace HIN:=hid (HIN.out.new hn);replace HF1:=hid (HF1.out.new hn);replace HI2:=hid (HI2.out.new hn);replace HN:=hid (HN.out.trans hn);clear hn;obtain ⟨pn0,pn1,pn2,pn3,pn4⟩:=BN.out.two;refine hK.out _ _ (fun _=>?_) ?_
 ·exact ⟨pn0,pn1⟩
 clear hK K
 try simp only[List.setIfInBounds_toArray,List.set_cons_zero,List.set_cons_succ]
 refine wpT_one 9 rfl (by kernel_rfl) (fun K hK=>?_)
 try simp only[List.getElem_toArray,List.getElem_cons_zero,List.getElem_cons_succ]
 go_simp;refine (HMB.out _ _ _ HI2.out HI1.out).mono ?_;rintro e wn ⟨vn,rfl,hn,hf⟩;clear HI1 HI2;have HF2:=hid hf;clear hf;clear pn0 pn1 pn2 pn3 pn4;replace BP:=hid (BP.out.new hn);replace BN:=hid (BN.out.new hn);replace HIN:=hid (HIN.out.new hn);replace HF1:=hid (HF1.out.new hn);replace HN:=hid (HN.out.trans hn);clear hn;obtain ⟨pn0,pn1,pn2,pn3,pn4⟩:=BN.out.two;refine hK.out _ _ (fun _=>?_) ?_
 ·exact ⟨pn0,pn1⟩
 clear hK K
 try simp only[List.setIfInBounds_toArray,List.set_cons_zero,List.set_cons_succ]
 refine wpT_one 10 rfl (by kernel_rfl) (fun K hK=>?_)
 try simp only[List.getElem_toArray,List.getElem_cons_zero,List.getElem_cons_succ]
 go_simp;refine (HSP.out _ _ _ HF1.out HF2.out (HE.out.new HN.out)).mono ?_;rintro e wo ⟨rfl,hn⟩;clear HF1 HF2;clear pn0 pn1 pn2 pn3 pn4;replace BP:=hid (BP.out.new hn);replace BN:=hid (BN.out.new hn);replace HIN:=hid (HIN.out.new hn);replace HN:=hid (HN.out.trans hn);clear hn;obtain ⟨pn0,pn1,pn2,pn3,pn4⟩:=BN.out.two;refine hK.out _ _ (fun _=>?_) ?_
 ·exact ⟨pn0,pn1⟩
 clear hK K
 try simp only[List.setIfInBounds_toArray,List.set_cons_zero,List.set_cons_succ]
 refine tk 11 (by exact ⟨pn0,pn1⟩) ?_
 try simp only[List.getElem_toArray,List.getElem_cons_zero,List.getElem_cons_succ,Act.put,List.setIfInBounds_toArray,List.set_cons_zero,List.set_cons_succ]
 refine tk 12 (by exact ⟨pn0,pn1⟩) ?_
 try simp only[List.getElem_toArray,List.getElem_cons_zero,List.getElem_cons_succ,Act.put,List.setIfInBounds_toArray,List.set_cons_zero,List.set_cons_succ]
 refine wpT_tail rfl (by kernel_rfl) ?_;simp only[List.drop_succ_cons,List.drop_zero];clear pn0 pn1 pn2 pn3 pn4;obtain ⟨p0,p1,p2,p3,p4⟩:=BP.out.two;go_wp2_with fail;refine bodyPost_ret (v:=.tuple #[.agg #[.string X,.string Y],.int .i64 0]) (by simp[results,Tryz.results163,go_sem,p0,p1]) rfl ?_;exact ⟨rfl,HN.out.putAt BP.out (by omega) _ _⟩
def words (l:List Nat):List Value:=l.map fun (x:Nat)=>Value.int .u16 (x:Int)
def geqF (x y:Nat):Bool:=FloatKind.f32.format.order x y==some Ordering.gt || FloatKind.f32.format.order x y==some Ordering.eq
theorem nwithin_calls (n lo hi:Int)(w:World):Calls Tryz.prog 105 #[.int .i64 n,.int .i64 lo,.int .i64 hi] w fun e w'=>e=.returned (.int .i64 (if outside n lo hi then 3 else 0))∧w=w':=by
 obtain ⟨r,hr⟩:∃ r,outside n lo hi=r:=⟨_,rfl⟩;rw[hr];unfold outside at hr;by_cases h1:n < lo
 ·have hb:r=true:=by rw[←hr];simp[h1]
  subst hb;clear hr;go_enter Tryz.func105,Tryz.ntmps105;go_wp2_with fail;refine (nwhen_calls true 3 _).mono ?_;rintro e w' ⟨rfl,rfl⟩;go_wp2_with fail;go_ret;exact ⟨rfl,rfl⟩
 ·by_cases h2:hi < n
  ·have hb:r=true:=by rw[←hr];simp[h2]
   subst hb;clear hr;go_enter Tryz.func105,Tryz.ntmps105;go_wp2_with fail;refine (nwhen_calls true 3 _).mono ?_;rintro e w' ⟨rfl,rfl⟩;go_wp2_with fail;go_ret;exact ⟨rfl,rfl⟩
  ·have hb:r=false:=by rw[←hr];simp[h1,h2]
   subst hb;clear hr;go_enter Tryz.func105,Tryz.ntmps105;go_wp2_with fail;refine (nwhen_calls false 3 _).mono ?_;rintro e w' ⟨rfl,rfl⟩;go_wp2_with fail;go_ret;exact ⟨rfl,rfl⟩
def ListPost (w:World)(n:Nat)(f:Nat→Int)(E:Int)(e:Ending)(w':World):Prop:=∃ (a:Option Addr) (cap:Nat),e=.returned (.tuple #[.slice a n cap,.int .i64 E])∧New w w'∧n≤cap∧RdL w' a (ints ((List.range n).map f))
theorem RowZ.rdl {w:World}{b:Nat}{t:TypeId}{n:Nat}{f:Nat→Int}(h:RowZ w b t n f):RdL w (some ⟨b,0,none⟩) (ints ((List.range n).map f)):=fun i hi=>by
 have hi':i < n:=by simpa[ints] using hi
 refine ⟨b,0,rfl,?_⟩;rw[Nat.zero_add,h.cell hi'];simp[ints]
theorem RowZ.of_ownZ {w:World}{base:Nat}{t:TypeId}{n:Nat}{v:Value}{xs:List Value}{f:Nat→Int}(h:w.ownsRow base t 1 v n xs)(h0:0 < n)(hx:∀ i,i < n→xs[i]?=some (.int .i64 (f i))):
  ∃ g cap,v=.slice (some ⟨g,0,none⟩) n cap∧base≤g∧n≤cap∧cap≤maxLen∧RowZ w g t n f:=by
 rcases h.2 with ⟨_,h1⟩ | ⟨g,cap,cur,e,hb,hc,h2,h3,h4,h5⟩
 ·omega
 ·refine ⟨g,cap,e,hb,h2,h3,cur,hc,by omega,fun i hi=>?_⟩;have:=hx i hi;rw[←h5,Nat.mul_one,List.getElem?_take_of_lt hi] at this;simpa using this
def idxs (k:Nat):List Int:=(List.range k).map fun (i:Nat)=>(i:Int)
theorem idxs_len (k:Nat):(idxs k).length=k:=by simp[idxs]
theorem idxs_succ (k:Nat):idxs (k+1)=idxs k ++ [(k:Int)]:=by simp[idxs,List.range_succ]
theorem map_succ (f:Nat→Int)(k:Nat):(List.range (k+1)).map f=(List.range k).map f ++ [f k]:=by simp[List.range_succ]
theorem ints_at (f:Nat→Int){n i:Nat}(h:i < n):(ints ((List.range n).map f))[i]?=some (.int .i64 (f i)):=by simp[ints,h]
end Go.Proofs.YtnjonlnemagomaaGreatDoor
