/- Part CardCal06. -/
import Derived.Test.YtbkcjmojgglbkaaGreatDoorB34
import Derived.Test.YtbkcjmojgglbkaaGreatDoorB35
import Derived.Test.YtbkcjmojgglbkaaGreatDoorCardCal05
namespace Go.Proofs.YtbkcjmojgglbkaaGreatDoor
open Go.RowKit Big Go.Lib Go.ChangeShapes Go.WideShapes Go.Deep Go.Joins
set_option maxRecDepth 100000
set_option maxHeartbeats 8000000
theorem rcal_ok (b s z c1 c2 sg:Int)(g o t1 t2 X M1 M2 Y G P O:ByteArray)(w:World)(K:RCal b s z g o c1 c2 t1 t2 X M1 M2 Y G P O sg)(h:0 < sg):
  Calls Tryz.prog 41 #[.agg #[.int .i64 b,.int .i64 s,.int .i64 z,.string g,.string o],.agg #[.int .i64 c1,.string t1],.agg #[.int .i64 c2,.string t2]] w (RetAdc w (.agg #[.int .i64 b,.int .i64 s,.int .i64 z,.string G,.string O]) 0):=by
 unfold RetAdc;have hcc:(c1==c2)=false:=beq_false_of_ne K.ne;have hsb:decide (sg≤0)=false:=decide_eq_false (by omega)
 have hsn:¬sg≤0:=by omega
 have hm1:=K.m1;have hm2:=K.m2;have HK:=hid K;have HM1:=hid hm1;have HM2:=hid hm2;clear K hm1 hm2;go_enter Tryz.func41,Tryz.ntmps41;go_upto_region 1 with (fail);have BA:=hid ((Box.alloc w (w.heap.size) 24 #[.int .i64 b,.int .i64 s,.int .i64 z,.string g,.string o] (by simp)).new ((((New.refl _).alloc (.cells #[.int .i64 c1,.string t1] 75)).alloc (.cells #[.int .i64 c2,.string t2] 75)).alloc (.cells #[.int .i64 0,.int .i64 0,.int .i64 0,.string ⟨#[]⟩,.string ⟨#[]⟩] 24)));have B1:=hid ((Box.alloc (w.alloc (.cells #[.int .i64 b,.int .i64 s,.int .i64 z,.string g,.string o] 24)) (w.heap.size+1) 75 #[.int .i64 c1,.string t1] (by simp)).new (((New.refl _).alloc (.cells #[.int .i64 c2,.string t2] 75)).alloc (.cells #[.int .i64 0,.int .i64 0,.int .i64 0,.string ⟨#[]⟩,.string ⟨#[]⟩] 24)));have B2:=hid ((Box.alloc ((w.alloc (.cells #[.int .i64 b,.int .i64 s,.int .i64 z,.string g,.string o] 24)).alloc (.cells #[.int .i64 c1,.string t1] 75)) (w.heap.size+1+1) 75 #[.int .i64 c2,.string t2] (by simp)).new ((New.refl _).alloc (.cells #[.int .i64 0,.int .i64 0,.int .i64 0,.string ⟨#[]⟩,.string ⟨#[]⟩] 24)));have BP:=hid ((Box.alloc (((w.alloc (.cells #[.int .i64 b,.int .i64 s,.int .i64 z,.string g,.string o] 24)).alloc (.cells #[.int .i64 c1,.string t1] 75)).alloc (.cells #[.int .i64 c2,.string t2] 75)) (w.heap.size+1+1+1) 24 #[.int .i64 0,.int .i64 0,.int .i64 0,.string ⟨#[]⟩,.string ⟨#[]⟩] (by simp)).new (New.refl _));have HN:=hid (((((New.refl w).alloc (.cells #[.int .i64 b,.int .i64 s,.int .i64 z,.string g,.string o] 24)).alloc (.cells #[.int .i64 c1,.string t1] 75)).alloc (.cells #[.int .i64 c2,.string t2] 75)).alloc (.cells #[.int .i64 0,.int .i64 0,.int .i64 0,.string ⟨#[]⟩,.string ⟨#[]⟩] 24));obtain ⟨⟨pa0,pa1,pa2,pa3,pa4⟩,pa5⟩:=BA.out.five;obtain ⟨p0,p1,p2,p3,p4⟩:=B1.out.two;obtain ⟨q0,q1,q2,q3,q4⟩:=B2.out.two;go_wp2_with fail;refine (HM1.out _).mono ?_;rintro e w1 ⟨rfl,hn⟩;clear pa0 pa1 pa2 pa3 pa4 pa5;clear p0 p1 p2 p3 p4 q0 q1 q2 q3 q4;replace BA:=bW BA hn;replace B1:=bW B1 hn;replace B2:=bW B2 hn;replace BP:=bW BP hn;replace HN:=tW HN hn;clear hn;obtain ⟨⟨pa0,pa1,pa2,pa3,pa4⟩,pa5⟩:=BA.out.five;obtain ⟨p0,p1,p2,p3,p4⟩:=B1.out.two;obtain ⟨q0,q1,q2,q3,q4⟩:=B2.out.two;go_wp2_with fail;refine (HM2.out _).mono ?_;rintro e w2 ⟨rfl,hn⟩;clear pa0 pa1 pa2 pa3 pa4 pa5;clear p0 p1 p2 p3 p4 q0 q1 q2 q3 q4;replace BA:=bW BA hn;replace B1:=bW B1 hn;replace B2:=bW B2 hn;replace BP:=bW BP hn;replace HN:=tW HN hn;clear hn;obtain ⟨⟨pa0,pa1,pa2,pa3,pa4⟩,pa5⟩:=BA.out.five;obtain ⟨p0,p1,p2,p3,p4⟩:=B1.out.two;obtain ⟨q0,q1,q2,q3,q4⟩:=B2.out.two;go_upto_region 8 with (fail);clear pa0 pa1 pa2 pa3 pa4 pa5;clear p0 p1 p2 p3 p4;clear q0 q1 q2 q3 q4;refine wp_region_T 15 (fun W=>(W.cell? ⟨w.heap.size,0,none⟩=some (.int .i64 b)∧W.cell? ⟨w.heap.size,1,none⟩=some (.int .i64 s)∧W.cell? ⟨w.heap.size,2,none⟩=some (.int .i64 z)∧W.cell? ⟨w.heap.size,3,none⟩=some (.string g)∧W.cell? ⟨w.heap.size,4,none⟩=some (.string o))∧(W.cell? ⟨w.heap.size+1,0,none⟩=some (.int .i64 c1)∧W.cell? ⟨w.heap.size+1,1,none⟩=some (.string t1))∧(W.cell? ⟨w.heap.size+1+1,0,none⟩=some (.int .i64 c2)∧W.cell? ⟨w.heap.size+1+1,1,none⟩=some (.string t2))) 16 #[false,false,false,false,false,false,false,false,false,false,false,false,false,false,false,false] rfl (by kernel_rfl) (by kernel_rfl) ?_;refine tk 0 (by exact ⟨cW5 BA,cW2 B1,cW2 B2⟩) ?_
 try simp only[PT]
 refine tk 1 (by exact ⟨cW5 BA,cW2 B1,cW2 B2⟩) ?_
 try simp only[PT]
 refine tk 2 (by exact ⟨cW5 BA,cW2 B1,cW2 B2⟩) ?_
 try simp only[PT]
 refine tk 3 (by exact ⟨cW5 BA,cW2 B1,cW2 B2⟩) ?_
 try simp only[PT]
 refine tk 5 (by exact ⟨cW5 BA,cW2 B1,cW2 B2⟩) ?_
 try simp only[PT]
 refine tk 6 (by exact ⟨cW5 BA,cW2 B1,cW2 B2⟩) ?_
 try simp only[PT]
 refine tk 7 (by exact ⟨cW5 BA,cW2 B1,cW2 B2⟩) ?_
 try simp only[PT]
 refine tk 9 (by exact ⟨cW5 BA,cW2 B1,cW2 B2⟩) ?_
 try simp only[PT]
 refine tk 10 (by exact ⟨cW5 BA,cW2 B1,cW2 B2⟩) ?_
 try simp only[PT]
 refine tk 11 (by exact ⟨cW5 BA,cW2 B1,cW2 B2⟩) ?_
 try simp only[PT]
 refine tk1 4 fun K hK=>?_;go_simp;refine (HK.out.s1 _).mono ?_;rintro e w3 ⟨rfl,hn⟩;have hn:=hn.undr;replace BA:=bW BA hn;replace B1:=bW B1 hn;replace B2:=bW B2 hn;replace BP:=bW BP hn;replace HN:=tW HN hn;clear hn;refine hK.out _ _ (fun _=>⟨cW5 BA,cW2 B1,cW2 B2⟩) ?_;clear hK K
 try simp only[PT]
 refine tk1 8 fun K hK=>?_;go_simp;refine (HK.out.n2 _).mono ?_;rintro e w4 ⟨rfl,hn⟩;replace BA:=bW BA hn;replace B1:=bW B1 hn;replace B2:=bW B2 hn;replace BP:=bW BP hn;replace HN:=tW HN hn;clear hn;refine hK.out _ _ (fun _=>⟨cW5 BA,cW2 B1,cW2 B2⟩) ?_;clear hK K
 try simp only[PT]
 refine tk1 12 fun K hK=>?_;go_simp;refine (HK.out.n1 _).mono ?_;rintro e w5 ⟨rfl,hn⟩;replace BA:=bW BA hn;replace B1:=bW B1 hn;replace B2:=bW B2 hn;replace BP:=bW BP hn;replace HN:=tW HN hn;clear hn;refine hK.out _ _ (fun _=>⟨cW5 BA,cW2 B1,cW2 B2⟩) ?_;clear hK K
 try simp only[PT]
 refine tk1 13 fun K hK=>?_;go_simp;refine (HK.out.s2 _).mono ?_;rintro e w6 ⟨rfl,hn⟩;replace BA:=bW BA hn;replace B1:=bW B1 hn;replace B2:=bW B2 hn;replace BP:=bW BP hn;replace HN:=tW HN hn;clear hn;refine hK.out _ _ (fun _=>⟨cW5 BA,cW2 B1,cW2 B2⟩) ?_;clear hK K
 try simp only[PT]
 refine tk1 14 fun K hK=>?_;go_simp;refine (HK.out.dv _).mono ?_;rintro e w7 ⟨rfl,hn⟩;replace BA:=bW BA hn;replace B1:=bW B1 hn;replace B2:=bW B2 hn;replace BP:=bW BP hn;replace HN:=tW HN hn;clear hn;refine hK.out _ _ (fun _=>⟨cW5 BA,cW2 B1,cW2 B2⟩) ?_;clear hK K
 try simp only[PT]
 refine tlW ?_;obtain ⟨⟨pa0,pa1,pa2,pa3,pa4⟩,pa5⟩:=BA.out.five;obtain ⟨p0,p1,p2,p3,p4⟩:=B1.out.two;obtain ⟨q0,q1,q2,q3,q4⟩:=B2.out.two;go_wp2_with fail;refine (HK.out.sn _).mono ?_;rintro e w8 ⟨rfl,hn⟩;clear pa0 pa1 pa2 pa3 pa4 pa5;clear p0 p1 p2 p3 p4 q0 q1 q2 q3 q4;replace BA:=bW BA hn;replace B1:=bW B1 hn;replace B2:=bW B2 hn;replace BP:=bW BP hn;replace HN:=tW HN hn;clear hn;obtain ⟨⟨pa0,pa1,pa2,pa3,pa4⟩,pa5⟩:=BA.out.five;obtain ⟨p0,p1,p2,p3,p4⟩:=B1.out.two;obtain ⟨q0,q1,q2,q3,q4⟩:=B2.out.two;go_upto_region 11 with (fail);have u3:=BA.out.frozen 3;have u4:=BA.out.frozen 4;refine wp_region_U 11 (fun W=>W.cell? ⟨w.heap.size,0,none⟩=some (.int .i64 b)∧W.cell? ⟨w.heap.size,1,none⟩=some (.int .i64 s)∧W.cell? ⟨w.heap.size,2,none⟩=some (.int .i64 z)∧W.cell? ⟨w.heap.size,3,none⟩=some (.string g)∧W.cell? ⟨w.heap.size,4,none⟩=some (.string o)∧W.cell? ⟨w.heap.size+1,0,none⟩=some (.int .i64 c1)∧W.cell? ⟨w.heap.size+1,1,none⟩=some (.string t1)) 14 #[false,false,false,false,false,false,false,false,false,false,false,false,false,false] rfl (by kernel_rfl) (by kernel_rfl) ?_;refine tkU 0 (fun _=>by exact ⟨pa0,pa1,pa2,pa3,pa4,p0,p1⟩) ?_
 try simp only[PT]
 refine tkU 1 (fun _=>by exact ⟨pa0,pa1,pa2,pa3,pa4,p0,p1⟩) ?_
 try simp only[PT]
 refine tkU 2 (fun _=>by exact ⟨pa0,pa1,pa2,pa3,pa4,p0,p1⟩) ?_
 try simp only[PT]
 refine tkU 3 (fun _=>by exact ⟨pa0,pa1,pa2,pa3,pa4,p0,p1⟩) ?_
 try simp only[PT]
 refine tkU 4 (fun _=>by exact ⟨pa0,pa1,pa2,pa3,pa4,p0,p1⟩) ?_
 try simp only[PT]
 refine tkU 5 (fun _=>by exact ⟨pa0,pa1,pa2,pa3,pa4,p0,p1⟩) ?_
 try simp only[PT]
 refine tkU 6 (fun _=>by exact ⟨pa0,pa1,pa2,pa3,pa4,p0,p1⟩) ?_
 try simp only[PT]
 refine tkU 10 (fun _=>by exact ⟨pa0,pa1,pa2,pa3,pa4,p0,p1⟩) ?_
 try simp only[PT]
 refine wpU_one 7 rfl (by kernel_rfl) (fun K hK=>?_);go_simp;clear u3 u4;refine (HK.out.n1 _).mono ?_;rintro e w9 ⟨rfl,hn⟩;have hn:=hn.undr;clear pa0 pa1 pa2 pa3 pa4 pa5;clear p0 p1 p2 p3 p4 q0 q1 q2 q3 q4;replace BA:=bW BA hn;replace B1:=bW B1 hn;replace B2:=bW B2 hn;replace BP:=bW BP hn;replace HN:=tW HN hn;clear hn;obtain ⟨⟨pa0,pa1,pa2,pa3,pa4⟩,pa5⟩:=BA.out.five;obtain ⟨p0,p1,p2,p3,p4⟩:=B1.out.two;obtain ⟨q0,q1,q2,q3,q4⟩:=B2.out.two;refine hK.out _ _ (fun _=>⟨pa0,pa1,pa2,pa3,pa4,p0,p1⟩) ?_;clear hK K
 try simp only[PT]
 refine wpU_one 8 rfl (by kernel_rfl) (fun K hK=>?_);go_simp;refine (HK.out.mu _).mono ?_;rintro e w10 ⟨rfl,hn⟩;clear pa0 pa1 pa2 pa3 pa4 pa5;clear p0 p1 p2 p3 p4 q0 q1 q2 q3 q4;replace BA:=bW BA hn;replace B1:=bW B1 hn;replace B2:=bW B2 hn;replace BP:=bW BP hn;replace HN:=tW HN hn;clear hn;obtain ⟨⟨pa0,pa1,pa2,pa3,pa4⟩,pa5⟩:=BA.out.five;obtain ⟨p0,p1,p2,p3,p4⟩:=B1.out.two;obtain ⟨q0,q1,q2,q3,q4⟩:=B2.out.two;refine hK.out _ _ (fun _=>⟨pa0,pa1,pa2,pa3,pa4,p0,p1⟩) ?_;clear hK K
 try simp only[PT]
 refine wpU_one 9 rfl (by kernel_rfl) (fun K hK=>?_);go_simp;refine (HK.out.su _).mono ?_;rintro e w11 ⟨rfl,hn⟩;clear pa0 pa1 pa2 pa3 pa4 pa5;clear p0 p1 p2 p3 p4 q0 q1 q2 q3 q4;replace BA:=bW BA hn;replace B1:=bW B1 hn;replace B2:=bW B2 hn;replace BP:=bW BP hn;replace HN:=tW HN hn;clear hn;obtain ⟨⟨pa0,pa1,pa2,pa3,pa4⟩,pa5⟩:=BA.out.five;obtain ⟨p0,p1,p2,p3,p4⟩:=B1.out.two;obtain ⟨q0,q1,q2,q3,q4⟩:=B2.out.two;have u3:=BA.out.frozen 3;have u4:=BA.out.frozen 4;refine hK.out _ _ (fun _=>⟨pa0,pa1,pa2,pa3,pa4,p0,p1⟩) ?_;clear hK K
 try simp only[PT]
 refine wpU_one 11 rfl (by kernel_rfl) (fun K hK=>?_);go_simp;clear u3 u4;clear pa0 pa1 pa2 pa3 pa4 pa5;clear p0 p1 p2 p3 p4 q0 q1 q2 q3 q4;have BA_:=BA.out.set 3 (.string G);have B1_:=B1.out.other (p:=⟨w.heap.size,3,none⟩) (show w.heap.size≠w.heap.size+1 by omega) (.string G);have B2_:=B2.out.other (p:=⟨w.heap.size,3,none⟩) (show w.heap.size≠w.heap.size+1+1 by omega) (.string G);have BP_:=BP.out.other (p:=⟨w.heap.size,3,none⟩) (show w.heap.size≠w.heap.size+1+1+1 by omega) (.string G);have HN_:=HN.out.setCell (p:=⟨w.heap.size,3,none⟩) (Nat.le_refl _) (.string G);clear BA B1 B2 BP HN;have BA:=hid BA_;have B1:=hid B1_;have B2:=hid B2_;have BP:=hid BP_;have HN:=hid HN_;clear BA_ B1_ B2_ BP_ HN_;obtain ⟨⟨pa0,pa1,pa2,pa3,pa4⟩,pa5⟩:=BA.out.five;obtain ⟨p0,p1,p2,p3,p4⟩:=B1.out.two;obtain ⟨q0,q1,q2,q3,q4⟩:=B2.out.two;have u4:=BA.out.frozen 4;refine hK.out _ _ (fun h=>absurd h (by decide)) ?_;clear hK K
 try simp only[PT]
 refine tkU0 12 (fun h=>absurd h (by decide)) ?_
 try simp only[PT]
 refine wpU_one 13 rfl (by kernel_rfl) (fun K hK=>?_);go_simp;clear u4;clear pa0 pa1 pa2 pa3 pa4 pa5;clear p0 p1 p2 p3 p4 q0 q1 q2 q3 q4;have BA_:=BA.out.set 4 (.string O);have BP_:=BP.out.other (p:=⟨w.heap.size,4,none⟩) (show w.heap.size≠w.heap.size+1+1+1 by omega) (.string O);have HN_:=HN.out.setCell (p:=⟨w.heap.size,4,none⟩) (Nat.le_refl _) (.string O);clear BA B1 B2 BP HN;have BA:=hid BA_;have BP:=hid BP_;have HN:=hid HN_;clear BA_ BP_ HN_;obtain ⟨⟨pa0,pa1,pa2,pa3,pa4⟩,pa5⟩:=BA.out.five;refine hK.out _ _ (fun h=>absurd h (by decide)) ?_;clear hK K
 try simp only[PT]
 refine wpU_end (by kernel_rfl) ?_;go_upto_region 12 with (fail);clear pa0 pa1 pa2 pa3 pa4 pa5;obtain ⟨w12,hw12⟩:∃ W,(w11.setCell ⟨w.heap.size,3,none⟩ (.string G)).setCell ⟨w.heap.size,4,none⟩ (.string O)=W:=⟨_,rfl⟩;rw[hw12] at BA BP HN⊢;clear hw12;have ba:Box w12 w.heap.size 24 #[.int .i64 b,.int .i64 s,.int .i64 z,.string G,.string O]:=BA.out;clear BA;have BA:=hid ba;clear ba;obtain ⟨⟨pa0,pa1,pa2,pa3,pa4⟩,pa5⟩:=BA.out.five;go_wp2_with fail;clear pa0 pa1 pa2 pa3 pa4 pa5;have HN0:=HN;clear HN;obtain ⟨BL,HN⟩:=lay1 w12 22 #[.string G,.string O];replace BA:=hid (BA.out.new HN.out);replace BP:=hid (BP.out.new HN.out);have HN_:=HN0.out.trans HN.out;clear HN HN0;have HN:=hid HN_;clear HN_;refine (HK.out.la _ _ _ (box_strs BL.out)).mono ?_;rintro e w13 ⟨rfl,hn⟩;replace BA:=bW BA hn;replace BP:=bW BP hn;replace HN:=tW HN hn;clear hn;obtain ⟨⟨pa0,pa1,pa2,pa3,pa4⟩,pa5⟩:=BA.out.five;obtain ⟨⟨z0,z1,z2,z3,z4⟩,z5⟩:=BP.out.five;have y0:=BP.out.frozen 0;have y1:=BP.out.frozen 1;have y2:=BP.out.frozen 2;have y3:=BP.out.frozen 3;have y4:=BP.out.frozen 4;go_wp2_with fail;refine bodyPost_ret (v:=.tuple #[.agg #[.int .i64 b,.int .i64 s,.int .i64 z,.string G,.string O],.int .i64 0]) (by simp[results,Tryz.results41,go_sem,z0,z1,z2,z3,z4]) rfl ?_;refine ⟨rfl,?_⟩;have hN:=HN.out
 repeat first
  | with_reducible exact New.refl _
  | with_reducible refine New.drewN ?_ _
  | with_reducible refine New.drew ?_
  | with_reducible refine New.alloc ?_ _
  | (with_reducible refine New.setCell ?_ ?_ _;rotate_left;(show _≤_+_);omega)
  | with_reducible assumption
theorem calibrates_ok (haw:AwakeOk) (b s z c1 c2:Int) (g o t1 t2:ByteArray) (qg qo:Rat) (K:AdcOk b s z g o qg qo) (w:World) (he:Env w) (hl1:t1.size≤60) (hl2:t2.size≤60)
  (hsh:∀ W,Calls Tryz.prog 9 #[adV b s z g o] W fun e w'=>e=.returned (.bool true)∧New W w')
  (hpc:∀ W,Env W→Calls Tryz.prog 15 #[adcV b s z g o] W (RetNew W 0)) (hrc:∀ W,Calls Tryz.prog 14 #[adcV b s z g o] W (RetNew W 0)):
  Calls Tryz.prog 6 #[adV b s z g o,mkV c1 t1,mkV c2 t2] w fun e w'=>e=.returned (.bool true)∧New w w':=by
 have htb:=top_bd K.blo K.bhi;have hlo:=K.blo;have hzh:=K.zhi
 have hzz:z≤4095:=by omega
 have hcc1:=fun W hW=>checkCode_calls K c1 W hW;have hcc2:=fun W hW=>checkCode_calls K c2 W hW;have hck1:=fun W hW=>check_calls t1 W hW (by omega);have hck2:=fun W hW=>check_calls t2 W hW (by omega);have hm1:=fun W=>rmark_calls b s z c1 g o t1 W (by omega) K.bhi (by omega);have hm2:=fun W=>rmark_calls b s z c2 g o t2 W (by omega) K.bhi (by omega);obtain ⟨tp,htp⟩:∃ tp:Int,(2:Int)^b.toNat - 1=tp:=⟨_,rfl⟩;simp only[htp] at hcc1 hcc2 hm1 hm2;have f1:fst3 0 (if outside c1 0 tp then 3 else 0) (ratErr t1.data.toList)=markE c1 tp t1:=fst3_mark 0 c1 tp t1
 have f2:fst3 (markE c1 tp t1) (if outside c2 0 tp then 3 else 0) (ratErr t2.data.toList)=if markE c1 tp t1=0 then markE c2 tp t2 else markE c1 tp t1:=fst3_mark _ c2 tp t2
 obtain ⟨n,hn⟩:∃ n,(if markE c1 tp t1=0 then markE c2 tp t2 else markE c1 tp t1)=n:=⟨_,rfl⟩;by_cases h0:n=0
 ·subst h0
  obtain ⟨e1,e2⟩:markE c1 tp t1=0∧markE c2 tp t2=0:=by
   split at hn
   ·rename_i h;exact ⟨h,hn⟩
   ·rename_i h;exact absurd hn h
  rw[e1]at hm1;rw[e2] at hm2;by_cases hc:c1=c2
  ·subst hc
   exact cal_B haw b s z c1 c1 9 0 0 0 g o t1 t2 ⟨#[]⟩ ⟨#[]⟩ w he hl1 hl2 hsh (fun W hW=>Calibrated_errs b s z g o c1 t1 c1 t2 0 _ _ _ _ _ _ _ f1 (f2.trans hn) (by rw[if_pos rfl,if_pos rfl]) (by decide) hpc hcc1 hcc2 hck1 hck2 W hW) hrc
    (fun W=>rcal_twice b s z c1 g o t1 t2 W hm1 hm2)
  ·have good:∀ {c:Int} {t:ByteArray},markE c tp t=0→outside c 0 tp=false∧ratErr t.data.toList=0:=fun {c t} h=>by
    unfold markE at h;split at h
    ·omega
    ·rename_i ho;exact ⟨by simpa using ho,h⟩
   obtain ⟨ho1,hr1⟩:=good e1;obtain ⟨ho2,hr2⟩:=good e2
   have rng:∀ {c:Int},outside c 0 tp=false→0≤c∧c≤4095:=fun {c} h=>by
    simp only[outside,Bool.or_eq_false_iff,decide_eq_false_iff_not]at h;omega
   obtain ⟨lo1,hi1⟩:=rng ho1;obtain ⟨lo2,hi2⟩:=rng ho2;obtain ⟨q1, -,et1⟩:=ratText_of_err hr1;obtain ⟨q2, -,et2⟩:=ratText_of_err hr2
   have len:∀ {t:ByteArray} {q:Rat},t.data.toList=ratText q→t.size≤60→FB 240 q:=fun {t q} h hl=>fb_of_len (n:=60) (by
    rw[←h,Array.length_toList]
    exact hl) (by omega) (by omega)
   have b1:=len et1 hl1;have b2:=len et2 hl2;have hne:=nom_ne (z:=z) K.slo K.shi hc;have bl:=nomQ_fb K lo1 hi1;have bh:=nomQ_fb K lo2 hi2;have bx:=b2.sub b1;have by':=bh.sub bl;have bg:=bx.div by' hne;have bp:=bg.mul bl;have bo:=b1.sub bp;have hnum:(nomQ s z c2 - nomQ s z c1).num≠0:=fun h=>hne (Rat.num_eq_zero.1 h)
   have I:CalIn b s z g o c1 t1 c2 t2 0 0 0 0 0 0 0 0 0 false false:=
    {chk:=hpc
     cc1:=fun W hW=>by have:=hcc1 W hW;rwa [ho1] at this
     cc2:=fun W hW=>by have:=hcc2 W hW;rwa [ho2] at this
     ck1:=fun W hW=>by have:=hck1 W hW;rwa [hr1] at this
     ck2:=fun W hW=>by have:=hck2 W hW;rwa [hr2] at this
     f1:=rfl
     f2:=rfl
     f3:=rfl
     f9:=rfl
     hc:=beq_eq_false_iff_ne.2 hc
     em:=eq_mark c1 c2 t1 t2 hc}
   have G:CalMid b s z g o c1 t1 c2 t2 q1 q2 (nomQ s z c1) (nomQ s z c2) ((q2 - q1) / (nomQ s z c2 - nomQ s z c1)) (q1 - (q2 - q1) / (nomQ s z c2 - nomQ s z c1)*nomQ s z c1) (rs ((q2 - q1) / (nomQ s z c2 - nomQ s z c1))) (rs (q1 - (q2 - q1) / (nomQ s z c2 - nomQ s z c1)*nomQ s z c1)):=
    {nom1:=fun W=>nominal_calls K c1 W lo1 hi1
     nom2:=fun W=>nominal_calls K c2 W lo2 hi2
     fr1:=fun W hW=>from_calls t1 q1 W hW et1 (by omega)
     fr2:=fun W hW=>from_calls t2 q2 W hW et2 (by omega)
     bl:=bl
     bh:=bh
     b1:=b1.mono (by omega)
     b2:=b2.mono (by omega)
     hne:=hne
     hg:=rfl
     ho:=rfl
     gs:=bg.mono (by omega)
     os:=bo.mono (by omega)
     tx:=fun va W hx hW=>text_calls va _ W hx (bg.mono (by omega)) hW
     ty:=fun va W hx hW=>text_calls va _ W hx (bo.mono (by omega)) hW}
   have s1:=rs_of et1;have s2:=rs_of et2
   have R:RCal b s z g o c1 c2 t1 t2 (rs (q2 - q1)) (rs (nomQ s z c1)) (rs (nomQ s z c2)) (rs (nomQ s z c2 - nomQ s z c1)) (rs ((q2 - q1) / (nomQ s z c2 - nomQ s z c1)))
     (rs ((q2 - q1) / (nomQ s z c2 - nomQ s z c1)*nomQ s z c1)) (rs (q1 - (q2 - q1) / (nomQ s z c2 - nomQ s z c1)*nomQ s z c1)) ((q2 - q1) / (nomQ s z c2 - nomQ s z c1)).num.sign:=
    {m1:=hm1
     m2:=hm2
     s1:=fun W=>by rw[s1,s2];exact rsubQ_calls 240 240 q2 q1 W (RFB.of b2) (RFB.of b1) (by omega)
     n1:=fun W=>rnominal_calls b s z c1 g o W K.slo K.shi K.zlo hzz lo1 (by omega)
     n2:=fun W=>rnominal_calls b s z c2 g o W K.slo K.shi K.zlo hzz lo2 (by omega)
     s2:=fun W=>rsubQ_calls 33 33 _ _ W (RFB.of bh) (RFB.of bl) (by omega)
     dv:=fun W=>rdivZ_calls _ _ _ _ W (RFB.of bx) (RFB.of by') (by omega) hnum
     sn:=fun W=>(rsign_calls _ W).mono fun e w' h=>⟨h.1,.of_eq h.2.symm⟩
     mu:=fun W=>rmulQ_calls _ _ _ _ W (RFB.of bg) (RFB.of bl) (by omega)
     su:=fun W=>by rw[s1];exact rsubQ_calls _ _ _ _ W (RFB.of b1) (RFB.of bp) (by omega)
     la:=fun W a cap hr=>rlargeRow_calls 1800 a cap _ _ W (RFB.of (bg.mono (by omega))) (RFB.of (bo.mono (by omega))) (by omega) hr
     ne:=hc}
   by_cases hsg:((q2 - q1) / (nomQ s z c2 - nomQ s z c1)).num.sign≤0
   ·exact cal_B haw b s z c1 c2 3 0 0 0 g o t1 t2 ⟨#[]⟩ ⟨#[]⟩ w he hl1 hl2 hsh (fun W hW=>Calibrated_gen b s z g o c1 t1 c2 t2 q1 q2 _ _ _ _ _ _ _ _ _ _ _ _ _ _ _ _ _ I W hW _ _ (fun h=>absurd rfl h) (fun _=>⟨G,fun _=>⟨rfl,rfl⟩,fun h=>absurd hsg h⟩)) hrc (fun W=>rcal_low _ _ _ _ _ _ _ _ _ _ _ _ _ _ _ _ _ W R hsg)
   ·exact cal_B haw b s z c1 c2 0 b s z g o t1 t2 _ _ w he hl1 hl2 hsh (fun W hW=>Calibrated_gen b s z g o c1 t1 c2 t2 q1 q2 _ _ _ _ _ _ _ _ _ _ _ _ _ _ _ _ _ I W hW _ _ (fun h=>absurd rfl h) (fun _=>⟨G,fun h=>absurd h hsg,fun _=>⟨rfl,rfl⟩⟩)) hrc (fun W=>rcal_ok _ _ _ _ _ _ _ _ _ _ _ _ _ _ _ _ _ W R (by omega))
 ·have hra:=fun W=>rcal_err b s z c1 c2 _ _ n g o t1 t2 W h0 hn hm1 hm2;by_cases hc:c1=c2
  ·subst hc;exact cal_B haw b s z c1 c1 n 0 0 0 g o t1 t2 ⟨#[]⟩ ⟨#[]⟩ w he hl1 hl2 hsh (fun W hW=>Calibrated_errs b s z g o c1 t1 c1 t2 0 _ _ _ _ _ _ _ f1 (f2.trans hn) (by rw[if_neg h0]) h0 hpc hcc1 hcc2 hck1 hck2 W hW) hrc hra
  ·exact cal_B haw b s z c1 c2 n 0 0 0 g o t1 t2 ⟨#[]⟩ ⟨#[]⟩ w he hl1 hl2 hsh (fun W hW=>Calibrated_errs b s z g o c1 t1 c2 t2 0 _ _ _ _ _ _ _ f1 (f2.trans hn) (by rw[if_neg h0]) h0 hpc hcc1 hcc2 hck1 hck2 W hW) hrc hra
theorem calibrates_law (haw:AwakeOk)(b s z c1 c2:Int)(g o t1 t2:ByteArray)(w:World)(he:Env w)(hg:g.size≤9223372036854775807)(ho:o.size≤9223372036854775807):
  Calls Tryz.prog 6 #[adV b s z g o,mkV c1 t1,mkV c2 t2] w fun e w'=>e=.returned (.bool true)∧New w w':=by
 have hsh:=fun W=>rshort_calls b s z g o W hg ho;by_cases hlen:g.size≤60∧o.size≤60
 ·obtain ⟨hg6,ho6⟩:=hlen;rw[decide_eq_true hg6,decide_eq_true ho6,Bool.and_self] at hsh;by_cases hl:t1.size≤60∧t2.size≤60
  ·obtain ⟨hl1,hl2⟩:=hl;obtain ⟨n,hpc,hrc,hok⟩:=adc_err b s z g o (by omega) (by omega);by_cases h0:n=0
   ·subst h0;obtain ⟨qg,qo,K⟩:=hok rfl;exact calibrates_ok haw b s z c1 c2 g o t1 t2 qg qo K w he hl1 hl2 hsh hpc hrc
   ·have hcc1:=fun W hW=>checkCode_err b s z g o c1 n h0 hpc W hW;have hcc2:=fun W hW=>checkCode_err b s z g o c2 n h0 hpc W hW;have hck1:=fun W hW=>check_calls t1 W hW (by omega);have hck2:=fun W hW=>check_calls t2 W hW (by omega)
    have f:∀ k m,fst3 n k m=n:=fun k m=>by unfold fst3;rw[if_neg h0]
    by_cases hc:c1=c2
    ·subst hc;exact cal_A haw b s z c1 c1 n g o t1 t2 w he h0 hl1 hl2 hsh (fun W hW=>Calibrated_errs b s z g o c1 t1 c1 t2 n _ _ _ _ _ _ _ (f _ _) (f _ _) (by rw[if_neg h0]) h0 hpc hcc1 hcc2 hck1 hck2 W hW) hrc
    ·exact cal_A haw b s z c1 c2 n g o t1 t2 w he h0 hl1 hl2 hsh (fun W hW=>Calibrated_errs b s z g o c1 t1 c2 t2 n _ _ _ _ _ _ _ (f _ _) (f _ _) (by rw[if_neg h0]) h0 hpc hcc1 hcc2 hck1 hck2 W hW) hrc
  ·exact cal_long haw b s z c1 c2 g o t1 t2 w he hl hsh
 ·have hf:(decide (g.size≤60) && decide (o.size≤60))=false:=by
   rw[Bool.and_eq_false_iff,decide_eq_false_iff_not,decide_eq_false_iff_not];omega
  simp only[hf]at hsh;exact cal_short haw b s z c1 c2 g o t1 t2 w he hsh
theorem in_mark {H:Type}{enc:TypeId × Value→H}{w:World}{base:Nat}{sp:Nat→Bool}{held:Bool}{r:Reach}{b0:Nat}{v:Value}{d:DataW H}{p:List MemPlace}(hval:Value.okWide Tryz.prog w r b0 75 v)(h:DataW.Trod enc Tryz.prog w base sp held 75 v d p):
  ∃ (c:Int) (t:ByteArray),v=.agg #[.int .i64 c,.string t]:=by
 obtain ⟨v0,v1,y0,y1,n,rfl,_,_,h0,h1⟩:=Joins.open_agg2 Tryz.underlying75 (by kernel_rfl) (by kernel_rfl) hval h;obtain ⟨c,rfl,_⟩:=trod_int' Tryz.underlying3 h0;obtain ⟨t,rfl,_⟩:=trod_str' Tryz.underlying22 h1;exact ⟨c,t,rfl⟩
end Go.Proofs.YtbkcjmojgglbkaaGreatDoor
