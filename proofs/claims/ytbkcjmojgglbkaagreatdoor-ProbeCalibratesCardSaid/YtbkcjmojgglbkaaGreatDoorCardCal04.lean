/- Part CardCal04. -/
import Derived.Test.YtbkcjmojgglbkaaGreatDoorCardCal03
namespace Go.Proofs.YtbkcjmojgglbkaaGreatDoor
open Go.RowKit Big Go.Lib
set_option maxRecDepth 100000
set_option maxHeartbeats 8000000
theorem rmark_calls (b s z c:Int)(g o t:ByteArray)(w:World)(lo:0≤b)(hi:b≤12)(hl:t.size≤1000000):
  Calls Tryz.prog 101 #[.agg #[.int .i64 b,.int .i64 s,.int .i64 z,.string g,.string o],.agg #[.int .i64 c,.string t]] w (RetNew w (markE c (2^b.toNat - 1) t)):=by
 have hcc:=fun W=>rcheckCode_calls b s z c g o W lo hi;have hck:=fun W=>rcheck_calls t W hl;obtain ⟨tp,htp⟩:∃ tp,(2:Int)^b.toNat - 1=tp:=⟨_,rfl⟩;rw[htp];simp only[htp] at hcc;unfold markE;clear htp lo hi hl
 cases ho:outside c 0 tp with
 | true=>
  simp only[ho,if_pos]at hcc;rw[if_pos rfl];clear ho hck;have HCC:=hid hcc;clear hcc;go_enter Tryz.func101,Tryz.ntmps101;go_upto_region 1 with (fail);obtain ⟨BA,BM,HN⟩:=lay2 w 24 #[.int .i64 b,.int .i64 s,.int .i64 z,.string g,.string o] 75 #[.int .i64 c,.string t];obtain ⟨⟨pa0,pa1,pa2,pa3,pa4⟩,pa5⟩:=BA.out.five;obtain ⟨pm0,pm1,pm2,pm3,pm4⟩:=BM.out.two;go_wp2_with fail;refine (HCC.out _).mono ?_;rintro e w1 ⟨rfl,hn⟩;clear pa0 pa1 pa2 pa3 pa4 pa5;clear pm0 pm1 pm2 pm3 pm4;replace BM:=bW BM hn;replace HN:=tW HN hn;clear hn;obtain ⟨pm0,pm1,pm2,pm3,pm4⟩:=BM.out.two;go_wp2_with fail;go_ret;exact ⟨rfl,HN.out⟩
 | false=>
  have hcc:∀ W,Calls Tryz.prog 19 #[.agg #[.int .i64 b,.int .i64 s,.int .i64 z,.string g,.string o],.int .i64 c] W (RetNew W 0):=fun W=>by
   have:=hcc W;rw[ho] at this;exact this
  rw[if_neg (by decide)];obtain ⟨E,hE⟩:∃ E,ratErr t.data.toList=E:=⟨_,rfl⟩;rw[hE] at hck⊢;clear ho hE;have HCC:=hid hcc;have HCK:=hid hck;clear hcc hck;go_enter Tryz.func101,Tryz.ntmps101;go_upto_region 1 with (fail);obtain ⟨BA,BM,HN⟩:=lay2 w 24 #[.int .i64 b,.int .i64 s,.int .i64 z,.string g,.string o] 75 #[.int .i64 c,.string t];obtain ⟨⟨pa0,pa1,pa2,pa3,pa4⟩,pa5⟩:=BA.out.five;obtain ⟨pm0,pm1,pm2,pm3,pm4⟩:=BM.out.two;go_wp2_with fail;refine (HCC.out _).mono ?_;rintro e w1 ⟨rfl,hn⟩;clear pa0 pa1 pa2 pa3 pa4 pa5;clear pm0 pm1 pm2 pm3 pm4;replace BM:=bW BM hn;replace HN:=tW HN hn;clear hn;obtain ⟨pm0,pm1,pm2,pm3,pm4⟩:=BM.out.two;go_wp2_with fail;refine (HCK.out _).mono ?_;rintro e w2 ⟨rfl,hn⟩;clear pm0 pm1 pm2 pm3 pm4;replace HN:=tW HN hn;clear hn;go_wp2_with fail;go_ret;exact ⟨rfl,HN.out⟩
theorem rcal_err (b s z c1 c2 n1 n2 n:Int) (g o t1 t2:ByteArray) (w:World) (h0:n≠0) (hn:(if n1=0 then n2 else n1)=n)
  (hm1:∀ W,Calls Tryz.prog 101 #[.agg #[.int .i64 b,.int .i64 s,.int .i64 z,.string g,.string o],.agg #[.int .i64 c1,.string t1]] W (RetNew W n1))
  (hm2:∀ W,Calls Tryz.prog 101 #[.agg #[.int .i64 b,.int .i64 s,.int .i64 z,.string g,.string o],.agg #[.int .i64 c2,.string t2]] W (RetNew W n2)):
  Calls Tryz.prog 41 #[.agg #[.int .i64 b,.int .i64 s,.int .i64 z,.string g,.string o],.agg #[.int .i64 c1,.string t1],.agg #[.int .i64 c2,.string t2]] w (RetAdc w noAdc n):=by
 unfold RetAdc noAdc
 have hnb:(n != 0)=true:=by simpa using h0
 by_cases h1:n1=0
 ·rw[if_pos h1] at hn;subst h1 hn;clear h0;have HM1:=hid hm1;have HM2:=hid hm2;clear hm1 hm2;go_enter Tryz.func41,Tryz.ntmps41;go_upto_region 1 with (fail);have BA:=hid ((Box.alloc w (w.heap.size) 24 #[.int .i64 b,.int .i64 s,.int .i64 z,.string g,.string o] (by simp)).new ((((New.refl _).alloc (.cells #[.int .i64 c1,.string t1] 75)).alloc (.cells #[.int .i64 c2,.string t2] 75)).alloc (.cells #[.int .i64 0,.int .i64 0,.int .i64 0,.string ⟨#[]⟩,.string ⟨#[]⟩] 24)));have B1:=hid ((Box.alloc (w.alloc (.cells #[.int .i64 b,.int .i64 s,.int .i64 z,.string g,.string o] 24)) (w.heap.size+1) 75 #[.int .i64 c1,.string t1] (by simp)).new (((New.refl _).alloc (.cells #[.int .i64 c2,.string t2] 75)).alloc (.cells #[.int .i64 0,.int .i64 0,.int .i64 0,.string ⟨#[]⟩,.string ⟨#[]⟩] 24)));have B2:=hid ((Box.alloc ((w.alloc (.cells #[.int .i64 b,.int .i64 s,.int .i64 z,.string g,.string o] 24)).alloc (.cells #[.int .i64 c1,.string t1] 75)) (w.heap.size+1+1) 75 #[.int .i64 c2,.string t2] (by simp)).new ((New.refl _).alloc (.cells #[.int .i64 0,.int .i64 0,.int .i64 0,.string ⟨#[]⟩,.string ⟨#[]⟩] 24)));have BP:=hid ((Box.alloc (((w.alloc (.cells #[.int .i64 b,.int .i64 s,.int .i64 z,.string g,.string o] 24)).alloc (.cells #[.int .i64 c1,.string t1] 75)).alloc (.cells #[.int .i64 c2,.string t2] 75)) (w.heap.size+1+1+1) 24 #[.int .i64 0,.int .i64 0,.int .i64 0,.string ⟨#[]⟩,.string ⟨#[]⟩] (by simp)).new (New.refl _));have HN:=hid (((((New.refl w).alloc (.cells #[.int .i64 b,.int .i64 s,.int .i64 z,.string g,.string o] 24)).alloc (.cells #[.int .i64 c1,.string t1] 75)).alloc (.cells #[.int .i64 c2,.string t2] 75)).alloc (.cells #[.int .i64 0,.int .i64 0,.int .i64 0,.string ⟨#[]⟩,.string ⟨#[]⟩] 24));obtain ⟨⟨pa0,pa1,pa2,pa3,pa4⟩,pa5⟩:=BA.out.five;obtain ⟨p0,p1,p2,p3,p4⟩:=B1.out.two;obtain ⟨q0,q1,q2,q3,q4⟩:=B2.out.two;go_wp2_with fail;refine (HM1.out _).mono ?_;rintro e w1 ⟨rfl,hn⟩;clear pa0 pa1 pa2 pa3 pa4 pa5;clear p0 p1 p2 p3 p4 q0 q1 q2 q3 q4;replace BA:=bW BA hn;replace B1:=bW B1 hn;replace B2:=bW B2 hn;replace BP:=bW BP hn;replace HN:=tW HN hn;clear hn;obtain ⟨⟨pa0,pa1,pa2,pa3,pa4⟩,pa5⟩:=BA.out.five;obtain ⟨p0,p1,p2,p3,p4⟩:=B1.out.two;obtain ⟨q0,q1,q2,q3,q4⟩:=B2.out.two;go_wp2_with fail;refine (HM2.out _).mono ?_;rintro e w2 ⟨rfl,hn⟩;clear pa0 pa1 pa2 pa3 pa4 pa5;clear p0 p1 p2 p3 p4 q0 q1 q2 q3 q4;replace BA:=bW BA hn;replace B1:=bW B1 hn;replace B2:=bW B2 hn;replace BP:=bW BP hn;replace HN:=tW HN hn;clear hn;obtain ⟨⟨pa0,pa1,pa2,pa3,pa4⟩,pa5⟩:=BA.out.five;obtain ⟨p0,p1,p2,p3,p4⟩:=B1.out.two;obtain ⟨q0,q1,q2,q3,q4⟩:=B2.out.two;clear pa0 pa1 pa2 pa3 pa4 pa5;clear p0 p1 p2 p3 p4 q0 q1 q2 q3 q4;obtain ⟨⟨z0,z1,z2,z3,z4⟩,z5⟩:=BP.out.five;have y0:=BP.out.frozen 0;have y1:=BP.out.frozen 1;have y2:=BP.out.frozen 2;have y3:=BP.out.frozen 3;have y4:=BP.out.frozen 4;go_wp2_with fail;refine bodyPost_ret (v:=.tuple #[.agg #[.int .i64 0,.int .i64 0,.int .i64 0,.string ⟨#[]⟩,.string ⟨#[]⟩],.int .i64 n2]) (by simp[results,Tryz.results41,go_sem,z0,z1,z2,z3,z4]) rfl ?_;refine ⟨rfl,?_⟩;have hN:=HN.out
  repeat first
   | with_reducible exact New.refl _
   | with_reducible refine New.drewN ?_ _
   | with_reducible refine New.drew ?_
   | with_reducible refine New.alloc ?_ _
   | (with_reducible refine New.setCell ?_ ?_ _;rotate_left;(show _≤_+_);omega)
   | with_reducible assumption
 ·rw[if_neg h1] at hn;subst hn;have h1b:(n1==0)=false:=beq_false_of_ne h1;clear h0 hm2 h1;have HM1:=hid hm1;clear hm1;go_enter Tryz.func41,Tryz.ntmps41;go_upto_region 1 with (fail);have BA:=hid ((Box.alloc w (w.heap.size) 24 #[.int .i64 b,.int .i64 s,.int .i64 z,.string g,.string o] (by simp)).new ((((New.refl _).alloc (.cells #[.int .i64 c1,.string t1] 75)).alloc (.cells #[.int .i64 c2,.string t2] 75)).alloc (.cells #[.int .i64 0,.int .i64 0,.int .i64 0,.string ⟨#[]⟩,.string ⟨#[]⟩] 24)));have B1:=hid ((Box.alloc (w.alloc (.cells #[.int .i64 b,.int .i64 s,.int .i64 z,.string g,.string o] 24)) (w.heap.size+1) 75 #[.int .i64 c1,.string t1] (by simp)).new (((New.refl _).alloc (.cells #[.int .i64 c2,.string t2] 75)).alloc (.cells #[.int .i64 0,.int .i64 0,.int .i64 0,.string ⟨#[]⟩,.string ⟨#[]⟩] 24)));have B2:=hid ((Box.alloc ((w.alloc (.cells #[.int .i64 b,.int .i64 s,.int .i64 z,.string g,.string o] 24)).alloc (.cells #[.int .i64 c1,.string t1] 75)) (w.heap.size+1+1) 75 #[.int .i64 c2,.string t2] (by simp)).new ((New.refl _).alloc (.cells #[.int .i64 0,.int .i64 0,.int .i64 0,.string ⟨#[]⟩,.string ⟨#[]⟩] 24)));have BP:=hid ((Box.alloc (((w.alloc (.cells #[.int .i64 b,.int .i64 s,.int .i64 z,.string g,.string o] 24)).alloc (.cells #[.int .i64 c1,.string t1] 75)).alloc (.cells #[.int .i64 c2,.string t2] 75)) (w.heap.size+1+1+1) 24 #[.int .i64 0,.int .i64 0,.int .i64 0,.string ⟨#[]⟩,.string ⟨#[]⟩] (by simp)).new (New.refl _));have HN:=hid (((((New.refl w).alloc (.cells #[.int .i64 b,.int .i64 s,.int .i64 z,.string g,.string o] 24)).alloc (.cells #[.int .i64 c1,.string t1] 75)).alloc (.cells #[.int .i64 c2,.string t2] 75)).alloc (.cells #[.int .i64 0,.int .i64 0,.int .i64 0,.string ⟨#[]⟩,.string ⟨#[]⟩] 24));obtain ⟨⟨pa0,pa1,pa2,pa3,pa4⟩,pa5⟩:=BA.out.five;obtain ⟨p0,p1,p2,p3,p4⟩:=B1.out.two;obtain ⟨q0,q1,q2,q3,q4⟩:=B2.out.two;go_wp2_with fail;refine (HM1.out _).mono ?_;rintro e w1 ⟨rfl,hn⟩;clear pa0 pa1 pa2 pa3 pa4 pa5;clear p0 p1 p2 p3 p4 q0 q1 q2 q3 q4;replace BA:=bW BA hn;replace B1:=bW B1 hn;replace B2:=bW B2 hn;replace BP:=bW BP hn;replace HN:=tW HN hn;clear hn;obtain ⟨⟨pa0,pa1,pa2,pa3,pa4⟩,pa5⟩:=BA.out.five;obtain ⟨p0,p1,p2,p3,p4⟩:=B1.out.two;obtain ⟨q0,q1,q2,q3,q4⟩:=B2.out.two;clear pa0 pa1 pa2 pa3 pa4 pa5;clear p0 p1 p2 p3 p4 q0 q1 q2 q3 q4;obtain ⟨⟨z0,z1,z2,z3,z4⟩,z5⟩:=BP.out.five;have y0:=BP.out.frozen 0;have y1:=BP.out.frozen 1;have y2:=BP.out.frozen 2;have y3:=BP.out.frozen 3;have y4:=BP.out.frozen 4;go_wp2_with fail;refine bodyPost_ret (v:=.tuple #[.agg #[.int .i64 0,.int .i64 0,.int .i64 0,.string ⟨#[]⟩,.string ⟨#[]⟩],.int .i64 n1]) (by simp[results,Tryz.results41,go_sem,z0,z1,z2,z3,z4]) rfl ?_;refine ⟨rfl,?_⟩;have hN:=HN.out
  repeat first
   | with_reducible exact New.refl _
   | with_reducible refine New.drewN ?_ _
   | with_reducible refine New.drew ?_
   | with_reducible refine New.alloc ?_ _
   | (with_reducible refine New.setCell ?_ ?_ _;rotate_left;(show _≤_+_);omega)
   | with_reducible assumption
theorem rcal_twice (b s z c:Int) (g o t1 t2:ByteArray) (w:World)
  (hm1:∀ W,Calls Tryz.prog 101 #[.agg #[.int .i64 b,.int .i64 s,.int .i64 z,.string g,.string o],.agg #[.int .i64 c,.string t1]] W (RetNew W 0))
  (hm2:∀ W,Calls Tryz.prog 101 #[.agg #[.int .i64 b,.int .i64 s,.int .i64 z,.string g,.string o],.agg #[.int .i64 c,.string t2]] W (RetNew W 0)):
  Calls Tryz.prog 41 #[.agg #[.int .i64 b,.int .i64 s,.int .i64 z,.string g,.string o],.agg #[.int .i64 c,.string t1],.agg #[.int .i64 c,.string t2]] w (RetAdc w noAdc 9):=by
 obtain ⟨c1,hc1⟩:∃ x,x=c:=⟨_,rfl⟩;obtain ⟨c2,hc2⟩:∃ x,x=c:=⟨_,rfl⟩
 have hcc:(c1==c2)=true:=by rw[hc1,hc2];exact beq_self_eq_true _
 rw[←hc1]at hm1;rw[←hc2] at hm2
 have hgoal:Calls Tryz.prog 41 #[.agg #[.int .i64 b,.int .i64 s,.int .i64 z,.string g,.string o],.agg #[.int .i64 c1,.string t1],.agg #[.int .i64 c2,.string t2]] w (RetAdc w noAdc 9):=by
  unfold RetAdc noAdc;clear hc1 hc2;have HM1:=hid hm1;have HM2:=hid hm2;clear hm1 hm2;go_enter Tryz.func41,Tryz.ntmps41;go_upto_region 1 with (fail);have BA:=hid ((Box.alloc w (w.heap.size) 24 #[.int .i64 b,.int .i64 s,.int .i64 z,.string g,.string o] (by simp)).new ((((New.refl _).alloc (.cells #[.int .i64 c1,.string t1] 75)).alloc (.cells #[.int .i64 c2,.string t2] 75)).alloc (.cells #[.int .i64 0,.int .i64 0,.int .i64 0,.string ⟨#[]⟩,.string ⟨#[]⟩] 24)));have B1:=hid ((Box.alloc (w.alloc (.cells #[.int .i64 b,.int .i64 s,.int .i64 z,.string g,.string o] 24)) (w.heap.size+1) 75 #[.int .i64 c1,.string t1] (by simp)).new (((New.refl _).alloc (.cells #[.int .i64 c2,.string t2] 75)).alloc (.cells #[.int .i64 0,.int .i64 0,.int .i64 0,.string ⟨#[]⟩,.string ⟨#[]⟩] 24)));have B2:=hid ((Box.alloc ((w.alloc (.cells #[.int .i64 b,.int .i64 s,.int .i64 z,.string g,.string o] 24)).alloc (.cells #[.int .i64 c1,.string t1] 75)) (w.heap.size+1+1) 75 #[.int .i64 c2,.string t2] (by simp)).new ((New.refl _).alloc (.cells #[.int .i64 0,.int .i64 0,.int .i64 0,.string ⟨#[]⟩,.string ⟨#[]⟩] 24)));have BP:=hid ((Box.alloc (((w.alloc (.cells #[.int .i64 b,.int .i64 s,.int .i64 z,.string g,.string o] 24)).alloc (.cells #[.int .i64 c1,.string t1] 75)).alloc (.cells #[.int .i64 c2,.string t2] 75)) (w.heap.size+1+1+1) 24 #[.int .i64 0,.int .i64 0,.int .i64 0,.string ⟨#[]⟩,.string ⟨#[]⟩] (by simp)).new (New.refl _));have HN:=hid (((((New.refl w).alloc (.cells #[.int .i64 b,.int .i64 s,.int .i64 z,.string g,.string o] 24)).alloc (.cells #[.int .i64 c1,.string t1] 75)).alloc (.cells #[.int .i64 c2,.string t2] 75)).alloc (.cells #[.int .i64 0,.int .i64 0,.int .i64 0,.string ⟨#[]⟩,.string ⟨#[]⟩] 24));obtain ⟨⟨pa0,pa1,pa2,pa3,pa4⟩,pa5⟩:=BA.out.five;obtain ⟨p0,p1,p2,p3,p4⟩:=B1.out.two;obtain ⟨q0,q1,q2,q3,q4⟩:=B2.out.two;go_wp2_with fail;refine (HM1.out _).mono ?_;rintro e w1 ⟨rfl,hn⟩;clear pa0 pa1 pa2 pa3 pa4 pa5;clear p0 p1 p2 p3 p4 q0 q1 q2 q3 q4;replace BA:=bW BA hn;replace B1:=bW B1 hn;replace B2:=bW B2 hn;replace BP:=bW BP hn;replace HN:=tW HN hn;clear hn;obtain ⟨⟨pa0,pa1,pa2,pa3,pa4⟩,pa5⟩:=BA.out.five;obtain ⟨p0,p1,p2,p3,p4⟩:=B1.out.two;obtain ⟨q0,q1,q2,q3,q4⟩:=B2.out.two;go_wp2_with fail;refine (HM2.out _).mono ?_;rintro e w2 ⟨rfl,hn⟩;clear pa0 pa1 pa2 pa3 pa4 pa5;clear p0 p1 p2 p3 p4 q0 q1 q2 q3 q4;replace BA:=bW BA hn;replace B1:=bW B1 hn;replace B2:=bW B2 hn;replace BP:=bW BP hn;replace HN:=tW HN hn;clear hn;obtain ⟨⟨pa0,pa1,pa2,pa3,pa4⟩,pa5⟩:=BA.out.five;obtain ⟨p0,p1,p2,p3,p4⟩:=B1.out.two;obtain ⟨q0,q1,q2,q3,q4⟩:=B2.out.two;go_upto_region 7 with (fail);clear pa0 pa1 pa2 pa3 pa4 pa5;clear p0 p1 p2 p3 p4 q0 q1 q2 q3 q4;obtain ⟨⟨z0,z1,z2,z3,z4⟩,z5⟩:=BP.out.five;have y0:=BP.out.frozen 0;have y1:=BP.out.frozen 1;have y2:=BP.out.frozen 2;have y3:=BP.out.frozen 3;have y4:=BP.out.frozen 4;go_wp2_with fail;refine bodyPost_ret (v:=.tuple #[.agg #[.int .i64 0,.int .i64 0,.int .i64 0,.string ⟨#[]⟩,.string ⟨#[]⟩],.int .i64 9]) (by simp[results,Tryz.results41,go_sem,z0,z1,z2,z3,z4]) rfl ?_;refine ⟨rfl,?_⟩;have hN:=HN.out
  repeat first
   | with_reducible exact New.refl _
   | with_reducible refine New.drewN ?_ _
   | with_reducible refine New.drew ?_
   | with_reducible refine New.alloc ?_ _
   | (with_reducible refine New.setCell ?_ ?_ _;rotate_left;(show _≤_+_);omega)
   | with_reducible assumption
 rw[hc1,hc2]at hgoal;exact hgoal
structure RCal (b s z:Int)(g o:ByteArray)(c1:Int)(c2:Int)(V1 V2 X M1 M2 Y G P O:ByteArray)(sg:Int):Prop where
 m1:∀ W,Calls Tryz.prog 101 #[.agg #[.int .i64 b,.int .i64 s,.int .i64 z,.string g,.string o],.agg #[.int .i64 c1,.string V1]] W (RetNew W 0)
 m2:∀ W,Calls Tryz.prog 101 #[.agg #[.int .i64 b,.int .i64 s,.int .i64 z,.string g,.string o],.agg #[.int .i64 c2,.string V2]] W (RetNew W 0)
 s1:∀ W,Calls Tryz.prog 52 #[.string V2,.string V1] W fun e w'=>e=.returned (.string X)∧New W w'
 n1:∀ W,Calls Tryz.prog 77 #[.agg #[.int .i64 b,.int .i64 s,.int .i64 z,.string g,.string o],.int .i64 c1] W fun e w'=>e=.returned (.string M1)∧New W w'
 n2:∀ W,Calls Tryz.prog 77 #[.agg #[.int .i64 b,.int .i64 s,.int .i64 z,.string g,.string o],.int .i64 c2] W fun e w'=>e=.returned (.string M2)∧New W w'
 s2:∀ W,Calls Tryz.prog 52 #[.string M2,.string M1] W fun e w'=>e=.returned (.string Y)∧New W w'
 dv:∀ W,Calls Tryz.prog 84 #[.string X,.string Y] W fun e w'=>e=.returned (.string G)∧New W w'
 sn:∀ W,Calls Tryz.prog 73 #[.string G] W fun e w'=>e=.returned (.int .i64 sg)∧New W w'
 mu:∀ W,Calls Tryz.prog 55 #[.string G,.string M1] W fun e w'=>e=.returned (.string P)∧New W w'
 su:∀ W,Calls Tryz.prog 52 #[.string V1,.string P] W fun e w'=>e=.returned (.string O)∧New W w'
 la:∀ W a cap,RdL W a (strs [G,O])→Calls Tryz.prog 102 #[.slice a 2 cap] W (RetNew W 0)
 ne:c1≠c2
theorem rcal_low (b s z c1 c2 sg:Int)(g o t1 t2 X M1 M2 Y G P O:ByteArray)(w:World)(K:RCal b s z g o c1 c2 t1 t2 X M1 M2 Y G P O sg)(h:sg≤0):
  Calls Tryz.prog 41 #[.agg #[.int .i64 b,.int .i64 s,.int .i64 z,.string g,.string o],.agg #[.int .i64 c1,.string t1],.agg #[.int .i64 c2,.string t2]] w (RetAdc w noAdc 3):=by
 unfold RetAdc noAdc;have hcc:(c1==c2)=false:=beq_false_of_ne K.ne;have hsb:decide (sg≤0)=true:=decide_eq_true h;have hm1:=K.m1;have hm2:=K.m2;have HK:=hid K;have HM1:=hid hm1;have HM2:=hid hm2;clear K hm1 hm2;go_enter Tryz.func41,Tryz.ntmps41;go_upto_region 1 with (fail);have BA:=hid ((Box.alloc w (w.heap.size) 24 #[.int .i64 b,.int .i64 s,.int .i64 z,.string g,.string o] (by simp)).new ((((New.refl _).alloc (.cells #[.int .i64 c1,.string t1] 75)).alloc (.cells #[.int .i64 c2,.string t2] 75)).alloc (.cells #[.int .i64 0,.int .i64 0,.int .i64 0,.string ⟨#[]⟩,.string ⟨#[]⟩] 24)));have B1:=hid ((Box.alloc (w.alloc (.cells #[.int .i64 b,.int .i64 s,.int .i64 z,.string g,.string o] 24)) (w.heap.size+1) 75 #[.int .i64 c1,.string t1] (by simp)).new (((New.refl _).alloc (.cells #[.int .i64 c2,.string t2] 75)).alloc (.cells #[.int .i64 0,.int .i64 0,.int .i64 0,.string ⟨#[]⟩,.string ⟨#[]⟩] 24)));have B2:=hid ((Box.alloc ((w.alloc (.cells #[.int .i64 b,.int .i64 s,.int .i64 z,.string g,.string o] 24)).alloc (.cells #[.int .i64 c1,.string t1] 75)) (w.heap.size+1+1) 75 #[.int .i64 c2,.string t2] (by simp)).new ((New.refl _).alloc (.cells #[.int .i64 0,.int .i64 0,.int .i64 0,.string ⟨#[]⟩,.string ⟨#[]⟩] 24)));have BP:=hid ((Box.alloc (((w.alloc (.cells #[.int .i64 b,.int .i64 s,.int .i64 z,.string g,.string o] 24)).alloc (.cells #[.int .i64 c1,.string t1] 75)).alloc (.cells #[.int .i64 c2,.string t2] 75)) (w.heap.size+1+1+1) 24 #[.int .i64 0,.int .i64 0,.int .i64 0,.string ⟨#[]⟩,.string ⟨#[]⟩] (by simp)).new (New.refl _));have HN:=hid (((((New.refl w).alloc (.cells #[.int .i64 b,.int .i64 s,.int .i64 z,.string g,.string o] 24)).alloc (.cells #[.int .i64 c1,.string t1] 75)).alloc (.cells #[.int .i64 c2,.string t2] 75)).alloc (.cells #[.int .i64 0,.int .i64 0,.int .i64 0,.string ⟨#[]⟩,.string ⟨#[]⟩] 24));obtain ⟨⟨pa0,pa1,pa2,pa3,pa4⟩,pa5⟩:=BA.out.five;obtain ⟨p0,p1,p2,p3,p4⟩:=B1.out.two;obtain ⟨q0,q1,q2,q3,q4⟩:=B2.out.two;go_wp2_with fail;refine (HM1.out _).mono ?_;rintro e w1 ⟨rfl,hn⟩;clear pa0 pa1 pa2 pa3 pa4 pa5;clear p0 p1 p2 p3 p4 q0 q1 q2 q3 q4;replace BA:=bW BA hn;replace B1:=bW B1 hn;replace B2:=bW B2 hn;replace BP:=bW BP hn;replace HN:=tW HN hn;clear hn;obtain ⟨⟨pa0,pa1,pa2,pa3,pa4⟩,pa5⟩:=BA.out.five;obtain ⟨p0,p1,p2,p3,p4⟩:=B1.out.two;obtain ⟨q0,q1,q2,q3,q4⟩:=B2.out.two;go_wp2_with fail;refine (HM2.out _).mono ?_;rintro e w2 ⟨rfl,hn⟩;clear pa0 pa1 pa2 pa3 pa4 pa5;clear p0 p1 p2 p3 p4 q0 q1 q2 q3 q4;replace BA:=bW BA hn;replace B1:=bW B1 hn;replace B2:=bW B2 hn;replace BP:=bW BP hn;replace HN:=tW HN hn;clear hn;obtain ⟨⟨pa0,pa1,pa2,pa3,pa4⟩,pa5⟩:=BA.out.five;obtain ⟨p0,p1,p2,p3,p4⟩:=B1.out.two;obtain ⟨q0,q1,q2,q3,q4⟩:=B2.out.two;go_upto_region 8 with (fail);clear pa0 pa1 pa2 pa3 pa4 pa5;clear p0 p1 p2 p3 p4;clear q0 q1 q2 q3 q4;refine wp_region_T 15 (fun W=>(W.cell? ⟨w.heap.size,0,none⟩=some (.int .i64 b)∧W.cell? ⟨w.heap.size,1,none⟩=some (.int .i64 s)∧W.cell? ⟨w.heap.size,2,none⟩=some (.int .i64 z)∧W.cell? ⟨w.heap.size,3,none⟩=some (.string g)∧W.cell? ⟨w.heap.size,4,none⟩=some (.string o))∧(W.cell? ⟨w.heap.size+1,0,none⟩=some (.int .i64 c1)∧W.cell? ⟨w.heap.size+1,1,none⟩=some (.string t1))∧(W.cell? ⟨w.heap.size+1+1,0,none⟩=some (.int .i64 c2)∧W.cell? ⟨w.heap.size+1+1,1,none⟩=some (.string t2))) 16 #[false,false,false,false,false,false,false,false,false,false,false,false,false,false,false,false] rfl (by kernel_rfl) (by kernel_rfl) ?_;refine tk 0 (by exact ⟨cW5 BA,cW2 B1,cW2 B2⟩) ?_
 try simp only[PT]
 refine tk 1 (by exact ⟨cW5 BA,cW2 B1,cW2 B2⟩) ?_
 try simp only[PT]
 refine tk 2 (by exact ⟨cW5 BA,cW2 B1,cW2 B2⟩) ?_
 try simp only[PT]
 refine tk 3 (by exact ⟨cW5 BA,cW2 B1,cW2 B2⟩) ?_
 try simp only[PT]
 refine tk 5 (by exact ⟨cW5 BA,cW2 B1,cW2 B2⟩) ?_
 try simp only[PT]
 refine tk 6 (by exact ⟨cW5 BA,cW2 B1,cW2 B2⟩) ?_
 try simp only[PT]
 refine tk 7 (by exact ⟨cW5 BA,cW2 B1,cW2 B2⟩) ?_
 try simp only[PT]
 refine tk 9 (by exact ⟨cW5 BA,cW2 B1,cW2 B2⟩) ?_
 try simp only[PT]
 refine tk 10 (by exact ⟨cW5 BA,cW2 B1,cW2 B2⟩) ?_
 try simp only[PT]
 refine tk 11 (by exact ⟨cW5 BA,cW2 B1,cW2 B2⟩) ?_
 try simp only[PT]
 refine tk1 4 fun K hK=>?_;go_simp;refine (HK.out.s1 _).mono ?_;rintro e w3 ⟨rfl,hn⟩;have hn:=hn.undr;replace BA:=bW BA hn;replace B1:=bW B1 hn;replace B2:=bW B2 hn;replace BP:=bW BP hn;replace HN:=tW HN hn;clear hn;refine hK.out _ _ (fun _=>⟨cW5 BA,cW2 B1,cW2 B2⟩) ?_;clear hK K
 try simp only[PT]
 refine tk1 8 fun K hK=>?_;go_simp;refine (HK.out.n2 _).mono ?_;rintro e w4 ⟨rfl,hn⟩;replace BA:=bW BA hn;replace B1:=bW B1 hn;replace B2:=bW B2 hn;replace BP:=bW BP hn;replace HN:=tW HN hn;clear hn;refine hK.out _ _ (fun _=>⟨cW5 BA,cW2 B1,cW2 B2⟩) ?_;clear hK K
 try simp only[PT]
 refine tk1 12 fun K hK=>?_;go_simp;refine (HK.out.n1 _).mono ?_;rintro e w5 ⟨rfl,hn⟩;replace BA:=bW BA hn;replace B1:=bW B1 hn;replace B2:=bW B2 hn;replace BP:=bW BP hn;replace HN:=tW HN hn;clear hn;refine hK.out _ _ (fun _=>⟨cW5 BA,cW2 B1,cW2 B2⟩) ?_;clear hK K
 try simp only[PT]
 refine tk1 13 fun K hK=>?_;go_simp;refine (HK.out.s2 _).mono ?_;rintro e w6 ⟨rfl,hn⟩;replace BA:=bW BA hn;replace B1:=bW B1 hn;replace B2:=bW B2 hn;replace BP:=bW BP hn;replace HN:=tW HN hn;clear hn;refine hK.out _ _ (fun _=>⟨cW5 BA,cW2 B1,cW2 B2⟩) ?_;clear hK K
 try simp only[PT]
 refine tk1 14 fun K hK=>?_;go_simp;refine (HK.out.dv _).mono ?_;rintro e w7 ⟨rfl,hn⟩;replace BA:=bW BA hn;replace B1:=bW B1 hn;replace B2:=bW B2 hn;replace BP:=bW BP hn;replace HN:=tW HN hn;clear hn;refine hK.out _ _ (fun _=>⟨cW5 BA,cW2 B1,cW2 B2⟩) ?_;clear hK K
 try simp only[PT]
 refine tlW ?_;obtain ⟨⟨pa0,pa1,pa2,pa3,pa4⟩,pa5⟩:=BA.out.five;obtain ⟨p0,p1,p2,p3,p4⟩:=B1.out.two;obtain ⟨q0,q1,q2,q3,q4⟩:=B2.out.two;go_wp2_with fail;refine (HK.out.sn _).mono ?_;rintro e w8 ⟨rfl,hn⟩;clear pa0 pa1 pa2 pa3 pa4 pa5;clear p0 p1 p2 p3 p4 q0 q1 q2 q3 q4;replace BA:=bW BA hn;replace B1:=bW B1 hn;replace B2:=bW B2 hn;replace BP:=bW BP hn;replace HN:=tW HN hn;clear hn;obtain ⟨⟨pa0,pa1,pa2,pa3,pa4⟩,pa5⟩:=BA.out.five;obtain ⟨p0,p1,p2,p3,p4⟩:=B1.out.two;obtain ⟨q0,q1,q2,q3,q4⟩:=B2.out.two;clear pa0 pa1 pa2 pa3 pa4 pa5;clear p0 p1 p2 p3 p4 q0 q1 q2 q3 q4;obtain ⟨⟨z0,z1,z2,z3,z4⟩,z5⟩:=BP.out.five;have y0:=BP.out.frozen 0;have y1:=BP.out.frozen 1;have y2:=BP.out.frozen 2;have y3:=BP.out.frozen 3;have y4:=BP.out.frozen 4;go_wp2_with fail;refine bodyPost_ret (v:=.tuple #[.agg #[.int .i64 0,.int .i64 0,.int .i64 0,.string ⟨#[]⟩,.string ⟨#[]⟩],.int .i64 3]) (by simp[results,Tryz.results41,go_sem,z0,z1,z2,z3,z4]) rfl ?_;refine ⟨rfl,?_⟩;have hN:=HN.out
 repeat first
  | with_reducible exact New.refl _
  | with_reducible refine New.drewN ?_ _
  | with_reducible refine New.drew ?_
  | with_reducible refine New.alloc ?_ _
  | (with_reducible refine New.setCell ?_ ?_ _;rotate_left;(show _≤_+_);omega)
  | with_reducible assumption
end Go.Proofs.YtbkcjmojgglbkaaGreatDoor
