/- Part B32. -/
import Derived.Test.YtbkcjmojgglbkaaGreatDoorB31
namespace Go.Proofs.YtbkcjmojgglbkaaGreatDoor
open Go.RowKit Big Go.Lib
set_option maxRecDepth 100000
set_option maxHeartbeats 8000000
theorem rmul_divInt (a b:Rat):a*b=Rat.divInt (a.num*b.num) (a.den*b.den):=by
 rw[Rat.mul_def'];rfl
theorem radd_divInt (a b:Rat):a+b=Rat.divInt (a.num*b.den+b.num*a.den) (a.den*b.den):=by
 rw[Rat.add_def'];rfl
theorem pow_b9 {n j K:Nat}(h:n < 2^j)(hj:j≤K):n < B9^K:=by
 have h1:2^j≤B9^j:=Nat.pow_le_pow_left (by decide) j;have h2:B9^j≤B9^K:=Nat.pow_le_pow_right (by decide) hj;omega
theorem mul_small {a c:Int}{b d:Nat}(h1:a.natAbs < 1000000000)(h2:b < 1000000000)(h3:c.natAbs < 1000000000)(h4:d < 1000000000):
  -1000000000000000000 < a*c∧a*c < 1000000000000000000∧b*d < 1000000000000000000∧(a*d).natAbs < 1000000000000000000∧(c*b).natAbs < 1000000000000000000:=by
 have k1:(a*c).natAbs < 1000000000*1000000000:=by rw[Int.natAbs_mul];exact Nat.mul_lt_mul'' h1 h3
 have k2:b*d < 1000000000*1000000000:=Nat.mul_lt_mul'' h2 h4
 have k3:(a*(d:Int)).natAbs < 1000000000*1000000000:=by rw[Int.natAbs_mul];exact Nat.mul_lt_mul'' h1 (by simpa using h4)
 have k4:(c*(b:Int)).natAbs < 1000000000*1000000000:=by rw[Int.natAbs_mul];exact Nat.mul_lt_mul'' h3 (by simpa using h2)
 refine ⟨by omega,by omega,by omega,by omega,by omega⟩
theorem rmulQ_calls (j k:Nat)(x y:Rat)(w:World)(hx:RFB j x)(hy:RFB k y)(hjk:j+k≤40000):Calls Tryz.prog 55 #[.string (rs x),.string (rs y)] w (RetS w (x*y)):=by
 have hqx:=fun W=>rquick_calls j x W hx (by omega);have hqy:=fun W=>rquick_calls k y W hy (by omega);have hpx:=fun W=>rparts_calls j x W hx (by omega);have hpy:=fun W=>rparts_calls k y W hy (by omega);have ht1:=fun W va vb (ha:IsZ W va x.num) (hb:IsZ W vb y.num)=>rtimes_calls (j+k) va vb x.num y.num W ha hb (by omega) (pow_b9 hx.num (by omega)) (pow_b9 hy.num (by omega));have ht2:=fun W va vb (ha:IsZ W va (x.den:Int)) (hb:IsZ W vb (y.den:Int))=>rtimes_calls (j+k) va vb x.den y.den W ha hb (by omega) (pow_b9 (by simpa using hx.den) (by omega)) (pow_b9 (by simpa using hy.den) (by omega))
 have hfr:=fun W va vb (ha:IsZ W va (x.num*y.num)) (hb:IsZ W vb ((x.den:Int)*(y.den:Int)))=>rfraction_pos (j+k) va vb _ _ W ha hb (by omega)
  (by rw[Int.natAbs_mul];exact pow_b9 (by rw[Nat.pow_add];exact Nat.mul_lt_mul'' hx.num hy.num) (Nat.le_refl _))
  (by rw[Int.natAbs_mul];exact pow_b9 (by rw[Nat.pow_add];exact Nat.mul_lt_mul'' (by simpa using hx.den) (by simpa using hy.den)) (Nat.le_refl _))
  (Int.mul_pos (by have:=x.den_nz;omega) (by have:=y.den_nz;omega))
 have hof:=fun (h1:x.num.natAbs < 1000000000) (h2:x.den < 1000000000) (h3:y.num.natAbs < 1000000000) (h4:y.den < 1000000000) W=>rof_calls (x.num*y.num) (x.den*y.den) W (by obtain ⟨p1,p2,p3,p4,p5⟩:=mul_small h1 h2 h3 h4;omega) (by obtain ⟨p1,p2,p3,p4,p5⟩:=mul_small h1 h2 h3 h4;omega)
  (Nat.mul_pos (Nat.pos_of_ne_zero x.den_nz) (Nat.pos_of_ne_zero y.den_nz)) (by obtain ⟨p1,p2,p3,p4,p5⟩:=mul_small h1 h2 h3 h4;omega)
 have hdd:((x.den*y.den:Nat):Int)=(x.den:Int)*(y.den:Int):=Int.natCast_mul _ _;simp only[hdd] at hof;rw[←rmul_divInt] at hfr;simp only[←rmul_divInt] at hof;obtain ⟨R,hR⟩:∃ R,x*y=R:=⟨_,rfl⟩;obtain ⟨A,hA⟩:∃ A,rs x=A:=⟨_,rfl⟩;obtain ⟨B,hB⟩:∃ B,rs y=B:=⟨_,rfl⟩;simp only[hA] at hqx hpx;simp only[hB] at hqy hpy;simp only[hR] at hfr hof;rw[hA,hB,hR];clear hA hB hx hy hjk hdd;have HQX:=hid hqx;have HQY:=hid hqy;have HPX:=hid hpx;have HPY:=hid hpy;have HT1:=hid ht1;have HT2:=hid ht2;have HFR:=hid hfr;have HR:=hid hR;have HOF:=hid hof;clear hqx hqy hpx hpy ht1 ht2 hfr hR hof;have hn0:=New.refl w;have HN:=hid hn0;clear hn0;go_enter Tryz.func55,Tryz.ntmps55;go_wp2_with fail;refine (HQX.out _).mono ?_;rintro e w1 ⟨hw1,rfl | ⟨h1,h2,rfl⟩⟩
 ·rw[hw1];clear hw1;go_wp2_with fail;refine (HQY.out _).mono ?_;rintro e w1 ⟨hw1,hq⟩
  obtain ⟨n2,d2,o2,rfl⟩:∃ n2 d2 o2,e=.returned (.tuple #[.int .i64 n2,.int .i64 d2,.bool o2]):=by
   rcases hq with rfl | ⟨_,_,rfl⟩
   ·exact ⟨_,_,_,rfl⟩
   ·exact ⟨_,_,_,rfl⟩
  rw[hw1];clear hw1 hq;go_wp2_with fail;refine (HPX.out _).mono ?_;rintro e w1 ⟨v1,v2,rfl,hn,hz1,hz2⟩;obtain ⟨b1,a1,l1,c1,rfl⟩:=hz1.shape;obtain ⟨b2,a2,l2,c2,rfl⟩:=hz2.shape;have HZ1:=hid hz1;have HZ2:=hid hz2;clear hz1 hz2;replace HN:=tW HN hn;clear hn;go_wp2_with fail;have HN0:=HN;clear HN;obtain ⟨BA,BB,HN⟩:=lay2 w1 137 #[.bool b1,.slice a1 l1 c1] 137 #[.bool b2,.slice a2 l2 c2];replace HZ1:=hid (HZ1.out.new HN.out);replace HZ2:=hid (HZ2.out.new HN.out);have HN_:=HN0.out.trans HN.out;clear HN HN0;have HN:=hid HN_;clear HN_;refine (HPY.out _).mono ?_;rintro e w2 ⟨v3,v4,rfl,hn,hz3,hz4⟩;obtain ⟨b3,a3,l3,c3,rfl⟩:=hz3.shape;obtain ⟨b4,a4,l4,c4,rfl⟩:=hz4.shape;have HZ3:=hid hz3;have HZ4:=hid hz4;clear hz3 hz4;replace BA:=bW BA hn;replace BB:=bW BB hn;replace HZ1:=hid (HZ1.out.new hn);replace HZ2:=hid (HZ2.out.new hn);replace HN:=tW HN hn;clear hn;go_wp2_with fail;have HN0:=HN;clear HN;obtain ⟨BC,BD,HN⟩:=lay2 w2 137 #[.bool b3,.slice a3 l3 c3] 137 #[.bool b4,.slice a4 l4 c4];replace BA:=hid (BA.out.new HN.out);replace BB:=hid (BB.out.new HN.out);replace HZ1:=hid (HZ1.out.new HN.out);replace HZ2:=hid (HZ2.out.new HN.out);replace HZ3:=hid (HZ3.out.new HN.out);replace HZ4:=hid (HZ4.out.new HN.out);have HN_:=HN0.out.trans HN.out;clear HN HN0;have HN:=hid HN_;clear HN_;obtain ⟨pa0,pa1,pa2,pa3,pa4⟩:=BA.out.two;obtain ⟨pb0,pb1,pb2,pb3,pb4⟩:=BB.out.two;obtain ⟨pc0,pc1,pc2,pc3,pc4⟩:=BC.out.two;obtain ⟨pd0,pd1,pd2,pd3,pd4⟩:=BD.out.two;clear pa0 pa1 pa2 pa3 pa4;clear pb0 pb1 pb2 pb3 pb4;clear pc0 pc1 pc2 pc3 pc4;clear pd0 pd1 pd2 pd3 pd4;refine wp_region_T 7 (fun W=>(W.cell? ⟨w1.heap.size,0,none⟩=some (.bool b1)∧W.cell? ⟨w1.heap.size,1,none⟩=some (.slice a1 l1 c1))∧(W.cell? ⟨w1.heap.size+1,0,none⟩=some (.bool b2)∧W.cell? ⟨w1.heap.size+1,1,none⟩=some (.slice a2 l2 c2))∧(W.cell? ⟨w2.heap.size,0,none⟩=some (.bool b3)∧W.cell? ⟨w2.heap.size,1,none⟩=some (.slice a3 l3 c3))∧(W.cell? ⟨w2.heap.size+1,0,none⟩=some (.bool b4)∧W.cell? ⟨w2.heap.size+1,1,none⟩=some (.slice a4 l4 c4))) 8 #[false,false,false,false,false,false,false,false] rfl (by kernel_rfl) (by kernel_rfl) ?_;refine tk 0 (by exact ⟨cW2 BA,cW2 BB,cW2 BC,cW2 BD⟩) ?_
  try simp only[PT]
  refine tk 1 (by exact ⟨cW2 BA,cW2 BB,cW2 BC,cW2 BD⟩) ?_
  try simp only[PT]
  refine tk 3 (by exact ⟨cW2 BA,cW2 BB,cW2 BC,cW2 BD⟩) ?_
  try simp only[PT]
  refine tk 4 (by exact ⟨cW2 BA,cW2 BB,cW2 BC,cW2 BD⟩) ?_
  try simp only[PT]
  refine tk1 2 fun K hK=>?_;go_simp;refine (HT1.out _ _ _ (HZ1.out.new ((New.refl _).drew)) (HZ3.out.new ((New.refl _).drew))).mono ?_;rintro e w3 ⟨v5,rfl,hn,hz5⟩;have hn:=hn.undr;obtain ⟨b5,a5,l5,c5,rfl⟩:=hz5.shape;have HZ5:=hid hz5;clear hz5;replace BA:=bW BA hn;replace BB:=bW BB hn;replace BC:=bW BC hn;replace BD:=bW BD hn;replace HZ2:=hid (HZ2.out.new hn);replace HZ4:=hid (HZ4.out.new hn);replace HN:=tW HN hn;clear hn;refine hK.out _ _ (fun _=>⟨cW2 BA,cW2 BB,cW2 BC,cW2 BD⟩) ?_;clear hK K
  try simp only[PT]
  refine tk1 5 fun K hK=>?_;go_simp;refine (HT2.out _ _ _ HZ2.out HZ4.out).mono ?_;rintro e w4 ⟨v6,rfl,hn,hz6⟩;obtain ⟨b6,a6,l6,c6,rfl⟩:=hz6.shape;have HZ6:=hid hz6;clear hz6;replace BA:=bW BA hn;replace BB:=bW BB hn;replace BC:=bW BC hn;replace BD:=bW BD hn;replace HZ5:=hid (HZ5.out.new hn);replace HN:=tW HN hn;clear hn;refine hK.out _ _ (fun _=>⟨cW2 BA,cW2 BB,cW2 BC,cW2 BD⟩) ?_;clear hK K
  try simp only[PT]
  refine tk1 6 fun K hK=>?_;go_simp;refine (HFR.out _ _ _ HZ5.out HZ6.out).mono ?_;rintro e w5 ⟨rfl,hn⟩;replace BA:=bW BA hn;replace BB:=bW BB hn;replace BC:=bW BC hn;replace BD:=bW BD hn;replace HN:=tW HN hn;clear hn;refine hK.out _ _ (fun _=>⟨cW2 BA,cW2 BB,cW2 BC,cW2 BD⟩) ?_;clear hK K
  try simp only[PT]
  refine tlW ?_;obtain ⟨pa0,pa1,pa2,pa3,pa4⟩:=BA.out.two;obtain ⟨pb0,pb1,pb2,pb3,pb4⟩:=BB.out.two;obtain ⟨pc0,pc1,pc2,pc3,pc4⟩:=BC.out.two;obtain ⟨pd0,pd1,pd2,pd3,pd4⟩:=BD.out.two;go_wp2_with fail;go_ret;exact ⟨rfl,HN.out⟩
 ·rw[hw1];clear hw1;have H1:=hid h1;have H2:=hid h2;clear h1 h2;go_wp2_with fail;refine (HQY.out _).mono ?_;rintro e w1 ⟨hw1,rfl | ⟨h3,h4,rfl⟩⟩
  ·rw[hw1];clear hw1;go_wp2_with fail;refine (HPX.out _).mono ?_;rintro e w1 ⟨v1,v2,rfl,hn,hz1,hz2⟩;obtain ⟨b1,a1,l1,c1,rfl⟩:=hz1.shape;obtain ⟨b2,a2,l2,c2,rfl⟩:=hz2.shape;have HZ1:=hid hz1;have HZ2:=hid hz2;clear hz1 hz2;replace HN:=tW HN hn;clear hn;go_wp2_with fail;have HN0:=HN;clear HN;obtain ⟨BA,BB,HN⟩:=lay2 w1 137 #[.bool b1,.slice a1 l1 c1] 137 #[.bool b2,.slice a2 l2 c2];replace HZ1:=hid (HZ1.out.new HN.out);replace HZ2:=hid (HZ2.out.new HN.out);have HN_:=HN0.out.trans HN.out;clear HN HN0;have HN:=hid HN_;clear HN_;refine (HPY.out _).mono ?_;rintro e w2 ⟨v3,v4,rfl,hn,hz3,hz4⟩;obtain ⟨b3,a3,l3,c3,rfl⟩:=hz3.shape;obtain ⟨b4,a4,l4,c4,rfl⟩:=hz4.shape;have HZ3:=hid hz3;have HZ4:=hid hz4;clear hz3 hz4;replace BA:=bW BA hn;replace BB:=bW BB hn;replace HZ1:=hid (HZ1.out.new hn);replace HZ2:=hid (HZ2.out.new hn);replace HN:=tW HN hn;clear hn;go_wp2_with fail;have HN0:=HN;clear HN;obtain ⟨BC,BD,HN⟩:=lay2 w2 137 #[.bool b3,.slice a3 l3 c3] 137 #[.bool b4,.slice a4 l4 c4];replace BA:=hid (BA.out.new HN.out);replace BB:=hid (BB.out.new HN.out);replace HZ1:=hid (HZ1.out.new HN.out);replace HZ2:=hid (HZ2.out.new HN.out);replace HZ3:=hid (HZ3.out.new HN.out);replace HZ4:=hid (HZ4.out.new HN.out);have HN_:=HN0.out.trans HN.out;clear HN HN0;have HN:=hid HN_;clear HN_;obtain ⟨pa0,pa1,pa2,pa3,pa4⟩:=BA.out.two;obtain ⟨pb0,pb1,pb2,pb3,pb4⟩:=BB.out.two;obtain ⟨pc0,pc1,pc2,pc3,pc4⟩:=BC.out.two;obtain ⟨pd0,pd1,pd2,pd3,pd4⟩:=BD.out.two;clear pa0 pa1 pa2 pa3 pa4;clear pb0 pb1 pb2 pb3 pb4;clear pc0 pc1 pc2 pc3 pc4;clear pd0 pd1 pd2 pd3 pd4;refine wp_region_T 7 (fun W=>(W.cell? ⟨w1.heap.size,0,none⟩=some (.bool b1)∧W.cell? ⟨w1.heap.size,1,none⟩=some (.slice a1 l1 c1))∧(W.cell? ⟨w1.heap.size+1,0,none⟩=some (.bool b2)∧W.cell? ⟨w1.heap.size+1,1,none⟩=some (.slice a2 l2 c2))∧(W.cell? ⟨w2.heap.size,0,none⟩=some (.bool b3)∧W.cell? ⟨w2.heap.size,1,none⟩=some (.slice a3 l3 c3))∧(W.cell? ⟨w2.heap.size+1,0,none⟩=some (.bool b4)∧W.cell? ⟨w2.heap.size+1,1,none⟩=some (.slice a4 l4 c4))) 8 #[false,false,false,false,false,false,false,false] rfl (by kernel_rfl) (by kernel_rfl) ?_;refine tk 0 (by exact ⟨cW2 BA,cW2 BB,cW2 BC,cW2 BD⟩) ?_
   try simp only[PT]
   refine tk 1 (by exact ⟨cW2 BA,cW2 BB,cW2 BC,cW2 BD⟩) ?_
   try simp only[PT]
   refine tk 3 (by exact ⟨cW2 BA,cW2 BB,cW2 BC,cW2 BD⟩) ?_
   try simp only[PT]
   refine tk 4 (by exact ⟨cW2 BA,cW2 BB,cW2 BC,cW2 BD⟩) ?_
   try simp only[PT]
   refine tk1 2 fun K hK=>?_;go_simp;refine (HT1.out _ _ _ (HZ1.out.new ((New.refl _).drew)) (HZ3.out.new ((New.refl _).drew))).mono ?_;rintro e w3 ⟨v5,rfl,hn,hz5⟩;have hn:=hn.undr;obtain ⟨b5,a5,l5,c5,rfl⟩:=hz5.shape;have HZ5:=hid hz5;clear hz5;replace BA:=bW BA hn;replace BB:=bW BB hn;replace BC:=bW BC hn;replace BD:=bW BD hn;replace HZ2:=hid (HZ2.out.new hn);replace HZ4:=hid (HZ4.out.new hn);replace HN:=tW HN hn;clear hn;refine hK.out _ _ (fun _=>⟨cW2 BA,cW2 BB,cW2 BC,cW2 BD⟩) ?_;clear hK K
   try simp only[PT]
   refine tk1 5 fun K hK=>?_;go_simp;refine (HT2.out _ _ _ HZ2.out HZ4.out).mono ?_;rintro e w4 ⟨v6,rfl,hn,hz6⟩;obtain ⟨b6,a6,l6,c6,rfl⟩:=hz6.shape;have HZ6:=hid hz6;clear hz6;replace BA:=bW BA hn;replace BB:=bW BB hn;replace BC:=bW BC hn;replace BD:=bW BD hn;replace HZ5:=hid (HZ5.out.new hn);replace HN:=tW HN hn;clear hn;refine hK.out _ _ (fun _=>⟨cW2 BA,cW2 BB,cW2 BC,cW2 BD⟩) ?_;clear hK K
   try simp only[PT]
   refine tk1 6 fun K hK=>?_;go_simp;refine (HFR.out _ _ _ HZ5.out HZ6.out).mono ?_;rintro e w5 ⟨rfl,hn⟩;replace BA:=bW BA hn;replace BB:=bW BB hn;replace BC:=bW BC hn;replace BD:=bW BD hn;replace HN:=tW HN hn;clear hn;refine hK.out _ _ (fun _=>⟨cW2 BA,cW2 BB,cW2 BC,cW2 BD⟩) ?_;clear hK K
   try simp only[PT]
   refine tlW ?_;obtain ⟨pa0,pa1,pa2,pa3,pa4⟩:=BA.out.two;obtain ⟨pb0,pb1,pb2,pb3,pb4⟩:=BB.out.two;obtain ⟨pc0,pc1,pc2,pc3,pc4⟩:=BC.out.two;obtain ⟨pd0,pd1,pd2,pd3,pd4⟩:=BD.out.two;go_wp2_with fail;go_ret;exact ⟨rfl,HN.out⟩
  ·rw[hw1];clear hw1;have hof:=HOF.out H1.out H2.out h3 h4;obtain ⟨p1,p2,p3,p4,p5⟩:=mul_small H1.out H2.out h3 h4;obtain ⟨D,hD⟩:∃ D,x.den*y.den=D:=⟨_,rfl⟩;obtain ⟨P,hP⟩:∃ P,x.num*y.num=P:=⟨_,rfl⟩
   have hDi:(x.den:Int)*(y.den:Int)=(D:Int):=by rw[←hD,Int.natCast_mul]
   simp only[hDi,hP]at hof;rw[hD] at p3;rw[hP] at p1 p2
   have hD2:(D:Int) < 1000000000000000000:=by omega
   clear h3 h4 p3 hD p4 p5 H1 H2;have HF:=hid hof;clear hof;go_wp2_with fail;refine (HF.out _).mono ?_;rintro e w2 ⟨rfl,hn⟩;replace HN:=tW HN hn;clear hn;go_wp2_with fail;go_ret;exact ⟨rfl,HN.out⟩
theorem raddQ_calls (j k:Nat)(x y:Rat)(w:World)(hx:RFB j x)(hy:RFB k y)(hjk:j+k≤40000):Calls Tryz.prog 54 #[.string (rs x),.string (rs y)] w (RetS w (x+y)):=by
 have hqx:=fun W=>rquick_calls j x W hx (by omega);have hqy:=fun W=>rquick_calls k y W hy (by omega);have hpx:=fun W=>rparts_calls j x W hx (by omega);have hpy:=fun W=>rparts_calls k y W hy (by omega)
 have hxd:((x.den:Int)).natAbs < 2^j:=by simpa using hx.den
 have hyd:((y.den:Int)).natAbs < 2^k:=by simpa using hy.den
 have k1:(x.num*(y.den:Int)).natAbs < 2^(j+k):=by rw[Int.natAbs_mul,Nat.pow_add];exact Nat.mul_lt_mul'' hx.num hyd
 have k2:(y.num*(x.den:Int)).natAbs < 2^(j+k):=by rw[Int.natAbs_mul,Nat.pow_add,Nat.mul_comm (2^j)];exact Nat.mul_lt_mul'' hy.num hxd
 have k3:((x.den:Int)*(y.den:Int)).natAbs < 2^(j+k):=by rw[Int.natAbs_mul,Nat.pow_add];exact Nat.mul_lt_mul'' hxd hyd
 have k4:(x.num*(y.den:Int)+y.num*(x.den:Int)).natAbs < 2^(j+k+1):=by rw[Nat.pow_succ];omega
 have ht1:=fun W va vb (ha:IsZ W va x.num) (hb:IsZ W vb (y.den:Int))=>rtimes_calls (j+k) va vb x.num y.den W ha hb (by omega) (pow_b9 hx.num (by omega)) (pow_b9 hyd (by omega));have ht2:=fun W va vb (ha:IsZ W va y.num) (hb:IsZ W vb (x.den:Int))=>rtimes_calls (j+k) va vb y.num x.den W ha hb (by omega) (pow_b9 hy.num (by omega)) (pow_b9 hxd (by omega));have ht3:=fun W va vb (ha:IsZ W va (x.den:Int)) (hb:IsZ W vb (y.den:Int))=>rtimes_calls (j+k) va vb x.den y.den W ha hb (by omega) (pow_b9 hxd (by omega)) (pow_b9 hyd (by omega));have hpl:=fun W va vb (ha:IsZ W va (x.num*(y.den:Int))) (hb:IsZ W vb (y.num*(x.den:Int)))=>rplus_calls (j+k) va vb _ _ W ha hb (by omega) (pow_b9 k1 (Nat.le_refl _)) (pow_b9 k2 (Nat.le_refl _))
 have hfr:=fun W va vb (ha:IsZ W va (x.num*(y.den:Int)+y.num*(x.den:Int))) (hb:IsZ W vb ((x.den:Int)*(y.den:Int)))=>rfraction_pos (j+k+1) va vb _ _ W ha hb (by omega)
  (pow_b9 k4 (Nat.le_refl _)) (pow_b9 k3 (by omega)) (Int.mul_pos (by have:=x.den_nz;omega) (by have:=y.den_nz;omega))
 have hof:=fun (h1:x.num.natAbs < 1000000000) (h2:x.den < 1000000000) (h3:y.num.natAbs < 1000000000) (h4:y.den < 1000000000) W=>rof_calls (x.num*(y.den:Int)+y.num*(x.den:Int)) (x.den*y.den) W (by obtain ⟨p1,p2,p3,p4,p5⟩:=mul_small h1 h2 h3 h4;omega) (by obtain ⟨p1,p2,p3,p4,p5⟩:=mul_small h1 h2 h3 h4;omega)
  (Nat.mul_pos (Nat.pos_of_ne_zero x.den_nz) (Nat.pos_of_ne_zero y.den_nz)) (by obtain ⟨p1,p2,p3,p4,p5⟩:=mul_small h1 h2 h3 h4;omega)
 have hdd:((x.den*y.den:Nat):Int)=(x.den:Int)*(y.den:Int):=Int.natCast_mul _ _;simp only[hdd] at hof;rw[←radd_divInt] at hfr;simp only[←radd_divInt] at hof;obtain ⟨R,hR⟩:∃ R,x+y=R:=⟨_,rfl⟩;obtain ⟨A,hA⟩:∃ A,rs x=A:=⟨_,rfl⟩;obtain ⟨B,hB⟩:∃ B,rs y=B:=⟨_,rfl⟩;simp only[hA] at hqx hpx;simp only[hB] at hqy hpy;simp only[hR] at hfr hof;rw[hA,hB,hR];clear hA hB hx hy hjk hdd hxd hyd k1 k2 k3 k4;have HQX:=hid hqx;have HQY:=hid hqy;have HPX:=hid hpx;have HPY:=hid hpy;have HT1:=hid ht1;have HT2:=hid ht2;have HT3:=hid ht3;have HPL:=hid hpl;have HFR:=hid hfr;have HR:=hid hR;have HOF:=hid hof;clear hqx hqy hpx hpy ht1 ht2 ht3 hpl hfr hR hof;have hn0:=New.refl w;have HN:=hid hn0;clear hn0;go_enter Tryz.func54,Tryz.ntmps54;go_wp2_with fail;refine (HQX.out _).mono ?_;rintro e w1 ⟨hw1,rfl | ⟨h1,h2,rfl⟩⟩
 ·rw[hw1];clear hw1;go_wp2_with fail;refine (HQY.out _).mono ?_;rintro e w1 ⟨hw1,hq⟩
  obtain ⟨n2,d2,o2,rfl⟩:∃ n2 d2 o2,e=.returned (.tuple #[.int .i64 n2,.int .i64 d2,.bool o2]):=by
   rcases hq with rfl | ⟨_,_,rfl⟩
   ·exact ⟨_,_,_,rfl⟩
   ·exact ⟨_,_,_,rfl⟩
  rw[hw1];clear hw1 hq;go_wp2_with fail;refine (HPX.out _).mono ?_;rintro e w1 ⟨v1,v2,rfl,hn,hz1,hz2⟩;obtain ⟨b1,a1,l1,c1,rfl⟩:=hz1.shape;obtain ⟨b2,a2,l2,c2,rfl⟩:=hz2.shape;have HZ1:=hid hz1;have HZ2:=hid hz2;clear hz1 hz2;replace HN:=tW HN hn;clear hn;go_wp2_with fail;have HN0:=HN;clear HN;obtain ⟨BA,BB,HN⟩:=lay2 w1 137 #[.bool b1,.slice a1 l1 c1] 137 #[.bool b2,.slice a2 l2 c2];replace HZ1:=hid (HZ1.out.new HN.out);replace HZ2:=hid (HZ2.out.new HN.out);have HN_:=HN0.out.trans HN.out;clear HN HN0;have HN:=hid HN_;clear HN_;refine (HPY.out _).mono ?_;rintro e w2 ⟨v3,v4,rfl,hn,hz3,hz4⟩;obtain ⟨b3,a3,l3,c3,rfl⟩:=hz3.shape;obtain ⟨b4,a4,l4,c4,rfl⟩:=hz4.shape;have HZ3:=hid hz3;have HZ4:=hid hz4;clear hz3 hz4;replace BA:=bW BA hn;replace BB:=bW BB hn;replace HZ1:=hid (HZ1.out.new hn);replace HZ2:=hid (HZ2.out.new hn);replace HN:=tW HN hn;clear hn;go_wp2_with fail;have HN0:=HN;clear HN;obtain ⟨BC,BD,HN⟩:=lay2 w2 137 #[.bool b3,.slice a3 l3 c3] 137 #[.bool b4,.slice a4 l4 c4];replace BA:=hid (BA.out.new HN.out);replace BB:=hid (BB.out.new HN.out);replace HZ1:=hid (HZ1.out.new HN.out);replace HZ2:=hid (HZ2.out.new HN.out);replace HZ3:=hid (HZ3.out.new HN.out);replace HZ4:=hid (HZ4.out.new HN.out);have HN_:=HN0.out.trans HN.out;clear HN HN0;have HN:=hid HN_;clear HN_;obtain ⟨pa0,pa1,pa2,pa3,pa4⟩:=BA.out.two;obtain ⟨pb0,pb1,pb2,pb3,pb4⟩:=BB.out.two;obtain ⟨pc0,pc1,pc2,pc3,pc4⟩:=BC.out.two;obtain ⟨pd0,pd1,pd2,pd3,pd4⟩:=BD.out.two;clear pa0 pa1 pa2 pa3 pa4;clear pb0 pb1 pb2 pb3 pb4;clear pc0 pc1 pc2 pc3 pc4;clear pd0 pd1 pd2 pd3 pd4;refine wp_region_T 11 (fun W=>(W.cell? ⟨w1.heap.size,0,none⟩=some (.bool b1)∧W.cell? ⟨w1.heap.size,1,none⟩=some (.slice a1 l1 c1))∧(W.cell? ⟨w1.heap.size+1,0,none⟩=some (.bool b2)∧W.cell? ⟨w1.heap.size+1,1,none⟩=some (.slice a2 l2 c2))∧(W.cell? ⟨w2.heap.size,0,none⟩=some (.bool b3)∧W.cell? ⟨w2.heap.size,1,none⟩=some (.slice a3 l3 c3))∧(W.cell? ⟨w2.heap.size+1,0,none⟩=some (.bool b4)∧W.cell? ⟨w2.heap.size+1,1,none⟩=some (.slice a4 l4 c4))) 12 #[false,false,false,false,false,false,false,false,false,false,false,false] rfl (by kernel_rfl) (by kernel_rfl) ?_;refine tk 0 (by exact ⟨cW2 BA,cW2 BB,cW2 BC,cW2 BD⟩) ?_
  try simp only[PT]
  refine tk 1 (by exact ⟨cW2 BA,cW2 BB,cW2 BC,cW2 BD⟩) ?_
  try simp only[PT]
  refine tk 3 (by exact ⟨cW2 BA,cW2 BB,cW2 BC,cW2 BD⟩) ?_
  try simp only[PT]
  refine tk 4 (by exact ⟨cW2 BA,cW2 BB,cW2 BC,cW2 BD⟩) ?_
  try simp only[PT]
  refine tk 7 (by exact ⟨cW2 BA,cW2 BB,cW2 BC,cW2 BD⟩) ?_
  try simp only[PT]
  refine tk 8 (by exact ⟨cW2 BA,cW2 BB,cW2 BC,cW2 BD⟩) ?_
  try simp only[PT]
  refine tk1 2 fun K hK=>?_;go_simp;refine (HT1.out _ _ _ (HZ1.out.new ((New.refl _).drew)) (HZ4.out.new ((New.refl _).drew))).mono ?_;rintro e w3 ⟨v5,rfl,hn,hz5⟩;have hn:=hn.undr;obtain ⟨b5,a5,l5,c5,rfl⟩:=hz5.shape;have HZ5:=hid hz5;clear hz5;replace BA:=bW BA hn;replace BB:=bW BB hn;replace BC:=bW BC hn;replace BD:=bW BD hn;replace HZ2:=hid (HZ2.out.new hn);replace HZ3:=hid (HZ3.out.new hn);replace HZ4:=hid (HZ4.out.new hn);replace HN:=tW HN hn;clear hn;refine hK.out _ _ (fun _=>⟨cW2 BA,cW2 BB,cW2 BC,cW2 BD⟩) ?_;clear hK K
  try simp only[PT]
  refine tk1 5 fun K hK=>?_;go_simp;refine (HT2.out _ _ _ HZ3.out HZ2.out).mono ?_;rintro e w4 ⟨v6,rfl,hn,hz6⟩;obtain ⟨b6,a6,l6,c6,rfl⟩:=hz6.shape;have HZ6:=hid hz6;clear hz6;replace BA:=bW BA hn;replace BB:=bW BB hn;replace BC:=bW BC hn;replace BD:=bW BD hn;replace HZ2:=hid (HZ2.out.new hn);replace HZ4:=hid (HZ4.out.new hn);replace HZ5:=hid (HZ5.out.new hn);replace HN:=tW HN hn;clear hn;refine hK.out _ _ (fun _=>⟨cW2 BA,cW2 BB,cW2 BC,cW2 BD⟩) ?_;clear hK K
  try simp only[PT]
  refine tk1 6 fun K hK=>?_;go_simp;refine (HPL.out _ _ _ HZ5.out HZ6.out).mono ?_;rintro e w5 ⟨v7,rfl,hn,hz7⟩;obtain ⟨b7,a7,l7,c7,rfl⟩:=hz7.shape;have HZ7:=hid hz7;clear hz7;replace BA:=bW BA hn;replace BB:=bW BB hn;replace BC:=bW BC hn;replace BD:=bW BD hn;replace HZ2:=hid (HZ2.out.new hn);replace HZ4:=hid (HZ4.out.new hn);replace HN:=tW HN hn;clear hn;refine hK.out _ _ (fun _=>⟨cW2 BA,cW2 BB,cW2 BC,cW2 BD⟩) ?_;clear hK K
  try simp only[PT]
  refine tk1 9 fun K hK=>?_;go_simp;refine (HT3.out _ _ _ HZ2.out HZ4.out).mono ?_;rintro e w6 ⟨v8,rfl,hn,hz8⟩;obtain ⟨b8,a8,l8,c8,rfl⟩:=hz8.shape;have HZ8:=hid hz8;clear hz8;replace BA:=bW BA hn;replace BB:=bW BB hn;replace BC:=bW BC hn;replace BD:=bW BD hn;replace HZ7:=hid (HZ7.out.new hn);replace HN:=tW HN hn;clear hn;refine hK.out _ _ (fun _=>⟨cW2 BA,cW2 BB,cW2 BC,cW2 BD⟩) ?_;clear hK K
  try simp only[PT]
  refine tk1 10 fun K hK=>?_;go_simp;refine (HFR.out _ _ _ HZ7.out HZ8.out).mono ?_;rintro e w7 ⟨rfl,hn⟩;replace BA:=bW BA hn;replace BB:=bW BB hn;replace BC:=bW BC hn;replace BD:=bW BD hn;replace HN:=tW HN hn;clear hn;refine hK.out _ _ (fun _=>⟨cW2 BA,cW2 BB,cW2 BC,cW2 BD⟩) ?_;clear hK K
  try simp only[PT]
  refine tlW ?_;obtain ⟨pa0,pa1,pa2,pa3,pa4⟩:=BA.out.two;obtain ⟨pb0,pb1,pb2,pb3,pb4⟩:=BB.out.two;obtain ⟨pc0,pc1,pc2,pc3,pc4⟩:=BC.out.two;obtain ⟨pd0,pd1,pd2,pd3,pd4⟩:=BD.out.two;go_wp2_with fail;go_ret;exact ⟨rfl,HN.out⟩
 ·rw[hw1];clear hw1;have H1:=hid h1;have H2:=hid h2;clear h1 h2;go_wp2_with fail;refine (HQY.out _).mono ?_;rintro e w1 ⟨hw1,rfl | ⟨h3,h4,rfl⟩⟩
  ·rw[hw1];clear hw1;go_wp2_with fail;refine (HPX.out _).mono ?_;rintro e w1 ⟨v1,v2,rfl,hn,hz1,hz2⟩;obtain ⟨b1,a1,l1,c1,rfl⟩:=hz1.shape;obtain ⟨b2,a2,l2,c2,rfl⟩:=hz2.shape;have HZ1:=hid hz1;have HZ2:=hid hz2;clear hz1 hz2;replace HN:=tW HN hn;clear hn;go_wp2_with fail;have HN0:=HN;clear HN;obtain ⟨BA,BB,HN⟩:=lay2 w1 137 #[.bool b1,.slice a1 l1 c1] 137 #[.bool b2,.slice a2 l2 c2];replace HZ1:=hid (HZ1.out.new HN.out);replace HZ2:=hid (HZ2.out.new HN.out);have HN_:=HN0.out.trans HN.out;clear HN HN0;have HN:=hid HN_;clear HN_;refine (HPY.out _).mono ?_;rintro e w2 ⟨v3,v4,rfl,hn,hz3,hz4⟩;obtain ⟨b3,a3,l3,c3,rfl⟩:=hz3.shape;obtain ⟨b4,a4,l4,c4,rfl⟩:=hz4.shape;have HZ3:=hid hz3;have HZ4:=hid hz4;clear hz3 hz4;replace BA:=bW BA hn;replace BB:=bW BB hn;replace HZ1:=hid (HZ1.out.new hn);replace HZ2:=hid (HZ2.out.new hn);replace HN:=tW HN hn;clear hn;go_wp2_with fail;have HN0:=HN;clear HN;obtain ⟨BC,BD,HN⟩:=lay2 w2 137 #[.bool b3,.slice a3 l3 c3] 137 #[.bool b4,.slice a4 l4 c4];replace BA:=hid (BA.out.new HN.out);replace BB:=hid (BB.out.new HN.out);replace HZ1:=hid (HZ1.out.new HN.out);replace HZ2:=hid (HZ2.out.new HN.out);replace HZ3:=hid (HZ3.out.new HN.out);replace HZ4:=hid (HZ4.out.new HN.out);have HN_:=HN0.out.trans HN.out;clear HN HN0;have HN:=hid HN_;clear HN_;obtain ⟨pa0,pa1,pa2,pa3,pa4⟩:=BA.out.two;obtain ⟨pb0,pb1,pb2,pb3,pb4⟩:=BB.out.two;obtain ⟨pc0,pc1,pc2,pc3,pc4⟩:=BC.out.two;obtain ⟨pd0,pd1,pd2,pd3,pd4⟩:=BD.out.two;clear pa0 pa1 pa2 pa3 pa4;clear pb0 pb1 pb2 pb3 pb4;clear pc0 pc1 pc2 pc3 pc4;clear pd0 pd1 pd2 pd3 pd4;refine wp_region_T 11 (fun W=>(W.cell? ⟨w1.heap.size,0,none⟩=some (.bool b1)∧W.cell? ⟨w1.heap.size,1,none⟩=some (.slice a1 l1 c1))∧(W.cell? ⟨w1.heap.size+1,0,none⟩=some (.bool b2)∧W.cell? ⟨w1.heap.size+1,1,none⟩=some (.slice a2 l2 c2))∧(W.cell? ⟨w2.heap.size,0,none⟩=some (.bool b3)∧W.cell? ⟨w2.heap.size,1,none⟩=some (.slice a3 l3 c3))∧(W.cell? ⟨w2.heap.size+1,0,none⟩=some (.bool b4)∧W.cell? ⟨w2.heap.size+1,1,none⟩=some (.slice a4 l4 c4))) 12 #[false,false,false,false,false,false,false,false,false,false,false,false] rfl (by kernel_rfl) (by kernel_rfl) ?_;refine tk 0 (by exact ⟨cW2 BA,cW2 BB,cW2 BC,cW2 BD⟩) ?_
   try simp only[PT]
   refine tk 1 (by exact ⟨cW2 BA,cW2 BB,cW2 BC,cW2 BD⟩) ?_
   try simp only[PT]
   refine tk 3 (by exact ⟨cW2 BA,cW2 BB,cW2 BC,cW2 BD⟩) ?_
   try simp only[PT]
   refine tk 4 (by exact ⟨cW2 BA,cW2 BB,cW2 BC,cW2 BD⟩) ?_
   try simp only[PT]
   refine tk 7 (by exact ⟨cW2 BA,cW2 BB,cW2 BC,cW2 BD⟩) ?_
   try simp only[PT]
   refine tk 8 (by exact ⟨cW2 BA,cW2 BB,cW2 BC,cW2 BD⟩) ?_
   try simp only[PT]
   refine tk1 2 fun K hK=>?_;go_simp;refine (HT1.out _ _ _ (HZ1.out.new ((New.refl _).drew)) (HZ4.out.new ((New.refl _).drew))).mono ?_;rintro e w3 ⟨v5,rfl,hn,hz5⟩;have hn:=hn.undr;obtain ⟨b5,a5,l5,c5,rfl⟩:=hz5.shape;have HZ5:=hid hz5;clear hz5;replace BA:=bW BA hn;replace BB:=bW BB hn;replace BC:=bW BC hn;replace BD:=bW BD hn;replace HZ2:=hid (HZ2.out.new hn);replace HZ3:=hid (HZ3.out.new hn);replace HZ4:=hid (HZ4.out.new hn);replace HN:=tW HN hn;clear hn;refine hK.out _ _ (fun _=>⟨cW2 BA,cW2 BB,cW2 BC,cW2 BD⟩) ?_;clear hK K
   try simp only[PT]
   refine tk1 5 fun K hK=>?_;go_simp;refine (HT2.out _ _ _ HZ3.out HZ2.out).mono ?_;rintro e w4 ⟨v6,rfl,hn,hz6⟩;obtain ⟨b6,a6,l6,c6,rfl⟩:=hz6.shape;have HZ6:=hid hz6;clear hz6;replace BA:=bW BA hn;replace BB:=bW BB hn;replace BC:=bW BC hn;replace BD:=bW BD hn;replace HZ2:=hid (HZ2.out.new hn);replace HZ4:=hid (HZ4.out.new hn);replace HZ5:=hid (HZ5.out.new hn);replace HN:=tW HN hn;clear hn;refine hK.out _ _ (fun _=>⟨cW2 BA,cW2 BB,cW2 BC,cW2 BD⟩) ?_;clear hK K
   try simp only[PT]
   refine tk1 6 fun K hK=>?_;go_simp;refine (HPL.out _ _ _ HZ5.out HZ6.out).mono ?_;rintro e w5 ⟨v7,rfl,hn,hz7⟩;obtain ⟨b7,a7,l7,c7,rfl⟩:=hz7.shape;have HZ7:=hid hz7;clear hz7;replace BA:=bW BA hn;replace BB:=bW BB hn;replace BC:=bW BC hn;replace BD:=bW BD hn;replace HZ2:=hid (HZ2.out.new hn);replace HZ4:=hid (HZ4.out.new hn);replace HN:=tW HN hn;clear hn;refine hK.out _ _ (fun _=>⟨cW2 BA,cW2 BB,cW2 BC,cW2 BD⟩) ?_;clear hK K
   try simp only[PT]
   refine tk1 9 fun K hK=>?_;go_simp;refine (HT3.out _ _ _ HZ2.out HZ4.out).mono ?_;rintro e w6 ⟨v8,rfl,hn,hz8⟩;obtain ⟨b8,a8,l8,c8,rfl⟩:=hz8.shape;have HZ8:=hid hz8;clear hz8;replace BA:=bW BA hn;replace BB:=bW BB hn;replace BC:=bW BC hn;replace BD:=bW BD hn;replace HZ7:=hid (HZ7.out.new hn);replace HN:=tW HN hn;clear hn;refine hK.out _ _ (fun _=>⟨cW2 BA,cW2 BB,cW2 BC,cW2 BD⟩) ?_;clear hK K
   try simp only[PT]
   refine tk1 10 fun K hK=>?_;go_simp;refine (HFR.out _ _ _ HZ7.out HZ8.out).mono ?_;rintro e w7 ⟨rfl,hn⟩;replace BA:=bW BA hn;replace BB:=bW BB hn;replace BC:=bW BC hn;replace BD:=bW BD hn;replace HN:=tW HN hn;clear hn;refine hK.out _ _ (fun _=>⟨cW2 BA,cW2 BB,cW2 BC,cW2 BD⟩) ?_;clear hK K
   try simp only[PT]
   refine tlW ?_;obtain ⟨pa0,pa1,pa2,pa3,pa4⟩:=BA.out.two;obtain ⟨pb0,pb1,pb2,pb3,pb4⟩:=BB.out.two;obtain ⟨pc0,pc1,pc2,pc3,pc4⟩:=BC.out.two;obtain ⟨pd0,pd1,pd2,pd3,pd4⟩:=BD.out.two;go_wp2_with fail;go_ret;exact ⟨rfl,HN.out⟩
  ·rw[hw1];clear hw1;have hof:=HOF.out H1.out H2.out h3 h4;obtain ⟨p1,p2,p3,p4,p5⟩:=mul_small H1.out H2.out h3 h4;obtain ⟨D,hD⟩:∃ D,x.den*y.den=D:=⟨_,rfl⟩;obtain ⟨P,hP⟩:∃ P,x.num*(y.den:Int)=P:=⟨_,rfl⟩;obtain ⟨Q,hQ⟩:∃ Q,y.num*(x.den:Int)=Q:=⟨_,rfl⟩;obtain ⟨E,hE⟩:∃ E,P+Q=E:=⟨_,rfl⟩
   have hDi:(x.den:Int)*(y.den:Int)=(D:Int):=by rw[←hD,Int.natCast_mul]
   simp only[hDi,hP,hQ,hE]at hof;rw[hD] at p3;rw[hP] at p4;rw[hQ] at p5
   have hD2:(D:Int) < 1000000000000000000:=by omega
   have q1: -1000000000000000000 < P:=by omega
   have q2:P < 1000000000000000000:=by omega
   have q3: -1000000000000000000 < Q:=by omega
   have q4:Q < 1000000000000000000:=by omega
   have q5: -2000000000000000000 < E:=by omega
   have q6:E < 2000000000000000000:=by omega
   clear h3 h4 p1 p2 p3 hD p4 p5 H1 H2;have HF:=hid hof;clear hof;go_wp2_with fail;refine (HF.out _).mono ?_;rintro e w2 ⟨rfl,hn⟩;replace HN:=tW HN hn;clear hn;go_wp2_with fail;go_ret;exact ⟨rfl,HN.out⟩
theorem RetS.to {w w':World}{q:Rat}{B:ByteArray}{e:Ending}(hB:rs q=B)(h:RetS w q e w'):e=.returned (.string B)∧New w w':=⟨by rw[h.1,hB],h.2⟩
theorem RFB.mono {j k:Nat}{q:Rat}(h:RFB j q)(hk:j≤k):RFB k q:=⟨Nat.lt_of_lt_of_le h.num (Nat.pow_le_pow_right (by omega) hk),Nat.lt_of_lt_of_le h.den (Nat.pow_le_pow_right (by omega) hk)⟩
theorem rdivInt_le {x y:Int}(hy:y≠0):(Rat.divInt x y).num.natAbs≤x.natAbs∧(Rat.divInt x y).den≤y.natAbs:=by
 rw[Rat.num_divInt,Rat.den_divInt,if_neg hy];refine ⟨Nat.le_trans (Int.natAbs_ediv_le_natAbs _ _) ?_,Nat.div_le_self _ _⟩;rw[Int.natAbs_mul]
 have:y.sign.natAbs=1:=by rw[Int.natAbs_sign_of_ne_zero hy]
 rw[this,Nat.one_mul];exact Nat.le_refl _
theorem RFB.divInt {j:Nat}{x y:Int}(hx:x.natAbs < 2^j)(hy:y.natAbs < 2^j)(h0:y≠0):RFB j (Rat.divInt x y):=by
 obtain ⟨h1,h2⟩:=rdivInt_le (x:=x) h0;exact ⟨Nat.lt_of_le_of_lt h1 hx,Nat.lt_of_le_of_lt h2 hy⟩
theorem den_nez (q:Rat):(q.den:Int)≠0:=by have:=q.den_nz;omega
theorem RFB.mul {j k:Nat}{a b:Rat}(ha:RFB j a)(hb:RFB k b):RFB (j+k) (a*b):=by
 rw[rmul_divInt];refine RFB.divInt ?_ ?_ (Int.mul_ne_zero (den_nez a) (den_nez b))
 ·rw[Int.natAbs_mul,Nat.pow_add];exact Nat.mul_lt_mul'' ha.num hb.num
 ·rw[Int.natAbs_mul,Nat.pow_add];exact Nat.mul_lt_mul'' (by simpa using ha.den) (by simpa using hb.den)
theorem RFB.add {j k:Nat}{a b:Rat}(ha:RFB j a)(hb:RFB k b):RFB (j+k+1) (a+b):=by
 rw[radd_divInt]
 have k1:(a.num*(b.den:Int)).natAbs < 2^(j+k):=by rw[Int.natAbs_mul,Nat.pow_add];exact Nat.mul_lt_mul'' ha.num (by simpa using hb.den)
 have k2:(b.num*(a.den:Int)).natAbs < 2^(j+k):=by rw[Int.natAbs_mul,Nat.pow_add,Nat.mul_comm (2^j)];exact Nat.mul_lt_mul'' hb.num (by simpa using ha.den)
 have k3:((a.den:Int)*(b.den:Int)).natAbs < 2^(j+k):=by rw[Int.natAbs_mul,Nat.pow_add];exact Nat.mul_lt_mul'' (by simpa using ha.den) (by simpa using hb.den)
 refine RFB.divInt ?_ ?_ (Int.mul_ne_zero (den_nez a) (den_nez b))
 ·rw[Nat.pow_succ];omega
 ·rw[Nat.pow_succ];omega
theorem RFB.neg {j:Nat}{a:Rat}(ha:RFB j a):RFB j (-a):=⟨by rw[Rat.neg_num,Int.natAbs_neg];exact ha.num,ha.den⟩
theorem RFB.inv {j:Nat}{a:Rat}(ha:RFB j a)(h:a.num≠0):RFB j a⁻¹:=by
 rw[Rat.inv_def];exact RFB.divInt (by simpa using ha.den) ha.num h
theorem rrecip_calls (k:Nat)(q:Rat)(w:World)(hq:RFB k q)(hk:k≤40000)(h0:0 < q.num):Calls Tryz.prog 150 #[.string (rs q)] w (RetS w q⁻¹):=by
 have hp:=fun W=>rparts_calls k q W hq hk;have hfr:=fun W va vb (ha:IsZ W va (q.den:Int)) (hb:IsZ W vb q.num)=>rfraction_pos k va vb _ _ W ha hb (by omega) (pow_b9 (by simpa using hq.den) (Nat.le_refl _)) (pow_b9 hq.num (Nat.le_refl _)) h0;rw[←Rat.inv_def] at hfr;obtain ⟨R,hR⟩:∃ R,q⁻¹=R:=⟨_,rfl⟩;obtain ⟨A,hA⟩:∃ A,rs q=A:=⟨_,rfl⟩;simp only[hA] at hp;simp only[hR] at hfr;rw[hA,hR];clear hA hR hq hk h0;have hn0:=New.refl w;have HN:=hid hn0;have HP:=hid hp;have HFR:=hid hfr;clear hn0 hp hfr;go_enter Tryz.func150,Tryz.ntmps150;go_wp2_with fail;refine (HP.out _).mono ?_;rintro e w1 ⟨v1,v2,rfl,hn,hz1,hz2⟩;obtain ⟨b1,a1,l1,c1,rfl⟩:=hz1.shape;obtain ⟨b2,a2,l2,c2,rfl⟩:=hz2.shape;have HZ1:=hid hz1;have HZ2:=hid hz2;clear hz1 hz2;replace HN:=tW HN hn;clear hn;go_upto_region 2 with (fail);have HN0:=HN;clear HN;obtain ⟨BA,BB,HN⟩:=lay2 w1 137 #[.bool b1,.slice a1 l1 c1] 137 #[.bool b2,.slice a2 l2 c2];replace HZ1:=hid (HZ1.out.new HN.out);replace HZ2:=hid (HZ2.out.new HN.out);have HN_:=HN0.out.trans HN.out;clear HN HN0;have HN:=hid HN_;clear HN_;obtain ⟨pa0,pa1,pa2,pa3,pa4⟩:=BA.out.two;obtain ⟨pb0,pb1,pb2,pb3,pb4⟩:=BB.out.two;go_wp2_with fail;refine (HFR.out _ _ _ HZ2.out HZ1.out).mono ?_;rintro e w2 ⟨rfl,hn⟩;clear pa0 pa1 pa2 pa3 pa4 pb0 pb1 pb2 pb3 pb4;replace HN:=tW HN hn;clear hn;go_wp2_with fail;go_ret;exact ⟨rfl,HN.out⟩
theorem rsubQ_calls (j k:Nat)(x y:Rat)(w:World)(hx:RFB j x)(hy:RFB k y)(hjk:j+k≤40000):Calls Tryz.prog 52 #[.string (rs x),.string (rs y)] w (RetS w (x - y)):=by
 have hr:=fun W=>rneg_calls y W (by have:=hy.len;omega);have hm:=fun W=>raddQ_calls j k x (-y) W hx hy.neg hjk;rw[←Rat.sub_eq_add_neg] at hm;obtain ⟨R,hR⟩:∃ R,x - y=R:=⟨_,rfl⟩;obtain ⟨A,hA⟩:∃ A,rs x=A:=⟨_,rfl⟩;obtain ⟨B,hB⟩:∃ B,rs y=B:=⟨_,rfl⟩;obtain ⟨C,hC⟩:∃ C,rs (-y)=C:=⟨_,rfl⟩;simp only[hB] at hr;have hr:=fun W=>(hr W).mono fun e w' h=>RetS.to hC h;simp only[hA,hC,hR] at hm;rw[hA,hB,hR];clear hA hB hC hR hx hy hjk;have HR:=hid hr;have HM:=hid hm;clear hr hm;go_enter Tryz.func52,Tryz.ntmps52;go_wp2_with fail;refine (HR.out _).mono ?_;rintro e w1 ⟨rfl,hn⟩;have HN:=hid hn;clear hn;go_wp2_with fail;refine (HM.out _).mono ?_;rintro e w2 ⟨rfl,hn⟩;replace HN:=tW HN hn;clear hn;go_wp2_with fail;go_ret;exact ⟨rfl,HN.out⟩
theorem rs_int (z:Int):rs (z:Rat)=bs (itoa z):=by unfold rs;rw[ratText_int]
theorem rat_pow_add (a:Rat)(m:Nat):∀ n,a^m*a^n=a^(m+n)
 | 0=>by rw[Rat.pow_zero,Rat.mul_one,Nat.add_zero]
 | n+1=>by rw[Rat.pow_succ,←Rat.mul_assoc,rat_pow_add a m n,←Nat.add_assoc,Rat.pow_succ]
theorem rs_one:rs 1=⟨#[49]⟩:=by
 rw[show (1:Rat)=((1:Int):Rat) from rfl,rs_int,show (1:Int)=((1:Nat):Int) from rfl,Big.itoa_nonneg,decDigits_one'];rfl
theorem RFB.pow {j:Nat}{a:Rat}(h:RFB j a):∀ e:Nat,RFB (j*e+1) (a^e)
 | 0=>by rw[Rat.pow_zero];exact ⟨by show (1:Int).natAbs < 2^(j*0+1);simp,by show (1:Nat) < 2^(j*0+1);simp⟩
 | e+1=>by
  rw[Rat.pow_succ];have:=(RFB.pow h e).mul h;refine this.mono ?_;rw[Nat.mul_add];omega
theorem rpow_nat (j k0:Nat)(a:Rat)(w:World)(ha:RFB j a)(hb:j*(4*k0+4)+2≤40000)(hk0:k0≤40000):Calls Tryz.prog 103 #[.string (rs a),.int .i64 (k0:Int)] w (RetS w (a^k0)):=by
 have hmul:=fun (eo ea:Nat) (h1:eo≤k0) (h2:ea≤2*k0+1) W=>rmulQ_calls (j*eo+1) (j*ea+1) (a^eo) (a^ea) W (ha.pow eo) (ha.pow ea) (by
  have e1:j*eo≤j*k0:=Nat.mul_le_mul_left _ h1;have e2:j*ea≤j*(2*k0+1):=Nat.mul_le_mul_left _ h2;rw[Nat.mul_add] at e2;rw[Nat.mul_add] at hb;have e3:j*(4*k0)=4*(j*k0):=Nat.mul_left_comm _ _ _;have e4:j*(2*k0)=2*(j*k0):=Nat.mul_left_comm _ _ _
  omega)
 have hsq:=fun (ea:Nat) (h2:ea≤k0) W=>rmulQ_calls (j*ea+1) (j*ea+1) (a^ea) (a^ea) W (ha.pow ea) (ha.pow ea) (by
  have e2:j*ea≤j*k0:=Nat.mul_le_mul_left _ h2;rw[Nat.mul_add] at hb;have e3:j*(4*k0)=4*(j*k0):=Nat.mul_left_comm _ _ _
  omega)
 have hadd:∀ m n,a^m*a^n=a^(m+n):=fun m n=>rat_pow_add a m n;simp only[hadd] at hmul hsq
 have h1:rs (a^0)=⟨#[49]⟩:=by rw[Rat.pow_zero,rs_one]
 have h2:rs (a^1)=rs a:=by rw[show a^1=a^0*a from Rat.pow_succ a 0,Rat.pow_zero,Rat.one_mul]
 obtain ⟨F,hF⟩:∃ F:Nat→ByteArray,(fun e=>rs (a^e))=F:=⟨_,rfl⟩
 have hFe:∀ e,rs (a^e)=F e:=fun e=>by rw[←hF]
 have hend:∀ W W',New W W'→RetS W (a^k0) (.returned (.string (F k0))) W':=fun W W' h=>⟨by rw[hFe],h⟩;simp only[hFe] at hmul hsq;have hmul:=fun eo ea h1 h2 W=>(hmul eo ea h1 h2 W).mono fun e w' h=>RetS.to (hFe _) h;have hsq:=fun ea h2 W=>(hsq ea h2 W).mono fun e w' h=>RetS.to (hFe _) h;rw[hFe] at h1 h2;rw[←h2]
 have hk0n:¬(k0:Int) < 0:=by omega
 have hk0b:decide ((k0:Int) < 0)=false:=decide_eq_false hk0n;clear hF hFe h2 ha hb hadd;have HMUL:=hid hmul;have HSQ:=hid hsq;have H1:=hid h1;have HEND:=hid hend;clear hmul hsq h1 hend;go_enter Tryz.func103,Tryz.ntmps103;go_wp2_with fail;clear hk0n hk0b;go_loopw [0,1,5] (fun sa sk so wr=>∃ (ea kk eo:Nat),sa=.string (F ea)∧sk=.int .i64 (kk:Int)∧so=.string (F eo)∧Hid (eo+kk*ea=k0)∧Hid (ea≤2*k0+1)∧kk≤40000∧Hid (New w wr)) (fun _ sk _ _=>(RowKit.intOf sk).toNat)
 case atStart=>exact ⟨1,k0,0,rfl,rfl,by rw[H1.out],hid (by omega),hid (by omega),hk0,hid (New.refl _)⟩
 case round=>
  clear hk0;obtain ⟨ea,kk,eo,rfl,rfl,rfl,HE,HA,hkk,HN⟩:=hrel;rcases Nat.eq_zero_or_pos kk with h0 | h0
  ·subst h0;have he:=HE.out;rw[Nat.zero_mul,Nat.add_zero] at he;subst he;go_wp2_with fail;go_ret;exact HEND.out _ _ HN.out
  ·have hle:ea≤kk*ea:=Nat.le_mul_of_pos_left ea h0
   have hak:ea≤k0:=by have:=HE.out;omega
   have hok:eo≤k0:=by have:=HE.out;omega
   have hm:=HMUL.out eo ea hok (by omega);have hs:=HSQ.out ea hak
   have h0i:(0:Int) < (kk:Int):=by omega
   have h0b:decide ((0:Int) < (kk:Int))=true:=decide_eq_true h0i;obtain ⟨d1,d2,d3,d4⟩:=divd kk 2;obtain ⟨q,hq⟩:∃ q,kk / 2=q:=⟨_,rfl⟩;obtain ⟨r,hr⟩:∃ r,kk % 2=r:=⟨_,rfl⟩;rw[hq] at d1 d2;rw[hr] at d3 d4;have d1':(kk:Int) / 2=(q:Int):=d1;have d2':Int.tdiv (kk:Int) 2=(q:Int):=d2;have d3':Int.tmod (kk:Int) 2=(r:Int):=d3;have d4':(kk:Int) % 2=(r:Int):=d4
   have hqk:q < kk:=by omega
   have hqi:(q:Int)≤40000:=by omega
   have hkk2:kk=2*q+r:=by omega
   have hr2:r=0∨r=1:=by omega
   have hA2:ea+ea≤2*k0+1:=by omega
   clear d1 d2 d3 d4 hq hr hle hak hok h0;rcases hr2 with hr | hr
   ·subst hr
    have hE2:eo+q*(ea+ea)=k0:=by
     rw[←HE.out,hkk2,Nat.add_zero,Nat.mul_comm 2,Nat.mul_assoc,Nat.two_mul]
    have hrb:(((0:Nat):Int)==1)=false:=rfl;clear hkk2 HA;have HM:=hid hm;have HS:=hid hs;have HE2:=hid hE2;have HA2:=hid hA2;have HQK:=hid hqk;clear hm hs hE2 hA2 hqk;go_wp2_with fail;refine (HS.out _).mono ?_;rintro e w2 ⟨rfl,hn⟩;replace HN:=tW HN hn;clear hn;go_wp2_with fail;go_roundw
    case rel=>exact ⟨ea+ea,q,eo,rfl,rfl,rfl,HE2,HA2,by omega,HN⟩
    case measure=>simp[RowKit.intOf];exact HQK.out
   ·subst hr
    have hE2:eo+ea+q*(ea+ea)=k0:=by
     rw[←HE.out,hkk2,Nat.add_mul,Nat.mul_comm 2,Nat.mul_assoc,Nat.two_mul];omega
    clear hkk2 HA;have HM:=hid hm;have HS:=hid hs;have HE2:=hid hE2;have HA2:=hid hA2;have HQK:=hid hqk;clear hm hs hE2 hA2 hqk;go_wp2_with fail;refine (HM.out _).mono ?_;rintro e w2 ⟨rfl,hn⟩;replace HN:=tW HN hn;clear hn;go_wp2_with fail;refine (HS.out _).mono ?_;rintro e w2 ⟨rfl,hn⟩;replace HN:=tW HN hn;clear hn;go_wp2_with fail;go_roundw
    case rel=>exact ⟨ea+ea,q,eo+ea,rfl,rfl,rfl,HE2,HA2,by omega,HN⟩
    case measure=>simp[RowKit.intOf];exact HQK.out
theorem rpow_neg (j k0:Nat)(a:Rat)(w:World)(ha:RFB j a)(h0:0 < a.num)(hb:j*(4*k0+4)+2≤40000)(hk0:k0≤40000)(hk:0 < k0):Calls Tryz.prog 103 #[.string (rs a),.int .i64 (-(k0:Int))] w (RetS w (a⁻¹^k0)):=by
 have hj:j≤40000:=by
  have:j*4≤j*(4*k0+4):=Nat.mul_le_mul_left _ (by omega);omega
 have hr:=fun W=>rrecip_calls j a W ha hj h0;have hp:=fun W=>rpow_nat j k0 a⁻¹ W (ha.inv (by omega)) hb hk0;obtain ⟨A,hA⟩:∃ A,rs a=A:=⟨_,rfl⟩;obtain ⟨B,hB⟩:∃ B,rs a⁻¹=B:=⟨_,rfl⟩;obtain ⟨R,hR⟩:∃ R,a⁻¹^k0=R:=⟨_,rfl⟩;simp only[hA] at hr;have hr:=fun W=>(hr W).mono fun e w' h=>RetS.to hB h;simp only[hB,hR] at hp;rw[hA,hR]
 have hk1: -(k0:Int) < 0:=by omega
 have hk1b:decide (-(k0:Int) < 0)=true:=decide_eq_true hk1
 have hki:(k0:Int)≤40000:=by omega
 clear hA hB hR ha h0 hb hk0 hk hj;have HR:=hid hr;have HP:=hid hp;clear hr hp;go_enter Tryz.func103,Tryz.ntmps103;go_wp2_with fail;refine (HR.out _).mono ?_;rintro e w1 ⟨rfl,hn⟩;have HN:=hid hn;clear hn;go_wp2_with fail;refine (HP.out _).mono ?_;rintro e w2 ⟨rfl,hn⟩;replace HN:=tW HN hn;clear hn;go_wp2_with fail;go_ret;exact ⟨rfl,HN.out⟩
end Go.Proofs.YtbkcjmojgglbkaaGreatDoor
