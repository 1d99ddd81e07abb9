/- Part A11. -/
import Derived.Lib.ItoaNum
import Derived.Lib.ItoaMem
import Derived.Lib.LaidTab
import Derived.Test.YtnjonlnemagomaaGreatDoorA10
namespace Go.Proofs.YtnjonlnemagomaaGreatDoor
open Go.RowKit Big
open Go.Lib (hid)
set_option maxRecDepth 100000
set_option maxHeartbeats 8000000
theorem add_whole {x y:Rat}(hx:x.den=1)(hy:y.den=1):x+y=((x.num+y.num:Int):Rat):=by
 rw[add_divInt,hx,hy];apply Rat.ext
 ·rw[Rat.num_divInt,Rat.num_intCast];simp
 ·rw[Rat.den_divInt,Rat.den_intCast];simp
theorem fadd_calls (va vb:Value)(x y:Rat)(j k:Nat)(w:World)(hx:IsFrac w va x)(hy:IsFrac w vb y)(bx:FB j x)(by':FB k y)(hk:j+k+1≤60000000):Calls Tryz.prog 92 #[va,vb] w (FracPost w (x+y)):=by
 have hX:=hx;have hY:=hy;obtain ⟨sa,aa,la,ca,ta,ba,ma,na,rfl,hx1,hx2⟩:=hx;obtain ⟨sb,ab,lb,cb,tb,bb,mb,nb,rfl,hy1,hy2⟩:=hy;obtain ⟨r,hr⟩:∃ r,x+y=r:=⟨_,rfl⟩;have hr':=add_divInt x y;have hw:=add_whole (x:=x) (y:=y);rw[hr] at hr' hw⊢;clear hr;have bm1:=(bx.num.mul by'.den).bd (show j+k≤60000000 by omega);have bm2:=(by'.num.mul bx.den).bd (show k+j≤60000000 by omega);have bn:=((bx.num.mul by'.den).add (by rw[Nat.add_comm];exact by'.num.mul bx.den)).bd hk;have bd:=(bx.den.mul by'.den).bd (show j+k≤60000000 by omega);have bx1:=bx.num.bd (show j≤60000000 by omega);have bx2:=bx.den.bd (show j≤60000000 by omega);have by1:=by'.num.bd (show k≤60000000 by omega);have by2:=by'.den.bd (show k≤60000000 by omega);have hne:=den2_ne x y;clear bx by';have HX:=hid hX;have HY:=hid hY;have X1:=hid hx1;have X2:=hid hx2;have Y1:=hid hy1;have Y2:=hid hy2;have HR:=hid hr';have HW:=hid hw;have HK:=hid hk;have BX1:=hid bx1;have BX2:=hid bx2;have BY1:=hid by1;have BY2:=hid by2;have BM1:=hid bm1;have BM2:=hid bm2;have BN:=hid bn;have BD:=hid bd;have HNE:=hid hne;clear hX hY hx1 hx2 hy1 hy2 hr' hw hk bx1 bx2 by1 by2 bm1 bm2 bn bd hne;by_cases h1:x.den=1
 ·have d1:decide (x.den=1)=true:=by simpa using h1
  have H1:=hid h1;clear h1;go_enter Tryz.func92,Tryz.ntmps92;go_wp2_with fail;obtain ⟨BA,BB,BP,HN⟩:=lay3 w 115 #[.int .i64 sa,.slice aa la ca,.int .i64 ta,.slice ba ma na] 115 #[.int .i64 sb,.slice ab lb cb,.int .i64 tb,.slice bb mb nb] 115 #[.int .i64 0,.slice none 0 0,.int .i64 0,.slice none 0 0];refine (isWhole_calls _ x _ (HX.out.new HN.out)).mono ?_;rintro e w1 ⟨rfl,hn⟩;rw[d1];replace BA:=hid (BA.out.new hn);replace BB:=hid (BB.out.new hn);replace BP:=hid (BP.out.new hn);replace HN:=hid (HN.out.trans hn);clear hn;obtain ⟨⟨pb0,pb1,pb2,pb3⟩,pb4,pb5,pb6,pb7,pb8⟩:=BB.out.four;go_wp2_with fail;clear pb0 pb1 pb2 pb3 pb4 pb5 pb6 pb7 pb8;refine (isWhole_calls _ y _ (HY.out.new HN.out)).mono ?_;rintro e w2 ⟨rfl,hn⟩;replace BA:=hid (BA.out.new hn);replace BB:=hid (BB.out.new hn);replace BP:=hid (BP.out.new hn);replace HN:=hid (HN.out.trans hn);clear hn;obtain ⟨⟨pa0,pa1,pa2,pa3⟩,pa4,pa5,pa6,pa7,pa8⟩:=BA.out.four;obtain ⟨⟨pb0,pb1,pb2,pb3⟩,pb4,pb5,pb6,pb7,pb8⟩:=BB.out.four;by_cases h2:y.den=1
  ·rw[decide_eq_true h2];have hw:=HW.out H1.out h2;have H2:=hid h2;have HWW:=hid hw;clear h2 hw;go_wp2_with fail;clear pa0 pa1 pa2 pa3 pa4 pa5 pa6 pa7 pa8 pb0 pb1 pb2 pb3 pb4 pb5 pb6 pb7 pb8;refine (add_calls _ _ x.num y.num _ (X1.out.new HN.out) (Y1.out.new HN.out) BX1.out BY1.out).mono ?_;rintro e w3 ⟨v,rfl,hn,hi⟩;obtain ⟨s5,a5,l5,k5,rfl⟩:=hi.shape;have HI5:=hid hi;clear hi;replace BP:=hid (BP.out.new hn);replace HN:=hid (HN.out.trans hn);clear hn;go_wp2_with fail;refine (whole_calls _ (x.num+y.num) _ HI5.out).mono ?_;rintro e w4 ⟨v,rfl,hn,hf⟩;rw[←HWW.out] at hf;obtain ⟨s9,a9,l9,k9,t9,b9,m9,n9,rfl⟩:=hf.shape;have HF:=hid hf;clear hf;replace BP:=hid (BP.out.new hn);replace HN:=hid (HN.out.trans hn);clear hn;obtain ⟨⟨p0,p1,p2,p3⟩,p4,p5,p6,p7,p8⟩:=BP.out.four;go_wp2_with fail;refine bodyPost_ret (v:=.agg #[.int .i64 s9,.slice a9 l9 k9,.int .i64 t9,.slice b9 m9 n9]) (by simp[results,Tryz.results92,go_sem,p0,p1,p2,p3]) rfl ?_;exact frac_ret HN.out BP.out (by omega) HF.out.parts.1 HF.out.parts.2
  ·rw[decide_eq_false h2];clear h2;go_wp2_with fail;refine wp_region_T 17 (fun W=>W.cell? ⟨w.heap.size,0,none⟩=some (.int .i64 sa)∧W.cell? ⟨w.heap.size,1,none⟩=some (.slice aa la ca)∧W.cell? ⟨w.heap.size,2,none⟩=some (.int .i64 ta)∧W.cell? ⟨w.heap.size,3,none⟩=some (.slice ba ma na)∧W.cell? ⟨w.heap.size+1,0,none⟩=some (.int .i64 sb)∧W.cell? ⟨w.heap.size+1,1,none⟩=some (.slice ab lb cb)∧W.cell? ⟨w.heap.size+1,2,none⟩=some (.int .i64 tb)∧W.cell? ⟨w.heap.size+1,3,none⟩=some (.slice bb mb nb)) 18 #[false,false,false,false,false,false,false,false,false,false,false,false,false,false,false,false,false,false] rfl (by kernel_rfl) (by kernel_rfl) ?_;refine tk 0 (by exact ⟨pa0,pa1,pa2,pa3,pb0,pb1,pb2,pb3⟩) ?_
   try simp only[PT]
   refine tk 1 (by exact ⟨pa0,pa1,pa2,pa3,pb0,pb1,pb2,pb3⟩) ?_
   try simp only[PT]
   refine tk 2 (by exact ⟨pa0,pa1,pa2,pa3,pb0,pb1,pb2,pb3⟩) ?_
   try simp only[PT]
   refine tk 3 (by exact ⟨pa0,pa1,pa2,pa3,pb0,pb1,pb2,pb3⟩) ?_
   try simp only[PT]
   refine tk 5 (by exact ⟨pa0,pa1,pa2,pa3,pb0,pb1,pb2,pb3⟩) ?_
   try simp only[PT]
   refine tk 6 (by exact ⟨pa0,pa1,pa2,pa3,pb0,pb1,pb2,pb3⟩) ?_
   try simp only[PT]
   refine tk 7 (by exact ⟨pa0,pa1,pa2,pa3,pb0,pb1,pb2,pb3⟩) ?_
   try simp only[PT]
   refine tk 8 (by exact ⟨pa0,pa1,pa2,pa3,pb0,pb1,pb2,pb3⟩) ?_
   try simp only[PT]
   refine tk 11 (by exact ⟨pa0,pa1,pa2,pa3,pb0,pb1,pb2,pb3⟩) ?_
   try simp only[PT]
   refine tk 12 (by exact ⟨pa0,pa1,pa2,pa3,pb0,pb1,pb2,pb3⟩) ?_
   try simp only[PT]
   refine tk 13 (by exact ⟨pa0,pa1,pa2,pa3,pb0,pb1,pb2,pb3⟩) ?_
   try simp only[PT]
   refine tk 14 (by exact ⟨pa0,pa1,pa2,pa3,pb0,pb1,pb2,pb3⟩) ?_
   try simp only[PT]
   refine wpT_one 4 rfl (by kernel_rfl) (fun K hK=>?_);go_simp;refine (mul_calls _ _ x.num (y.den:Int) _ (X1.out.new HN.out.drew) (Y2.out.new HN.out.drew) BX1.out BY2.out).mono ?_;rintro e w3 ⟨v,rfl,hn,hi⟩;have hn:=hn.undrew;obtain ⟨s5,a5,l5,k5,rfl⟩:=hi.shape;have HI5:=hid hi;clear hi;clear pa0 pa1 pa2 pa3 pa4 pa5 pa6 pa7 pa8 pb0 pb1 pb2 pb3 pb4 pb5 pb6 pb7 pb8;replace BA:=hid (BA.out.new hn);replace BB:=hid (BB.out.new hn);replace BP:=hid (BP.out.new hn);replace HN:=hid (HN.out.trans hn);clear hn;obtain ⟨⟨pa0,pa1,pa2,pa3⟩,pa4,pa5,pa6,pa7,pa8⟩:=BA.out.four;obtain ⟨⟨pb0,pb1,pb2,pb3⟩,pb4,pb5,pb6,pb7,pb8⟩:=BB.out.four;refine hK.out _ _ (fun _=>?_) ?_
   ·exact ⟨pa0,pa1,pa2,pa3,pb0,pb1,pb2,pb3⟩
   clear hK K
   try simp only[PT]
   refine wpT_one 9 rfl (by kernel_rfl) (fun K hK=>?_);go_simp;refine (mul_calls _ _ y.num (x.den:Int) _ (Y1.out.new HN.out) (X2.out.new HN.out) BY1.out BX2.out).mono ?_;rintro e w4 ⟨v,rfl,hn,hi⟩;obtain ⟨s6,a6,l6,k6,rfl⟩:=hi.shape;have HI6:=hid hi;clear hi;clear pa0 pa1 pa2 pa3 pa4 pa5 pa6 pa7 pa8 pb0 pb1 pb2 pb3 pb4 pb5 pb6 pb7 pb8;replace BA:=hid (BA.out.new hn);replace BB:=hid (BB.out.new hn);replace BP:=hid (BP.out.new hn);replace HI5:=hid (HI5.out.new hn);replace HN:=hid (HN.out.trans hn);clear hn;obtain ⟨⟨pa0,pa1,pa2,pa3⟩,pa4,pa5,pa6,pa7,pa8⟩:=BA.out.four;obtain ⟨⟨pb0,pb1,pb2,pb3⟩,pb4,pb5,pb6,pb7,pb8⟩:=BB.out.four;refine hK.out _ _ (fun _=>?_) ?_
   ·exact ⟨pa0,pa1,pa2,pa3,pb0,pb1,pb2,pb3⟩
   clear hK K
   try simp only[PT]
   refine wpT_one 10 rfl (by kernel_rfl) (fun K hK=>?_);go_simp;refine (add_calls _ _ (x.num*y.den) (y.num*x.den) _ HI5.out HI6.out BM1.out BM2.out).mono ?_;rintro e w5 ⟨v,rfl,hn,hi⟩;obtain ⟨s7,a7,l7,k7,rfl⟩:=hi.shape;have HI7:=hid hi;clear hi;clear pa0 pa1 pa2 pa3 pa4 pa5 pa6 pa7 pa8 pb0 pb1 pb2 pb3 pb4 pb5 pb6 pb7 pb8;replace BA:=hid (BA.out.new hn);replace BB:=hid (BB.out.new hn);replace BP:=hid (BP.out.new hn);replace HN:=hid (HN.out.trans hn);clear hn;obtain ⟨⟨pa0,pa1,pa2,pa3⟩,pa4,pa5,pa6,pa7,pa8⟩:=BA.out.four;obtain ⟨⟨pb0,pb1,pb2,pb3⟩,pb4,pb5,pb6,pb7,pb8⟩:=BB.out.four;refine hK.out _ _ (fun _=>?_) ?_
   ·exact ⟨pa0,pa1,pa2,pa3,pb0,pb1,pb2,pb3⟩
   clear hK K
   try simp only[PT]
   refine wpT_one 15 rfl (by kernel_rfl) (fun K hK=>?_);go_simp;refine (mul_calls _ _ (x.den:Int) (y.den:Int) _ (X2.out.new HN.out) (Y2.out.new HN.out) BX2.out BY2.out).mono ?_;rintro e w6 ⟨v,rfl,hn,hi⟩;obtain ⟨s8,a8,l8,k8,rfl⟩:=hi.shape;have HI8:=hid hi;clear hi;clear pa0 pa1 pa2 pa3 pa4 pa5 pa6 pa7 pa8 pb0 pb1 pb2 pb3 pb4 pb5 pb6 pb7 pb8;replace BA:=hid (BA.out.new hn);replace BB:=hid (BB.out.new hn);replace BP:=hid (BP.out.new hn);replace HI7:=hid (HI7.out.new hn);replace HN:=hid (HN.out.trans hn);clear hn;obtain ⟨⟨pa0,pa1,pa2,pa3⟩,pa4,pa5,pa6,pa7,pa8⟩:=BA.out.four;obtain ⟨⟨pb0,pb1,pb2,pb3⟩,pb4,pb5,pb6,pb7,pb8⟩:=BB.out.four;refine hK.out _ _ (fun _=>?_) ?_
   ·exact ⟨pa0,pa1,pa2,pa3,pb0,pb1,pb2,pb3⟩
   clear hK K
   try simp only[PT]
   refine wpT_one 16 rfl (by kernel_rfl) (fun K hK=>?_);go_simp;refine (make_calls _ _ (x.num*y.den+y.num*x.den) (x.den*y.den:Int) _ HI7.out HI8.out BN.out BD.out HNE.out).mono ?_;rintro e w7 ⟨v,rfl,hn,hf⟩;rw[←HR.out] at hf;obtain ⟨s9,a9,l9,k9,t9,b9,m9,n9,rfl⟩:=hf.shape;have HF:=hid hf;clear hf;clear pa0 pa1 pa2 pa3 pa4 pa5 pa6 pa7 pa8 pb0 pb1 pb2 pb3 pb4 pb5 pb6 pb7 pb8;replace BA:=hid (BA.out.new hn);replace BB:=hid (BB.out.new hn);replace BP:=hid (BP.out.new hn);replace HN:=hid (HN.out.trans hn);clear hn;obtain ⟨⟨pa0,pa1,pa2,pa3⟩,pa4,pa5,pa6,pa7,pa8⟩:=BA.out.four;obtain ⟨⟨pb0,pb1,pb2,pb3⟩,pb4,pb5,pb6,pb7,pb8⟩:=BB.out.four;refine hK.out _ _ (fun _=>?_) ?_
   ·exact ⟨pa0,pa1,pa2,pa3,pb0,pb1,pb2,pb3⟩
   clear hK K
   try simp only[PT]
   refine wpT_tail rfl (by kernel_rfl) ?_;simp only[List.drop_succ_cons,List.drop_zero];obtain ⟨⟨p0,p1,p2,p3⟩,p4,p5,p6,p7,p8⟩:=BP.out.four;go_wp2_with fail;refine bodyPost_ret (v:=.agg #[.int .i64 s9,.slice a9 l9 k9,.int .i64 t9,.slice b9 m9 n9]) (by simp[results,Tryz.results92,go_sem,p0,p1,p2,p3]) rfl ?_;exact frac_ret HN.out BP.out (by omega) HF.out.parts.1 HF.out.parts.2
 ·have d1:decide (x.den=1)=false:=by simpa using h1
  clear h1;go_enter Tryz.func92,Tryz.ntmps92;go_wp2_with fail;obtain ⟨BA,BB,BP,HN⟩:=lay3 w 115 #[.int .i64 sa,.slice aa la ca,.int .i64 ta,.slice ba ma na] 115 #[.int .i64 sb,.slice ab lb cb,.int .i64 tb,.slice bb mb nb] 115 #[.int .i64 0,.slice none 0 0,.int .i64 0,.slice none 0 0];refine (isWhole_calls _ x _ (HX.out.new HN.out)).mono ?_;rintro e w1 ⟨rfl,hn⟩;rw[d1];replace BA:=hid (BA.out.new hn);replace BB:=hid (BB.out.new hn);replace BP:=hid (BP.out.new hn);replace HN:=hid (HN.out.trans hn);clear hn;obtain ⟨⟨pa0,pa1,pa2,pa3⟩,pa4,pa5,pa6,pa7,pa8⟩:=BA.out.four;obtain ⟨⟨pb0,pb1,pb2,pb3⟩,pb4,pb5,pb6,pb7,pb8⟩:=BB.out.four;go_wp2_with fail;refine wp_region_T 17 (fun W=>W.cell? ⟨w.heap.size,0,none⟩=some (.int .i64 sa)∧W.cell? ⟨w.heap.size,1,none⟩=some (.slice aa la ca)∧W.cell? ⟨w.heap.size,2,none⟩=some (.int .i64 ta)∧W.cell? ⟨w.heap.size,3,none⟩=some (.slice ba ma na)∧W.cell? ⟨w.heap.size+1,0,none⟩=some (.int .i64 sb)∧W.cell? ⟨w.heap.size+1,1,none⟩=some (.slice ab lb cb)∧W.cell? ⟨w.heap.size+1,2,none⟩=some (.int .i64 tb)∧W.cell? ⟨w.heap.size+1,3,none⟩=some (.slice bb mb nb)) 18 #[false,false,false,false,false,false,false,false,false,false,false,false,false,false,false,false,false,false] rfl (by kernel_rfl) (by kernel_rfl) ?_;refine tk 0 (by exact ⟨pa0,pa1,pa2,pa3,pb0,pb1,pb2,pb3⟩) ?_
  try simp only[PT]
  refine tk 1 (by exact ⟨pa0,pa1,pa2,pa3,pb0,pb1,pb2,pb3⟩) ?_
  try simp only[PT]
  refine tk 2 (by exact ⟨pa0,pa1,pa2,pa3,pb0,pb1,pb2,pb3⟩) ?_
  try simp only[PT]
  refine tk 3 (by exact ⟨pa0,pa1,pa2,pa3,pb0,pb1,pb2,pb3⟩) ?_
  try simp only[PT]
  refine tk 5 (by exact ⟨pa0,pa1,pa2,pa3,pb0,pb1,pb2,pb3⟩) ?_
  try simp only[PT]
  refine tk 6 (by exact ⟨pa0,pa1,pa2,pa3,pb0,pb1,pb2,pb3⟩) ?_
  try simp only[PT]
  refine tk 7 (by exact ⟨pa0,pa1,pa2,pa3,pb0,pb1,pb2,pb3⟩) ?_
  try simp only[PT]
  refine tk 8 (by exact ⟨pa0,pa1,pa2,pa3,pb0,pb1,pb2,pb3⟩) ?_
  try simp only[PT]
  refine tk 11 (by exact ⟨pa0,pa1,pa2,pa3,pb0,pb1,pb2,pb3⟩) ?_
  try simp only[PT]
  refine tk 12 (by exact ⟨pa0,pa1,pa2,pa3,pb0,pb1,pb2,pb3⟩) ?_
  try simp only[PT]
  refine tk 13 (by exact ⟨pa0,pa1,pa2,pa3,pb0,pb1,pb2,pb3⟩) ?_
  try simp only[PT]
  refine tk 14 (by exact ⟨pa0,pa1,pa2,pa3,pb0,pb1,pb2,pb3⟩) ?_
  try simp only[PT]
  refine wpT_one 4 rfl (by kernel_rfl) (fun K hK=>?_);go_simp;refine (mul_calls _ _ x.num (y.den:Int) _ (X1.out.new HN.out.drew) (Y2.out.new HN.out.drew) BX1.out BY2.out).mono ?_;rintro e w3 ⟨v,rfl,hn,hi⟩;have hn:=hn.undrew;obtain ⟨s5,a5,l5,k5,rfl⟩:=hi.shape;have HI5:=hid hi;clear hi;clear pa0 pa1 pa2 pa3 pa4 pa5 pa6 pa7 pa8 pb0 pb1 pb2 pb3 pb4 pb5 pb6 pb7 pb8;replace BA:=hid (BA.out.new hn);replace BB:=hid (BB.out.new hn);replace BP:=hid (BP.out.new hn);replace HN:=hid (HN.out.trans hn);clear hn;obtain ⟨⟨pa0,pa1,pa2,pa3⟩,pa4,pa5,pa6,pa7,pa8⟩:=BA.out.four;obtain ⟨⟨pb0,pb1,pb2,pb3⟩,pb4,pb5,pb6,pb7,pb8⟩:=BB.out.four;refine hK.out _ _ (fun _=>?_) ?_
  ·exact ⟨pa0,pa1,pa2,pa3,pb0,pb1,pb2,pb3⟩
  clear hK K
  try simp only[PT]
  refine wpT_one 9 rfl (by kernel_rfl) (fun K hK=>?_);go_simp;refine (mul_calls _ _ y.num (x.den:Int) _ (Y1.out.new HN.out) (X2.out.new HN.out) BY1.out BX2.out).mono ?_;rintro e w4 ⟨v,rfl,hn,hi⟩;obtain ⟨s6,a6,l6,k6,rfl⟩:=hi.shape;have HI6:=hid hi;clear hi;clear pa0 pa1 pa2 pa3 pa4 pa5 pa6 pa7 pa8 pb0 pb1 pb2 pb3 pb4 pb5 pb6 pb7 pb8;replace BA:=hid (BA.out.new hn);replace BB:=hid (BB.out.new hn);replace BP:=hid (BP.out.new hn);replace HI5:=hid (HI5.out.new hn);replace HN:=hid (HN.out.trans hn);clear hn;obtain ⟨⟨pa0,pa1,pa2,pa3⟩,pa4,pa5,pa6,pa7,pa8⟩:=BA.out.four;obtain ⟨⟨pb0,pb1,pb2,pb3⟩,pb4,pb5,pb6,pb7,pb8⟩:=BB.out.four;refine hK.out _ _ (fun _=>?_) ?_
  ·exact ⟨pa0,pa1,pa2,pa3,pb0,pb1,pb2,pb3⟩
  clear hK K
  try simp only[PT]
  refine wpT_one 10 rfl (by kernel_rfl) (fun K hK=>?_);go_simp;refine (add_calls _ _ (x.num*y.den) (y.num*x.den) _ HI5.out HI6.out BM1.out BM2.out).mono ?_;rintro e w5 ⟨v,rfl,hn,hi⟩;obtain ⟨s7,a7,l7,k7,rfl⟩:=hi.shape;have HI7:=hid hi;clear hi;clear pa0 pa1 pa2 pa3 pa4 pa5 pa6 pa7 pa8 pb0 pb1 pb2 pb3 pb4 pb5 pb6 pb7 pb8;replace BA:=hid (BA.out.new hn);replace BB:=hid (BB.out.new hn);replace BP:=hid (BP.out.new hn);replace HN:=hid (HN.out.trans hn);clear hn;obtain ⟨⟨pa0,pa1,pa2,pa3⟩,pa4,pa5,pa6,pa7,pa8⟩:=BA.out.four;obtain ⟨⟨pb0,pb1,pb2,pb3⟩,pb4,pb5,pb6,pb7,pb8⟩:=BB.out.four;refine hK.out _ _ (fun _=>?_) ?_
  ·exact ⟨pa0,pa1,pa2,pa3,pb0,pb1,pb2,pb3⟩
  clear hK K
  try simp only[PT]
  refine wpT_one 15 rfl (by kernel_rfl) (fun K hK=>?_);go_simp;refine (mul_calls _ _ (x.den:Int) (y.den:Int) _ (X2.out.new HN.out) (Y2.out.new HN.out) BX2.out BY2.out).mono ?_;rintro e w6 ⟨v,rfl,hn,hi⟩;obtain ⟨s8,a8,l8,k8,rfl⟩:=hi.shape;have HI8:=hid hi;clear hi;clear pa0 pa1 pa2 pa3 pa4 pa5 pa6 pa7 pa8 pb0 pb1 pb2 pb3 pb4 pb5 pb6 pb7 pb8;replace BA:=hid (BA.out.new hn);replace BB:=hid (BB.out.new hn);replace BP:=hid (BP.out.new hn);replace HI7:=hid (HI7.out.new hn);replace HN:=hid (HN.out.trans hn);clear hn;obtain ⟨⟨pa0,pa1,pa2,pa3⟩,pa4,pa5,pa6,pa7,pa8⟩:=BA.out.four;obtain ⟨⟨pb0,pb1,pb2,pb3⟩,pb4,pb5,pb6,pb7,pb8⟩:=BB.out.four;refine hK.out _ _ (fun _=>?_) ?_
  ·exact ⟨pa0,pa1,pa2,pa3,pb0,pb1,pb2,pb3⟩
  clear hK K
  try simp only[PT]
  refine wpT_one 16 rfl (by kernel_rfl) (fun K hK=>?_);go_simp;refine (make_calls _ _ (x.num*y.den+y.num*x.den) (x.den*y.den:Int) _ HI7.out HI8.out BN.out BD.out HNE.out).mono ?_;rintro e w7 ⟨v,rfl,hn,hf⟩;rw[←HR.out] at hf;obtain ⟨s9,a9,l9,k9,t9,b9,m9,n9,rfl⟩:=hf.shape;have HF:=hid hf;clear hf;clear pa0 pa1 pa2 pa3 pa4 pa5 pa6 pa7 pa8 pb0 pb1 pb2 pb3 pb4 pb5 pb6 pb7 pb8;replace BA:=hid (BA.out.new hn);replace BB:=hid (BB.out.new hn);replace BP:=hid (BP.out.new hn);replace HN:=hid (HN.out.trans hn);clear hn;obtain ⟨⟨pa0,pa1,pa2,pa3⟩,pa4,pa5,pa6,pa7,pa8⟩:=BA.out.four;obtain ⟨⟨pb0,pb1,pb2,pb3⟩,pb4,pb5,pb6,pb7,pb8⟩:=BB.out.four;refine hK.out _ _ (fun _=>?_) ?_
  ·exact ⟨pa0,pa1,pa2,pa3,pb0,pb1,pb2,pb3⟩
  clear hK K
  try simp only[PT]
  refine wpT_tail rfl (by kernel_rfl) ?_;simp only[List.drop_succ_cons,List.drop_zero];obtain ⟨⟨p0,p1,p2,p3⟩,p4,p5,p6,p7,p8⟩:=BP.out.four;go_wp2_with fail;refine bodyPost_ret (v:=.agg #[.int .i64 s9,.slice a9 l9 k9,.int .i64 t9,.slice b9 m9 n9]) (by simp[results,Tryz.results92,go_sem,p0,p1,p2,p3]) rfl ?_;exact frac_ret HN.out BP.out (by omega) HF.out.parts.1 HF.out.parts.2
theorem fsub_calls (va vb:Value)(x y:Rat)(j k:Nat)(w:World)(hx:IsFrac w va x)(hy:IsFrac w vb y)(bx:FB j x)(by':FB k y)(hk:j+k+1≤60000000):Calls Tryz.prog 93 #[va,vb] w (FracPost w (x - y)):=by
 obtain ⟨sa,aa,la,ca,ta,ba,ma,na,rfl⟩:=hx.shape;obtain ⟨sb,ab,lb,cb,tb,bb,mb,nb,rfl⟩:=hy.shape;obtain ⟨r,hr⟩:∃ r,x - y=r:=⟨_,rfl⟩;have hr':=Rat.sub_eq_add_neg x y;have bn:=by'.neg;rw[hr] at hr'⊢;clear hr;have HX:=hid hx;have HY:=hid hy;have HR:=hid hr';have BX:=hid bx;have BN:=hid bn;have BY:=hid by';have HK:=hid hk;clear hx hy hr' bx bn by' hk;go_enter Tryz.func93,Tryz.ntmps93;go_wp2_with fail;obtain ⟨BA,BB,BP,HN⟩:=lay3 w 115 #[.int .i64 sa,.slice aa la ca,.int .i64 ta,.slice ba ma na] 115 #[.int .i64 sb,.slice ab lb cb,.int .i64 tb,.slice bb mb nb] 115 #[.int .i64 0,.slice none 0 0,.int .i64 0,.slice none 0 0];obtain ⟨⟨pa0,pa1,pa2,pa3⟩,pa4,pa5,pa6,pa7,pa8⟩:=BA.out.four;obtain ⟨⟨pb0,pb1,pb2,pb3⟩,pb4,pb5,pb6,pb7,pb8⟩:=BB.out.four;refine wp_region_T 4 (fun W=>W.cell? ⟨w.heap.size,0,none⟩=some (.int .i64 sa)∧W.cell? ⟨w.heap.size,1,none⟩=some (.slice aa la ca)∧W.cell? ⟨w.heap.size,2,none⟩=some (.int .i64 ta)∧W.cell? ⟨w.heap.size,3,none⟩=some (.slice ba ma na)∧W.cell? ⟨w.heap.size+1,0,none⟩=some (.int .i64 sb)∧W.cell? ⟨w.heap.size+1,1,none⟩=some (.slice ab lb cb)∧W.cell? ⟨w.heap.size+1,2,none⟩=some (.int .i64 tb)∧W.cell? ⟨w.heap.size+1,3,none⟩=some (.slice bb mb nb)) 5 #[false,false,false,false,false] rfl (by kernel_rfl) (by kernel_rfl) ?_;refine tk 0 (by exact ⟨pa0,pa1,pa2,pa3,pb0,pb1,pb2,pb3⟩) ?_
 try simp only[PT]
 refine tk 1 (by exact ⟨pa0,pa1,pa2,pa3,pb0,pb1,pb2,pb3⟩) ?_
 try simp only[PT]
 refine wpT_one 2 rfl (by kernel_rfl) (fun K hK=>?_);go_simp;refine (fneg_calls _ y _ (HY.out.new HN.out.drew)).mono ?_;rintro e w1 ⟨v,rfl,hn,hf⟩;have hn:=hn.undrew;obtain ⟨s5,a5,l5,k5,t5,b5,m5,n5,rfl⟩:=hf.shape;have HF5:=hid hf;clear hf;clear pa0 pa1 pa2 pa3 pa4 pa5 pa6 pa7 pa8 pb0 pb1 pb2 pb3 pb4 pb5 pb6 pb7 pb8;replace BA:=hid (BA.out.new hn);replace BB:=hid (BB.out.new hn);replace BP:=hid (BP.out.new hn);replace HN:=hid (HN.out.trans hn);clear hn;obtain ⟨⟨pa0,pa1,pa2,pa3⟩,pa4,pa5,pa6,pa7,pa8⟩:=BA.out.four;obtain ⟨⟨pb0,pb1,pb2,pb3⟩,pb4,pb5,pb6,pb7,pb8⟩:=BB.out.four;refine hK.out _ _ (fun _=>?_) ?_
 ·exact ⟨pa0,pa1,pa2,pa3,pb0,pb1,pb2,pb3⟩
 clear hK K
 try simp only[PT]
 refine wpT_one 3 rfl (by kernel_rfl) (fun K hK=>?_);go_simp;refine (fadd_calls _ _ x (-y) j k _ (HX.out.new HN.out) HF5.out BX.out BN.out HK.out).mono ?_;rintro e w2 ⟨v,rfl,hn,hf⟩;rw[←HR.out] at hf;obtain ⟨s9,a9,l9,k9,t9,b9,m9,n9,rfl⟩:=hf.shape;have HF:=hid hf;clear hf;clear pa0 pa1 pa2 pa3 pa4 pa5 pa6 pa7 pa8 pb0 pb1 pb2 pb3 pb4 pb5 pb6 pb7 pb8;replace BA:=hid (BA.out.new hn);replace BB:=hid (BB.out.new hn);replace BP:=hid (BP.out.new hn);replace HN:=hid (HN.out.trans hn);clear hn;obtain ⟨⟨pa0,pa1,pa2,pa3⟩,pa4,pa5,pa6,pa7,pa8⟩:=BA.out.four;obtain ⟨⟨pb0,pb1,pb2,pb3⟩,pb4,pb5,pb6,pb7,pb8⟩:=BB.out.four;refine hK.out _ _ (fun _=>?_) ?_
 ·exact ⟨pa0,pa1,pa2,pa3,pb0,pb1,pb2,pb3⟩
 clear hK K
 try simp only[PT]
 refine wpT_tail rfl (by kernel_rfl) ?_;simp only[List.drop_succ_cons,List.drop_zero];obtain ⟨⟨p0,p1,p2,p3⟩,p4,p5,p6,p7,p8⟩:=BP.out.four;go_wp2_with fail;refine bodyPost_ret (v:=.agg #[.int .i64 s9,.slice a9 l9 k9,.int .i64 t9,.slice b9 m9 n9]) (by simp[results,Tryz.results93,go_sem,p0,p1,p2,p3]) rfl ?_;exact frac_ret HN.out BP.out (by omega) HF.out.parts.1 HF.out.parts.2
theorem fdiv_calls (va vb:Value)(x y:Rat)(j k:Nat)(w:World)(hx:IsFrac w va x)(hy:IsFrac w vb y)(bx:FB j x)(by':FB k y)(hk:j+k≤60000000)(h0:y≠0):Calls Tryz.prog 95 #[va,vb] w (FracPost w (x / y)):=by
 obtain ⟨sa,aa,la,ca,ta,ba,ma,na,rfl⟩:=hx.shape;obtain ⟨sb,ab,lb,cb,tb,bb,mb,nb,rfl⟩:=hy.shape;obtain ⟨r,hr⟩:∃ r,x / y=r:=⟨_,rfl⟩;have hr':=Rat.div_def x y;have bn:=by'.inv h0
 have hk':k≤60000000:=by omega
 rw[hr]at hr'⊢;clear hr;have HX:=hid hx;have HY:=hid hy;have HR:=hid hr';have BX:=hid bx;have BN:=hid bn;have BY:=hid by';have HK:=hid hk;have HK1:=hid hk';have H0:=hid h0;clear hx hy hr' bx bn by' hk hk' h0;go_enter Tryz.func95,Tryz.ntmps95;go_wp2_with fail;obtain ⟨BA,BB,BP,HN⟩:=lay3 w 115 #[.int .i64 sa,.slice aa la ca,.int .i64 ta,.slice ba ma na] 115 #[.int .i64 sb,.slice ab lb cb,.int .i64 tb,.slice bb mb nb] 115 #[.int .i64 0,.slice none 0 0,.int .i64 0,.slice none 0 0];obtain ⟨⟨pa0,pa1,pa2,pa3⟩,pa4,pa5,pa6,pa7,pa8⟩:=BA.out.four;obtain ⟨⟨pb0,pb1,pb2,pb3⟩,pb4,pb5,pb6,pb7,pb8⟩:=BB.out.four;refine wp_region_T 4 (fun W=>W.cell? ⟨w.heap.size,0,none⟩=some (.int .i64 sa)∧W.cell? ⟨w.heap.size,1,none⟩=some (.slice aa la ca)∧W.cell? ⟨w.heap.size,2,none⟩=some (.int .i64 ta)∧W.cell? ⟨w.heap.size,3,none⟩=some (.slice ba ma na)∧W.cell? ⟨w.heap.size+1,0,none⟩=some (.int .i64 sb)∧W.cell? ⟨w.heap.size+1,1,none⟩=some (.slice ab lb cb)∧W.cell? ⟨w.heap.size+1,2,none⟩=some (.int .i64 tb)∧W.cell? ⟨w.heap.size+1,3,none⟩=some (.slice bb mb nb)) 5 #[false,false,false,false,false] rfl (by kernel_rfl) (by kernel_rfl) ?_;refine tk 0 (by exact ⟨pa0,pa1,pa2,pa3,pb0,pb1,pb2,pb3⟩) ?_
 try simp only[PT]
 refine tk 1 (by exact ⟨pa0,pa1,pa2,pa3,pb0,pb1,pb2,pb3⟩) ?_
 try simp only[PT]
 refine wpT_one 2 rfl (by kernel_rfl) (fun K hK=>?_);go_simp;refine (inv_calls _ y k _ (HY.out.new HN.out.drew) BY.out HK1.out H0.out).mono ?_;rintro e w1 ⟨v,rfl,hn,hf⟩;have hn:=hn.undrew;obtain ⟨s5,a5,l5,k5,t5,b5,m5,n5,rfl⟩:=hf.shape;have HF5:=hid hf;clear hf;clear pa0 pa1 pa2 pa3 pa4 pa5 pa6 pa7 pa8 pb0 pb1 pb2 pb3 pb4 pb5 pb6 pb7 pb8;replace BA:=hid (BA.out.new hn);replace BB:=hid (BB.out.new hn);replace BP:=hid (BP.out.new hn);replace HN:=hid (HN.out.trans hn);clear hn;obtain ⟨⟨pa0,pa1,pa2,pa3⟩,pa4,pa5,pa6,pa7,pa8⟩:=BA.out.four;obtain ⟨⟨pb0,pb1,pb2,pb3⟩,pb4,pb5,pb6,pb7,pb8⟩:=BB.out.four;refine hK.out _ _ (fun _=>?_) ?_
 ·exact ⟨pa0,pa1,pa2,pa3,pb0,pb1,pb2,pb3⟩
 clear hK K
 try simp only[PT]
 refine wpT_one 3 rfl (by kernel_rfl) (fun K hK=>?_);go_simp;refine (fmul_calls _ _ x y⁻¹ j k _ (HX.out.new HN.out) HF5.out BX.out BN.out HK.out).mono ?_;rintro e w2 ⟨v,rfl,hn,hf⟩;rw[←HR.out] at hf;obtain ⟨s9,a9,l9,k9,t9,b9,m9,n9,rfl⟩:=hf.shape;have HF:=hid hf;clear hf;clear pa0 pa1 pa2 pa3 pa4 pa5 pa6 pa7 pa8 pb0 pb1 pb2 pb3 pb4 pb5 pb6 pb7 pb8;replace BA:=hid (BA.out.new hn);replace BB:=hid (BB.out.new hn);replace BP:=hid (BP.out.new hn);replace HN:=hid (HN.out.trans hn);clear hn;obtain ⟨⟨pa0,pa1,pa2,pa3⟩,pa4,pa5,pa6,pa7,pa8⟩:=BA.out.four;obtain ⟨⟨pb0,pb1,pb2,pb3⟩,pb4,pb5,pb6,pb7,pb8⟩:=BB.out.four;refine hK.out _ _ (fun _=>?_) ?_
 ·exact ⟨pa0,pa1,pa2,pa3,pb0,pb1,pb2,pb3⟩
 clear hK K
 try simp only[PT]
 refine wpT_tail rfl (by kernel_rfl) ?_;simp only[List.drop_succ_cons,List.drop_zero];obtain ⟨⟨p0,p1,p2,p3⟩,p4,p5,p6,p7,p8⟩:=BP.out.four;go_wp2_with fail;refine bodyPost_ret (v:=.agg #[.int .i64 s9,.slice a9 l9 k9,.int .i64 t9,.slice b9 m9 n9]) (by simp[results,Tryz.results95,go_sem,p0,p1,p2,p3]) rfl ?_;exact frac_ret HN.out BP.out (by omega) HF.out.parts.1 HF.out.parts.2
theorem floor_calls (va:Value)(q:Rat)(k:Nat)(w:World)(hx:IsFrac w va q)(hb:FB k q)(hk:k≤60000000):Calls Tryz.prog 116 #[va] w (IntPost w q.floor):=by
 obtain ⟨s,a,l,c,s',a',l',c',rfl,h1,h2⟩:=hx;obtain ⟨z,hz⟩:∃ z,q.floor=z:=⟨_,rfl⟩;have hz':=Rat.floor_def q;rw[hz] at hz'⊢;clear hz
 have hp:(0:Int) < q.den:=by have:=q.den_pos;omega
 have H1:=hid h1;have H2:=hid h2;have HZ:=hid hz';have HB:=hid hb;have HK:=hid hk;have HP:=hid hp;clear h1 h2 hz' hb hk hp;go_enter Tryz.func116,Tryz.ntmps116;go_wp2_with fail;obtain ⟨BA,BP,HN⟩:=lay2 w 115 #[.int .i64 s,.slice a l c,.int .i64 s',.slice a' l' c'] 113 #[.int .i64 0,.slice none 0 0];refine (divmod_calls _ _ q.num (q.den:Int) _ (H1.out.new HN.out) (H2.out.new HN.out) (HB.out.num.bd HK.out) (HB.out.den.bd HK.out) HP.out).mono ?_;rintro e w2 ⟨v,v',rfl,hn,hi,hi'⟩;rw[←HZ.out] at hi;obtain ⟨s5,a5,l5,k5,rfl⟩:=hi.shape;obtain ⟨s6,a6,l6,k6,rfl⟩:=hi'.shape;clear hi';have HI:=hid hi;clear hi;replace BP:=hid (BP.out.new hn);replace HN:=hid (HN.out.trans hn);clear hn;obtain ⟨p0,p1,p2,p3,p4⟩:=BP.out.two;have p5:=Nat.lt_add_right 1 p4;go_wp2_with fail;refine bodyPost_ret (v:=.agg #[.int .i64 s5,.slice a5 l5 k5]) (by simp[results,Tryz.results116,go_sem,p0,p1,p4,p5]) rfl ?_;exact ⟨_,rfl,(((HN.out.putAt BP.out (by omega) _ _).alloc _).alloc _),(HI.out.put2 BP.out _ _ _ _).new (((New.refl _).alloc _).alloc _)⟩
theorem large_calls (va:Value)(q:Rat)(w:World)(hx:IsFrac w va q)(hb:FB 1800 q):Calls Tryz.prog 165 #[va] w fun e w'=>e=.returned (.bool false)∧New w w':=by
 obtain ⟨s,a,l,c,s',a',l',c',rfl,h1,h2⟩:=hx;have H1:=hid h1;have H2:=hid h2;have HB:=hid hb;clear h1 h2 hb;go_enter Tryz.func165,Tryz.ntmps165;go_wp2_with fail;obtain ⟨BA,HN⟩:=lay1 w 115 #[.int .i64 s,.slice a l c,.int .i64 s',.slice a' l' c'];refine (long_calls _ q.num _ (H1.out.new HN.out) HB.out.num).mono ?_;rintro e w2 ⟨rfl,hn⟩;replace BA:=hid (BA.out.new hn);replace HN:=hid (HN.out.trans hn);clear hn;obtain ⟨⟨pa0,pa1,pa2,pa3⟩,pa4,pa5,pa6,pa7,pa8⟩:=BA.out.four;go_wp2_with fail;refine (long_calls _ (q.den:Int) _ (H2.out.new HN.out) HB.out.den).mono ?_;rintro e w3 ⟨rfl,hn⟩;replace HN:=hid (HN.out.trans hn);clear hn;go_wp2_with fail;go_ret;exact ⟨rfl,HN.out⟩
end Go.Proofs.YtnjonlnemagomaaGreatDoor
namespace Go.Proofs.YtnjonlnemagomaaGreatDoor.Big
set_option maxRecDepth 100000
set_option maxHeartbeats 8000000
open Go.Lib
def isDig (c:UInt8):Bool:=decide (48≤c.toNat) && decide (c.toNat≤57)
def dval (acc:Nat)(l:List UInt8):Nat:=l.foldl (fun a c=>10*a+(c.toNat - 48)) acc
theorem dval_nil (acc:Nat):dval acc []=acc:=by unfold dval;rw[List.foldl_nil]
theorem dval_cons (acc:Nat)(c:UInt8)(l:List UInt8):dval acc (c::l)=dval (10*acc+(c.toNat - 48)) l:=by unfold dval;rw[List.foldl_cons]
theorem dval_append (acc:Nat)(l m:List UInt8):dval acc (l ++ m)=dval (dval acc l) m:=by
 induction l generalizing acc with
 | nil=>rw[List.nil_append,dval_nil]
 | cons c l ih=>rw[List.cons_append,dval_cons,dval_cons,ih]
theorem dval_acc (acc:Nat)(l:List UInt8):dval acc l=acc*10^l.length+dval 0 l:=by
 induction l generalizing acc with
 | nil=>simp[dval_nil]
 | cons c l ih=>
  rw[dval_cons,dval_cons,List.length_cons];generalize c.toNat - 48=d;rw[ih (10*acc+d),ih (10*0+d),Nat.pow_succ];generalize 10^l.length=p;generalize dval 0 l=e;rw[Nat.add_mul,Nat.mul_zero,Nat.zero_add,Nat.mul_comm p 10,Nat.mul_assoc,Nat.mul_left_comm acc 10 p];omega
theorem ofNat_dig {d:Nat}(h:d < 10):(UInt8.ofNat (48+d)).toNat=48+d:=by
 rw[UInt8.toNat_ofNat'];omega
theorem isDig_ofNat {d:Nat}(h:d < 10):isDig (UInt8.ofNat (48+d))=true:=by
 unfold isDig;rw[ofNat_dig h];simp;omega
theorem isDig_iff {c:UInt8}:isDig c=true ↔ 48≤c.toNat∧c.toNat≤57:=by simp[isDig]
theorem eq_ofNat_of_isDig {c:UInt8}(h:isDig c=true):c=UInt8.ofNat (48+(c.toNat - 48)):=by
 rw[isDig_iff]at h;apply UInt8.toNat_inj.1;rw[ofNat_dig (by omega)];omega
theorem decDigits_small {u:Nat}(h:u < 10):decDigits u=[UInt8.ofNat (48+u)]:=by rw[decDigits,dif_pos h]
theorem decDigits_big {u:Nat}(h:¬u < 10):decDigits u=decDigits (u / 10) ++ [UInt8.ofNat (48+u % 10)]:=by rw[decDigits,dif_neg h]
theorem decDigits_ne_nil (u:Nat):decDigits u≠[]:=by
 intro h;have h1:=decDigits_length u;have h2:=nDigits_pos u;rw[h] at h1;simp only[List.length_nil] at h1;omega
theorem dval_decDigits (u:Nat):dval 0 (decDigits u)=u:=by
 induction u using Nat.strongRecOn with
 | _ u ih=>
  by_cases h:u < 10
  ·rw[decDigits_small h,dval_cons,dval_nil,ofNat_dig h];omega
  ·rw[decDigits_big h,dval_append,ih _ (by omega),dval_cons,dval_nil,ofNat_dig (show u % 10 < 10 by omega)];omega
theorem decDigits_inj {u v:Nat}(h:decDigits u=decDigits v):u=v:=by
 have:=congrArg (dval 0) h
 rwa [dval_decDigits,dval_decDigits] at this
theorem decDigits_dig (u:Nat):∀ c∈decDigits u,isDig c=true:=by
 induction u using Nat.strongRecOn with
 | _ u ih=>
  by_cases h:u < 10
  ·rw[decDigits_small h];intro c hc;rw[List.mem_singleton] at hc;rw[hc];exact isDig_ofNat h
  ·rw[decDigits_big h];intro c hc;rcases List.mem_append.1 hc with hc | hc
   ·exact ih _ (by omega) c hc
   ·rw[List.mem_singleton] at hc;rw[hc];exact isDig_ofNat (by omega)
theorem decDigits_head {u:Nat}(h:u≠0):(decDigits u).head?≠some 48:=by
 induction u using Nat.strongRecOn with
 | _ u ih=>
  by_cases h10:u < 10
  ·rw[decDigits_small h10];intro e;simp only[List.head?_cons,Option.some.injEq] at e;have:=congrArg UInt8.toNat e;rw[ofNat_dig h10] at this;simp at this;omega
  ·rw[decDigits_big h10];have hn:=decDigits_ne_nil (u / 10);have:=ih (u / 10) (by omega) (by omega);rw[List.head?_append]
   cases hd:(decDigits (u / 10)).head? with
   | none=>exact absurd (List.head?_eq_none_iff.1 hd) hn
   | some c=>rw[hd] at this;simpa using this
theorem decDigits_zero:decDigits 0=[48]:=by rw[decDigits_small (by omega)];rfl
theorem decDigits_one':decDigits 1=[49]:=by rw[decDigits_small (by omega)];rfl
theorem nDigits_le_iff {u k:Nat}(hk:0 < k):nDigits u≤k ↔ u < 10^k:=by
 constructor
 ·intro h;have h1:=lt_pow_nDigits u;have h2:10^nDigits u≤10^k:=Nat.pow_le_pow_right (by omega) h;omega
 ·intro h;by_cases h0:u=0
  ·subst h0;rw[nDigits_small (by omega)];omega
  ·rcases Nat.lt_or_ge k (nDigits u) with h1 | h1
   ·exfalso
    have:∀ u,u≠0→10^(nDigits u - 1)≤u:=by
     intro u
     induction u using Nat.strongRecOn with
     | _ u ih=>
      intro hu;by_cases h10:u < 10
      ·rw[nDigits_small h10];simp;omega
      ·rw[nDigits_big h10];have:=ih (u / 10) (by omega) (by omega);have hp:=nDigits_pos (u / 10);obtain ⟨m,hm⟩:∃ m,nDigits (u / 10)=m+1:=⟨_,(Nat.succ_pred_eq_of_pos hp).symm⟩;rw[hm] at this⊢;simp only[Nat.add_sub_cancel] at this⊢;rw[Nat.pow_succ];omega
    have h2:=this u h0;have h3:10^k≤10^(nDigits u - 1):=Nat.pow_le_pow_right (by omega) (by omega);omega
   ·exact h1
def padDigits:Nat→Nat→List UInt8
 | 0,_=>[]
 | k+1,n=>padDigits k (n / 10) ++ [UInt8.ofNat (48+n % 10)]
theorem padDigits_length (k n:Nat):(padDigits k n).length=k:=by
 induction k generalizing n with
 | zero=>rfl
 | succ k ih=>simp[padDigits,ih]
theorem decDigits_pad {u:Nat}(h:u≠0)(k n:Nat)(hn:n < 10^k):decDigits (u*10^k+n)=decDigits u ++ padDigits k n:=by
 induction k generalizing n with
 | zero=>simp at hn;subst hn;simp[padDigits]
 | succ k ih=>
  have hpow:10^(k+1)=10*10^k:=by rw[Nat.pow_succ];omega
  have hpos:1*10^k≤u*10^k:=Nat.mul_le_mul_right _ (by omega);have hpp:0 < 10^k:=Nat.pow_pos (by omega)
  have e1:u*10^(k+1)=10*(u*10^k):=by rw[hpow,Nat.mul_left_comm]
  have e2:(10*(u*10^k)+n) / 10=u*10^k+n / 10:=by omega
  have e3:(10*(u*10^k)+n) % 10=n % 10:=by omega
  rw[e1,decDigits_big (by omega),padDigits,←List.append_assoc,←ih (n / 10) (by omega),e2,e3]
theorem padDigits_of_nDigits {k n:Nat}(hk:nDigits n≤k):padDigits k n=List.replicate (k - nDigits n) 48 ++ decDigits n:=by
 induction k generalizing n with
 | zero=>have:=nDigits_pos n;omega
 | succ k ih=>
  by_cases h:n < 10
  ·rw[nDigits_small h,decDigits_small h,padDigits]
   have:n / 10=0:=by omega
   rw[this,show n % 10=n by omega];congr 1;clear this hk h ih
   induction k with
   | zero=>rfl
   | succ k ih=>rw[padDigits,show 0 / 10=0 by rfl,ih];simp[List.replicate_succ']
  ·rw[nDigits_big h] at hk⊢;rw[padDigits,ih (by omega),decDigits_big h,show k+1 - (nDigits (n / 10)+1)=k - nDigits (n / 10) by omega,List.append_assoc]
def isDec (l:List UInt8):Bool:=!l.isEmpty && l.all isDig && (l.head? != some 48 || l==[48])
theorem dval_lt {l:List UInt8}(h:∀ c∈l,isDig c=true):dval 0 l < 10^l.length:=by
 have:∀ (l:List UInt8) (acc:Nat),(∀ c∈l,isDig c=true)→dval acc l < (acc+1)*10^l.length:=by
  intro l
  induction l with
  | nil=>intro acc _;simp[dval_nil]
  | cons c l ih=>
   intro acc h;have hc:=isDig_iff.1 (h c (by simp));have h1:=ih (10*acc+(c.toNat - 48)) (fun d hd=>h d (by simp[hd]));have h2:(10*acc+(c.toNat - 48)+1)*10^l.length≤(10*(acc+1))*10^l.length:=Nat.mul_le_mul_right _ (by omega);rw[dval_cons,List.length_cons,Nat.pow_succ];generalize dval (10*acc+(c.toNat - 48)) l=x at *;generalize 10^l.length=p at *
   have h3:10*(acc+1)*p=(acc+1)*(p*10):=by grind
   omega
 simpa using this l 0 h
theorem decDigits_dval {l:List UInt8}(h:∀ c∈l,isDig c=true)(hne:l≠[])(hh:l.head?≠some 48∨l=[48]):decDigits (dval 0 l)=l:=by
 obtain ⟨m,hm⟩:∃ m:List UInt8,m=l.reverse:=⟨_,rfl⟩
 have hl:l=m.reverse:=by rw[hm,List.reverse_reverse]
 clear hm;subst hl
 induction m with
 | nil=>simp at hne
 | cons c m ih=>
  rw[List.reverse_cons]at *;have hc:isDig c=true:=h c (by simp);have hcd:=isDig_iff.1 hc;rw[dval_append,dval_cons,dval_nil];by_cases hm:m=[]
  ·subst hm;simp only[List.reverse_nil,dval_nil,Nat.mul_zero,Nat.zero_add,List.nil_append];rw[decDigits_small (by omega),←eq_ofNat_of_isDig hc]
  ·have hmr:m.reverse≠[]:=by simpa using hm
   have hh':m.reverse.head?≠some 48:=by
    rcases hh with hh | hh
    ·rw[List.head?_append] at hh
     cases hd:m.reverse.head? with
     | none=>exact absurd (List.head?_eq_none_iff.1 hd) hmr
     | some d=>rw[hd] at hh;simpa using hh
    ·exfalso;have:=congrArg List.length hh;simp at this;exact hm this
   have ihm:=ih (fun d hd=>h d (by simp at hd⊢;exact Or.inl hd)) hmr (.inl hh')
   have hpos:dval 0 m.reverse≠0:=by
    intro e;rw[e,decDigits_zero] at ihm;rw[←ihm] at hh';simp at hh'
   rw[decDigits_big (by omega)];congr 1
   ·rw[show (10*dval 0 m.reverse+(c.toNat - 48)) / 10=dval 0 m.reverse by omega,ihm]
   ·rw[show (10*dval 0 m.reverse+(c.toNat - 48)) % 10=c.toNat - 48 by omega,←eq_ofNat_of_isDig hc]
theorem isDec_iff {l:List UInt8}:isDec l=true ↔ ∃ n,l=decDigits n:=by
 constructor
 ·intro h;simp only[isDec,Bool.and_eq_true,Bool.not_eq_true',List.isEmpty_eq_false_iff,List.all_eq_true,Bool.or_eq_true,bne_iff_ne,beq_iff_eq] at h;exact ⟨dval 0 l,(decDigits_dval h.1.2 h.1.1 h.2).symm⟩
 ·rintro ⟨n,rfl⟩;simp only[isDec,Bool.and_eq_true,Bool.not_eq_true',List.isEmpty_eq_false_iff,List.all_eq_true,Bool.or_eq_true,bne_iff_ne,beq_iff_eq];refine ⟨⟨decDigits_ne_nil n,decDigits_dig n⟩,?_⟩;by_cases h0:n=0
  ·subst h0;exact .inr decDigits_zero
  ·exact .inl (decDigits_head h0)
theorem decDigits_no (n:Nat){c:UInt8}(hc:isDig c=false):c ∉ decDigits n:=by
 intro h;rw[decDigits_dig n c h] at hc
 cases hc
theorem decDigits_eq_zero {n:Nat}:decDigits n=[48] ↔ n=0:=by
 constructor
 ·intro h;exact decDigits_inj (h.trans decDigits_zero.symm)
 ·rintro rfl;exact decDigits_zero
theorem decDigits_eq_one {n:Nat}:decDigits n=[49] ↔ n=1:=by
 constructor
 ·intro h;exact decDigits_inj (h.trans decDigits_one'.symm)
 ·rintro rfl;exact decDigits_one'
def ratText (q:Rat):List UInt8:=if q.den=1 then itoa q.num else itoa q.num ++ 47::decDigits q.den
def unsigned (l:List UInt8):List UInt8:=if l.head?=some 45 then l.tail else l
def upTo (l:List UInt8):List UInt8:=l.takeWhile (· != 47)
def behind (l:List UInt8):List UInt8:=(l.dropWhile (· != 47)).tail
def slashed (l:List UInt8):Bool:=l.any (·==47)
def ratForm (l:List UInt8):Bool:=
 isDec (upTo (unsigned l)) && !(l.head?==some 45 && upTo (unsigned l)==[48]) &&
  (!slashed (unsigned l) || (isDec (behind (unsigned l)) && behind (unsigned l) != [48] && behind (unsigned l) != [49]))
def ratLarge (l:List UInt8):Bool:=decide (600 < (upTo (unsigned l)).length) || decide (600 < (behind (unsigned l)).length)
def ratCommon (l:List UInt8):Bool:=slashed (unsigned l) && Nat.gcd (dval 0 (upTo (unsigned l))) (dval 0 (behind (unsigned l))) != 1
def ratErr (l:List UInt8):Int:=if ratForm l=false then 1 else if ratLarge l then 4 else if ratCommon l then 1 else 0
theorem takeWhile_all {p:UInt8→Bool}{l:List UInt8}(h:∀ c∈l,p c=true):l.takeWhile p=l:=by
 have:=List.takeWhile_append_of_pos (p:=p) (l₁:=l) (l₂:=[]) h;simpa using this
theorem dropWhile_all {p:UInt8→Bool}{l:List UInt8}(h:∀ c∈l,p c=true):l.dropWhile p=[]:=by
 have:=List.dropWhile_append_of_pos (p:=p) (l₁:=l) (l₂:=[]) h;simpa using this
theorem all_of_dropWhile {p:UInt8→Bool}:∀ {l:List UInt8},l.dropWhile p=[]→∀ c∈l,p c=true
 | [],_,c,hc=>by simp at hc
 | d::l,h,c,hc=>by
  rw[List.dropWhile_cons]at h;split at h
  ·rename_i hd;rcases List.mem_cons.1 hc with rfl | hc
   ·exact hd
   ·exact all_of_dropWhile h c hc
  ·cases h
theorem dig47:isDig 47=false:=by decide
theorem takeWhile_dec (n:Nat)(r:List UInt8):(decDigits n ++ 47::r).takeWhile (· != 47)=decDigits n:=by
 rw[List.takeWhile_append_of_pos]
 ·simp
 ·intro c hc;simp only[bne_iff_ne,ne_eq];rintro rfl;exact decDigits_no n dig47 hc
theorem takeWhile_dec' (n:Nat):(decDigits n).takeWhile (· != 47)=decDigits n:=by
 refine takeWhile_all fun c hc=>?_;simp only[bne_iff_ne,ne_eq];rintro rfl;exact decDigits_no n dig47 hc
theorem dropWhile_dec (n:Nat)(r:List UInt8):(decDigits n ++ 47::r).dropWhile (· != 47)=47::r:=by
 rw[List.dropWhile_append_of_pos]
 ·simp
 ·intro c hc;simp only[bne_iff_ne,ne_eq];rintro rfl;exact decDigits_no n dig47 hc
theorem dropWhile_dec' (n:Nat):(decDigits n).dropWhile (· != 47)=[]:=by
 refine dropWhile_all fun c hc=>?_;simp only[bne_iff_ne,ne_eq];rintro rfl;exact decDigits_no n dig47 hc
theorem upTo_slash (n:Nat)(r:List UInt8):upTo (decDigits n ++ 47::r)=decDigits n:=takeWhile_dec n r
theorem behind_slash (n:Nat)(r:List UInt8):behind (decDigits n ++ 47::r)=r:=by unfold behind;rw[dropWhile_dec];rfl
theorem upTo_plain (n:Nat):upTo (decDigits n)=decDigits n:=takeWhile_dec' n
theorem behind_plain (n:Nat):behind (decDigits n)=[]:=by unfold behind;rw[dropWhile_dec'];rfl
theorem slashed_slash (n:Nat)(r:List UInt8):slashed (decDigits n ++ 47::r)=true:=by simp[slashed]
theorem slashed_plain (n:Nat):slashed (decDigits n)=false:=by
 simp only[slashed,List.any_eq_false,beq_iff_eq];rintro c hc rfl;exact decDigits_no n dig47 hc
theorem split_slash {l:List UInt8}(h:slashed l=true):l=upTo l ++ 47::behind l:=by
 have e:=(List.takeWhile_append_dropWhile (p:=(· != 47)) (l:=l)).symm;unfold upTo behind
 cases hd:l.dropWhile (· != 47) with
 | nil=>
  exfalso;have hd:=all_of_dropWhile hd;simp only[slashed,List.any_eq_true,beq_iff_eq] at h;obtain ⟨c,hc,rfl⟩:=h;have:=hd 47 hc;simp at this
 | cons c r=>
  have hc:(c != 47)=false:=by
   have:=List.head?_dropWhile_not (· != 47) l;rw[hd] at this;simpa using this
  have:c=47:=by simpa using hc
  subst this;rw[hd] at e;exact e
theorem split_plain {l:List UInt8}(h:slashed l=false):upTo l=l∧behind l=[]:=by
 have h':∀ c∈l,(c != 47)=true:=by
  simp only[slashed,List.any_eq_false,beq_iff_eq]at h;intro c hc;simpa using h c hc
 refine ⟨takeWhile_all h',?_⟩;unfold behind;rw[dropWhile_all h'];rfl
theorem unsigned_dec (n:Nat)(r:List UInt8):unsigned (decDigits n ++ r)=decDigits n ++ r:=by
 unfold unsigned;rw[if_neg];intro h
 cases hd:decDigits n with
 | nil=>exact decDigits_ne_nil n hd
 | cons c t=>
  rw[hd]at h;simp only[List.cons_append,List.head?_cons,Option.some.injEq] at h;have:=decDigits_dig n c (by rw[hd];simp);rw[h] at this;exact absurd this (by decide)
theorem unsigned_itoa (i:Int)(r:List UInt8):unsigned (itoa i ++ r)=decDigits i.natAbs ++ r:=by
 unfold itoa;split
 ·simp[unsigned]
 ·rw[unsigned_dec,show i.toNat=i.natAbs by omega]
theorem head_dec (n:Nat)(r:List UInt8):((decDigits n ++ r).head?==some 45)=false:=by
 cases hd:decDigits n with
 | nil=>exact absurd hd (decDigits_ne_nil n)
 | cons c t=>
  have:=decDigits_dig n c (by rw[hd];simp);simp only[List.cons_append,List.head?_cons,beq_eq_false_iff_ne,ne_eq,Option.some.injEq];rintro rfl;exact absurd this (by decide)
theorem head_itoa (i:Int)(r:List UInt8):((itoa i ++ r).head?==some 45)=decide (i < 0):=by
 unfold itoa;split
 ·rename_i h;simp[h]
 ·rename_i h;rw[head_dec];simp[h]
theorem unsigned_ratText (q:Rat):unsigned (ratText q)=if q.den=1 then decDigits q.num.natAbs else decDigits q.num.natAbs ++ 47::decDigits q.den:=by
 unfold ratText;split
 ·have:=unsigned_itoa q.num [];simpa using this
 ·exact unsigned_itoa _ _
theorem head_ratText (q:Rat):((ratText q).head?==some 45)=decide (q.num < 0):=by
 unfold ratText;split
 ·have:=head_itoa q.num [];simpa using this
 ·exact head_itoa _ _
theorem natAbs_zero_of_sign {i:Int}(h:i < 0):decDigits i.natAbs≠[48]:=by
 rw[ne_eq,decDigits_eq_zero];omega
def Fits (q:Rat):Prop:=nDigits q.num.natAbs≤600∧nDigits q.den≤600
theorem Fits.iff {q:Rat}:Fits q ↔ q.num.natAbs < 10^600∧q.den < 10^600:=by
 unfold Fits;rw[nDigits_le_iff (by omega),nDigits_le_iff (by omega)]
theorem ratForm_ratText (q:Rat):ratForm (ratText q)=true:=by
 unfold ratForm;rw[head_ratText,unsigned_ratText];by_cases h1:q.den=1
 ·rw[if_pos h1,upTo_plain,slashed_plain];have:isDec (decDigits q.num.natAbs)=true:=isDec_iff.2 ⟨_,rfl⟩;simp only[this,Bool.true_and,Bool.not_false,Bool.true_or,Bool.and_true,Bool.not_eq_true',Bool.and_eq_false_iff,decide_eq_false_iff_not];by_cases h:q.num < 0
  ·right;simpa using natAbs_zero_of_sign h
  ·left;exact h
 ·rw[if_neg h1,upTo_slash,behind_slash,slashed_slash];have e1:isDec (decDigits q.num.natAbs)=true:=isDec_iff.2 ⟨_,rfl⟩;have e2:isDec (decDigits q.den)=true:=isDec_iff.2 ⟨_,rfl⟩
  have e3:(decDigits q.den != [48])=true:=by simp only[bne_iff_ne,ne_eq,decDigits_eq_zero];exact q.den_nz
  have e4:(decDigits q.den != [49])=true:=by simp only[bne_iff_ne,ne_eq,decDigits_eq_one];exact h1
  simp only[e1,e2,e3,e4,Bool.true_and,Bool.not_true,Bool.false_or,Bool.and_true,Bool.not_eq_true',Bool.and_eq_false_iff,decide_eq_false_iff_not];by_cases h:q.num < 0
  ·right;simpa using natAbs_zero_of_sign h
  ·left;exact h
theorem ratCommon_ratText (q:Rat):ratCommon (ratText q)=false:=by
 unfold ratCommon;rw[unsigned_ratText];by_cases h1:q.den=1
 ·rw[if_pos h1,slashed_plain];rfl
 ·rw[if_neg h1,slashed_slash,upTo_slash,behind_slash,dval_decDigits,dval_decDigits];have:=q.reduced;unfold Nat.Coprime at this;simp[this]
theorem ratLarge_ratText (q:Rat):ratLarge (ratText q)=true ↔ ¬Fits q:=by
 unfold ratLarge Fits;rw[unsigned_ratText];by_cases h1:q.den=1
 ·rw[if_pos h1,upTo_plain,behind_plain,decDigits_length,h1,nDigits_small (show 1 < 10 by omega)];simp
 ·rw[if_neg h1,upTo_slash,behind_slash,decDigits_length,decDigits_length];simp only[Bool.or_eq_true,decide_eq_true_eq];omega
theorem ratErr_ratText {q:Rat}(h:Fits q):ratErr (ratText q)=0:=by
 unfold ratErr;rw[if_neg (by rw[ratForm_ratText];simp),if_neg (by rw[ratLarge_ratText];simpa using h),if_neg (by rw[ratCommon_ratText];simp)]
theorem itoa_nonneg {n:Nat}:itoa (n:Int)=decDigits n:=by
 unfold itoa;rw[if_neg (by omega)];simp
theorem itoa_neg {n:Nat}(h:n≠0):itoa (-(n:Int))=45::decDigits n:=by
 unfold itoa;rw[if_pos (by omega)];simp
end Go.Proofs.YtnjonlnemagomaaGreatDoor.Big
namespace Go.Proofs.YtnjonlnemagomaaGreatDoor
open Go.RowKit Big
set_option maxRecDepth 100000
set_option maxHeartbeats 8000000
structure Env (w:World):Prop where
 maxLen:∃ m:Int,w.cell? ⟨1,0,none⟩=some (.int .i64 m)
 tab : Lib.TabIs Tryz.prog w "internal/strconv.uint64pow10" .u64 Lib.pow10Tab
theorem Env.new {w w':World}(h:Env w)(hn:New w w'):Env w':=by
 obtain ⟨⟨m,hm⟩,ht⟩:=h;refine ⟨⟨m,hn.cell hm⟩,?_⟩;unfold Lib.TabIs World.var? at *
 cases hg : Tryz.prog.globalNamed "internal/strconv.uint64pow10" with
 | none=>rw[hg] at ht;cases ht
 | some g=>
  rw[hg]at ht;simp only[Option.bind_some] at ht⊢
  have hlt:g < w.heap.size:=by
   rcases Nat.lt_or_ge g w.heap.size with h | h
   ·exact h
   ·rw[Array.getElem?_eq_none h] at ht;cases ht
  rw[Below.block hn g hlt];exact ht
theorem new_grow (w:World)(k:Nat)(os:Array Obj):New w (Sort.grow (w.drewN k) os):=by
 refine ⟨rfl,rfl,rfl,?_,fun j hj=>?_⟩
 ·show w.heap.size≤(w.heap ++ os).size;rw[Array.size_append];omega
 ·show (w.heap ++ os)[j]?=w.heap[j]?;rw[Array.getElem?_append_left hj]
theorem itoa_calls (z:Int)(w:World)(he:Env w)(lo: -9223372036854775808≤z)(hi:z≤9223372036854775807):Calls Tryz.prog 228 #[.int .i64 z] w fun e w'=>e=.returned (.string ⟨(Lib.itoa z).toArray⟩)∧New w w':=
 (Tryz.strconv_Itoa z lo hi w he.tab).mono fun e w' ⟨h1,k,os,h2⟩=>⟨h1,by rw[h2];exact new_grow w k os⟩
def Sm (z:Int):Prop:= -9223372036854775807≤z∧z≤9223372036854775807
theorem IsInt.sm {w:World}{s:Int}{a:Option Addr}{l c:Nat}{z:Int}(h:IsInt w (.agg #[.int .i64 s,.slice a l c]) z)(hs:Sm z):s=z∧a=none∧l=0∧c=0:=by
 obtain ⟨lo',hi'⟩:=hs;rcases h with ⟨h,lo,hi⟩ | ⟨b,off,n,cap,f,s,h,hs,hw,h0,hv,hz⟩
 ·injection h with h;simp at h;obtain ⟨rfl,rfl,rfl,rfl⟩:=h;exact ⟨rfl,rfl,rfl,rfl⟩
 ·exfalso;rcases hs with rfl | rfl <;> omega
theorem ret_string {a b:ByteArray}(h:a=b):Ending.returned (.string a)=.returned (.string b):=by rw[h]
theorem join3 (A B:List UInt8)(c:UInt8):(⟨A.toArray⟩ ++ ⟨#[c]⟩ ++ ⟨B.toArray⟩:ByteArray)=⟨(A ++ c::B).toArray⟩:=by
 apply ByteArray.ext;simp[ByteArray.data_append]
end Go.Proofs.YtnjonlnemagomaaGreatDoor
