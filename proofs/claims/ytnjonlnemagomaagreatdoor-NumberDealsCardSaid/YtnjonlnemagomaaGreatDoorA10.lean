/- Part A10. -/
import Derived.Test.YtnjonlnemagomaaGreatDoorA09
namespace Go.Proofs.YtnjonlnemagomaaGreatDoor
open Go.RowKit Big
open Go.Lib (hid)
set_option maxRecDepth 100000
set_option maxHeartbeats 8000000
theorem quo_pos {x y:Int}(h:0 < y):quo x y=x / y:=by unfold quo;rw[if_neg (by omega)]
theorem divInt_pos {X Y:Int}(hY:0 < Y):(Rat.divInt X Y).num=X / (Int.gcd X Y:Int)∧((Rat.divInt X Y).den:Int)=Y / (Int.gcd X Y:Int):=by
 rw[Rat.num_divInt,Rat.den_divInt,if_neg (by omega),Int.sign_eq_one_of_pos hY,Int.one_mul,Int.gcd_comm];refine ⟨rfl,?_⟩;rw[Int.natCast_ediv];congr 1;omega
theorem gcd_bd {X Y:Int}(hY:0 < Y)(b:Bd Y):Bd (Int.gcd X Y:Int):=b.le (by
 have:=Nat.le_of_dvd (by omega) (Int.gcd_dvd_natAbs_right X Y)
 simpa using this)
theorem make_calls (va vb:Value)(x y:Int)(w:World)(hx:IsInt w va x)(hy:IsInt w vb y)(bx:Bd x)(by':Bd y)(hy0:y≠0):Calls Tryz.prog 118 #[va,vb] w (FracPost w (Rat.divInt x y)):=by
 have q1:=eql_nil;obtain ⟨sa,aa,la,ca,rfl⟩:=hx.shape;obtain ⟨sb,ab,lb,cb,rfl⟩:=hy.shape;obtain ⟨q,hq⟩:∃ q,Rat.divInt x y=q:=⟨_,rfl⟩;rw[hq];by_cases hneg:y < 0
 ·obtain ⟨t,ht,htn⟩:∃ t,y.sign=t∧t < 0:=⟨_,rfl,by rw[Int.sign_eq_neg_one_of_neg hneg];omega⟩;obtain ⟨X,hX⟩:∃ X, -x=X:=⟨_,rfl⟩;obtain ⟨Y,hY⟩:∃ Y, -y=Y:=⟨_,rfl⟩
  have hpos:0 < Y:=by omega
  have hq':=divInt_pos (X:=X) hpos;rw[←hX,←hY,Rat.neg_divInt_neg,hq,hX,hY] at hq';have bx':=bx.neg;have by2:=by'.neg;rw[hX] at bx';rw[hY] at by2;clear hneg hy0 bx by' hq;have HX:=hid hx;have HY:=hid hy;have BX:=hid bx';have BY:=hid by2;have HQ:=hid hq';have HXX:=hid hX;have HEY:=hid hY;have HPOS:=hid hpos;clear hx hy bx' by2 hq' hX hY hpos;go_enter Tryz.func118,Tryz.ntmps118;go_wp2_with fail;obtain ⟨BA,BB,BP,HN⟩:=lay3 w 113 #[.int .i64 sa,.slice aa la ca] 113 #[.int .i64 sb,.slice ab lb cb] 115 #[.int .i64 0,.slice none 0 0,.int .i64 0,.slice none 0 0];refine (sign_calls _ y _ (HY.out.new HN.out)).mono ?_;rintro e w4 ⟨rfl,hn⟩;rw[ht];clear ht;replace BA:=hid (BA.out.new hn);replace BB:=hid (BB.out.new hn);replace BP:=hid (BP.out.new hn);replace HN:=hid (HN.out.trans hn);clear hn;obtain ⟨a0,a1,a2,a3,a4⟩:=BA.out.two;obtain ⟨b0,b1,b2,b3,b4⟩:=BB.out.two;go_wp2_with fail;refine wp_region_T 4 (fun W=>W.cell? ⟨w.heap.size,0,none⟩=some (.int .i64 sa)∧W.cell? ⟨w.heap.size,1,none⟩=some (.slice aa la ca)∧W.cell? ⟨w.heap.size+1,0,none⟩=some (.int .i64 sb)∧W.cell? ⟨w.heap.size+1,1,none⟩=some (.slice ab lb cb)) 6 #[false,false,false,false,false,false] rfl (by kernel_rfl) (by kernel_rfl) ?_;refine tk 0 (by exact ⟨a0,a1,b0,b1⟩) ?_
  try simp only[PT]
  refine tk 2 (by exact ⟨a0,a1,b0,b1⟩) ?_
  try simp only[PT]
  refine wpT_one 1 rfl (by kernel_rfl) (fun K hK=>?_);go_simp;refine (neg_calls _ x _ (HX.out.new HN.out.drew)).mono ?_;rintro e w5 ⟨v5,rfl,hn,hi⟩;have hn:=hn.undrew;obtain ⟨s5,a5,l5,k5,rfl⟩:=hi.shape;rw[HXX.out] at hi;clear a0 a1 a2 a3 a4 b0 b1 b2 b3 b4;have HIX:=hid hi;clear hi;replace BA:=hid (BA.out.new hn);replace BB:=hid (BB.out.new hn);replace BP:=hid (BP.out.new hn);replace HN:=hid (HN.out.trans hn);clear hn;obtain ⟨a0,a1,a2,a3,a4⟩:=BA.out.two;obtain ⟨b0,b1,b2,b3,b4⟩:=BB.out.two;refine hK.out _ _ (fun _=>?_) ?_
  ·exact ⟨a0,a1,b0,b1⟩
  clear hK K
  try simp only[PT]
  refine wpT_one 3 rfl (by kernel_rfl) (fun K hK=>?_);go_simp;refine (neg_calls _ y _ (HY.out.new HN.out)).mono ?_;rintro e w6 ⟨v6,rfl,hn,hi⟩;obtain ⟨s6,a6,l6,k6,rfl⟩:=hi.shape;rw[HEY.out] at hi;clear a0 a1 a2 a3 a4 b0 b1 b2 b3 b4;have HIY:=hid hi;clear hi;replace BA:=hid (BA.out.new hn);replace BB:=hid (BB.out.new hn);replace BP:=hid (BP.out.new hn);replace HIX:=hid (HIX.out.new hn);replace HN:=hid (HN.out.trans hn);clear hn;obtain ⟨a0,a1,a2,a3,a4⟩:=BA.out.two;obtain ⟨b0,b1,b2,b3,b4⟩:=BB.out.two;refine hK.out _ _ (fun _=>?_) ?_
  ·exact ⟨a0,a1,b0,b1⟩
  clear hK K
  try simp only[PT]
  refine wpT_tail rfl (by kernel_rfl) ?_;simp only[List.drop_succ_cons,List.drop_zero];have BB_:=BB.out.away BA.out (by omega) (.int .i64 s5) (.slice a5 l5 k5);have BP_:=BP.out.away BA.out (by omega) (.int .i64 s5) (.slice a5 l5 k5);have HIX_:=HIX.out.put2 BA.out s5 a5 l5 k5;have HIY_:=HIY.out.put2 BA.out s5 a5 l5 k5;have HN_:=HN.out.putAt BA.out (by omega) (.int .i64 s5) (.slice a5 l5 k5);have BA_:=BA.out.put2 (.int .i64 s5) (.slice a5 l5 k5);clear BB BP HIX HIY HN BA;have BB:=hid BB_;have BP:=hid BP_;have HIX:=hid HIX_;have HIY:=hid HIY_;have HN:=hid HN_;have BA:=hid BA_;clear BB_ BP_ HIX_ HIY_ HN_ BA_;have BA_:=BA.out.away BB.out (by omega) (.int .i64 s6) (.slice a6 l6 k6);have BP_:=BP.out.away BB.out (by omega) (.int .i64 s6) (.slice a6 l6 k6);have HIX_:=HIX.out.put2 BB.out s6 a6 l6 k6;have HIY_:=HIY.out.put2 BB.out s6 a6 l6 k6;have HN_:=HN.out.putAt BB.out (by omega) (.int .i64 s6) (.slice a6 l6 k6);have BB_:=BB.out.put2 (.int .i64 s6) (.slice a6 l6 k6);clear BA BP HIX HIY HN BB;have BA:=hid BA_;have BP:=hid BP_;have HIX:=hid HIX_;have HIY:=hid HIY_;have HN:=hid HN_;have BB:=hid BB_;clear BA_ BP_ HIX_ HIY_ HN_ BB_;rcases HIY.out.none_or with ⟨hnn,hsy⟩ | ⟨hnn,hy1⟩
  ·by_cases h1:s6=1
   ·have h2:Y=1:=by omega
    clear hsy;subst h1;have H1:=hid h2;clear h2;obtain ⟨a0,a1,a2,a3,a4⟩:=BA.out.two;obtain ⟨b0,b1,b2,b3,b4⟩:=BB.out.two;obtain ⟨⟨p0,p1,p2,p3⟩,p4,p5,p6,p7,p8⟩:=BP.out.four;go_wp2_with fail;refine bodyPost_ret (v:=.agg #[.int .i64 s5,.slice a5 l5 k5,.int .i64 1,.slice a6 l6 k6]) (by simp[results,Tryz.results118,go_sem,p0,p1,p2,p3]) rfl ?_;refine frac_ret HN.out BP.out (by omega) ?_ ?_
    ·have e:(Int.gcd X Y:Int)=1:=by rw[H1.out,Int.gcd_one];rfl
     rw[HQ.out.1,e,Int.ediv_one];exact HIX.out
    ·have e:(Int.gcd X Y:Int)=1:=by rw[H1.out,Int.gcd_one];rfl
     have h:=HQ.out.2;rw[e,Int.ediv_one] at h;rw[h];exact HIY.out
   ·have hd:(s6==1)=false:=by simpa using h1
    clear h1 hsy;obtain ⟨a0,a1,a2,a3,a4⟩:=BA.out.two;obtain ⟨b0,b1,b2,b3,b4⟩:=BB.out.two;go_wp2_with fail;refine (gcd_calls _ _ X Y _ HIX.out HIY.out BX.out BY.out).mono ?_;rintro e w8 ⟨v7,rfl,hn,hi⟩;obtain ⟨s7,a7,l7,k7,rfl⟩:=hi.shape;clear a0 a1 a2 a3 a4 b0 b1 b2 b3 b4;have HG:=hid hi;clear hi;replace BA:=hid (BA.out.new hn);replace BB:=hid (BB.out.new hn);replace BP:=hid (BP.out.new hn);replace HIX:=hid (HIX.out.new hn);replace HIY:=hid (HIY.out.new hn);replace HN:=hid (HN.out.trans hn);clear hn;obtain ⟨a0,a1,a2,a3,a4⟩:=BA.out.two;obtain ⟨b0,b1,b2,b3,b4⟩:=BB.out.two;go_wp2_with fail;clear a0 a1 a2 a3 a4 b0 b1 b2 b3 b4;have HN0:=HN;clear HN;obtain ⟨BG,HN⟩:=lay1 w8 113 #[.int .i64 s7,.slice a7 l7 k7];replace BA:=hid (BA.out.new HN.out);replace BB:=hid (BB.out.new HN.out);replace BP:=hid (BP.out.new HN.out);replace HIX:=hid (HIX.out.new HN.out);replace HIY:=hid (HIY.out.new HN.out);replace HG:=hid (HG.out.new HN.out);have HN_:=HN0.out.trans HN.out;clear HN HN0;have HN:=hid HN_;clear HN_;obtain ⟨a0,a1,a2,a3,a4⟩:=BA.out.two;obtain ⟨b0,b1,b2,b3,b4⟩:=BB.out.two;obtain ⟨g0,g1,g2,g3,g4⟩:=BG.out.two;refine wp_region_T 7 (fun W=>W.cell? ⟨w.heap.size,0,none⟩=some (.int .i64 s5)∧W.cell? ⟨w.heap.size,1,none⟩=some (.slice a5 l5 k5)∧W.cell? ⟨w.heap.size+1,0,none⟩=some (.int .i64 s6)∧W.cell? ⟨w.heap.size+1,1,none⟩=some (.slice a6 l6 k6)∧W.cell? ⟨w8.heap.size,0,none⟩=some (.int .i64 s7)∧W.cell? ⟨w8.heap.size,1,none⟩=some (.slice a7 l7 k7)) 8 #[false,false,false,false,false,false,false,false] rfl (by kernel_rfl) (by kernel_rfl) ?_;refine tk 0 (by exact ⟨a0,a1,b0,b1,g0,g1⟩) ?_
    try simp only[PT]
    refine tk 1 (by exact ⟨a0,a1,b0,b1,g0,g1⟩) ?_
    try simp only[PT]
    refine tk 3 (by exact ⟨a0,a1,b0,b1,g0,g1⟩) ?_
    try simp only[PT]
    refine tk 4 (by exact ⟨a0,a1,b0,b1,g0,g1⟩) ?_
    try simp only[PT]
    refine wpT_one 2 rfl (by kernel_rfl) (fun K hK=>?_);go_simp;refine (quo_calls _ _ X _ _ (HIX.out.new (New.refl _).drew) (HG.out.new (New.refl _).drew) BX.out (gcd_bd HPOS.out BY.out) (by have:=Int.gcd_pos_of_ne_zero_right X (show Y≠0 by have:=HPOS.out;omega);omega)).mono ?_;rintro e w9 ⟨v8,rfl,hn,hi⟩;have hn:=hn.undrew;obtain ⟨s8,a8,l8,k8,rfl⟩:=hi.shape;have HI8:=hid hi;clear hi;clear a0 a1 a2 a3 a4 b0 b1 b2 b3 b4 g0 g1 g2 g3 g4;replace BA:=hid (BA.out.new hn);replace BB:=hid (BB.out.new hn);replace BP:=hid (BP.out.new hn);replace BG:=hid (BG.out.new hn);replace HIY:=hid (HIY.out.new hn);replace HG:=hid (HG.out.new hn);replace HN:=hid (HN.out.trans hn);clear hn;obtain ⟨a0,a1,a2,a3,a4⟩:=BA.out.two;obtain ⟨b0,b1,b2,b3,b4⟩:=BB.out.two;obtain ⟨g0,g1,g2,g3,g4⟩:=BG.out.two;refine hK.out _ _ (fun _=>?_) ?_
    ·exact ⟨a0,a1,b0,b1,g0,g1⟩
    clear hK K
    try simp only[PT]
    refine wpT_one 5 rfl (by kernel_rfl) (fun K hK=>?_);go_simp;refine (quo_calls _ _ Y _ _ HIY.out HG.out BY.out (gcd_bd HPOS.out BY.out) (by have:=Int.gcd_pos_of_ne_zero_right X (show Y≠0 by have:=HPOS.out;omega);omega)).mono ?_;rintro e w10 ⟨v9,rfl,hn,hi⟩;obtain ⟨s9,a9,l9,k9,rfl⟩:=hi.shape;have HI9:=hid hi;clear hi;clear a0 a1 a2 a3 a4 b0 b1 b2 b3 b4 g0 g1 g2 g3 g4;replace BA:=hid (BA.out.new hn);replace BB:=hid (BB.out.new hn);replace BP:=hid (BP.out.new hn);replace BG:=hid (BG.out.new hn);replace HI8:=hid (HI8.out.new hn);replace HN:=hid (HN.out.trans hn);clear hn;obtain ⟨a0,a1,a2,a3,a4⟩:=BA.out.two;obtain ⟨b0,b1,b2,b3,b4⟩:=BB.out.two;obtain ⟨g0,g1,g2,g3,g4⟩:=BG.out.two;refine hK.out _ _ (fun _=>?_) ?_
    ·exact ⟨a0,a1,b0,b1,g0,g1⟩
    clear hK K
    try simp only[PT]
    refine tk 6 (by exact ⟨a0,a1,b0,b1,g0,g1⟩) ?_
    try simp only[PT]
    refine wpT_tail rfl (by kernel_rfl) ?_;simp only[List.drop_succ_cons,List.drop_zero];obtain ⟨⟨p0,p1,p2,p3⟩,p4,p5,p6,p7,p8⟩:=BP.out.four;go_wp2_with fail;refine bodyPost_ret (v:=.agg #[.int .i64 s8,.slice a8 l8 k8,.int .i64 s9,.slice a9 l9 k9]) (by simp[results,Tryz.results118,go_sem,p0,p1,p2,p3]) rfl ?_;refine frac_ret HN.out BP.out (by omega) ?_ ?_
    ·rw[HQ.out.1,←quo_pos (by have:=Int.gcd_pos_of_ne_zero_right X (show Y≠0 by have:=HPOS.out;omega);omega)];exact HI8.out
    ·rw[HQ.out.2,←quo_pos (by have:=Int.gcd_pos_of_ne_zero_right X (show Y≠0 by have:=HPOS.out;omega);omega)];exact HI9.out
  ·clear hy1;obtain ⟨a0,a1,a2,a3,a4⟩:=BA.out.two;obtain ⟨b0,b1,b2,b3,b4⟩:=BB.out.two;go_wp2_with fail;refine (gcd_calls _ _ X Y _ HIX.out HIY.out BX.out BY.out).mono ?_;rintro e w8 ⟨v7,rfl,hn,hi⟩;obtain ⟨s7,a7,l7,k7,rfl⟩:=hi.shape;clear a0 a1 a2 a3 a4 b0 b1 b2 b3 b4;have HG:=hid hi;clear hi;replace BA:=hid (BA.out.new hn);replace BB:=hid (BB.out.new hn);replace BP:=hid (BP.out.new hn);replace HIX:=hid (HIX.out.new hn);replace HIY:=hid (HIY.out.new hn);replace HN:=hid (HN.out.trans hn);clear hn;obtain ⟨a0,a1,a2,a3,a4⟩:=BA.out.two;obtain ⟨b0,b1,b2,b3,b4⟩:=BB.out.two;go_wp2_with fail;clear a0 a1 a2 a3 a4 b0 b1 b2 b3 b4;have HN0:=HN;clear HN;obtain ⟨BG,HN⟩:=lay1 w8 113 #[.int .i64 s7,.slice a7 l7 k7];replace BA:=hid (BA.out.new HN.out);replace BB:=hid (BB.out.new HN.out);replace BP:=hid (BP.out.new HN.out);replace HIX:=hid (HIX.out.new HN.out);replace HIY:=hid (HIY.out.new HN.out);replace HG:=hid (HG.out.new HN.out);have HN_:=HN0.out.trans HN.out;clear HN HN0;have HN:=hid HN_;clear HN_;obtain ⟨a0,a1,a2,a3,a4⟩:=BA.out.two;obtain ⟨b0,b1,b2,b3,b4⟩:=BB.out.two;obtain ⟨g0,g1,g2,g3,g4⟩:=BG.out.two;refine wp_region_T 7 (fun W=>W.cell? ⟨w.heap.size,0,none⟩=some (.int .i64 s5)∧W.cell? ⟨w.heap.size,1,none⟩=some (.slice a5 l5 k5)∧W.cell? ⟨w.heap.size+1,0,none⟩=some (.int .i64 s6)∧W.cell? ⟨w.heap.size+1,1,none⟩=some (.slice a6 l6 k6)∧W.cell? ⟨w8.heap.size,0,none⟩=some (.int .i64 s7)∧W.cell? ⟨w8.heap.size,1,none⟩=some (.slice a7 l7 k7)) 8 #[false,false,false,false,false,false,false,false] rfl (by kernel_rfl) (by kernel_rfl) ?_;refine tk 0 (by exact ⟨a0,a1,b0,b1,g0,g1⟩) ?_
   try simp only[PT]
   refine tk 1 (by exact ⟨a0,a1,b0,b1,g0,g1⟩) ?_
   try simp only[PT]
   refine tk 3 (by exact ⟨a0,a1,b0,b1,g0,g1⟩) ?_
   try simp only[PT]
   refine tk 4 (by exact ⟨a0,a1,b0,b1,g0,g1⟩) ?_
   try simp only[PT]
   refine wpT_one 2 rfl (by kernel_rfl) (fun K hK=>?_);go_simp;refine (quo_calls _ _ X _ _ (HIX.out.new (New.refl _).drew) (HG.out.new (New.refl _).drew) BX.out (gcd_bd HPOS.out BY.out) (by have:=Int.gcd_pos_of_ne_zero_right X (show Y≠0 by have:=HPOS.out;omega);omega)).mono ?_;rintro e w9 ⟨v8,rfl,hn,hi⟩;have hn:=hn.undrew;obtain ⟨s8,a8,l8,k8,rfl⟩:=hi.shape;have HI8:=hid hi;clear hi;clear a0 a1 a2 a3 a4 b0 b1 b2 b3 b4 g0 g1 g2 g3 g4;replace BA:=hid (BA.out.new hn);replace BB:=hid (BB.out.new hn);replace BP:=hid (BP.out.new hn);replace BG:=hid (BG.out.new hn);replace HIY:=hid (HIY.out.new hn);replace HG:=hid (HG.out.new hn);replace HN:=hid (HN.out.trans hn);clear hn;obtain ⟨a0,a1,a2,a3,a4⟩:=BA.out.two;obtain ⟨b0,b1,b2,b3,b4⟩:=BB.out.two;obtain ⟨g0,g1,g2,g3,g4⟩:=BG.out.two;refine hK.out _ _ (fun _=>?_) ?_
   ·exact ⟨a0,a1,b0,b1,g0,g1⟩
   clear hK K
   try simp only[PT]
   refine wpT_one 5 rfl (by kernel_rfl) (fun K hK=>?_);go_simp;refine (quo_calls _ _ Y _ _ HIY.out HG.out BY.out (gcd_bd HPOS.out BY.out) (by have:=Int.gcd_pos_of_ne_zero_right X (show Y≠0 by have:=HPOS.out;omega);omega)).mono ?_;rintro e w10 ⟨v9,rfl,hn,hi⟩;obtain ⟨s9,a9,l9,k9,rfl⟩:=hi.shape;have HI9:=hid hi;clear hi;clear a0 a1 a2 a3 a4 b0 b1 b2 b3 b4 g0 g1 g2 g3 g4;replace BA:=hid (BA.out.new hn);replace BB:=hid (BB.out.new hn);replace BP:=hid (BP.out.new hn);replace BG:=hid (BG.out.new hn);replace HI8:=hid (HI8.out.new hn);replace HN:=hid (HN.out.trans hn);clear hn;obtain ⟨a0,a1,a2,a3,a4⟩:=BA.out.two;obtain ⟨b0,b1,b2,b3,b4⟩:=BB.out.two;obtain ⟨g0,g1,g2,g3,g4⟩:=BG.out.two;refine hK.out _ _ (fun _=>?_) ?_
   ·exact ⟨a0,a1,b0,b1,g0,g1⟩
   clear hK K
   try simp only[PT]
   refine tk 6 (by exact ⟨a0,a1,b0,b1,g0,g1⟩) ?_
   try simp only[PT]
   refine wpT_tail rfl (by kernel_rfl) ?_;simp only[List.drop_succ_cons,List.drop_zero];obtain ⟨⟨p0,p1,p2,p3⟩,p4,p5,p6,p7,p8⟩:=BP.out.four;go_wp2_with fail;refine bodyPost_ret (v:=.agg #[.int .i64 s8,.slice a8 l8 k8,.int .i64 s9,.slice a9 l9 k9]) (by simp[results,Tryz.results118,go_sem,p0,p1,p2,p3]) rfl ?_;refine frac_ret HN.out BP.out (by omega) ?_ ?_
   ·rw[HQ.out.1,←quo_pos (by have:=Int.gcd_pos_of_ne_zero_right X (show Y≠0 by have:=HPOS.out;omega);omega)];exact HI8.out
   ·rw[HQ.out.2,←quo_pos (by have:=Int.gcd_pos_of_ne_zero_right X (show Y≠0 by have:=HPOS.out;omega);omega)];exact HI9.out
 ·obtain ⟨t,ht,htn⟩:∃ t,y.sign=t∧0≤t:=⟨_,rfl,Int.sign_nonneg_iff.2 (by omega)⟩;obtain ⟨X,hX⟩:∃ X,x=X:=⟨_,rfl⟩;obtain ⟨Y,hY⟩:∃ Y,y=Y:=⟨_,rfl⟩
  have hpos:0 < Y:=by omega
  have hq':=divInt_pos (X:=X) hpos;rw[←hX,←hY,hq,hX,hY] at hq';clear hneg hy0 hq;subst hX hY;obtain ⟨X,rfl⟩:∃ X,X=x:=⟨_,rfl⟩;obtain ⟨Y,rfl⟩:∃ Y,Y=y:=⟨_,rfl⟩;obtain ⟨s5,rfl⟩:∃ X,X=sa:=⟨_,rfl⟩;obtain ⟨a5,rfl⟩:∃ X,X=aa:=⟨_,rfl⟩;obtain ⟨l5,rfl⟩:∃ X,X=la:=⟨_,rfl⟩;obtain ⟨k5,rfl⟩:∃ X,X=ca:=⟨_,rfl⟩;obtain ⟨s6,rfl⟩:∃ X,X=sb:=⟨_,rfl⟩;obtain ⟨a6,rfl⟩:∃ X,X=ab:=⟨_,rfl⟩;obtain ⟨l6,rfl⟩:∃ X,X=lb:=⟨_,rfl⟩;obtain ⟨k6,rfl⟩:∃ X,X=cb:=⟨_,rfl⟩;have HX:=hid hx;have HY:=hid hy;have BX:=hid bx;have BY:=hid by';have HQ:=hid hq';have HPOS:=hid hpos;clear hx hy bx by' hq' hpos;go_enter Tryz.func118,Tryz.ntmps118;go_wp2_with fail;obtain ⟨BA,BB,BP,HN⟩:=lay3 w 113 #[.int .i64 s5,.slice a5 l5 k5] 113 #[.int .i64 s6,.slice a6 l6 k6] 115 #[.int .i64 0,.slice none 0 0,.int .i64 0,.slice none 0 0];refine (sign_calls _ Y _ (HY.out.new HN.out)).mono ?_;rintro e w4 ⟨rfl,hn⟩;rw[ht];clear ht;replace BA:=hid (BA.out.new hn);replace BB:=hid (BB.out.new hn);replace BP:=hid (BP.out.new hn);replace HN:=hid (HN.out.trans hn);clear hn;have hi5:=HX.out.new HN.out;have hi6:=HY.out.new HN.out;have HIX:=hid hi5;have HIY:=hid hi6;clear hi5 hi6;rcases HIY.out.none_or with ⟨hnn,hsy⟩ | ⟨hnn,hy1⟩
  ·by_cases h1:s6=1
   ·have h2:Y=1:=by omega
    clear hsy;subst h1;have H1:=hid h2;clear h2;obtain ⟨a0,a1,a2,a3,a4⟩:=BA.out.two;obtain ⟨b0,b1,b2,b3,b4⟩:=BB.out.two;obtain ⟨⟨p0,p1,p2,p3⟩,p4,p5,p6,p7,p8⟩:=BP.out.four;go_wp2_with fail;refine bodyPost_ret (v:=.agg #[.int .i64 s5,.slice a5 l5 k5,.int .i64 1,.slice a6 l6 k6]) (by simp[results,Tryz.results118,go_sem,p0,p1,p2,p3]) rfl ?_;refine frac_ret HN.out BP.out (by omega) ?_ ?_
    ·have e:(Int.gcd X Y:Int)=1:=by rw[H1.out,Int.gcd_one];rfl
     rw[HQ.out.1,e,Int.ediv_one];exact HIX.out
    ·have e:(Int.gcd X Y:Int)=1:=by rw[H1.out,Int.gcd_one];rfl
     have h:=HQ.out.2;rw[e,Int.ediv_one] at h;rw[h];exact HIY.out
   ·have hd:(s6==1)=false:=by simpa using h1
    clear h1 hsy;obtain ⟨a0,a1,a2,a3,a4⟩:=BA.out.two;obtain ⟨b0,b1,b2,b3,b4⟩:=BB.out.two;go_wp2_with fail;refine (gcd_calls _ _ X Y _ HIX.out HIY.out BX.out BY.out).mono ?_;rintro e w8 ⟨v7,rfl,hn,hi⟩;obtain ⟨s7,a7,l7,k7,rfl⟩:=hi.shape;clear a0 a1 a2 a3 a4 b0 b1 b2 b3 b4;have HG:=hid hi;clear hi;replace BA:=hid (BA.out.new hn);replace BB:=hid (BB.out.new hn);replace BP:=hid (BP.out.new hn);replace HIX:=hid (HIX.out.new hn);replace HIY:=hid (HIY.out.new hn);replace HN:=hid (HN.out.trans hn);clear hn;obtain ⟨a0,a1,a2,a3,a4⟩:=BA.out.two;obtain ⟨b0,b1,b2,b3,b4⟩:=BB.out.two;go_wp2_with fail;clear a0 a1 a2 a3 a4 b0 b1 b2 b3 b4;have HN0:=HN;clear HN;obtain ⟨BG,HN⟩:=lay1 w8 113 #[.int .i64 s7,.slice a7 l7 k7];replace BA:=hid (BA.out.new HN.out);replace BB:=hid (BB.out.new HN.out);replace BP:=hid (BP.out.new HN.out);replace HIX:=hid (HIX.out.new HN.out);replace HIY:=hid (HIY.out.new HN.out);replace HG:=hid (HG.out.new HN.out);have HN_:=HN0.out.trans HN.out;clear HN HN0;have HN:=hid HN_;clear HN_;obtain ⟨a0,a1,a2,a3,a4⟩:=BA.out.two;obtain ⟨b0,b1,b2,b3,b4⟩:=BB.out.two;obtain ⟨g0,g1,g2,g3,g4⟩:=BG.out.two;refine wp_region_T 7 (fun W=>W.cell? ⟨w.heap.size,0,none⟩=some (.int .i64 s5)∧W.cell? ⟨w.heap.size,1,none⟩=some (.slice a5 l5 k5)∧W.cell? ⟨w.heap.size+1,0,none⟩=some (.int .i64 s6)∧W.cell? ⟨w.heap.size+1,1,none⟩=some (.slice a6 l6 k6)∧W.cell? ⟨w8.heap.size,0,none⟩=some (.int .i64 s7)∧W.cell? ⟨w8.heap.size,1,none⟩=some (.slice a7 l7 k7)) 8 #[false,false,false,false,false,false,false,false] rfl (by kernel_rfl) (by kernel_rfl) ?_;refine tk 0 (by exact ⟨a0,a1,b0,b1,g0,g1⟩) ?_
    try simp only[PT]
    refine tk 1 (by exact ⟨a0,a1,b0,b1,g0,g1⟩) ?_
    try simp only[PT]
    refine tk 3 (by exact ⟨a0,a1,b0,b1,g0,g1⟩) ?_
    try simp only[PT]
    refine tk 4 (by exact ⟨a0,a1,b0,b1,g0,g1⟩) ?_
    try simp only[PT]
    refine wpT_one 2 rfl (by kernel_rfl) (fun K hK=>?_);go_simp;refine (quo_calls _ _ X _ _ (HIX.out.new (New.refl _).drew) (HG.out.new (New.refl _).drew) BX.out (gcd_bd HPOS.out BY.out) (by have:=Int.gcd_pos_of_ne_zero_right X (show Y≠0 by have:=HPOS.out;omega);omega)).mono ?_;rintro e w9 ⟨v8,rfl,hn,hi⟩;have hn:=hn.undrew;obtain ⟨s8,a8,l8,k8,rfl⟩:=hi.shape;have HI8:=hid hi;clear hi;clear a0 a1 a2 a3 a4 b0 b1 b2 b3 b4 g0 g1 g2 g3 g4;replace BA:=hid (BA.out.new hn);replace BB:=hid (BB.out.new hn);replace BP:=hid (BP.out.new hn);replace BG:=hid (BG.out.new hn);replace HIY:=hid (HIY.out.new hn);replace HG:=hid (HG.out.new hn);replace HN:=hid (HN.out.trans hn);clear hn;obtain ⟨a0,a1,a2,a3,a4⟩:=BA.out.two;obtain ⟨b0,b1,b2,b3,b4⟩:=BB.out.two;obtain ⟨g0,g1,g2,g3,g4⟩:=BG.out.two;refine hK.out _ _ (fun _=>?_) ?_
    ·exact ⟨a0,a1,b0,b1,g0,g1⟩
    clear hK K
    try simp only[PT]
    refine wpT_one 5 rfl (by kernel_rfl) (fun K hK=>?_);go_simp;refine (quo_calls _ _ Y _ _ HIY.out HG.out BY.out (gcd_bd HPOS.out BY.out) (by have:=Int.gcd_pos_of_ne_zero_right X (show Y≠0 by have:=HPOS.out;omega);omega)).mono ?_;rintro e w10 ⟨v9,rfl,hn,hi⟩;obtain ⟨s9,a9,l9,k9,rfl⟩:=hi.shape;have HI9:=hid hi;clear hi;clear a0 a1 a2 a3 a4 b0 b1 b2 b3 b4 g0 g1 g2 g3 g4;replace BA:=hid (BA.out.new hn);replace BB:=hid (BB.out.new hn);replace BP:=hid (BP.out.new hn);replace BG:=hid (BG.out.new hn);replace HI8:=hid (HI8.out.new hn);replace HN:=hid (HN.out.trans hn);clear hn;obtain ⟨a0,a1,a2,a3,a4⟩:=BA.out.two;obtain ⟨b0,b1,b2,b3,b4⟩:=BB.out.two;obtain ⟨g0,g1,g2,g3,g4⟩:=BG.out.two;refine hK.out _ _ (fun _=>?_) ?_
    ·exact ⟨a0,a1,b0,b1,g0,g1⟩
    clear hK K
    try simp only[PT]
    refine tk 6 (by exact ⟨a0,a1,b0,b1,g0,g1⟩) ?_
    try simp only[PT]
    refine wpT_tail rfl (by kernel_rfl) ?_;simp only[List.drop_succ_cons,List.drop_zero];obtain ⟨⟨p0,p1,p2,p3⟩,p4,p5,p6,p7,p8⟩:=BP.out.four;go_wp2_with fail;refine bodyPost_ret (v:=.agg #[.int .i64 s8,.slice a8 l8 k8,.int .i64 s9,.slice a9 l9 k9]) (by simp[results,Tryz.results118,go_sem,p0,p1,p2,p3]) rfl ?_;refine frac_ret HN.out BP.out (by omega) ?_ ?_
    ·rw[HQ.out.1,←quo_pos (by have:=Int.gcd_pos_of_ne_zero_right X (show Y≠0 by have:=HPOS.out;omega);omega)];exact HI8.out
    ·rw[HQ.out.2,←quo_pos (by have:=Int.gcd_pos_of_ne_zero_right X (show Y≠0 by have:=HPOS.out;omega);omega)];exact HI9.out
  ·clear hy1;obtain ⟨a0,a1,a2,a3,a4⟩:=BA.out.two;obtain ⟨b0,b1,b2,b3,b4⟩:=BB.out.two;go_wp2_with fail;refine (gcd_calls _ _ X Y _ HIX.out HIY.out BX.out BY.out).mono ?_;rintro e w8 ⟨v7,rfl,hn,hi⟩;obtain ⟨s7,a7,l7,k7,rfl⟩:=hi.shape;clear a0 a1 a2 a3 a4 b0 b1 b2 b3 b4;have HG:=hid hi;clear hi;replace BA:=hid (BA.out.new hn);replace BB:=hid (BB.out.new hn);replace BP:=hid (BP.out.new hn);replace HIX:=hid (HIX.out.new hn);replace HIY:=hid (HIY.out.new hn);replace HN:=hid (HN.out.trans hn);clear hn;obtain ⟨a0,a1,a2,a3,a4⟩:=BA.out.two;obtain ⟨b0,b1,b2,b3,b4⟩:=BB.out.two;go_wp2_with fail;clear a0 a1 a2 a3 a4 b0 b1 b2 b3 b4;have HN0:=HN;clear HN;obtain ⟨BG,HN⟩:=lay1 w8 113 #[.int .i64 s7,.slice a7 l7 k7];replace BA:=hid (BA.out.new HN.out);replace BB:=hid (BB.out.new HN.out);replace BP:=hid (BP.out.new HN.out);replace HIX:=hid (HIX.out.new HN.out);replace HIY:=hid (HIY.out.new HN.out);replace HG:=hid (HG.out.new HN.out);have HN_:=HN0.out.trans HN.out;clear HN HN0;have HN:=hid HN_;clear HN_;obtain ⟨a0,a1,a2,a3,a4⟩:=BA.out.two;obtain ⟨b0,b1,b2,b3,b4⟩:=BB.out.two;obtain ⟨g0,g1,g2,g3,g4⟩:=BG.out.two;refine wp_region_T 7 (fun W=>W.cell? ⟨w.heap.size,0,none⟩=some (.int .i64 s5)∧W.cell? ⟨w.heap.size,1,none⟩=some (.slice a5 l5 k5)∧W.cell? ⟨w.heap.size+1,0,none⟩=some (.int .i64 s6)∧W.cell? ⟨w.heap.size+1,1,none⟩=some (.slice a6 l6 k6)∧W.cell? ⟨w8.heap.size,0,none⟩=some (.int .i64 s7)∧W.cell? ⟨w8.heap.size,1,none⟩=some (.slice a7 l7 k7)) 8 #[false,false,false,false,false,false,false,false] rfl (by kernel_rfl) (by kernel_rfl) ?_;refine tk 0 (by exact ⟨a0,a1,b0,b1,g0,g1⟩) ?_
   try simp only[PT]
   refine tk 1 (by exact ⟨a0,a1,b0,b1,g0,g1⟩) ?_
   try simp only[PT]
   refine tk 3 (by exact ⟨a0,a1,b0,b1,g0,g1⟩) ?_
   try simp only[PT]
   refine tk 4 (by exact ⟨a0,a1,b0,b1,g0,g1⟩) ?_
   try simp only[PT]
   refine wpT_one 2 rfl (by kernel_rfl) (fun K hK=>?_);go_simp;refine (quo_calls _ _ X _ _ (HIX.out.new (New.refl _).drew) (HG.out.new (New.refl _).drew) BX.out (gcd_bd HPOS.out BY.out) (by have:=Int.gcd_pos_of_ne_zero_right X (show Y≠0 by have:=HPOS.out;omega);omega)).mono ?_;rintro e w9 ⟨v8,rfl,hn,hi⟩;have hn:=hn.undrew;obtain ⟨s8,a8,l8,k8,rfl⟩:=hi.shape;have HI8:=hid hi;clear hi;clear a0 a1 a2 a3 a4 b0 b1 b2 b3 b4 g0 g1 g2 g3 g4;replace BA:=hid (BA.out.new hn);replace BB:=hid (BB.out.new hn);replace BP:=hid (BP.out.new hn);replace BG:=hid (BG.out.new hn);replace HIY:=hid (HIY.out.new hn);replace HG:=hid (HG.out.new hn);replace HN:=hid (HN.out.trans hn);clear hn;obtain ⟨a0,a1,a2,a3,a4⟩:=BA.out.two;obtain ⟨b0,b1,b2,b3,b4⟩:=BB.out.two;obtain ⟨g0,g1,g2,g3,g4⟩:=BG.out.two;refine hK.out _ _ (fun _=>?_) ?_
   ·exact ⟨a0,a1,b0,b1,g0,g1⟩
   clear hK K
   try simp only[PT]
   refine wpT_one 5 rfl (by kernel_rfl) (fun K hK=>?_);go_simp;refine (quo_calls _ _ Y _ _ HIY.out HG.out BY.out (gcd_bd HPOS.out BY.out) (by have:=Int.gcd_pos_of_ne_zero_right X (show Y≠0 by have:=HPOS.out;omega);omega)).mono ?_;rintro e w10 ⟨v9,rfl,hn,hi⟩;obtain ⟨s9,a9,l9,k9,rfl⟩:=hi.shape;have HI9:=hid hi;clear hi;clear a0 a1 a2 a3 a4 b0 b1 b2 b3 b4 g0 g1 g2 g3 g4;replace BA:=hid (BA.out.new hn);replace BB:=hid (BB.out.new hn);replace BP:=hid (BP.out.new hn);replace BG:=hid (BG.out.new hn);replace HI8:=hid (HI8.out.new hn);replace HN:=hid (HN.out.trans hn);clear hn;obtain ⟨a0,a1,a2,a3,a4⟩:=BA.out.two;obtain ⟨b0,b1,b2,b3,b4⟩:=BB.out.two;obtain ⟨g0,g1,g2,g3,g4⟩:=BG.out.two;refine hK.out _ _ (fun _=>?_) ?_
   ·exact ⟨a0,a1,b0,b1,g0,g1⟩
   clear hK K
   try simp only[PT]
   refine tk 6 (by exact ⟨a0,a1,b0,b1,g0,g1⟩) ?_
   try simp only[PT]
   refine wpT_tail rfl (by kernel_rfl) ?_;simp only[List.drop_succ_cons,List.drop_zero];obtain ⟨⟨p0,p1,p2,p3⟩,p4,p5,p6,p7,p8⟩:=BP.out.four;go_wp2_with fail;refine bodyPost_ret (v:=.agg #[.int .i64 s8,.slice a8 l8 k8,.int .i64 s9,.slice a9 l9 k9]) (by simp[results,Tryz.results118,go_sem,p0,p1,p2,p3]) rfl ?_;refine frac_ret HN.out BP.out (by omega) ?_ ?_
   ·rw[HQ.out.1,←quo_pos (by have:=Int.gcd_pos_of_ne_zero_right X (show Y≠0 by have:=HPOS.out;omega);omega)];exact HI8.out
   ·rw[HQ.out.2,←quo_pos (by have:=Int.gcd_pos_of_ne_zero_right X (show Y≠0 by have:=HPOS.out;omega);omega)];exact HI9.out
theorem BdK.mul {j k:Nat}{x y:Int}(hx:BdK j x)(hy:BdK k y):BdK (j+k) (x*y):=by
 unfold BdK at *;rw[Int.natAbs_mul,Nat.pow_add];exact Nat.mul_lt_mul'' hx hy
theorem BdK.add {m:Nat}{x y:Int}(hx:BdK m x)(hy:BdK m y):BdK (m+1) (x+y):=by
 unfold BdK at *;rw[Nat.pow_succ];omega
theorem BdK.mono {j k:Nat}{x:Int}(h:BdK j x)(hk:j≤k):BdK k x:=Nat.lt_of_lt_of_le h (Nat.pow_le_pow_right (by omega) hk)
structure FB (k:Nat)(q:Rat):Prop where
 num:BdK k q.num
 den:BdK k (q.den:Int)
theorem FB.mono {j k:Nat}{q:Rat}(h:FB j q)(hk:j≤k):FB k q:=⟨h.num.mono hk,h.den.mono hk⟩
theorem divInt_le {x y:Int}(hy:y≠0):(Rat.divInt x y).num.natAbs≤x.natAbs∧(Rat.divInt x y).den≤y.natAbs:=by
 rw[Rat.num_divInt,Rat.den_divInt,if_neg hy];refine ⟨Nat.le_trans (Int.natAbs_ediv_le_natAbs _ _) ?_,Nat.div_le_self _ _⟩;rw[Int.natAbs_mul]
 have:y.sign.natAbs=1:=by rw[Int.natAbs_sign_of_ne_zero hy]
 rw[this,Nat.one_mul];exact Nat.le_refl _
theorem FB.divInt {j:Nat}{x y:Int}(hx:BdK j x)(hy:BdK j y)(h0:y≠0):FB j (Rat.divInt x y):=by
 obtain ⟨h1,h2⟩:=divInt_le (x:=x) h0;exact ⟨Nat.lt_of_le_of_lt h1 hx,Nat.lt_of_le_of_lt (by simpa using h2) hy⟩
theorem add_divInt (a b:Rat):a+b=Rat.divInt (a.num*b.den+b.num*a.den) (a.den*b.den):=by
 rw[Rat.add_def'];rfl
theorem mul_divInt (a b:Rat):a*b=Rat.divInt (a.num*b.num) (a.den*b.den):=by
 rw[Rat.mul_def'];rfl
theorem den_ne (q:Rat):(q.den:Int)≠0:=by
 have:=q.den_nz;omega
theorem den2_ne (a b:Rat):(a.den:Int)*(b.den:Int)≠0:=Int.mul_ne_zero (den_ne a) (den_ne b)
theorem FB.add {j k:Nat}{a b:Rat}(ha:FB j a)(hb:FB k b):FB (j+k+1) (a+b):=by
 rw[add_divInt];exact FB.divInt ((ha.num.mul hb.den).add (by rw[Nat.add_comm];exact hb.num.mul ha.den)) ((ha.den.mul hb.den).mono (by omega)) (den2_ne a b)
theorem FB.mul {j k:Nat}{a b:Rat}(ha:FB j a)(hb:FB k b):FB (j+k) (a*b):=by
 rw[mul_divInt];exact FB.divInt (ha.num.mul hb.num) (ha.den.mul hb.den) (den2_ne a b)
theorem FB.neg {j:Nat}{a:Rat}(ha:FB j a):FB j (-a):=⟨by
 have:=ha.num;unfold BdK at *;rw[Rat.neg_num,Int.natAbs_neg]
 exact this,ha.den⟩
theorem FB.sub {j k:Nat}{a b:Rat}(ha:FB j a)(hb:FB k b):FB (j+k+1) (a - b):=by
 rw[Rat.sub_eq_add_neg];exact ha.add hb.neg
theorem num_ne {a:Rat}(h:a≠0):a.num≠0:=fun h0=>h (by rw[←Rat.num_divInt_den a,h0,Rat.zero_divInt])
theorem FB.inv {j:Nat}{a:Rat}(ha:FB j a)(h:a≠0):FB j a⁻¹:=by
 rw[Rat.inv_def];exact FB.divInt ha.den ha.num (num_ne h)
theorem FB.div {j k:Nat}{a b:Rat}(ha:FB j a)(hb:FB k b)(h:b≠0):FB (j+k) (a / b):=by
 rw[Rat.div_def];exact ha.mul (hb.inv h)
theorem inv_calls (va:Value)(q:Rat)(k:Nat)(w:World)(hx:IsFrac w va q)(hb:FB k q)(hk:k≤60000000)(h0:q≠0):Calls Tryz.prog 168 #[va] w (FracPost w q⁻¹):=by
 obtain ⟨s,a,l,c,s',a',l',c',rfl,h1,h2⟩:=hx;obtain ⟨r,hr⟩:∃ r,q⁻¹=r:=⟨_,rfl⟩;have hr':=Rat.inv_def q;rw[hr] at hr'⊢;have H1:=hid h1;have H2:=hid h2;have HR:=hid hr';have HB:=hid hb;have HK:=hid hk;have H0:=hid h0;clear h1 h2 hr' hb hk h0;clear hr;go_enter Tryz.func168,Tryz.ntmps168;go_wp2_with fail;obtain ⟨BA,BP,HN⟩:=lay2 w 115 #[.int .i64 s,.slice a l c,.int .i64 s',.slice a' l' c'] 115 #[.int .i64 0,.slice none 0 0,.int .i64 0,.slice none 0 0];refine (make_calls _ _ (q.den:Int) q.num _ (H2.out.new HN.out) (H1.out.new HN.out) (HB.out.den.bd HK.out) (HB.out.num.bd HK.out) (num_ne H0.out)).mono ?_;rintro e w2 ⟨v,rfl,hn,hf⟩;rw[←HR.out] at hf;obtain ⟨s9,a9,l9,k9,t9,b9,m9,n9,rfl⟩:=hf.shape;have HF:=hid hf;clear hf;replace BP:=hid (BP.out.new hn);replace HN:=hid (HN.out.trans hn);clear hn;obtain ⟨⟨p0,p1,p2,p3⟩,p4,p5,p6,p7,p8⟩:=BP.out.four;go_wp2_with fail;refine bodyPost_ret (v:=.agg #[.int .i64 s9,.slice a9 l9 k9,.int .i64 t9,.slice b9 m9 n9]) (by simp[results,Tryz.results168,go_sem,p0,p1,p2,p3]) rfl ?_;exact frac_ret HN.out BP.out (by omega) HF.out.parts.1 HF.out.parts.2
theorem fmul_calls (va vb:Value)(x y:Rat)(j k:Nat)(w:World)(hx:IsFrac w va x)(hy:IsFrac w vb y)(bx:FB j x)(by':FB k y)(hk:j+k≤60000000):Calls Tryz.prog 94 #[va,vb] w (FracPost w (x*y)):=by
 obtain ⟨sa,aa,la,ca,ta,ba,ma,na,rfl,hx1,hx2⟩:=hx;obtain ⟨sb,ab,lb,cb,tb,bb,mb,nb,rfl,hy1,hy2⟩:=hy;obtain ⟨r,hr⟩:∃ r,x*y=r:=⟨_,rfl⟩;have hr':=mul_divInt x y;rw[hr] at hr'⊢;clear hr;have bn:=(bx.num.mul by'.num).bd hk;have bd:=(bx.den.mul by'.den).bd hk;have bx1:=bx.num.bd (show j≤60000000 by omega);have bx2:=bx.den.bd (show j≤60000000 by omega);have by1:=by'.num.bd (show k≤60000000 by omega);have by2:=by'.den.bd (show k≤60000000 by omega);have hne:=den2_ne x y;clear bx by';have X1:=hid hx1;have X2:=hid hx2;have Y1:=hid hy1;have Y2:=hid hy2;have HR:=hid hr';have HK:=hid hk;have BX1:=hid bx1;have BX2:=hid bx2;have BY1:=hid by1;have BY2:=hid by2;have BN:=hid bn;have BD:=hid bd;have HNE:=hid hne;clear hx1 hx2 hy1 hy2 hr' hk bx1 bx2 by1 by2 bn bd hne;go_enter Tryz.func94,Tryz.ntmps94;go_wp2_with fail;obtain ⟨BA,BB,BP,HN⟩:=lay3 w 115 #[.int .i64 sa,.slice aa la ca,.int .i64 ta,.slice ba ma na] 115 #[.int .i64 sb,.slice ab lb cb,.int .i64 tb,.slice bb mb nb] 115 #[.int .i64 0,.slice none 0 0,.int .i64 0,.slice none 0 0];obtain ⟨⟨pa0,pa1,pa2,pa3⟩,pa4,pa5,pa6,pa7,pa8⟩:=BA.out.four;obtain ⟨⟨pb0,pb1,pb2,pb3⟩,pb4,pb5,pb6,pb7,pb8⟩:=BB.out.four;refine wp_region_T 11 (fun W=>W.cell? ⟨w.heap.size,0,none⟩=some (.int .i64 sa)∧W.cell? ⟨w.heap.size,1,none⟩=some (.slice aa la ca)∧W.cell? ⟨w.heap.size,2,none⟩=some (.int .i64 ta)∧W.cell? ⟨w.heap.size,3,none⟩=some (.slice ba ma na)∧W.cell? ⟨w.heap.size+1,0,none⟩=some (.int .i64 sb)∧W.cell? ⟨w.heap.size+1,1,none⟩=some (.slice ab lb cb)∧W.cell? ⟨w.heap.size+1,2,none⟩=some (.int .i64 tb)∧W.cell? ⟨w.heap.size+1,3,none⟩=some (.slice bb mb nb)) 12 #[false,false,false,false,false,false,false,false,false,false,false,false] rfl (by kernel_rfl) (by kernel_rfl) ?_;refine tk 0 (by exact ⟨pa0,pa1,pa2,pa3,pb0,pb1,pb2,pb3⟩) ?_
 try simp only[PT]
 refine tk 1 (by exact ⟨pa0,pa1,pa2,pa3,pb0,pb1,pb2,pb3⟩) ?_
 try simp only[PT]
 refine tk 2 (by exact ⟨pa0,pa1,pa2,pa3,pb0,pb1,pb2,pb3⟩) ?_
 try simp only[PT]
 refine tk 3 (by exact ⟨pa0,pa1,pa2,pa3,pb0,pb1,pb2,pb3⟩) ?_
 try simp only[PT]
 refine tk 5 (by exact ⟨pa0,pa1,pa2,pa3,pb0,pb1,pb2,pb3⟩) ?_
 try simp only[PT]
 refine tk 6 (by exact ⟨pa0,pa1,pa2,pa3,pb0,pb1,pb2,pb3⟩) ?_
 try simp only[PT]
 refine tk 7 (by exact ⟨pa0,pa1,pa2,pa3,pb0,pb1,pb2,pb3⟩) ?_
 try simp only[PT]
 refine tk 8 (by exact ⟨pa0,pa1,pa2,pa3,pb0,pb1,pb2,pb3⟩) ?_
 try simp only[PT]
 refine wpT_one 4 rfl (by kernel_rfl) (fun K hK=>?_);go_simp;refine (mul_calls _ _ x.num y.num _ (X1.out.new HN.out.drew) (Y1.out.new HN.out.drew) BX1.out BY1.out).mono ?_;rintro e w1 ⟨v,rfl,hn,hi⟩;have hn:=hn.undrew;obtain ⟨s5,a5,l5,k5,rfl⟩:=hi.shape;have HI5:=hid hi;clear hi;clear pa0 pa1 pa2 pa3 pa4 pa5 pa6 pa7 pa8 pb0 pb1 pb2 pb3 pb4 pb5 pb6 pb7 pb8;replace BA:=hid (BA.out.new hn);replace BB:=hid (BB.out.new hn);replace BP:=hid (BP.out.new hn);replace HN:=hid (HN.out.trans hn);clear hn;obtain ⟨⟨pa0,pa1,pa2,pa3⟩,pa4,pa5,pa6,pa7,pa8⟩:=BA.out.four;obtain ⟨⟨pb0,pb1,pb2,pb3⟩,pb4,pb5,pb6,pb7,pb8⟩:=BB.out.four;refine hK.out _ _ (fun _=>?_) ?_
 ·exact ⟨pa0,pa1,pa2,pa3,pb0,pb1,pb2,pb3⟩
 clear hK K
 try simp only[PT]
 refine wpT_one 9 rfl (by kernel_rfl) (fun K hK=>?_);go_simp;refine (mul_calls _ _ (x.den:Int) (y.den:Int) _ (X2.out.new HN.out) (Y2.out.new HN.out) BX2.out BY2.out).mono ?_;rintro e w2 ⟨v,rfl,hn,hi⟩;obtain ⟨s6,a6,l6,k6,rfl⟩:=hi.shape;have HI6:=hid hi;clear hi;clear pa0 pa1 pa2 pa3 pa4 pa5 pa6 pa7 pa8 pb0 pb1 pb2 pb3 pb4 pb5 pb6 pb7 pb8;replace BA:=hid (BA.out.new hn);replace BB:=hid (BB.out.new hn);replace BP:=hid (BP.out.new hn);replace HI5:=hid (HI5.out.new hn);replace HN:=hid (HN.out.trans hn);clear hn;obtain ⟨⟨pa0,pa1,pa2,pa3⟩,pa4,pa5,pa6,pa7,pa8⟩:=BA.out.four;obtain ⟨⟨pb0,pb1,pb2,pb3⟩,pb4,pb5,pb6,pb7,pb8⟩:=BB.out.four;refine hK.out _ _ (fun _=>?_) ?_
 ·exact ⟨pa0,pa1,pa2,pa3,pb0,pb1,pb2,pb3⟩
 clear hK K
 try simp only[PT]
 refine wpT_one 10 rfl (by kernel_rfl) (fun K hK=>?_);go_simp;refine (make_calls _ _ (x.num*y.num) (x.den*y.den:Int) _ HI5.out HI6.out BN.out BD.out HNE.out).mono ?_;rintro e w3 ⟨v,rfl,hn,hf⟩;rw[←HR.out] at hf;obtain ⟨s9,a9,l9,k9,t9,b9,m9,n9,rfl⟩:=hf.shape;have HF:=hid hf;clear hf;clear pa0 pa1 pa2 pa3 pa4 pa5 pa6 pa7 pa8 pb0 pb1 pb2 pb3 pb4 pb5 pb6 pb7 pb8;replace BA:=hid (BA.out.new hn);replace BB:=hid (BB.out.new hn);replace BP:=hid (BP.out.new hn);replace HN:=hid (HN.out.trans hn);clear hn;obtain ⟨⟨pa0,pa1,pa2,pa3⟩,pa4,pa5,pa6,pa7,pa8⟩:=BA.out.four;obtain ⟨⟨pb0,pb1,pb2,pb3⟩,pb4,pb5,pb6,pb7,pb8⟩:=BB.out.four;refine hK.out _ _ (fun _=>?_) ?_
 ·exact ⟨pa0,pa1,pa2,pa3,pb0,pb1,pb2,pb3⟩
 clear hK K
 try simp only[PT]
 refine wpT_tail rfl (by kernel_rfl) ?_;simp only[List.drop_succ_cons,List.drop_zero];obtain ⟨⟨p0,p1,p2,p3⟩,p4,p5,p6,p7,p8⟩:=BP.out.four;go_wp2_with fail;refine bodyPost_ret (v:=.agg #[.int .i64 s9,.slice a9 l9 k9,.int .i64 t9,.slice b9 m9 n9]) (by simp[results,Tryz.results94,go_sem,p0,p1,p2,p3]) rfl ?_;exact frac_ret HN.out BP.out (by omega) HF.out.parts.1 HF.out.parts.2
def serOne:Int:=100000000000000000000000000000000000000000000000000
def serAng:Int:=78539816339744830961566084581987572104929234984377
def serD (k:Nat):Int:=(2*(k:Int) - 1)*2*(k:Int)
def serT:Nat→Int
 | 0=>serOne
 | k+1=>serT k*serAng / serOne*serAng / serOne / serD (k+1)
def serS:Nat→Int
 | 0=>serOne
 | k+1=>if (k+1) % 2=1 then serS k - serT (k+1) else serS k+serT (k+1)
def serU (k:Nat):Int:=serT k*serAng
def serV (k:Nat):Int:=serU k / serOne
def serW (k:Nat):Int:=serV k*serAng
def serX (k:Nat):Int:=serW k / serOne
theorem ser_pos:∀ k,k < 20→0 < serT k:=by decide +kernel
theorem ser_zero:serT 20=0:=by decide +kernel
theorem ser_sum:serS 20=70710678118654752440084436210484903928483593768848:=by decide +kernel
theorem ser_bd:∀ k,k < 21→(serT k).natAbs < 2^400∧(serU k).natAbs < 2^400∧(serV k).natAbs < 2^400∧(serW k).natAbs < 2^400∧(serX k).natAbs < 2^400∧(serS k).natAbs < 2^400:=by decide +kernel
theorem serD_pos:∀ k,k < 21→0 < serD (k+1)∧serD (k+1) < 2000:=by decide +kernel
theorem ser_ten:(10:Int)^50=serOne:=by decide +kernel
theorem ser_unit:(10:Int)^47=100000000000000000000000000000000000000000000000:=by decide +kernel
end Go.Proofs.YtnjonlnemagomaaGreatDoor
