/- Part B06. -/
import Derived.Lib.ItoaNum
import Derived.Lib.ItoaMem
import Derived.Lib.LaidTab
import Derived.Lib.Atoi
import Derived.Test.YtnjonlnemagomaaGreatDoorB05
namespace Go.Proofs.YtnjonlnemagomaaGreatDoor
open Go.RowKit Big Tryz
open Go.Lib (hid)
set_option maxRecDepth 100000
set_option maxHeartbeats 8000000
set_option linter.all false
theorem quo_pos {x y:Int}(h:0 < y):quo x y=x / y:=by unfold quo;rw[if_neg (by omega)]
theorem divInt_pos {X Y:Int}(hY:0 < Y):(Rat.divInt X Y).num=X / (Int.gcd X Y:Int)∧((Rat.divInt X Y).den:Int)=Y / (Int.gcd X Y:Int):=by
 rw[Rat.num_divInt,Rat.den_divInt,if_neg (by omega),Int.sign_eq_one_of_pos hY,Int.one_mul,Int.gcd_comm];refine ⟨rfl,?_⟩;rw[Int.natCast_ediv];congr 1;omega
theorem gcd_bd {X Y:Int}(hY:0 < Y)(b:Bd Y):Bd (Int.gcd X Y:Int):=b.le (by
 have:=Nat.le_of_dvd (by omega) (Int.gcd_dvd_natAbs_right X Y)
 simpa using this)
theorem make_calls (va vb:Value)(x y:Int)(w:World)(hx:IsInt w va x)(hy:IsInt w vb y)(bx:Bd x)(by':Bd y)(hy0:y≠0):Calls prog 118 #[va,vb] w (FracPost w (Rat.divInt x y)):=by
 have q1:=eql_nil;obtain ⟨sa,aa,la,ca,rfl⟩:=hx.shape;obtain ⟨sb,ab,lb,cb,rfl⟩:=hy.shape;obtain ⟨q,hq⟩:∃ q,Rat.divInt x y=q:=⟨_,rfl⟩;rw[hq];by_cases hneg:y < 0
 ·obtain ⟨t,ht,ba⟩:∃ t,y.sign=t∧t < 0:=⟨_,rfl,by rw[Int.sign_eq_neg_one_of_neg hneg];omega⟩;obtain ⟨X,hX⟩:∃ X, -x=X:=⟨_,rfl⟩;obtain ⟨Y,hY⟩:∃ Y, -y=Y:=⟨_,rfl⟩
  have ag:0 < Y:=by omega
  have aj:=divInt_pos (X:=X) ag;rw[←hX,←hY,Rat.neg_divInt_neg,hq,hX,hY] at aj;have ap:=bx.neg;have aq:=by'.neg;rw[hX] at ap;rw[hY] at aq;clear hneg hy0 bx by' hq;refine zh8 ?_ hx hy ap aq aj hX hY ag;clear hx hy ap aq aj hX hY ag;intro HX HY BX BY HQ az ay ae;go_in;go_wp2_with fail;obtain ⟨BA,BB,BP,HN⟩:=lay3 w 113 #[.int .i64 sa,.slice aa la ca] 113 #[.int .i64 sb,.slice ab lb cb] 115 #[.int .i64 0,.slice none 0 0,.int .i64 0,.slice none 0 0];refine zM (sign_calls _ y _ (HY.new HN)) fun w4 hn=>?_;rw[ht];clear ht;refine zy4 ?_ hn HN BA.new BB.new BP.new;clear hn HN BA BB BP;intro HN BA BB BP;have a:=BA.out.two;have b:=BB.out.two;go_wp2_with fail;clear a;clear b;refine zR 4 6 (fun W=>zI W w.heap.size sa aa la ca∧zI W (w.heap.size+1) sb ab lb cb) ?_;refine zT 0 ⟨cW2 BA,cW2 BB⟩ ?_;refine zT 2 ⟨cW2 BA,cW2 BB⟩ ?_;refine tk1 1 fun K hK=>?_;go_simp;refine zO (neg_calls _ x _ (HX.new HN.drew)) fun w5 s5 a5 l5 k5 hn hi=>?_;have hn:=hn.undrew;rw[az.out] at hi;have ad:=hid hi;clear hi;refine zy4 ?_ hn HN BA.new BB.new BP.new;clear hn HN BA BB BP;intro HN BA BB BP;refine zK hK ⟨cW2 BA,cW2 BB⟩ ?_;clear hK K;refine tk1 3 fun K hK=>?_;go_simp;refine zO (neg_calls _ y _ (HY.new HN)) fun w6 s6 a6 l6 k6 hn hi=>?_;rw[ay.out] at hi;have ac:=hid hi;clear hi;refine zy5 ?_ hn HN BA.new BB.new BP.new ad.new;clear hn HN BA BB BP ad;intro HN BA BB BP ad;refine zK hK ⟨cW2 BA,cW2 BB⟩ ?_;clear hK K;refine tlW ?_;obtain ⟨a0,a1,a2,a3,a4⟩:=BA.out.two;obtain ⟨b0,b1,b2,b3,b4⟩:=BB.out.two;have al:=BB.out.away BA.out (by omega) (.int .i64 s5) (.slice a5 l5 k5);have am:=BP.out.away BA.out (by omega) (.int .i64 s5) (.slice a5 l5 k5);have ah:=ad.out.put2 BA.out s5 a5 l5 k5;have ai:=ac.out.put2 BA.out s5 a5 l5 k5;have an:=HN.out.putAt BA.out (by omega) (.int .i64 s5) (.slice a5 l5 k5);have ak:=BA.out.put2 (.int .i64 s5) (.slice a5 l5 k5);clear BB BP ad ac HN BA;refine zh6 ?_ al am ah ai an ak;clear al am ah ai an ak;intro BB BP ad ac HN BA;have ak:=BA.out.away BB.out (by omega) (.int .i64 s6) (.slice a6 l6 k6);have am:=BP.out.away BB.out (by omega) (.int .i64 s6) (.slice a6 l6 k6);have ah:=ad.out.put2 BB.out s6 a6 l6 k6;have ai:=ac.out.put2 BB.out s6 a6 l6 k6;have an:=HN.out.putAt BB.out (by omega) (.int .i64 s6) (.slice a6 l6 k6);have al:=BB.out.put2 (.int .i64 s6) (.slice a6 l6 k6);clear BA BP ad ac HN BB;refine zh6 ?_ ak am ah ai an al;clear ak am ah ai an al;intro BA BP ad ac HN BB;rcases ac.out.none_or with ⟨ar,ao⟩ | ⟨ar,au⟩
  ·by_cases h1:s6=1
   ·have h2:Y=1:=by omega
    clear ao;subst h1;replace h2:=hid h2;obtain ⟨a0,a1,a2,a3,a4⟩:=BA.out.two;obtain ⟨b0,b1,b2,b3,b4⟩:=BB.out.two;obtain ⟨⟨p0,p1,p2,p3⟩,p4,p5,p6,p7,p8⟩:=BP.out.four;go_wp2_with fail;refine bodyPost_ret (v:=.agg #[.int .i64 s5,.slice a5 l5 k5,.int .i64 1,.slice a6 l6 k6]) (by simp[results,results118,go_sem,p0,p1,p2,p3]) rfl ?_;refine frac_ret HN BP (by omega) ?_ ?_
    ·have e:(Int.gcd X Y:Int)=1:=by rw[h2.out,Int.gcd_one];rfl
     rw[HQ.out.1,e,Int.ediv_one];exact ad
    ·have e:(Int.gcd X Y:Int)=1:=by rw[h2.out,Int.gcd_one];rfl
     have h:=HQ.out.2;rw[e,Int.ediv_one] at h;rw[h];exact ac
   ·have hd:(s6==1)=false:=by simpa using h1
    clear h1 ao;have a:=BA.out.two;have b:=BB.out.two;go_wp2_with fail;refine zO (gcd_calls _ _ X Y _ ad ac BX BY) fun w8 s7 a7 l7 k7 hn hi=>?_;clear a b;have HG:=hid hi;clear hi;refine zy6 ?_ hn HN BA.new BB.new BP.new ad.new ac.new;clear hn HN BA BB BP ad ac;intro HN BA BB BP ad ac;have a:=BA.out.two;have b:=BB.out.two;go_wp2_with fail;clear a b;obtain ⟨BG,hn⟩:=lay1 w8 113 #[.int .i64 s7,.slice a7 l7 k7];refine zy7 ?_ hn HN BA.new BB.new BP.new ad.new ac.new HG.new;clear hn HN BA BB BP ad ac HG;intro HN BA BB BP ad ac HG;have a:=BA.out.two;have b:=BB.out.two;have g:=BG.out.two;clear a;clear b;clear g;refine zR 7 8 (fun W=>zI W w.heap.size s5 a5 l5 k5∧zI W (w.heap.size+1) s6 a6 l6 k6∧zI W w8.heap.size s7 a7 l7 k7) ?_;refine zT 0 ⟨cW2 BA,cW2 BB,cW2 BG⟩ ?_;refine zT 1 ⟨cW2 BA,cW2 BB,cW2 BG⟩ ?_;refine zT 3 ⟨cW2 BA,cW2 BB,cW2 BG⟩ ?_;refine zT 4 ⟨cW2 BA,cW2 BB,cW2 BG⟩ ?_;refine tk1 2 fun K hK=>?_;go_simp;refine zO (quo_calls _ _ X _ _ (ad.new (New.refl _).drew) (HG.new (New.refl _).drew) BX (gcd_bd ae BY) (by have:=Int.gcd_pos_of_ne_zero_right X (show Y≠0 by have:=ae.out;omega);omega)) fun w9 s8 a8 l8 k8 hn hi=>?_;have hn:=hn.undrew;have af:=hid hi;clear hi;refine zy7 ?_ hn HN BA.new BB.new BP.new BG.new ac.new HG.new;clear hn HN BA BB BP BG ac HG;intro HN BA BB BP BG ac HG;refine zK hK ⟨cW2 BA,cW2 BB,cW2 BG⟩ ?_;clear hK K;refine tk1 5 fun K hK=>?_;go_simp;refine zO (quo_calls _ _ Y _ _ ac HG BY (gcd_bd ae BY) (by have:=Int.gcd_pos_of_ne_zero_right X (show Y≠0 by have:=ae.out;omega);omega)) fun av s9 a9 l9 k9 hn hi=>?_;replace hi:=hid hi;refine zy6 ?_ hn HN BA.new BB.new BP.new BG.new af.new;clear hn HN BA BB BP BG af;intro HN BA BB BP BG af;refine zK hK ⟨cW2 BA,cW2 BB,cW2 BG⟩ ?_;clear hK K;refine zT 6 ⟨cW2 BA,cW2 BB,cW2 BG⟩ ?_;refine tlW ?_;obtain ⟨a0,a1,a2,a3,a4⟩:=BA.out.two;obtain ⟨b0,b1,b2,b3,b4⟩:=BB.out.two;obtain ⟨g0,g1,g2,g3,g4⟩:=BG.out.two;obtain ⟨⟨p0,p1,p2,p3⟩,p4,p5,p6,p7,p8⟩:=BP.out.four;go_wp2_with fail;refine bodyPost_ret (v:=.agg #[.int .i64 s8,.slice a8 l8 k8,.int .i64 s9,.slice a9 l9 k9]) (by simp[results,results118,go_sem,p0,p1,p2,p3]) rfl ?_;refine frac_ret HN BP (by omega) ?_ ?_
    ·rw[HQ.out.1,←quo_pos (by have:=Int.gcd_pos_of_ne_zero_right X (show Y≠0 by have:=ae.out;omega);omega)];exact af
    ·rw[HQ.out.2,←quo_pos (by have:=Int.gcd_pos_of_ne_zero_right X (show Y≠0 by have:=ae.out;omega);omega)];exact hi
  ·clear au;have a:=BA.out.two;have b:=BB.out.two;go_wp2_with fail;refine zO (gcd_calls _ _ X Y _ ad ac BX BY) fun w8 s7 a7 l7 k7 hn hi=>?_;clear a b;have HG:=hid hi;clear hi;refine zy6 ?_ hn HN BA.new BB.new BP.new ad.new ac.new;clear hn HN BA BB BP ad ac;intro HN BA BB BP ad ac;have a:=BA.out.two;have b:=BB.out.two;go_wp2_with fail;clear a b;obtain ⟨BG,hn⟩:=lay1 w8 113 #[.int .i64 s7,.slice a7 l7 k7];refine zy7 ?_ hn HN BA.new BB.new BP.new ad.new ac.new HG.new;clear hn HN BA BB BP ad ac HG;intro HN BA BB BP ad ac HG;have a:=BA.out.two;have b:=BB.out.two;have g:=BG.out.two;clear a;clear b;clear g;refine zR 7 8 (fun W=>zI W w.heap.size s5 a5 l5 k5∧zI W (w.heap.size+1) s6 a6 l6 k6∧zI W w8.heap.size s7 a7 l7 k7) ?_;refine zT 0 ⟨cW2 BA,cW2 BB,cW2 BG⟩ ?_;refine zT 1 ⟨cW2 BA,cW2 BB,cW2 BG⟩ ?_;refine zT 3 ⟨cW2 BA,cW2 BB,cW2 BG⟩ ?_;refine zT 4 ⟨cW2 BA,cW2 BB,cW2 BG⟩ ?_;refine tk1 2 fun K hK=>?_;go_simp;refine zO (quo_calls _ _ X _ _ (ad.new (New.refl _).drew) (HG.new (New.refl _).drew) BX (gcd_bd ae BY) (by have:=Int.gcd_pos_of_ne_zero_right X (show Y≠0 by have:=ae.out;omega);omega)) fun w9 s8 a8 l8 k8 hn hi=>?_;have hn:=hn.undrew;have af:=hid hi;clear hi;refine zy7 ?_ hn HN BA.new BB.new BP.new BG.new ac.new HG.new;clear hn HN BA BB BP BG ac HG;intro HN BA BB BP BG ac HG;refine zK hK ⟨cW2 BA,cW2 BB,cW2 BG⟩ ?_;clear hK K;refine tk1 5 fun K hK=>?_;go_simp;refine zO (quo_calls _ _ Y _ _ ac HG BY (gcd_bd ae BY) (by have:=Int.gcd_pos_of_ne_zero_right X (show Y≠0 by have:=ae.out;omega);omega)) fun av s9 a9 l9 k9 hn hi=>?_;replace hi:=hid hi;refine zy6 ?_ hn HN BA.new BB.new BP.new BG.new af.new;clear hn HN BA BB BP BG af;intro HN BA BB BP BG af;refine zK hK ⟨cW2 BA,cW2 BB,cW2 BG⟩ ?_;clear hK K;refine zT 6 ⟨cW2 BA,cW2 BB,cW2 BG⟩ ?_;refine tlW ?_;obtain ⟨a0,a1,a2,a3,a4⟩:=BA.out.two;obtain ⟨b0,b1,b2,b3,b4⟩:=BB.out.two;obtain ⟨g0,g1,g2,g3,g4⟩:=BG.out.two;obtain ⟨⟨p0,p1,p2,p3⟩,p4,p5,p6,p7,p8⟩:=BP.out.four;go_wp2_with fail;refine bodyPost_ret (v:=.agg #[.int .i64 s8,.slice a8 l8 k8,.int .i64 s9,.slice a9 l9 k9]) (by simp[results,results118,go_sem,p0,p1,p2,p3]) rfl ?_;refine frac_ret HN BP (by omega) ?_ ?_
   ·rw[HQ.out.1,←quo_pos (by have:=Int.gcd_pos_of_ne_zero_right X (show Y≠0 by have:=ae.out;omega);omega)];exact af
   ·rw[HQ.out.2,←quo_pos (by have:=Int.gcd_pos_of_ne_zero_right X (show Y≠0 by have:=ae.out;omega);omega)];exact hi
 ·obtain ⟨t,ht,ba⟩:∃ t,y.sign=t∧0≤t:=⟨_,rfl,Int.sign_nonneg_iff.2 (by omega)⟩;obtain ⟨X,hX⟩:∃ X,x=X:=⟨_,rfl⟩;obtain ⟨Y,hY⟩:∃ Y,y=Y:=⟨_,rfl⟩
  have ag:0 < Y:=by omega
  have aj:=divInt_pos (X:=X) ag;rw[←hX,←hY,hq,hX,hY] at aj;clear hneg hy0 hq;subst hX hY;obtain ⟨X,rfl⟩:∃ X,X=x:=⟨_,rfl⟩;obtain ⟨Y,rfl⟩:∃ Y,Y=y:=⟨_,rfl⟩;obtain ⟨s5,rfl⟩:∃ X,X=sa:=⟨_,rfl⟩;obtain ⟨a5,rfl⟩:∃ X,X=aa:=⟨_,rfl⟩;obtain ⟨l5,rfl⟩:∃ X,X=la:=⟨_,rfl⟩;obtain ⟨k5,rfl⟩:∃ X,X=ca:=⟨_,rfl⟩;obtain ⟨s6,rfl⟩:∃ X,X=sb:=⟨_,rfl⟩;obtain ⟨a6,rfl⟩:∃ X,X=ab:=⟨_,rfl⟩;obtain ⟨l6,rfl⟩:∃ X,X=lb:=⟨_,rfl⟩;obtain ⟨k6,rfl⟩:∃ X,X=cb:=⟨_,rfl⟩;refine zh6 ?_ hx hy bx by' aj ag;clear hx hy bx by' aj ag;intro HX HY BX BY HQ ae;go_in;go_wp2_with fail;obtain ⟨BA,BB,BP,HN⟩:=lay3 w 113 #[.int .i64 s5,.slice a5 l5 k5] 113 #[.int .i64 s6,.slice a6 l6 k6] 115 #[.int .i64 0,.slice none 0 0,.int .i64 0,.slice none 0 0];refine zM (sign_calls _ Y _ (HY.new HN)) fun w4 hn=>?_;rw[ht];clear ht;refine zy4 ?_ hn HN BA.new BB.new BP.new;clear hn HN BA BB BP;intro HN BA BB BP;have aw:=HX.out.new HN.out;have ax:=HY.out.new HN.out;have ad:=hid aw;have ac:=hid ax;clear aw ax;rcases ac.out.none_or with ⟨ar,ao⟩ | ⟨ar,au⟩
  ·by_cases h1:s6=1
   ·have h2:Y=1:=by omega
    clear ao;subst h1;replace h2:=hid h2;obtain ⟨a0,a1,a2,a3,a4⟩:=BA.out.two;obtain ⟨b0,b1,b2,b3,b4⟩:=BB.out.two;obtain ⟨⟨p0,p1,p2,p3⟩,p4,p5,p6,p7,p8⟩:=BP.out.four;go_wp2_with fail;refine bodyPost_ret (v:=.agg #[.int .i64 s5,.slice a5 l5 k5,.int .i64 1,.slice a6 l6 k6]) (by simp[results,results118,go_sem,p0,p1,p2,p3]) rfl ?_;refine frac_ret HN BP (by omega) ?_ ?_
    ·have e:(Int.gcd X Y:Int)=1:=by rw[h2.out,Int.gcd_one];rfl
     rw[HQ.out.1,e,Int.ediv_one];exact ad
    ·have e:(Int.gcd X Y:Int)=1:=by rw[h2.out,Int.gcd_one];rfl
     have h:=HQ.out.2;rw[e,Int.ediv_one] at h;rw[h];exact ac
   ·have hd:(s6==1)=false:=by simpa using h1
    clear h1 ao;have a:=BA.out.two;have b:=BB.out.two;go_wp2_with fail;refine zO (gcd_calls _ _ X Y _ ad ac BX BY) fun w8 s7 a7 l7 k7 hn hi=>?_;clear a b;have HG:=hid hi;clear hi;refine zy6 ?_ hn HN BA.new BB.new BP.new ad.new ac.new;clear hn HN BA BB BP ad ac;intro HN BA BB BP ad ac;have a:=BA.out.two;have b:=BB.out.two;go_wp2_with fail;clear a b;obtain ⟨BG,hn⟩:=lay1 w8 113 #[.int .i64 s7,.slice a7 l7 k7];refine zy7 ?_ hn HN BA.new BB.new BP.new ad.new ac.new HG.new;clear hn HN BA BB BP ad ac HG;intro HN BA BB BP ad ac HG;have a:=BA.out.two;have b:=BB.out.two;have g:=BG.out.two;clear a;clear b;clear g;refine zR 7 8 (fun W=>zI W w.heap.size s5 a5 l5 k5∧zI W (w.heap.size+1) s6 a6 l6 k6∧zI W w8.heap.size s7 a7 l7 k7) ?_;refine zT 0 ⟨cW2 BA,cW2 BB,cW2 BG⟩ ?_;refine zT 1 ⟨cW2 BA,cW2 BB,cW2 BG⟩ ?_;refine zT 3 ⟨cW2 BA,cW2 BB,cW2 BG⟩ ?_;refine zT 4 ⟨cW2 BA,cW2 BB,cW2 BG⟩ ?_;refine tk1 2 fun K hK=>?_;go_simp;refine zO (quo_calls _ _ X _ _ (ad.new (New.refl _).drew) (HG.new (New.refl _).drew) BX (gcd_bd ae BY) (by have:=Int.gcd_pos_of_ne_zero_right X (show Y≠0 by have:=ae.out;omega);omega)) fun w9 s8 a8 l8 k8 hn hi=>?_;have hn:=hn.undrew;have af:=hid hi;clear hi;refine zy7 ?_ hn HN BA.new BB.new BP.new BG.new ac.new HG.new;clear hn HN BA BB BP BG ac HG;intro HN BA BB BP BG ac HG;refine zK hK ⟨cW2 BA,cW2 BB,cW2 BG⟩ ?_;clear hK K;refine tk1 5 fun K hK=>?_;go_simp;refine zO (quo_calls _ _ Y _ _ ac HG BY (gcd_bd ae BY) (by have:=Int.gcd_pos_of_ne_zero_right X (show Y≠0 by have:=ae.out;omega);omega)) fun av s9 a9 l9 k9 hn hi=>?_;replace hi:=hid hi;refine zy6 ?_ hn HN BA.new BB.new BP.new BG.new af.new;clear hn HN BA BB BP BG af;intro HN BA BB BP BG af;refine zK hK ⟨cW2 BA,cW2 BB,cW2 BG⟩ ?_;clear hK K;refine zT 6 ⟨cW2 BA,cW2 BB,cW2 BG⟩ ?_;refine tlW ?_;obtain ⟨a0,a1,a2,a3,a4⟩:=BA.out.two;obtain ⟨b0,b1,b2,b3,b4⟩:=BB.out.two;obtain ⟨g0,g1,g2,g3,g4⟩:=BG.out.two;obtain ⟨⟨p0,p1,p2,p3⟩,p4,p5,p6,p7,p8⟩:=BP.out.four;go_wp2_with fail;refine bodyPost_ret (v:=.agg #[.int .i64 s8,.slice a8 l8 k8,.int .i64 s9,.slice a9 l9 k9]) (by simp[results,results118,go_sem,p0,p1,p2,p3]) rfl ?_;refine frac_ret HN BP (by omega) ?_ ?_
    ·rw[HQ.out.1,←quo_pos (by have:=Int.gcd_pos_of_ne_zero_right X (show Y≠0 by have:=ae.out;omega);omega)];exact af
    ·rw[HQ.out.2,←quo_pos (by have:=Int.gcd_pos_of_ne_zero_right X (show Y≠0 by have:=ae.out;omega);omega)];exact hi
  ·clear au;have a:=BA.out.two;have b:=BB.out.two;go_wp2_with fail;refine zO (gcd_calls _ _ X Y _ ad ac BX BY) fun w8 s7 a7 l7 k7 hn hi=>?_;clear a b;have HG:=hid hi;clear hi;refine zy6 ?_ hn HN BA.new BB.new BP.new ad.new ac.new;clear hn HN BA BB BP ad ac;intro HN BA BB BP ad ac;have a:=BA.out.two;have b:=BB.out.two;go_wp2_with fail;clear a b;obtain ⟨BG,hn⟩:=lay1 w8 113 #[.int .i64 s7,.slice a7 l7 k7];refine zy7 ?_ hn HN BA.new BB.new BP.new ad.new ac.new HG.new;clear hn HN BA BB BP ad ac HG;intro HN BA BB BP ad ac HG;have a:=BA.out.two;have b:=BB.out.two;have g:=BG.out.two;clear a;clear b;clear g;refine zR 7 8 (fun W=>zI W w.heap.size s5 a5 l5 k5∧zI W (w.heap.size+1) s6 a6 l6 k6∧zI W w8.heap.size s7 a7 l7 k7) ?_;refine zT 0 ⟨cW2 BA,cW2 BB,cW2 BG⟩ ?_;refine zT 1 ⟨cW2 BA,cW2 BB,cW2 BG⟩ ?_;refine zT 3 ⟨cW2 BA,cW2 BB,cW2 BG⟩ ?_;refine zT 4 ⟨cW2 BA,cW2 BB,cW2 BG⟩ ?_;refine tk1 2 fun K hK=>?_;go_simp;refine zO (quo_calls _ _ X _ _ (ad.new (New.refl _).drew) (HG.new (New.refl _).drew) BX (gcd_bd ae BY) (by have:=Int.gcd_pos_of_ne_zero_right X (show Y≠0 by have:=ae.out;omega);omega)) fun w9 s8 a8 l8 k8 hn hi=>?_;have hn:=hn.undrew;have af:=hid hi;clear hi;refine zy7 ?_ hn HN BA.new BB.new BP.new BG.new ac.new HG.new;clear hn HN BA BB BP BG ac HG;intro HN BA BB BP BG ac HG;refine zK hK ⟨cW2 BA,cW2 BB,cW2 BG⟩ ?_;clear hK K;refine tk1 5 fun K hK=>?_;go_simp;refine zO (quo_calls _ _ Y _ _ ac HG BY (gcd_bd ae BY) (by have:=Int.gcd_pos_of_ne_zero_right X (show Y≠0 by have:=ae.out;omega);omega)) fun av s9 a9 l9 k9 hn hi=>?_;replace hi:=hid hi;refine zy6 ?_ hn HN BA.new BB.new BP.new BG.new af.new;clear hn HN BA BB BP BG af;intro HN BA BB BP BG af;refine zK hK ⟨cW2 BA,cW2 BB,cW2 BG⟩ ?_;clear hK K;refine zT 6 ⟨cW2 BA,cW2 BB,cW2 BG⟩ ?_;refine tlW ?_;obtain ⟨a0,a1,a2,a3,a4⟩:=BA.out.two;obtain ⟨b0,b1,b2,b3,b4⟩:=BB.out.two;obtain ⟨g0,g1,g2,g3,g4⟩:=BG.out.two;obtain ⟨⟨p0,p1,p2,p3⟩,p4,p5,p6,p7,p8⟩:=BP.out.four;go_wp2_with fail;refine bodyPost_ret (v:=.agg #[.int .i64 s8,.slice a8 l8 k8,.int .i64 s9,.slice a9 l9 k9]) (by simp[results,results118,go_sem,p0,p1,p2,p3]) rfl ?_;refine frac_ret HN BP (by omega) ?_ ?_
   ·rw[HQ.out.1,←quo_pos (by have:=Int.gcd_pos_of_ne_zero_right X (show Y≠0 by have:=ae.out;omega);omega)];exact af
   ·rw[HQ.out.2,←quo_pos (by have:=Int.gcd_pos_of_ne_zero_right X (show Y≠0 by have:=ae.out;omega);omega)];exact hi
theorem BdK.mul {j k:Nat}{x y:Int}(hx:BdK j x)(hy:BdK k y):BdK (j+k) (x*y):=by
 unfold BdK at *;rw[Int.natAbs_mul,Nat.pow_add];exact Nat.mul_lt_mul'' hx hy
theorem BdK.add {m:Nat}{x y:Int}(hx:BdK m x)(hy:BdK m y):BdK (m+1) (x+y):=by
 unfold BdK at *;rw[Nat.pow_succ];omega
theorem BdK.mono {j k:Nat}{x:Int}(h:BdK j x)(hk:j≤k):BdK k x:=Nat.lt_of_lt_of_le h (Nat.pow_le_pow_right (by omega) hk)
structure FB (k:Nat)(q:Rat):Prop where
 num:BdK k q.num
 den:BdK k (q.den:Int)
theorem FB.mono {j k:Nat}{q:Rat}(h:FB j q)(hk:j≤k):FB k q:=⟨h.num.mono hk,h.den.mono hk⟩
theorem divInt_le {x y:Int}(hy:y≠0):(Rat.divInt x y).num.natAbs≤x.natAbs∧(Rat.divInt x y).den≤y.natAbs:=by
 rw[Rat.num_divInt,Rat.den_divInt,if_neg hy];refine ⟨Nat.le_trans (Int.natAbs_ediv_le_natAbs _ _) ?_,Nat.div_le_self _ _⟩;rw[Int.natAbs_mul]
 have:y.sign.natAbs=1:=by rw[Int.natAbs_sign_of_ne_zero hy]
 rw[this,Nat.one_mul];exact Nat.le_refl _
theorem FB.divInt {j:Nat}{x y:Int}(hx:BdK j x)(hy:BdK j y)(h0:y≠0):FB j (Rat.divInt x y):=by
 obtain ⟨h1,h2⟩:=divInt_le (x:=x) h0;exact ⟨Nat.lt_of_le_of_lt h1 hx,Nat.lt_of_le_of_lt (by simpa using h2) hy⟩
theorem add_divInt (a b:Rat):a+b=Rat.divInt (a.num*b.den+b.num*a.den) (a.den*b.den):=by
 rw[Rat.add_def'];rfl
theorem mul_divInt (a b:Rat):a*b=Rat.divInt (a.num*b.num) (a.den*b.den):=by
 rw[Rat.mul_def'];rfl
theorem den_ne (q:Rat):(q.den:Int)≠0:=by
 have:=q.den_nz;omega
theorem den2_ne (a b:Rat):(a.den:Int)*(b.den:Int)≠0:=Int.mul_ne_zero (den_ne a) (den_ne b)
theorem FB.add {j k:Nat}{a b:Rat}(ha:FB j a)(hb:FB k b):FB (j+k+1) (a+b):=by
 rw[add_divInt];exact FB.divInt ((ha.num.mul hb.den).add (by rw[Nat.add_comm];exact hb.num.mul ha.den)) ((ha.den.mul hb.den).mono (by omega)) (den2_ne a b)
theorem FB.mul {j k:Nat}{a b:Rat}(ha:FB j a)(hb:FB k b):FB (j+k) (a*b):=by
 rw[mul_divInt];exact FB.divInt (ha.num.mul hb.num) (ha.den.mul hb.den) (den2_ne a b)
theorem FB.neg {j:Nat}{a:Rat}(ha:FB j a):FB j (-a):=⟨by
 have:=ha.num;unfold BdK at *;rw[Rat.neg_num,Int.natAbs_neg]
 exact this,ha.den⟩
theorem FB.sub {j k:Nat}{a b:Rat}(ha:FB j a)(hb:FB k b):FB (j+k+1) (a - b):=by
 rw[Rat.sub_eq_add_neg];exact ha.add hb.neg
theorem num_ne {a:Rat}(h:a≠0):a.num≠0:=fun h0=>h (by rw[←Rat.num_divInt_den a,h0,Rat.zero_divInt])
theorem FB.inv {j:Nat}{a:Rat}(ha:FB j a)(h:a≠0):FB j a⁻¹:=by
 rw[Rat.inv_def];exact FB.divInt ha.den ha.num (num_ne h)
theorem FB.div {j k:Nat}{a b:Rat}(ha:FB j a)(hb:FB k b)(h:b≠0):FB (j+k) (a / b):=by
 rw[Rat.div_def];exact ha.mul (hb.inv h)
theorem inv_calls (va:Value)(q:Rat)(k:Nat)(w:World)(hx:IsFrac w va q)(hb:FB k q)(hk:k≤60000000)(h0:q≠0):Calls prog 168 #[va] w (FracPost w q⁻¹):=by
 obtain ⟨s,a,l,c,s',a',l',c',rfl,h1,h2⟩:=hx;obtain ⟨r,hr⟩:∃ r,q⁻¹=r:=⟨_,rfl⟩;have aa:=Rat.inv_def q;rw[hr] at aa⊢;refine zh6 ?_ h1 h2 aa hb hk h0;clear h1 h2 aa hb hk h0;intro H1 H2 HR HB HK H0;clear hr;go_in;go_wp2_with fail;obtain ⟨BA,BP,HN⟩:=lay2 w 115 #[.int .i64 s,.slice a l c,.int .i64 s',.slice a' l' c'] 115 #[.int .i64 0,.slice none 0 0,.int .i64 0,.slice none 0 0];refine zS (make_calls _ _ (q.den:Int) q.num _ (H2.new HN) (H1.new HN) (HB.den.bd HK) (HB.num.bd HK) (num_ne H0)) fun w2 s9 a9 l9 k9 t9 b9 m9 n9 hn hf=>?_;rw[←HR.out] at hf;replace hf:=hid hf;obtain ⟨HN,BP⟩:=zn2 hn HN BP.new;clear hn;obtain ⟨⟨p0,p1,p2,p3⟩,p4,p5,p6,p7,p8⟩:=BP.out.four;go_wp2_with fail;refine bodyPost_ret (v:=.agg #[.int .i64 s9,.slice a9 l9 k9,.int .i64 t9,.slice b9 m9 n9]) (by simp[results,results168,go_sem,p0,p1,p2,p3]) rfl ?_;exact frac_ret HN BP (by omega) hf.parts.1 hf.parts.2
theorem fmul_calls (va vb:Value)(x y:Rat)(j k:Nat)(w:World)(hx:IsFrac w va x)(hy:IsFrac w vb y)(bx:FB j x)(by':FB k y)(hk:j+k≤60000000):Calls prog 94 #[va,vb] w (FracPost w (x*y)):=by
 obtain ⟨sa,aa,la,ca,ta,ba,ma,na,rfl,aj,ak⟩:=hx;obtain ⟨sb,ab,lb,cb,tb,bb,mb,nb,rfl,al,am⟩:=hy;obtain ⟨r,hr⟩:∃ r,x*y=r:=⟨_,rfl⟩;have ae:=mul_divInt x y;rw[hr] at ae⊢;clear hr;have bn:=(bx.num.mul by'.num).bd hk;have bd:=(bx.den.mul by'.den).bd hk;have af:=bx.num.bd (show j≤60000000 by omega);have ag:=bx.den.bd (show j≤60000000 by omega);have ah:=by'.num.bd (show k≤60000000 by omega);have ai:=by'.den.bd (show k≤60000000 by omega);have ad:=den2_ne x y;clear bx by';refine zh12 ?_ aj ak al am ae hk af ag ah ai bn bd;intro X1 X2 Y1 Y2 HR HK an ao ap aq BN BD;replace ad:=hid ad;clear aj ak al am ae hk af ag ah ai bn bd;go_in;go_wp2_with fail;obtain ⟨BA,BB,BP,HN⟩:=lay3 w 115 #[.int .i64 sa,.slice aa la ca,.int .i64 ta,.slice ba ma na] 115 #[.int .i64 sb,.slice ab lb cb,.int .i64 tb,.slice bb mb nb] 115 #[.int .i64 0,.slice none 0 0,.int .i64 0,.slice none 0 0];have pa:=BA.out.four;have pb:=BB.out.four;clear pa;clear pb;refine zR 11 12 (fun W=>zF W w.heap.size sa aa la ca ta ba ma na∧zF W (w.heap.size+1) sb ab lb cb tb bb mb nb) ?_;refine zT 0 ⟨cW4 BA,cW4 BB⟩ ?_;refine zT 1 ⟨cW4 BA,cW4 BB⟩ ?_;refine zT 2 ⟨cW4 BA,cW4 BB⟩ ?_;refine zT 3 ⟨cW4 BA,cW4 BB⟩ ?_;refine zT 5 ⟨cW4 BA,cW4 BB⟩ ?_;refine zT 6 ⟨cW4 BA,cW4 BB⟩ ?_;refine zT 7 ⟨cW4 BA,cW4 BB⟩ ?_;refine zT 8 ⟨cW4 BA,cW4 BB⟩ ?_;refine tk1 4 fun K hK=>?_;go_simp;refine zO (mul_calls _ _ x.num y.num _ (X1.new HN.drew) (Y1.new HN.drew) an ap) fun w1 s5 a5 l5 k5 hn hi=>?_;have hn:=hn.undrew;have ac:=hid hi;clear hi;obtain ⟨HN,BA,BB,BP⟩:=zn4 hn HN BA.new BB.new BP.new;clear hn;refine zK hK ⟨cW4 BA,cW4 BB⟩ ?_;clear hK K;refine tk1 9 fun K hK=>?_;go_simp;refine zO (mul_calls _ _ (x.den:Int) (y.den:Int) _ (X2.new HN) (Y2.new HN) ao aq) fun w2 s6 a6 l6 k6 hn hi=>?_;replace hi:=hid hi;obtain ⟨HN,BA,BB,BP,ac⟩:=zn5 hn HN BA.new BB.new BP.new ac.new;clear hn;refine zK hK ⟨cW4 BA,cW4 BB⟩ ?_;clear hK K;refine tk1 10 fun K hK=>?_;go_simp;refine zS (make_calls _ _ (x.num*y.num) (x.den*y.den:Int) _ ac hi BN BD ad) fun w3 s9 a9 l9 k9 t9 b9 m9 n9 hn hf=>?_;rw[←HR.out] at hf;replace hf:=hid hf;obtain ⟨HN,BA,BB,BP⟩:=zn4 hn HN BA.new BB.new BP.new;clear hn;refine zK hK ⟨cW4 BA,cW4 BB⟩ ?_;clear hK K;refine tlW ?_;obtain ⟨⟨ar,au,av,aw⟩,ax,ay,az,a0,a1⟩:=BA.out.four;obtain ⟨⟨a2,a3,a4,a7⟩,a8,bc,be,bf,bg⟩:=BB.out.four;obtain ⟨⟨p0,p1,p2,p3⟩,p4,p5,p6,p7,p8⟩:=BP.out.four;go_wp2_with fail;refine bodyPost_ret (v:=.agg #[.int .i64 s9,.slice a9 l9 k9,.int .i64 t9,.slice b9 m9 n9]) (by simp[results,results94,go_sem,p0,p1,p2,p3]) rfl ?_;exact frac_ret HN BP (by omega) hf.parts.1 hf.parts.2
def serOne:Int:=100000000000000000000000000000000000000000000000000
def serAng:Int:=78539816339744830961566084581987572104929234984377
def serD (k:Nat):Int:=(2*(k:Int) - 1)*2*(k:Int)
def serT:Nat→Int
 | 0=>serOne
 | k+1=>serT k*serAng / serOne*serAng / serOne / serD (k+1)
def serS:Nat→Int
 | 0=>serOne
 | k+1=>if (k+1) % 2=1 then serS k - serT (k+1) else serS k+serT (k+1)
def serU (k:Nat):Int:=serT k*serAng
def serV (k:Nat):Int:=serU k / serOne
def serW (k:Nat):Int:=serV k*serAng
def serX (k:Nat):Int:=serW k / serOne
theorem ser_pos:∀ k,k < 20→0 < serT k:=by decide +kernel
theorem ser_zero:serT 20=0:=by decide +kernel
theorem ser_sum:serS 20=70710678118654752440084436210484903928483593768848:=by decide +kernel
theorem ser_bd:∀ k,k < 21→(serT k).natAbs < 2^400∧(serU k).natAbs < 2^400∧(serV k).natAbs < 2^400∧(serW k).natAbs < 2^400∧(serX k).natAbs < 2^400∧(serS k).natAbs < 2^400:=by decide +kernel
theorem serD_pos:∀ k,k < 21→0 < serD (k+1)∧serD (k+1) < 2000:=by decide +kernel
theorem ser_ten:(10:Int)^50=serOne:=by decide +kernel
theorem ser_unit:(10:Int)^47=100000000000000000000000000000000000000000000000:=by decide +kernel
theorem add_whole {x y:Rat}(hx:x.den=1)(hy:y.den=1):x+y=((x.num+y.num:Int):Rat):=by
 rw[add_divInt,hx,hy];apply Rat.ext
 ·rw[Rat.num_divInt,Rat.num_intCast];simp
 ·rw[Rat.den_divInt,Rat.den_intCast];simp
theorem fadd_calls (va vb:Value)(x y:Rat)(j k:Nat)(w:World)(hx:IsFrac w va x)(hy:IsFrac w vb y)(bx:FB j x)(by':FB k y)(hk:j+k+1≤60000000):Calls prog 92 #[va,vb] w (FracPost w (x+y)):=by
 have hX:=hx;have hY:=hy;obtain ⟨sa,aa,la,ca,ta,ba,ma,na,rfl,bm,bo⟩:=hx;obtain ⟨sb,ab,lb,cb,tb,bb,mb,nb,rfl,bp,bq⟩:=hy;obtain ⟨r,hr⟩:∃ r,x+y=r:=⟨_,rfl⟩;have a3:=add_divInt x y;have hw:=add_whole (x:=x) (y:=y);rw[hr] at a3 hw⊢;clear hr;have bf:=(bx.num.mul by'.den).bd (show j+k≤60000000 by omega);have bg:=(by'.num.mul bx.den).bd (show k+j≤60000000 by omega);have bn:=((bx.num.mul by'.den).add (by rw[Nat.add_comm];exact by'.num.mul bx.den)).bd hk;have bd:=(bx.den.mul by'.den).bd (show j+k≤60000000 by omega);have bh:=bx.num.bd (show j≤60000000 by omega);have bi:=bx.den.bd (show j≤60000000 by omega);have bj:=by'.num.bd (show k≤60000000 by omega);have bk:=by'.den.bd (show k≤60000000 by omega);have bl:=den2_ne x y;clear bx by';refine zh12 ?_ hX hY bm bo bp bq a3 hw hk bh bi bj;intro HX HY X1 X2 Y1 Y2 HR HW HK a0 ae a1;refine zh6 ?_ bk bf bg bn bd bl;clear hX hY bm bo bp bq a3 hw hk bh bi bj bk bf bg bn bd bl;intro af a4 bc BN BD be;by_cases h1:x.den=1
 ·have d1:decide (x.den=1)=true:=by simpa using h1
  have H1:=hid h1;clear h1;go_in;go_wp2_with fail;obtain ⟨BA,BB,BP,HN⟩:=lay3 w 115 #[.int .i64 sa,.slice aa la ca,.int .i64 ta,.slice ba ma na] 115 #[.int .i64 sb,.slice ab lb cb,.int .i64 tb,.slice bb mb nb] 115 #[.int .i64 0,.slice none 0 0,.int .i64 0,.slice none 0 0];refine zM (isWhole_calls _ x _ (HX.new HN)) fun w1 hn=>?_;rw[d1];obtain ⟨HN,BA,BB,BP⟩:=zn4 hn HN BA.new BB.new BP.new;clear hn;have pb:=BB.out.four;go_wp2_with fail;clear pb;refine zM (isWhole_calls _ y _ (HY.new HN)) fun w2 hn=>?_;obtain ⟨HN,BA,BB,BP⟩:=zn4 hn HN BA.new BB.new BP.new;clear hn;obtain ⟨⟨ag,ah,ai,aj⟩,ak,al,am,an,ao⟩:=BA.out.four;obtain ⟨⟨ap,aq,ar,au⟩,av,aw,ax,ay,az⟩:=BB.out.four;by_cases h2:y.den=1
  ·rw[decide_eq_true h2];have hw:=HW.out H1.out h2;have H2:=hid h2;replace hw:=hid hw;clear h2;go_wp2_with fail;clear ag ah ai aj ak al am an ao ap aq ar au av aw ax ay az;refine zO (add_calls _ _ x.num y.num _ (X1.new HN) (Y1.new HN) a0 a1) fun w3 s5 a5 l5 k5 hn hi=>?_;have ac:=hid hi;clear hi;obtain ⟨HN,BP⟩:=zn2 hn HN BP.new;clear hn;go_wp2_with fail;refine zS (whole_calls _ (x.num+y.num) _ ac) fun w4 s9 a9 l9 k9 t9 b9 m9 n9 hn hf=>?_;rw[←hw.out] at hf;have HF:=hid hf;clear hf;obtain ⟨HN,BP⟩:=zn2 hn HN BP.new;clear hn;obtain ⟨⟨p0,p1,p2,p3⟩,p4,p5,p6,p7,p8⟩:=BP.out.four;go_wp2_with fail;refine bodyPost_ret (v:=.agg #[.int .i64 s9,.slice a9 l9 k9,.int .i64 t9,.slice b9 m9 n9]) (by simp[results,results92,go_sem,p0,p1,p2,p3]) rfl ?_;exact frac_ret HN BP (by omega) HF.parts.1 HF.parts.2
  ·rw[decide_eq_false h2];clear h2;go_wp2_with fail;clear ag ah ai aj ak al am an ao;clear ap aq ar au av aw ax ay az;refine zR 17 18 (fun W=>zF W w.heap.size sa aa la ca ta ba ma na∧zF W (w.heap.size+1) sb ab lb cb tb bb mb nb) ?_;refine zT 0 ⟨cW4 BA,cW4 BB⟩ ?_;refine zT 1 ⟨cW4 BA,cW4 BB⟩ ?_;refine zT 2 ⟨cW4 BA,cW4 BB⟩ ?_;refine zT 3 ⟨cW4 BA,cW4 BB⟩ ?_;refine zT 5 ⟨cW4 BA,cW4 BB⟩ ?_;refine zT 6 ⟨cW4 BA,cW4 BB⟩ ?_;refine zT 7 ⟨cW4 BA,cW4 BB⟩ ?_;refine zT 8 ⟨cW4 BA,cW4 BB⟩ ?_;refine zT 11 ⟨cW4 BA,cW4 BB⟩ ?_;refine zT 12 ⟨cW4 BA,cW4 BB⟩ ?_;refine zT 13 ⟨cW4 BA,cW4 BB⟩ ?_;refine zT 14 ⟨cW4 BA,cW4 BB⟩ ?_;refine tk1 4 fun K hK=>?_;go_simp;refine zO (mul_calls _ _ x.num (y.den:Int) _ (X1.new HN.drew) (Y2.new HN.drew) a0 af) fun w3 s5 a5 l5 k5 hn hi=>?_;have hn:=hn.undrew;have ac:=hid hi;clear hi;obtain ⟨HN,BA,BB,BP⟩:=zn4 hn HN BA.new BB.new BP.new;clear hn;refine zK hK ⟨cW4 BA,cW4 BB⟩ ?_;clear hK K;refine tk1 9 fun K hK=>?_;go_simp;refine zO (mul_calls _ _ y.num (x.den:Int) _ (Y1.new HN) (X2.new HN) a1 ae) fun w4 s6 a6 l6 k6 hn hi=>?_;have a2:=hid hi;clear hi;obtain ⟨HN,BA,BB,BP,ac⟩:=zn5 hn HN BA.new BB.new BP.new ac.new;clear hn;refine zK hK ⟨cW4 BA,cW4 BB⟩ ?_;clear hK K;refine tk1 10 fun K hK=>?_;go_simp;refine zO (add_calls _ _ (x.num*y.den) (y.num*x.den) _ ac a2 a4 bc) fun w5 s7 a7 l7 k7 hn hi=>?_;have ad:=hid hi;clear hi;obtain ⟨HN,BA,BB,BP⟩:=zn4 hn HN BA.new BB.new BP.new;clear hn;refine zK hK ⟨cW4 BA,cW4 BB⟩ ?_;clear hK K;refine tk1 15 fun K hK=>?_;go_simp;refine zO (mul_calls _ _ (x.den:Int) (y.den:Int) _ (X2.new HN) (Y2.new HN) ae af) fun w6 s8 a8 l8 k8 hn hi=>?_;replace hi:=hid hi;obtain ⟨HN,BA,BB,BP,ad⟩:=zn5 hn HN BA.new BB.new BP.new ad.new;clear hn;refine zK hK ⟨cW4 BA,cW4 BB⟩ ?_;clear hK K;refine tk1 16 fun K hK=>?_;go_simp;refine zS (make_calls _ _ (x.num*y.den+y.num*x.den) (x.den*y.den:Int) _ ad hi BN BD be) fun w7 s9 a9 l9 k9 t9 b9 m9 n9 hn hf=>?_;rw[←HR.out] at hf;replace hf:=hid hf;obtain ⟨HN,BA,BB,BP⟩:=zn4 hn HN BA.new BB.new BP.new;clear hn;refine zK hK ⟨cW4 BA,cW4 BB⟩ ?_;clear hK K;refine tlW ?_;obtain ⟨⟨ag,ah,ai,aj⟩,ak,al,am,an,ao⟩:=BA.out.four;obtain ⟨⟨ap,aq,ar,au⟩,av,aw,ax,ay,az⟩:=BB.out.four;obtain ⟨⟨p0,p1,p2,p3⟩,p4,p5,p6,p7,p8⟩:=BP.out.four;go_wp2_with fail;refine bodyPost_ret (v:=.agg #[.int .i64 s9,.slice a9 l9 k9,.int .i64 t9,.slice b9 m9 n9]) (by simp[results,results92,go_sem,p0,p1,p2,p3]) rfl ?_;exact frac_ret HN BP (by omega) hf.parts.1 hf.parts.2
 ·have d1:decide (x.den=1)=false:=by simpa using h1
  clear h1;go_in;go_wp2_with fail;obtain ⟨BA,BB,BP,HN⟩:=lay3 w 115 #[.int .i64 sa,.slice aa la ca,.int .i64 ta,.slice ba ma na] 115 #[.int .i64 sb,.slice ab lb cb,.int .i64 tb,.slice bb mb nb] 115 #[.int .i64 0,.slice none 0 0,.int .i64 0,.slice none 0 0];refine zM (isWhole_calls _ x _ (HX.new HN)) fun w1 hn=>?_;rw[d1];obtain ⟨HN,BA,BB,BP⟩:=zn4 hn HN BA.new BB.new BP.new;clear hn;have pa:=BA.out.four;have pb:=BB.out.four;go_wp2_with fail;clear pa;clear pb;refine zR 17 18 (fun W=>zF W w.heap.size sa aa la ca ta ba ma na∧zF W (w.heap.size+1) sb ab lb cb tb bb mb nb) ?_;refine zT 0 ⟨cW4 BA,cW4 BB⟩ ?_;refine zT 1 ⟨cW4 BA,cW4 BB⟩ ?_;refine zT 2 ⟨cW4 BA,cW4 BB⟩ ?_;refine zT 3 ⟨cW4 BA,cW4 BB⟩ ?_;refine zT 5 ⟨cW4 BA,cW4 BB⟩ ?_;refine zT 6 ⟨cW4 BA,cW4 BB⟩ ?_;refine zT 7 ⟨cW4 BA,cW4 BB⟩ ?_;refine zT 8 ⟨cW4 BA,cW4 BB⟩ ?_;refine zT 11 ⟨cW4 BA,cW4 BB⟩ ?_;refine zT 12 ⟨cW4 BA,cW4 BB⟩ ?_;refine zT 13 ⟨cW4 BA,cW4 BB⟩ ?_;refine zT 14 ⟨cW4 BA,cW4 BB⟩ ?_;refine tk1 4 fun K hK=>?_;go_simp;refine zO (mul_calls _ _ x.num (y.den:Int) _ (X1.new HN.drew) (Y2.new HN.drew) a0 af) fun w3 s5 a5 l5 k5 hn hi=>?_;have hn:=hn.undrew;have ac:=hid hi;clear hi;obtain ⟨HN,BA,BB,BP⟩:=zn4 hn HN BA.new BB.new BP.new;clear hn;refine zK hK ⟨cW4 BA,cW4 BB⟩ ?_;clear hK K;refine tk1 9 fun K hK=>?_;go_simp;refine zO (mul_calls _ _ y.num (x.den:Int) _ (Y1.new HN) (X2.new HN) a1 ae) fun w4 s6 a6 l6 k6 hn hi=>?_;have a2:=hid hi;clear hi;obtain ⟨HN,BA,BB,BP,ac⟩:=zn5 hn HN BA.new BB.new BP.new ac.new;clear hn;refine zK hK ⟨cW4 BA,cW4 BB⟩ ?_;clear hK K;refine tk1 10 fun K hK=>?_;go_simp;refine zO (add_calls _ _ (x.num*y.den) (y.num*x.den) _ ac a2 a4 bc) fun w5 s7 a7 l7 k7 hn hi=>?_;have ad:=hid hi;clear hi;obtain ⟨HN,BA,BB,BP⟩:=zn4 hn HN BA.new BB.new BP.new;clear hn;refine zK hK ⟨cW4 BA,cW4 BB⟩ ?_;clear hK K;refine tk1 15 fun K hK=>?_;go_simp;refine zO (mul_calls _ _ (x.den:Int) (y.den:Int) _ (X2.new HN) (Y2.new HN) ae af) fun w6 s8 a8 l8 k8 hn hi=>?_;replace hi:=hid hi;obtain ⟨HN,BA,BB,BP,ad⟩:=zn5 hn HN BA.new BB.new BP.new ad.new;clear hn;refine zK hK ⟨cW4 BA,cW4 BB⟩ ?_;clear hK K;refine tk1 16 fun K hK=>?_;go_simp;refine zS (make_calls _ _ (x.num*y.den+y.num*x.den) (x.den*y.den:Int) _ ad hi BN BD be) fun w7 s9 a9 l9 k9 t9 b9 m9 n9 hn hf=>?_;rw[←HR.out] at hf;replace hf:=hid hf;obtain ⟨HN,BA,BB,BP⟩:=zn4 hn HN BA.new BB.new BP.new;clear hn;refine zK hK ⟨cW4 BA,cW4 BB⟩ ?_;clear hK K;refine tlW ?_;obtain ⟨⟨ag,ah,ai,aj⟩,ak,al,am,an,ao⟩:=BA.out.four;obtain ⟨⟨ap,aq,ar,au⟩,av,aw,ax,ay,az⟩:=BB.out.four;obtain ⟨⟨p0,p1,p2,p3⟩,p4,p5,p6,p7,p8⟩:=BP.out.four;go_wp2_with fail;refine bodyPost_ret (v:=.agg #[.int .i64 s9,.slice a9 l9 k9,.int .i64 t9,.slice b9 m9 n9]) (by simp[results,results92,go_sem,p0,p1,p2,p3]) rfl ?_;exact frac_ret HN BP (by omega) hf.parts.1 hf.parts.2
theorem fsub_calls (va vb:Value)(x y:Rat)(j k:Nat)(w:World)(hx:IsFrac w va x)(hy:IsFrac w vb y)(bx:FB j x)(by':FB k y)(hk:j+k+1≤60000000):Calls prog 93 #[va,vb] w (FracPost w (x - y)):=by
 obtain ⟨sa,aa,la,ca,ta,ba,ma,na,rfl⟩:=hx.shape;obtain ⟨sb,ab,lb,cb,tb,bb,mb,nb,rfl⟩:=hy.shape;obtain ⟨r,hr⟩:∃ r,x - y=r:=⟨_,rfl⟩;have ac:=Rat.sub_eq_add_neg x y;have bn:=by'.neg;rw[hr] at ac⊢;clear hr;refine zh7 ?_ hx hy ac bx bn by' hk;clear hx hy ac bx bn by' hk;intro HX HY HR BX BN BY HK;go_in;go_wp2_with fail;obtain ⟨BA,BB,BP,HN⟩:=lay3 w 115 #[.int .i64 sa,.slice aa la ca,.int .i64 ta,.slice ba ma na] 115 #[.int .i64 sb,.slice ab lb cb,.int .i64 tb,.slice bb mb nb] 115 #[.int .i64 0,.slice none 0 0,.int .i64 0,.slice none 0 0];have pa:=BA.out.four;have pb:=BB.out.four;clear pa;clear pb;refine zR 4 5 (fun W=>zF W w.heap.size sa aa la ca ta ba ma na∧zF W (w.heap.size+1) sb ab lb cb tb bb mb nb) ?_;refine zT 0 ⟨cW4 BA,cW4 BB⟩ ?_;refine zT 1 ⟨cW4 BA,cW4 BB⟩ ?_;refine tk1 2 fun K hK=>?_;go_simp;refine zS (fneg_calls _ y _ (HY.new HN.drew)) fun w1 s5 a5 l5 k5 t5 b5 m5 n5 hn hf=>?_;have hn:=hn.undrew;have ad:=hid hf;clear hf;obtain ⟨HN,BA,BB,BP⟩:=zn4 hn HN BA.new BB.new BP.new;clear hn;refine zK hK ⟨cW4 BA,cW4 BB⟩ ?_;clear hK K;refine tk1 3 fun K hK=>?_;go_simp;refine zS (fadd_calls _ _ x (-y) j k _ (HX.new HN) ad BX BN HK) fun w2 s9 a9 l9 k9 t9 b9 m9 n9 hn hf=>?_;rw[←HR.out] at hf;replace hf:=hid hf;obtain ⟨HN,BA,BB,BP⟩:=zn4 hn HN BA.new BB.new BP.new;clear hn;refine zK hK ⟨cW4 BA,cW4 BB⟩ ?_;clear hK K;refine tlW ?_;obtain ⟨⟨ae,af,ag,ah⟩,ai,aj,ak,al,am⟩:=BA.out.four;obtain ⟨⟨an,ao,ap,aq⟩,ar,au,av,aw,ax⟩:=BB.out.four;obtain ⟨⟨p0,p1,p2,p3⟩,p4,p5,p6,p7,p8⟩:=BP.out.four;go_wp2_with fail;refine bodyPost_ret (v:=.agg #[.int .i64 s9,.slice a9 l9 k9,.int .i64 t9,.slice b9 m9 n9]) (by simp[results,results93,go_sem,p0,p1,p2,p3]) rfl ?_;exact frac_ret HN BP (by omega) hf.parts.1 hf.parts.2
theorem fdiv_calls (va vb:Value)(x y:Rat)(j k:Nat)(w:World)(hx:IsFrac w va x)(hy:IsFrac w vb y)(bx:FB j x)(by':FB k y)(hk:j+k≤60000000)(h0:y≠0):Calls prog 95 #[va,vb] w (FracPost w (x / y)):=by
 obtain ⟨sa,aa,la,ca,ta,ba,ma,na,rfl⟩:=hx.shape;obtain ⟨sb,ab,lb,cb,tb,bb,mb,nb,rfl⟩:=hy.shape;obtain ⟨r,hr⟩:∃ r,x / y=r:=⟨_,rfl⟩;have ac:=Rat.div_def x y;have bn:=by'.inv h0
 have ad:k≤60000000:=by omega
 rw[hr]at ac⊢;clear hr;refine zh9 ?_ hx hy ac bx bn by' hk ad h0;clear hx hy ac bx bn by' hk ad h0;intro HX HY HR BX BN BY HK af H0;go_in;go_wp2_with fail;obtain ⟨BA,BB,BP,HN⟩:=lay3 w 115 #[.int .i64 sa,.slice aa la ca,.int .i64 ta,.slice ba ma na] 115 #[.int .i64 sb,.slice ab lb cb,.int .i64 tb,.slice bb mb nb] 115 #[.int .i64 0,.slice none 0 0,.int .i64 0,.slice none 0 0];have pa:=BA.out.four;have pb:=BB.out.four;clear pa;clear pb;refine zR 4 5 (fun W=>zF W w.heap.size sa aa la ca ta ba ma na∧zF W (w.heap.size+1) sb ab lb cb tb bb mb nb) ?_;refine zT 0 ⟨cW4 BA,cW4 BB⟩ ?_;refine zT 1 ⟨cW4 BA,cW4 BB⟩ ?_;refine tk1 2 fun K hK=>?_;go_simp;refine zS (inv_calls _ y k _ (HY.new HN.drew) BY af H0) fun w1 s5 a5 l5 k5 t5 b5 m5 n5 hn hf=>?_;have hn:=hn.undrew;have ae:=hid hf;clear hf;obtain ⟨HN,BA,BB,BP⟩:=zn4 hn HN BA.new BB.new BP.new;clear hn;refine zK hK ⟨cW4 BA,cW4 BB⟩ ?_;clear hK K;refine tk1 3 fun K hK=>?_;go_simp;refine zS (fmul_calls _ _ x y⁻¹ j k _ (HX.new HN) ae BX BN HK) fun w2 s9 a9 l9 k9 t9 b9 m9 n9 hn hf=>?_;rw[←HR.out] at hf;replace hf:=hid hf;obtain ⟨HN,BA,BB,BP⟩:=zn4 hn HN BA.new BB.new BP.new;clear hn;refine zK hK ⟨cW4 BA,cW4 BB⟩ ?_;clear hK K;refine tlW ?_;obtain ⟨⟨ag,ah,ai,aj⟩,ak,al,am,an,ao⟩:=BA.out.four;obtain ⟨⟨ap,aq,ar,au⟩,av,aw,ax,ay,az⟩:=BB.out.four;obtain ⟨⟨p0,p1,p2,p3⟩,p4,p5,p6,p7,p8⟩:=BP.out.four;go_wp2_with fail;refine bodyPost_ret (v:=.agg #[.int .i64 s9,.slice a9 l9 k9,.int .i64 t9,.slice b9 m9 n9]) (by simp[results,results95,go_sem,p0,p1,p2,p3]) rfl ?_;exact frac_ret HN BP (by omega) hf.parts.1 hf.parts.2
theorem floor_calls (va:Value)(q:Rat)(k:Nat)(w:World)(hx:IsFrac w va q)(hb:FB k q)(hk:k≤60000000):Calls prog 116 #[va] w (IntPost w q.floor):=by
 obtain ⟨s,a,l,c,s',a',l',c',rfl,h1,h2⟩:=hx;obtain ⟨z,hz⟩:∃ z,q.floor=z:=⟨_,rfl⟩;have aa:=Rat.floor_def q;rw[hz] at aa⊢;clear hz
 have hp:(0:Int) < q.den:=by have:=q.den_pos;omega
 refine zh6 ?_ h1 h2 aa hb hk hp;clear h1 h2 aa hb hk hp;intro H1 H2 HZ HB HK HP;go_in;go_wp2_with fail;obtain ⟨BA,BP,HN⟩:=lay2 w 115 #[.int .i64 s,.slice a l c,.int .i64 s',.slice a' l' c'] 113 #[.int .i64 0,.slice none 0 0];refine (divmod_calls _ _ q.num (q.den:Int) _ (H1.new HN) (H2.new HN) (HB.num.bd HK) (HB.den.bd HK) HP).mono ?_;rintro e w2 ⟨v,v',rfl,hn,hi,ab⟩;rw[←HZ.out] at hi;obtain ⟨s5,a5,l5,k5,rfl⟩:=hi.shape;obtain ⟨s6,a6,l6,k6,rfl⟩:=ab.shape;clear ab;replace hi:=hid hi;obtain ⟨HN,BP⟩:=zn2 hn HN BP.new;clear hn;obtain ⟨p0,p1,p2,p3,p4⟩:=BP.out.two;have p5:=Nat.lt_add_right 1 p4;go_wp2_with fail;refine bodyPost_ret (v:=.agg #[.int .i64 s5,.slice a5 l5 k5]) (by simp[results,results116,go_sem,p0,p1,p4,p5]) rfl ?_;exact ⟨_,rfl,(((HN.putAt BP (by omega) _ _).alloc _).alloc _),(hi.put2 BP _ _ _ _).new (((New.refl _).alloc _).alloc _)⟩
theorem large_calls (va:Value)(q:Rat)(w:World)(hx:IsFrac w va q)(hb:FB 1800 q):Calls prog 165 #[va] w fun e w'=>e=.returned (.bool false)∧New w w':=by
 obtain ⟨s,a,l,c,s',a',l',c',rfl,h1,h2⟩:=hx;refine zh3 ?_ h1 h2 hb;clear h1 h2 hb;intro H1 H2 HB;go_in;go_wp2_with fail;obtain ⟨BA,HN⟩:=lay1 w 115 #[.int .i64 s,.slice a l c,.int .i64 s',.slice a' l' c'];refine zM (long_calls _ q.num _ (H1.new HN) HB.num) fun w2 hn=>?_;obtain ⟨HN,BA⟩:=zn2 hn HN BA.new;clear hn;obtain ⟨⟨aa,ab,ac,ad⟩,ae,af,ag,ah,ai⟩:=BA.out.four;go_wp2_with fail;refine zM (long_calls _ (q.den:Int) _ (H2.new HN) HB.den) fun w3 hn=>?_;replace HN:=tW HN hn;clear hn;go_wp2_with fail;go_ret;exact ⟨rfl,HN⟩
end Go.Proofs.YtnjonlnemagomaaGreatDoor
namespace Go.Proofs.YtnjonlnemagomaaGreatDoor.Big
set_option maxRecDepth 100000
set_option maxHeartbeats 8000000
set_option linter.all false
open Go.Lib
def isDig (c:UInt8):Bool:=decide (48≤c.toNat) && decide (c.toNat≤57)
def dval (acc:Nat)(l:List UInt8):Nat:=l.foldl (fun a c=>10*a+(c.toNat - 48)) acc
theorem dval_nil (acc:Nat):dval acc []=acc:=by unfold dval;rw[List.foldl_nil]
theorem dval_cons (acc:Nat)(c:UInt8)(l:List UInt8):dval acc (c::l)=dval (10*acc+(c.toNat - 48)) l:=by unfold dval;rw[List.foldl_cons]
theorem dval_append (acc:Nat)(l m:List UInt8):dval acc (l ++ m)=dval (dval acc l) m:=by
 induction l generalizing acc with
 | nil=>rw[List.nil_append,dval_nil]
 | cons c l ih=>rw[List.cons_append,dval_cons,dval_cons,ih]
theorem dval_acc (acc:Nat)(l:List UInt8):dval acc l=acc*10^l.length+dval 0 l:=by
 induction l generalizing acc with
 | nil=>simp[dval_nil]
 | cons c l ih=>
  rw[dval_cons,dval_cons,List.length_cons];generalize c.toNat - 48=d;rw[ih (10*acc+d),ih (10*0+d),Nat.pow_succ];generalize 10^l.length=p;generalize dval 0 l=e;rw[Nat.add_mul,Nat.mul_zero,Nat.zero_add,Nat.mul_comm p 10,Nat.mul_assoc,Nat.mul_left_comm acc 10 p];omega
theorem ofNat_dig {d:Nat}(h:d < 10):(UInt8.ofNat (48+d)).toNat=48+d:=by
 rw[UInt8.toNat_ofNat'];omega
theorem isDig_ofNat {d:Nat}(h:d < 10):isDig (UInt8.ofNat (48+d))=true:=by
 unfold isDig;rw[ofNat_dig h];simp;omega
theorem isDig_iff {c:UInt8}:isDig c=true ↔ 48≤c.toNat∧c.toNat≤57:=by simp[isDig]
theorem eq_ofNat_of_isDig {c:UInt8}(h:isDig c=true):c=UInt8.ofNat (48+(c.toNat - 48)):=by
 rw[isDig_iff]at h;apply UInt8.toNat_inj.1;rw[ofNat_dig (by omega)];omega
theorem decDigits_small {u:Nat}(h:u < 10):decDigits u=[UInt8.ofNat (48+u)]:=by rw[decDigits,dif_pos h]
theorem decDigits_big {u:Nat}(h:¬u < 10):decDigits u=decDigits (u / 10) ++ [UInt8.ofNat (48+u % 10)]:=by rw[decDigits,dif_neg h]
theorem decDigits_ne_nil (u:Nat):decDigits u≠[]:=by
 intro h;have h1:=decDigits_length u;have h2:=nDigits_pos u;rw[h] at h1;simp only[List.length_nil] at h1;omega
theorem dval_decDigits (u:Nat):dval 0 (decDigits u)=u:=by
 induction u using Nat.strongRecOn with
 | _ u ih=>
  by_cases h:u < 10
  ·rw[decDigits_small h,dval_cons,dval_nil,ofNat_dig h];omega
  ·rw[decDigits_big h,dval_append,ih _ (by omega),dval_cons,dval_nil,ofNat_dig (show u % 10 < 10 by omega)];omega
theorem decDigits_inj {u v:Nat}(h:decDigits u=decDigits v):u=v:=by
 have:=congrArg (dval 0) h
 rwa [dval_decDigits,dval_decDigits] at this
theorem decDigits_dig (u:Nat):∀ c∈decDigits u,isDig c=true:=by
 induction u using Nat.strongRecOn with
 | _ u ih=>
  by_cases h:u < 10
  ·rw[decDigits_small h];intro c hc;rw[List.mem_singleton] at hc;rw[hc];exact isDig_ofNat h
  ·rw[decDigits_big h];intro c hc;rcases List.mem_append.1 hc with hc | hc
   ·exact ih _ (by omega) c hc
   ·rw[List.mem_singleton] at hc;rw[hc];exact isDig_ofNat (by omega)
theorem decDigits_head {u:Nat}(h:u≠0):(decDigits u).head?≠some 48:=by
 induction u using Nat.strongRecOn with
 | _ u ih=>
  by_cases h10:u < 10
  ·rw[decDigits_small h10];intro e;simp only[List.head?_cons,Option.some.injEq] at e;have:=congrArg UInt8.toNat e;rw[ofNat_dig h10] at this;simp at this;omega
  ·rw[decDigits_big h10];have hn:=decDigits_ne_nil (u / 10);have:=ih (u / 10) (by omega) (by omega);rw[List.head?_append]
   cases hd:(decDigits (u / 10)).head? with
   | none=>exact absurd (List.head?_eq_none_iff.1 hd) hn
   | some c=>rw[hd] at this;simpa using this
theorem decDigits_zero:decDigits 0=[48]:=by rw[decDigits_small (by omega)];rfl
theorem decDigits_one':decDigits 1=[49]:=by rw[decDigits_small (by omega)];rfl
theorem nDigits_le_iff {u k:Nat}(hk:0 < k):nDigits u≤k ↔ u < 10^k:=by
 constructor
 ·intro h;have h1:=lt_pow_nDigits u;have h2:10^nDigits u≤10^k:=Nat.pow_le_pow_right (by omega) h;omega
 ·intro h;by_cases h0:u=0
  ·subst h0;rw[nDigits_small (by omega)];omega
  ·rcases Nat.lt_or_ge k (nDigits u) with h1 | h1
   ·exfalso
    have:∀ u,u≠0→10^(nDigits u - 1)≤u:=by
     intro u
     induction u using Nat.strongRecOn with
     | _ u ih=>
      intro hu;by_cases h10:u < 10
      ·rw[nDigits_small h10];simp;omega
      ·rw[nDigits_big h10];have:=ih (u / 10) (by omega) (by omega);have hp:=nDigits_pos (u / 10);obtain ⟨m,hm⟩:∃ m,nDigits (u / 10)=m+1:=⟨_,(Nat.succ_pred_eq_of_pos hp).symm⟩;rw[hm] at this⊢;simp only[Nat.add_sub_cancel] at this⊢;rw[Nat.pow_succ];omega
    have h2:=this u h0;have h3:10^k≤10^(nDigits u - 1):=Nat.pow_le_pow_right (by omega) (by omega);omega
   ·exact h1
def padDigits:Nat→Nat→List UInt8
 | 0,_=>[]
 | k+1,n=>padDigits k (n / 10) ++ [UInt8.ofNat (48+n % 10)]
theorem padDigits_length (k n:Nat):(padDigits k n).length=k:=by
 induction k generalizing n with
 | zero=>rfl
 | succ k ih=>simp[padDigits,ih]
theorem decDigits_pad {u:Nat}(h:u≠0)(k n:Nat)(hn:n < 10^k):decDigits (u*10^k+n)=decDigits u ++ padDigits k n:=by
 induction k generalizing n with
 | zero=>simp at hn;subst hn;simp[padDigits]
 | succ k ih=>
  have aa:10^(k+1)=10*10^k:=by rw[Nat.pow_succ];omega
  have ab:1*10^k≤u*10^k:=Nat.mul_le_mul_right _ (by omega);have ac:0 < 10^k:=Nat.pow_pos (by omega)
  have e1:u*10^(k+1)=10*(u*10^k):=by rw[aa,Nat.mul_left_comm]
  have e2:(10*(u*10^k)+n) / 10=u*10^k+n / 10:=by omega
  have e3:(10*(u*10^k)+n) % 10=n % 10:=by omega
  rw[e1,decDigits_big (by omega),padDigits,←List.append_assoc,←ih (n / 10) (by omega),e2,e3]
theorem padDigits_of_nDigits {k n:Nat}(hk:nDigits n≤k):padDigits k n=List.replicate (k - nDigits n) 48 ++ decDigits n:=by
 induction k generalizing n with
 | zero=>have:=nDigits_pos n;omega
 | succ k ih=>
  by_cases h:n < 10
  ·rw[nDigits_small h,decDigits_small h,padDigits]
   have:n / 10=0:=by omega
   rw[this,show n % 10=n by omega];congr 1;clear this hk h ih
   induction k with
   | zero=>rfl
   | succ k ih=>rw[padDigits,show 0 / 10=0 by rfl,ih];simp[List.replicate_succ']
  ·rw[nDigits_big h] at hk⊢;rw[padDigits,ih (by omega),decDigits_big h,show k+1 - (nDigits (n / 10)+1)=k - nDigits (n / 10) by omega,List.append_assoc]
theorem padDigits_full {k n:Nat}(hk:nDigits n=k):padDigits k n=decDigits n:=by
 rw[padDigits_of_nDigits (by omega),hk];simp
def isDec (l:List UInt8):Bool:=!l.isEmpty && l.all isDig && (l.head? != some 48 || l==[48])
theorem dval_lt {l:List UInt8}(h:∀ c∈l,isDig c=true):dval 0 l < 10^l.length:=by
 have:∀ (l:List UInt8) (aa:Nat),(∀ c∈l,isDig c=true)→dval aa l < (aa+1)*10^l.length:=by
  intro l
  induction l with
  | nil=>intro aa _;simp[dval_nil]
  | cons c l ih=>
   intro aa h;have hc:=isDig_iff.1 (h c (by simp));have h1:=ih (10*aa+(c.toNat - 48)) (fun d hd=>h d (by simp[hd]));have h2:(10*aa+(c.toNat - 48)+1)*10^l.length≤(10*(aa+1))*10^l.length:=Nat.mul_le_mul_right _ (by omega);rw[dval_cons,List.length_cons,Nat.pow_succ];generalize dval (10*aa+(c.toNat - 48)) l=x at *;generalize 10^l.length=p at *
   have h3:10*(aa+1)*p=(aa+1)*(p*10):=by grind
   omega
 simpa using this l 0 h
theorem decDigits_dval {l:List UInt8}(h:∀ c∈l,isDig c=true)(hne:l≠[])(hh:l.head?≠some 48∨l=[48]):decDigits (dval 0 l)=l:=by
 obtain ⟨m,hm⟩:∃ m:List UInt8,m=l.reverse:=⟨_,rfl⟩
 have hl:l=m.reverse:=by rw[hm,List.reverse_reverse]
 clear hm;subst hl
 induction m with
 | nil=>simp at hne
 | cons c m ih=>
  rw[List.reverse_cons]at *;have hc:isDig c=true:=h c (by simp);have ae:=isDig_iff.1 hc;rw[dval_append,dval_cons,dval_nil];by_cases hm:m=[]
  ·subst hm;simp only[List.reverse_nil,dval_nil,Nat.mul_zero,Nat.zero_add,List.nil_append];rw[decDigits_small (by omega),←eq_ofNat_of_isDig hc]
  ·have ac:m.reverse≠[]:=by simpa using hm
   have aa:m.reverse.head?≠some 48:=by
    rcases hh with hh | hh
    ·rw[List.head?_append] at hh
     cases hd:m.reverse.head? with
     | none=>exact absurd (List.head?_eq_none_iff.1 hd) ac
     | some d=>rw[hd] at hh;simpa using hh
    ·exfalso;have:=congrArg List.length hh;simp at this;exact hm this
   have ab:=ih (fun d hd=>h d (by simp at hd⊢;exact Or.inl hd)) ac (.inl aa)
   have ad:dval 0 m.reverse≠0:=by
    intro e;rw[e,decDigits_zero] at ab;rw[←ab] at aa;simp at aa
   rw[decDigits_big (by omega)];congr 1
   ·rw[show (10*dval 0 m.reverse+(c.toNat - 48)) / 10=dval 0 m.reverse by omega,ab]
   ·rw[show (10*dval 0 m.reverse+(c.toNat - 48)) % 10=c.toNat - 48 by omega,←eq_ofNat_of_isDig hc]
theorem isDec_iff {l:List UInt8}:isDec l=true ↔ ∃ n,l=decDigits n:=by
 constructor
 ·intro h;simp only[isDec,Bool.and_eq_true,Bool.not_eq_true',List.isEmpty_eq_false_iff,List.all_eq_true,Bool.or_eq_true,bne_iff_ne,beq_iff_eq] at h;exact ⟨dval 0 l,(decDigits_dval h.1.2 h.1.1 h.2).symm⟩
 ·rintro ⟨n,rfl⟩;simp only[isDec,Bool.and_eq_true,Bool.not_eq_true',List.isEmpty_eq_false_iff,List.all_eq_true,Bool.or_eq_true,bne_iff_ne,beq_iff_eq];refine ⟨⟨decDigits_ne_nil n,decDigits_dig n⟩,?_⟩;by_cases h0:n=0
  ·subst h0;exact .inr decDigits_zero
  ·exact .inl (decDigits_head h0)
theorem decDigits_no (n:Nat){c:UInt8}(hc:isDig c=false):c ∉ decDigits n:=by
 intro h;rw[decDigits_dig n c h] at hc
 cases hc
theorem decDigits_eq_zero {n:Nat}:decDigits n=[48] ↔ n=0:=by
 constructor
 ·intro h;exact decDigits_inj (h.trans decDigits_zero.symm)
 ·rintro rfl;exact decDigits_zero
theorem decDigits_eq_one {n:Nat}:decDigits n=[49] ↔ n=1:=by
 constructor
 ·intro h;exact decDigits_inj (h.trans decDigits_one'.symm)
 ·rintro rfl;exact decDigits_one'
def ratText (q:Rat):List UInt8:=if q.den=1 then itoa q.num else itoa q.num ++ 47::decDigits q.den
def unsigned (l:List UInt8):List UInt8:=if l.head?=some 45 then l.tail else l
def upTo (l:List UInt8):List UInt8:=l.takeWhile (· != 47)
def behind (l:List UInt8):List UInt8:=(l.dropWhile (· != 47)).tail
def slashed (l:List UInt8):Bool:=l.any (·==47)
def ratForm (l:List UInt8):Bool:=
 isDec (upTo (unsigned l)) && !(l.head?==some 45 && upTo (unsigned l)==[48]) &&
  (!slashed (unsigned l) || (isDec (behind (unsigned l)) && behind (unsigned l) != [48] && behind (unsigned l) != [49]))
def ratLarge (l:List UInt8):Bool:=decide (600 < (upTo (unsigned l)).length) || decide (600 < (behind (unsigned l)).length)
def ratCommon (l:List UInt8):Bool:=slashed (unsigned l) && Nat.gcd (dval 0 (upTo (unsigned l))) (dval 0 (behind (unsigned l))) != 1
def ratErr (l:List UInt8):Int:=if ratForm l=false then 1 else if ratLarge l then 4 else if ratCommon l then 1 else 0
theorem takeWhile_all {p:UInt8→Bool}{l:List UInt8}(h:∀ c∈l,p c=true):l.takeWhile p=l:=by
 have:=List.takeWhile_append_of_pos (p:=p) (l₁:=l) (l₂:=[]) h;simpa using this
theorem dropWhile_all {p:UInt8→Bool}{l:List UInt8}(h:∀ c∈l,p c=true):l.dropWhile p=[]:=by
 have:=List.dropWhile_append_of_pos (p:=p) (l₁:=l) (l₂:=[]) h;simpa using this
theorem all_of_dropWhile {p:UInt8→Bool}:∀ {l:List UInt8},l.dropWhile p=[]→∀ c∈l,p c=true
 | [],_,c,hc=>by simp at hc
 | d::l,h,c,hc=>by
  rw[List.dropWhile_cons]at h;split at h
  ·rename_i hd;rcases List.mem_cons.1 hc with rfl | hc
   ·exact hd
   ·exact all_of_dropWhile h c hc
  ·cases h
theorem dig47:isDig 47=false:=by decide
theorem takeWhile_dec (n:Nat)(r:List UInt8):(decDigits n ++ 47::r).takeWhile (· != 47)=decDigits n:=by
 rw[List.takeWhile_append_of_pos]
 ·simp
 ·intro c hc;simp only[bne_iff_ne,ne_eq];rintro rfl;exact decDigits_no n dig47 hc
theorem takeWhile_dec' (n:Nat):(decDigits n).takeWhile (· != 47)=decDigits n:=by
 refine takeWhile_all fun c hc=>?_;simp only[bne_iff_ne,ne_eq];rintro rfl;exact decDigits_no n dig47 hc
theorem dropWhile_dec (n:Nat)(r:List UInt8):(decDigits n ++ 47::r).dropWhile (· != 47)=47::r:=by
 rw[List.dropWhile_append_of_pos]
 ·simp
 ·intro c hc;simp only[bne_iff_ne,ne_eq];rintro rfl;exact decDigits_no n dig47 hc
theorem dropWhile_dec' (n:Nat):(decDigits n).dropWhile (· != 47)=[]:=by
 refine dropWhile_all fun c hc=>?_;simp only[bne_iff_ne,ne_eq];rintro rfl;exact decDigits_no n dig47 hc
theorem upTo_slash (n:Nat)(r:List UInt8):upTo (decDigits n ++ 47::r)=decDigits n:=takeWhile_dec n r
theorem behind_slash (n:Nat)(r:List UInt8):behind (decDigits n ++ 47::r)=r:=by unfold behind;rw[dropWhile_dec];rfl
theorem upTo_plain (n:Nat):upTo (decDigits n)=decDigits n:=takeWhile_dec' n
theorem behind_plain (n:Nat):behind (decDigits n)=[]:=by unfold behind;rw[dropWhile_dec'];rfl
theorem slashed_slash (n:Nat)(r:List UInt8):slashed (decDigits n ++ 47::r)=true:=by simp[slashed]
theorem slashed_plain (n:Nat):slashed (decDigits n)=false:=by
 simp only[slashed,List.any_eq_false,beq_iff_eq];rintro c hc rfl;exact decDigits_no n dig47 hc
theorem split_slash {l:List UInt8}(h:slashed l=true):l=upTo l ++ 47::behind l:=by
 have e:=(List.takeWhile_append_dropWhile (p:=(· != 47)) (l:=l)).symm;unfold upTo behind
 cases hd:l.dropWhile (· != 47) with
 | nil=>
  exfalso;have hd:=all_of_dropWhile hd;simp only[slashed,List.any_eq_true,beq_iff_eq] at h;obtain ⟨c,hc,rfl⟩:=h;have:=hd 47 hc;simp at this
 | cons c r=>
  have hc:(c != 47)=false:=by
   have:=List.head?_dropWhile_not (· != 47) l;rw[hd] at this;simpa using this
  have:c=47:=by simpa using hc
  subst this;rw[hd] at e;exact e
theorem split_plain {l:List UInt8}(h:slashed l=false):upTo l=l∧behind l=[]:=by
 have h':∀ c∈l,(c != 47)=true:=by
  simp only[slashed,List.any_eq_false,beq_iff_eq]at h;intro c hc;simpa using h c hc
 refine ⟨takeWhile_all h',?_⟩;unfold behind;rw[dropWhile_all h'];rfl
theorem unsigned_dec (n:Nat)(r:List UInt8):unsigned (decDigits n ++ r)=decDigits n ++ r:=by
 unfold unsigned;rw[if_neg];intro h
 cases hd:decDigits n with
 | nil=>exact decDigits_ne_nil n hd
 | cons c t=>
  rw[hd]at h;simp only[List.cons_append,List.head?_cons,Option.some.injEq] at h;have:=decDigits_dig n c (by rw[hd];simp);rw[h] at this;exact absurd this (by decide)
theorem unsigned_itoa (i:Int)(r:List UInt8):unsigned (itoa i ++ r)=decDigits i.natAbs ++ r:=by
 unfold itoa;split
 ·simp[unsigned]
 ·rw[unsigned_dec,show i.toNat=i.natAbs by omega]
theorem head_dec (n:Nat)(r:List UInt8):((decDigits n ++ r).head?==some 45)=false:=by
 cases hd:decDigits n with
 | nil=>exact absurd hd (decDigits_ne_nil n)
 | cons c t=>
  have:=decDigits_dig n c (by rw[hd];simp);simp only[List.cons_append,List.head?_cons,beq_eq_false_iff_ne,ne_eq,Option.some.injEq];rintro rfl;exact absurd this (by decide)
theorem head_itoa (i:Int)(r:List UInt8):((itoa i ++ r).head?==some 45)=decide (i < 0):=by
 unfold itoa;split
 ·rename_i h;simp[h]
 ·rename_i h;rw[head_dec];simp[h]
theorem unsigned_ratText (q:Rat):unsigned (ratText q)=if q.den=1 then decDigits q.num.natAbs else decDigits q.num.natAbs ++ 47::decDigits q.den:=by
 unfold ratText;split
 ·have:=unsigned_itoa q.num [];simpa using this
 ·exact unsigned_itoa _ _
theorem head_ratText (q:Rat):((ratText q).head?==some 45)=decide (q.num < 0):=by
 unfold ratText;split
 ·have:=head_itoa q.num [];simpa using this
 ·exact head_itoa _ _
theorem natAbs_zero_of_sign {i:Int}(h:i < 0):decDigits i.natAbs≠[48]:=by
 rw[ne_eq,decDigits_eq_zero];omega
def Fits (q:Rat):Prop:=nDigits q.num.natAbs≤600∧nDigits q.den≤600
theorem Fits.iff {q:Rat}:Fits q ↔ q.num.natAbs < 10^600∧q.den < 10^600:=by
 unfold Fits;rw[nDigits_le_iff (by omega),nDigits_le_iff (by omega)]
theorem ratForm_ratText (q:Rat):ratForm (ratText q)=true:=by
 unfold ratForm;rw[head_ratText,unsigned_ratText];by_cases h1:q.den=1
 ·rw[if_pos h1,upTo_plain,slashed_plain];have:isDec (decDigits q.num.natAbs)=true:=isDec_iff.2 ⟨_,rfl⟩;simp only[this,Bool.true_and,Bool.not_false,Bool.true_or,Bool.and_true,Bool.not_eq_true',Bool.and_eq_false_iff,decide_eq_false_iff_not];by_cases h:q.num < 0
  ·right;simpa using natAbs_zero_of_sign h
  ·left;exact h
 ·rw[if_neg h1,upTo_slash,behind_slash,slashed_slash];have e1:isDec (decDigits q.num.natAbs)=true:=isDec_iff.2 ⟨_,rfl⟩;have e2:isDec (decDigits q.den)=true:=isDec_iff.2 ⟨_,rfl⟩
  have e3:(decDigits q.den != [48])=true:=by simp only[bne_iff_ne,ne_eq,decDigits_eq_zero];exact q.den_nz
  have e4:(decDigits q.den != [49])=true:=by simp only[bne_iff_ne,ne_eq,decDigits_eq_one];exact h1
  simp only[e1,e2,e3,e4,Bool.true_and,Bool.not_true,Bool.false_or,Bool.and_true,Bool.not_eq_true',Bool.and_eq_false_iff,decide_eq_false_iff_not];by_cases h:q.num < 0
  ·right;simpa using natAbs_zero_of_sign h
  ·left;exact h
theorem ratCommon_ratText (q:Rat):ratCommon (ratText q)=false:=by
 unfold ratCommon;rw[unsigned_ratText];by_cases h1:q.den=1
 ·rw[if_pos h1,slashed_plain];rfl
 ·rw[if_neg h1,slashed_slash,upTo_slash,behind_slash,dval_decDigits,dval_decDigits];have:=q.reduced;unfold Nat.Coprime at this;simp[this]
theorem ratLarge_ratText (q:Rat):ratLarge (ratText q)=true ↔ ¬Fits q:=by
 unfold ratLarge Fits;rw[unsigned_ratText];by_cases h1:q.den=1
 ·rw[if_pos h1,upTo_plain,behind_plain,decDigits_length,h1,nDigits_small (show 1 < 10 by omega)];simp
 ·rw[if_neg h1,upTo_slash,behind_slash,decDigits_length,decDigits_length];simp only[Bool.or_eq_true,decide_eq_true_eq];omega
theorem ratErr_ratText {q:Rat}(h:Fits q):ratErr (ratText q)=0:=by
 unfold ratErr;rw[if_neg (by rw[ratForm_ratText];simp),if_neg (by rw[ratLarge_ratText];simpa using h),if_neg (by rw[ratCommon_ratText];simp)]
theorem itoa_nonneg {n:Nat}:itoa (n:Int)=decDigits n:=by
 unfold itoa;rw[if_neg (by omega)];simp
theorem itoa_neg {n:Nat}(h:n≠0):itoa (-(n:Int))=45::decDigits n:=by
 unfold itoa;rw[if_pos (by omega)];simp
theorem signed_dec {l:List UInt8}{n:Nat}{r:List UInt8}(hu:unsigned l=decDigits n ++ r)(hz:(l.head?==some 45 && n==0)=false):
  ∃ i:Int,l=itoa i ++ r∧i.natAbs=n:=by
 by_cases h:l.head?=some 45
 ·have hn:n≠0:=by rw[h] at hz;simpa using hz
  refine ⟨-(n:Int),?_,by omega⟩;rw[itoa_neg hn];unfold unsigned at hu;rw[if_pos h] at hu
  cases l with
  | nil=>simp at h
  | cons c t=>simp only[List.head?_cons,Option.some.injEq] at h;subst h;simp only[List.tail_cons] at hu;rw[hu];rfl
 ·refine ⟨(n:Int),?_,by omega⟩;rw[itoa_nonneg];unfold unsigned at hu
  rwa [if_neg h] at hu
theorem ratText_of_err {l:List UInt8}(h:ratErr l=0):∃ q:Rat,Fits q∧l=ratText q:=by
 unfold ratErr at h;split at h
 ·omega
 rename_i hf;split at h
 ·omega
 rename_i hl;split at h
 ·omega
 rename_i hc
 have ah:ratForm l=true:=by simpa using hf
 have ac:=ah;unfold ratForm at ac;simp only[Bool.and_eq_true,Bool.not_eq_true',Bool.or_eq_true,bne_iff_ne,ne_eq] at ac;obtain ⟨⟨hd,hz⟩,hs⟩:=ac;obtain ⟨n,hn⟩:=isDec_iff.1 hd
 have ae:(l.head?==some 45 && n==0)=false:=by
  rw[hn]at hz;by_cases hn0:n=0
  ·subst hn0;rw[decDigits_zero] at hz;simpa using hz
  ·simp[hn0]
 have af:∃ q:Rat,l=ratText q:=by
  cases hsl:slashed (unsigned l) with
  | false=>
   have e:=(split_plain hsl).1;obtain ⟨i,hi,ad⟩:=signed_dec (l:=l) (n:=n) (r:=[]) (by rw[←hn,e];simp) ae;refine ⟨(i:Rat),?_⟩;unfold ratText;rw[if_pos (by rfl)];simpa using hi
  | true=>
   have e:=split_slash hsl;rw[hsl] at hs;simp only[reduceCtorEq,false_or] at hs;obtain ⟨⟨ag,h0⟩,h1⟩:=hs;obtain ⟨d,aa⟩:=isDec_iff.1 ag;rw[aa,decDigits_eq_zero] at h0;rw[aa,decDigits_eq_one] at h1;rw[hn,aa] at e;obtain ⟨i,hi,ad⟩:=signed_dec e ae
   have hg:Nat.gcd n d=1:=by
    have ab:ratCommon l=false:=by simpa using hc
    unfold ratCommon at ab;rw[hsl,hn,aa,dval_decDigits,dval_decDigits] at ab;simpa using ab
   refine ⟨⟨i,d,h0,by rw[ad];exact hg⟩,?_⟩;unfold ratText;rw[if_neg h1];exact hi
 obtain ⟨q,rfl⟩:=af;refine ⟨q,?_,rfl⟩;have:=ratLarge_ratText q;by_cases hq:Fits q
 ·exact hq
 ·exact absurd (this.2 hq) hl
end Go.Proofs.YtnjonlnemagomaaGreatDoor.Big
namespace Go.Proofs.YtnjonlnemagomaaGreatDoor
open Go.RowKit Big Tryz
open Go.Lib (hid)
set_option maxRecDepth 100000
set_option maxHeartbeats 8000000
set_option linter.all false
structure Env (w:World):Prop where
 maxLen:∃ m:Int,w.cell? ⟨1,0,none⟩=some (.int .i64 m)
 tab : Lib.TabIs prog w "internal/strconv.uint64pow10" .u64 Lib.pow10Tab
theorem Env.new {w w':World}(h:Env w)(hn:New w w'):Env w':=by
 obtain ⟨⟨m,hm⟩,ht⟩:=h;refine ⟨⟨m,hn.cell hm⟩,?_⟩;unfold Lib.TabIs World.var? at *
 cases hg : prog.globalNamed "internal/strconv.uint64pow10" with
 | none=>rw[hg] at ht;cases ht
 | some g=>
  rw[hg]at ht;simp only[Option.bind_some] at ht⊢
  have aa:g < w.heap.size:=by
   rcases Nat.lt_or_ge g w.heap.size with h | h
   ·exact h
   ·rw[Array.getElem?_eq_none h] at ht;cases ht
  rw[Below.block hn g aa];exact ht
theorem new_grow (w:World)(k:Nat)(os:Array Obj):New w (Sort.grow (w.drewN k) os):=by
 refine ⟨rfl,rfl,rfl,?_,fun j hj=>?_⟩
 ·show w.heap.size≤(w.heap ++ os).size;rw[Array.size_append];omega
 ·show (w.heap ++ os)[j]?=w.heap[j]?;rw[Array.getElem?_append_left hj]
theorem itoa_calls (z:Int)(w:World)(he:Env w)(lo: -9223372036854775808≤z)(hi:z≤9223372036854775807):Calls prog 228 #[.int .i64 z] w fun e w'=>e=.returned (.string ⟨(Lib.itoa z).toArray⟩)∧New w w':=
 (Tryz.strconv_Itoa z lo hi w he.tab).mono fun e w' ⟨h1,k,os,h2⟩=>⟨h1,by rw[h2];exact new_grow w k os⟩
def Sm (z:Int):Prop:= -9223372036854775807≤z∧z≤9223372036854775807
theorem IsInt.sm {w:World}{s:Int}{a:Option Addr}{l c:Nat}{z:Int}(h:IsInt w (.agg #[.int .i64 s,.slice a l c]) z)(hs:Sm z):s=z∧a=none∧l=0∧c=0:=by
 obtain ⟨ac,ab⟩:=hs;rcases h with ⟨h,lo,hi⟩ | ⟨b,ad,n,aa,f,s,h,hs,hw,h0,hv,hz⟩
 ·injection h with h;simp at h;obtain ⟨rfl,rfl,rfl,rfl⟩:=h;exact ⟨rfl,rfl,rfl,rfl⟩
 ·exfalso;rcases hs with rfl | rfl <;> omega
theorem ret_string {a b:ByteArray}(h:a=b):Ending.returned (.string a)=.returned (.string b):=by rw[h]
theorem join3 (A B:List UInt8)(c:UInt8):(⟨A.toArray⟩ ++ ⟨#[c]⟩ ++ ⟨B.toArray⟩:ByteArray)=⟨(A ++ c::B).toArray⟩:=by
 apply ByteArray.ext;simp[ByteArray.data_append]
def crossed (x y:Rat):Int:=x.num*(y.den:Int) - y.num*(x.den:Int)
theorem crossed_neg {x y:Rat}:(crossed x y).sign < 0 ↔ x < y:=by
 rw[Int.sign_neg_iff,Rat.lt_iff];unfold crossed;omega
theorem crossed_pos {x y:Rat}:0 < (crossed x y).sign ↔ y < x:=by
 rw[Int.sign_pos_iff,Rat.lt_iff];unfold crossed;omega
theorem fcmp_calls (va vb:Value)(x y:Rat)(j k:Nat)(w:World)(hx:IsFrac w va x)(hy:IsFrac w vb y)(bx:FB j x)(by':FB k y)(hk:j+k≤60000000):Calls prog 90 #[va,vb] w (SignPost w (crossed x y)):=by
 obtain ⟨sa,aa,la,ca,ta,ba,ma,na,rfl,aj,ak⟩:=hx;obtain ⟨sb,ab,lb,cb,tb,bb,mb,nb,rfl,al,am⟩:=hy;obtain ⟨r,hr⟩:∃ r,crossed x y=r:=⟨_,rfl⟩;have ai:x.num*(y.den:Int) - y.num*(x.den:Int)=r:=hr;rw[hr];clear hr;have b1:=(bx.num.mul by'.den).bd hk;have b2:=(by'.num.mul bx.den).bd (show k+j≤60000000 by omega);have ae:=bx.num.bd (show j≤60000000 by omega);have af:=bx.den.bd (show j≤60000000 by omega);have ag:=by'.num.bd (show k≤60000000 by omega);have ah:=by'.den.bd (show k≤60000000 by omega);clear bx by';refine zh11 ?_ aj ak al am ai ae af ag ah b1 b2;clear aj ak al am ai ae af ag ah b1 b2;intro X1 X2 Y1 Y2 HR an ao ap aq B1 B2;go_in;go_wp2_with fail;obtain ⟨BA,BB,HN⟩:=lay2 w 115 #[.int .i64 sa,.slice aa la ca,.int .i64 ta,.slice ba ma na] 115 #[.int .i64 sb,.slice ab lb cb,.int .i64 tb,.slice bb mb nb];have pa:=BA.out.four;have pb:=BB.out.four;clear pa;clear pb;refine zR 11 12 (fun W=>zF W w.heap.size sa aa la ca ta ba ma na∧zF W (w.heap.size+1) sb ab lb cb tb bb mb nb) ?_;refine zT 0 ⟨cW4 BA,cW4 BB⟩ ?_;refine zT 1 ⟨cW4 BA,cW4 BB⟩ ?_;refine zT 2 ⟨cW4 BA,cW4 BB⟩ ?_;refine zT 3 ⟨cW4 BA,cW4 BB⟩ ?_;refine zT 5 ⟨cW4 BA,cW4 BB⟩ ?_;refine zT 6 ⟨cW4 BA,cW4 BB⟩ ?_;refine zT 7 ⟨cW4 BA,cW4 BB⟩ ?_;refine zT 8 ⟨cW4 BA,cW4 BB⟩ ?_;refine tk1 4 fun K hK=>?_;go_simp;refine zN (mul_calls _ _ x.num (y.den:Int) _ (X1.new HN.drew) (Y2.new HN.drew) an aq) fun w1 v1 hn hi=>?_;have hn:=hn.undrew;have ac:=hid hi;clear hi;obtain ⟨HN,BA,BB⟩:=zn3 hn HN BA.new BB.new;clear hn;refine zK hK ⟨cW4 BA,cW4 BB⟩ ?_;clear hK K;refine tk1 9 fun K hK=>?_;go_simp;refine zN (mul_calls _ _ y.num (x.den:Int) _ (Y1.new HN) (X2.new HN) ap ao) fun w2 v2 hn hi=>?_;have ad:=hid (ac.out.new hn);clear ac;replace hi:=hid hi;obtain ⟨HN,BA,BB⟩:=zn3 hn HN BA.new BB.new;clear hn;refine zK hK ⟨cW4 BA,cW4 BB⟩ ?_;clear hK K;refine tk1 10 fun K hK=>?_;go_simp;refine zM (cmp_calls _ _ _ _ _ ad hi B1 B2) fun w3 hn=>?_;rw[HR.out];obtain ⟨HN,BA,BB⟩:=zn3 hn HN BA.new BB.new;clear hn;refine zK hK ⟨cW4 BA,cW4 BB⟩ ?_;clear hK K;refine tlW ?_;obtain ⟨⟨ar,au,av,aw⟩,ax,ay,az,a0,a1⟩:=BA.out.four;obtain ⟨⟨a2,a3,a4,a5⟩,a6,a7,a8,a9,bc⟩:=BB.out.four;go_wp2_with fail;go_ret;exact ⟨rfl,HN⟩
theorem small_calls (va:Value)(z:Int)(w:World)(hx:IsInt w va z)(hs:Sm z):Calls prog 193 #[va] w fun e w'=>e=.returned (.tuple #[.int .i64 z,.bool true])∧New w w':=by
 have q1:=eql_nil;obtain ⟨s,a,l,c,rfl⟩:=hx.shape;obtain ⟨rfl,rfl,rfl,rfl⟩:=hx.sm hs;replace hx:=hid hx;replace hs:=hid hs;go_in;go_wp2_with fail;obtain ⟨BA,HN⟩:=lay1 w 113 #[.int .i64 s,.slice none 0 0];obtain ⟨aa,ab,ac,ad,ae⟩:=BA.out.two
 go_region
 all_goals
  go_wp2_with fail;go_ret2;exact ⟨rfl,HN.drewN _⟩
theorem new_bytesWorld (w:World)(e:TypeId)(s:ByteArray):New w (Lib.bytesWorld w e s):=by
 have h1:New w (w.drew.alloc (.cells (Lib.bytesCells w e s) e)):=(New.refl w).drew.alloc _;unfold Lib.bytesWorld World.freeze;split
 ·exact h1
 ·refine ⟨h1.os,h1.tape,h1.output,?_,fun j hj=>?_⟩
  ·show w.heap.size≤((w.drew.alloc _).heap.modify _ _).size;rw[Array.size_modify];exact h1.size
  ·show ((w.drew.alloc _).heap.modify _ _)[j]?=w.heap[j]?;rw[Array.getElem?_modify,if_neg (by show ¬w.heap.size=j;omega)];exact Below.block h1 j hj
theorem decFrom_dval:∀ (l:List UInt8) (acc:Nat),(∀ c∈l,isDig c=true)→Lib.decFrom acc l=some (dval acc l)
 | [],acc,_=>by rw[dval_nil];rfl
 | c::l,acc,h=>by
  have hc:=isDig_iff.1 (h c (by simp));rw[dval_cons,Lib.decFrom,Lib.digitVal,if_pos hc];rw[Nat.mul_comm 10 acc];exact decFrom_dval l _ fun x hx=>h x (by simp[hx])
theorem atoi_dval {l:List UInt8}(h:∀ c∈l,isDig c=true)(hne:l≠[]):Lib.atoi l=some ((dval 0 l:Nat):Int):=by
 cases l with
 | nil=>exact absurd rfl hne
 | cons c l=>
  have hc:=isDig_iff.1 (h c (by simp))
  have h1:(c==45)=false:=by
   rw[beq_eq_false_iff_ne];rintro rfl;simp at hc
  have h2:(c==43)=false:=by
   rw[beq_eq_false_iff_ne];rintro rfl;simp at hc
  rw[Lib.atoi];simp only[h1,h2,Bool.false_eq_true,if_false];rw[Lib.decNat,if_neg (by simp),decFrom_dval _ _ h];rfl
theorem atoi_calls (s:ByteArray)(l:List UInt8)(w:World)(hs:s.data.toList=l)(hd:∀ c∈l,isDig c=true)(hne:l≠[])(hl:l.length≤18):
  Calls prog 210 #[.string s] w fun e w'=>e=.returned (.tuple #[.int .i64 (dval 0 l:Nat),.nilIface])∧New w w':=
 (Tryz.strconv_Atoi s _ (by rw[←hs] at hl;simpa using hl) (by rw[hs];exact atoi_dval hd hne) w).mono fun e w' ⟨h1,t,h2⟩=>⟨h1,by rw[h2];exact new_bytesWorld _ _ _⟩
theorem dval_bd {l:List UInt8}(h:∀ c∈l,isDig c=true):BdK (4*l.length) (dval 0 l:Nat):=by
 have h1:=dval_lt h;have h2:10^l.length≤16^l.length:=Nat.pow_le_pow_left (by omega) _
 have h3:16^l.length=2^(4*l.length):=by rw[show 16=2^4 from rfl,←Nat.pow_mul]
 unfold BdK;rw[Int.natAbs_natCast];omega
def ReadRel (w:World)(B:Nat)(d:List UInt8)(g:Nat)(u:Value)(wr:World):Prop:=∃ (c t:List UInt8) (tb:ByteArray) (s2:Int) (o2:Option Addr) (l2 k2:Nat),
 u=.string tb∧tb.data.toList=t∧c ++ t=d∧tb.size=g∧New w wr∧Box wr w.heap.size 113 #[.int .i64 0,.slice none 0 0]∧Box wr B 113 #[.int .i64 s2,.slice o2 l2 k2]∧
 IsInt wr (.agg #[.int .i64 s2,.slice o2 l2 k2]) (dval 0 c:Nat)
theorem read_calls (sb:ByteArray)(neg:Bool)(d:List UInt8)(w:World)(hsb:sb.data.toList=if neg then 45::d else d)(hd:∀ c∈d,isDig c=true)(hl:d.length≤1000000):
  Calls prog 159 #[.string sb] w (IntPost w (signed neg (dval 0 d))):=by
 obtain ⟨z,hz⟩:∃ z,signed neg (dval 0 d)=z:=⟨_,rfl⟩;rw[hz]
 have av:Lib.hasPrefix sb.data.toList (⟨#[45]⟩:ByteArray).data.toList=neg:=by
  rw[hsb];show [45].isPrefixOf _=neg
  cases neg with
  | true=>simp
  | false=>
   cases d with
   | nil=>rfl
   | cons c d=>
    have hc:=isDig_iff.1 (hd c (by simp))
    have h1:(45==c)=false:=by
     rw[beq_eq_false_iff_ne];rintro rfl;simp at hc
    show ((45==c) && _)=false;rw[h1];rfl
 have bg:Lib.trimPrefix sb.data.toList (⟨#[45]⟩:ByteArray).data.toList=d:=by
  unfold Lib.trimPrefix;rw[av,hsb]
  cases neg <;> rfl
 have an:∀ w' v,New w w'→IsInt w' v z→IntPost w z (.returned v) w':=fun w' v h1 h2=>⟨v,rfl,h1,h2⟩;refine zh6 ?_ hz hsb hd av bg an;clear hz hsb hd av bg an;intro HZ cb HD br bt ak;go_in;go_wp2_with fail;obtain ⟨BP,HN⟩:=lay1 w 113 #[.int .i64 0,.slice none 0 0];refine (Tryz.strings_HasPrefix sb _ _).mono ?_;rintro e w' ⟨rfl,hw⟩;subst hw;rw[br.out];go_wp2_with fail;refine (Tryz.strings_TrimPrefix sb _ _).mono ?_;rintro e w' ⟨rfl,hw⟩;subst hw;rw[bt.out];go_wp2_with fail;clear BP HN;obtain ⟨BP,BO,HN⟩:=lay2 w 113 #[.int .i64 0,.slice none 0 0] 113 #[.int .i64 0,.slice none 0 0];have aa:ReadRel w (w.heap.size+1) d d.length (.string ⟨d.toArray⟩) _:=⟨[],d,⟨d.toArray⟩,_,_,_,_,rfl,rfl,rfl,by simp[ByteArray.size],HN.out,BP.out,BO.out,.small rfl (by simp[dval_nil]) (by simp[dval_nil])⟩;clear HN BP BO;replace aa:=hid aa
 go_loopg [0] d.length (fun g u wr=>ReadRel w (w.heap.size+1) d g u wr)
 case atStart=>exact aa
 case round=>
  clear aa;obtain ⟨c,t,tb,s2,o2,l2,k2,rfl,bj,ba,hg,hN,hP,hO,hi⟩:=hrel;have hB:w.heap.size+1 < wr.heap.size:=hO.lt;refine zh7 ?_ bj ba hg hN hP hO hi;clear bj ba hg hN hP hO hi;intro HT ac HG HN BP BO HI;by_cases h0:tb.size=0
  ·have bx:¬(0:Int) < (tb.size:Int):=by omega
   have bb:dval 0 d=dval 0 c:=by
    have h1:t=[]:=by
     rw[←HT.out]
     have:tb.data.toList.length=0:=by simpa using h0
     exact List.length_eq_zero_iff.1 this
    rw[←ac.out,h1,List.append_nil]
   have az:=hid bb;have H0:=hid h0;clear bb h0
   cases neg with
   | true=>
    obtain ⟨b0,b1,b2,b3,b4⟩:=BO.out.two;go_wp2_with fail;refine zO (neg_calls _ (dval 0 c:Nat) _ HI) fun w2 s5 a5 l5 k5 hn hi=>?_;replace hi:=hid hi;obtain ⟨HN,BP⟩:=zn2 hn HN BP.new;clear hn;obtain ⟨p0,p1,p2,p3,p4⟩:=BP.out.two;go_wp2_with fail;refine bodyPost_ret (v:=.agg #[.int .i64 s5,.slice a5 l5 k5]) (by simp[results,results159,go_sem,p0,p1]) rfl ?_;refine ak _ _ (HN.putAt BP (by omega) _ _) ?_;rw[←HZ.out,az.out];exact hi.put2 BP _ _ _ _
   | false=>
    obtain ⟨b0,b1,b2,b3,b4⟩:=BO.out.two;obtain ⟨p0,p1,p2,p3,p4⟩:=BP.out.two;go_wp2_with fail;refine bodyPost_ret (v:=.agg #[.int .i64 s2,.slice o2 l2 k2]) (by simp[results,results159,go_sem,p0,p1]) rfl ?_;refine ak _ _ (HN.putAt BP (by omega) _ _) ?_;rw[←HZ.out,az.out];exact HI.put2 BP _ _ _ _
  ·have bx:(0:Int) < (tb.size:Int):=by omega
   obtain ⟨n,b5,be,ao,bf⟩:∃ n:Nat,min (18:Int) (tb.size:Int)=(n:Int)∧1≤n∧n≤18∧n≤tb.size:=⟨min 18 tb.size,by omega,by omega,by omega,by omega⟩
   have bc:tb.size=t.length:=by rw[←HT.out];simp
   have ae:=congrArg List.length ac.out;rw[List.length_append] at ae;have ai:∀ x∈c,isDig x=true:=fun x hx=>HD.out x (by rw[←ac.out];simp[hx]);have aj:∀ x∈t.take n,isDig x=true:=fun x hx=>HD.out x (by rw[←ac.out];simp[List.mem_of_mem_take hx])
   have aw:(tb.extract 0 n).data.toList=t.take n:=by rw[Lib.extract_data,HT.out];rfl
   have bk:(tb.extract n tb.size).data.toList=t.drop n:=by rw[Lib.extract_to_end,HT.out]
   have au:=fun W=>atoi_calls (tb.extract 0 n) (t.take n) W aw aj (by rw[←List.length_pos_iff,List.length_take];omega) (by rw[List.length_take];omega);have a3:Bd (dval 0 c:Nat):=(dval_bd ai).bd (by omega)
   have ab:BdK 4 10:=by unfold BdK;decide
   have a4:Bd ((10:Int)^n):=(ab.pow n).bd (by omega);have a8:Bd ((dval 0 c:Nat)*(10:Int)^n):=((dval_bd ai).mul (ab.pow n)).bd (by omega);have hv:dval 0 (t.take n) < 10^18:=Nat.lt_of_lt_of_le (dval_lt aj) (Nat.pow_le_pow_right (by omega) (by rw[List.length_take];omega))
   have ag: -9223372036854775808≤((dval 0 (t.take n):Nat):Int):=by omega
   have af:((dval 0 (t.take n):Nat):Int)≤9223372036854775807:=by omega
   obtain ⟨V,hV⟩:∃ V:Int,((dval 0 (t.take n):Nat):Int)=V:=⟨_,rfl⟩;rw[hV] at ag af;simp only[hV] at au
   have ap:((dval 0 c:Nat):Int)*10^n+V=(dval 0 (c ++ t.take n):Nat):=by
    rw[←hV,dval_append,dval_acc (dval 0 c),List.length_take,show min n t.length=n by omega];simp
   have ad:(c ++ t.take n) ++ t.drop n=d:=by rw[List.append_assoc,List.take_append_drop];exact ac.out
   have ch:(n:Int)≤(tb.size:Int):=by omega
   have ci:(0:Int)≤(n:Int):=by omega
   have bh:∀ W,IsInt W (.agg #[.int .i64 V,.slice none 0 0]) V:=fun W=>.small rfl ag af;have a9:Bd V:=.small ag af
   have bi:(tb.extract n tb.size).size < tb.size:=by simp;omega
   refine zh12 ?_ bc ae ai aj aw bk au a3 ab a4 a8 hv;intro b8 bz b6 b7 cg bw bl bm a2 bn bo HV;refine zh12 ?_ hV ap ad bh a9 bi ag af h0 ao be bf;clear bc ae ai aj aw bk au a3 ab a4 a8 hv hV ap ad bh a9 bi ag af h0 ao be bf;intro cf a0 aq bu bp bv ce cd H0 am b9 ca;go_wp2_with fail;refine zM (bl _) fun w1 hn=>?_;obtain ⟨HN,BP,BO,HI⟩:=zn4 hn HN BP.new BO.new HI.new;clear hn;have b:=BO.out.two;go_wp2_with fail;clear b;refine zR 8 9 (fun W=>zI W (w.heap.size+1) s2 o2 l2 k2) ?_;refine zT 0 (cW2 BO) ?_;refine zT 2 (cW2 BO) ?_;refine zT 5 (cW2 BO) ?_;refine tk1 1 fun K hK=>?_;go_simp;refine zM (of_calls 10 _) fun w3 hn=>?_;obtain ⟨HN,BP,BO,HI⟩:=zn4 hn.undrew HN BP.new BO.new HI.new;clear hn;refine zK hK (cW2 BO) ?_;clear hK K;refine tk1 3 fun K hK=>?_;go_simp;refine zO (pow_calls _ 10 n 4 _ (.small rfl (by omega) (by omega)) a2 (by have:=am.out;omega) (by have:=am.out;omega)) fun w4 s5 a5 l5 k5 hn hi=>?_;have bq:=hid hi;clear hi;obtain ⟨HN,BP,BO,HI⟩:=zn4 hn HN BP.new BO.new HI.new;clear hn;refine zK hK (cW2 BO) ?_;clear hK K;refine tk1 4 fun K hK=>?_;go_simp;refine zO (mul_calls _ _ (dval 0 c:Nat) (10^n) _ HI bq bm bn) fun w5 s6 a6 l6 k6 hn hi=>?_;have ar:=hid hi;clear hi;obtain ⟨HN,BP,BO⟩:=zn3 hn HN BP.new BO.new;clear hn;refine zK hK (cW2 BO) ?_;clear hK K;refine tk1 6 fun K hK=>?_;go_simp;refine zM (of_calls V _) fun w6 hn=>?_;obtain ⟨HN,BP,BO,ar⟩:=zn4 hn HN BP.new BO.new ar.new;clear hn;refine zK hK (cW2 BO) ?_;clear hK K;refine tk1 7 fun K hK=>?_;go_simp;refine zO (add_calls _ _ ((dval 0 c:Nat)*10^n) V _ ar (bu _) bo bp) fun w7 s7 a7 l7 k7 hn hi=>?_;rw[a0.out] at hi;have ah:=hid hi;clear hi;obtain ⟨HN,BP,BO⟩:=zn3 hn HN BP.new BO.new;clear hn;refine zK hK (cW2 BO) ?_;clear hK K;refine tlW ?_;have b:=BO.out.two;go_wp2_with fail;clear b;have ay:=BP.out.away BO.out (by omega) (.int .i64 s7) (.slice a7 l7 k7);have al:=ah.out.put2 BO.out s7 a7 l7 k7;have a1:=HN.out.putAt BO.out (by omega) (.int .i64 s7) (.slice a7 l7 k7);have ax:=BO.out.put2 (.int .i64 s7) (.slice a7 l7 k7);clear BP ah HN BO;refine zh4 ?_ ay al a1 ax;clear ay al a1 ax;intro BP ah HN BO
   go_roundg (tb.extract n tb.size).size
   case measure=>rw[←HG.out];exact bv.out
   case rel=>exact ⟨c ++ t.take n,t.drop n,tb.extract n tb.size,_,_,_,_,rfl,bw,aq,rfl,HN,BP,BO,ah⟩
end Go.Proofs.YtnjonlnemagomaaGreatDoor
