/- Part CardQn09. -/
import Derived.Test.YtnjonlnemagomaaGreatDoorB37
import Derived.Test.YtnjonlnemagomaaGreatDoorCardQn08
namespace Go.Proofs.YtnjonlnemagomaaGreatDoor
open Go.RowKit Big Go.Lib Go.Proofs.Tryz
set_option maxRecDepth 100000
set_option maxHeartbeats 8000000
set_option linter.all false
abbrev Gives (w:World)(v:Value)(e:Ending)(w':World):Prop:=e=.returned v∧New w w'
def SqNeg (x:ByteArray):Prop:=∃ s:Int,s < 0∧(∀ W,Calls prog 35 #[.string x] W (Gives W (.int .i64 s)))∧
 ∀ W,Env W→Calls prog 31 #[.string x] W (Gives W (.tuple #[.agg #[.string ⟨#[]⟩,.string ⟨#[]⟩],.int .i64 3]))
def SqPos (x:ByteArray):Prop:=∃ (s s2 c1 c2 c3:Int) (L H LL HH WD:ByteArray),0≤s∧0≤s2∧c1≤0∧0≤c2∧c3≤0∧
 (∀ W,Calls prog 35 #[.string x] W (Gives W (.int .i64 s)))∧
 (∀ W,Env W→Calls prog 31 #[.string x] W (Gives W (.tuple #[.agg #[.string L,.string H],.int .i64 0])))∧
 (∀ W,Calls prog 36 #[.agg #[.string L,.string H]] W (Gives W (.int .i64 0)))∧
 (∀ W,Calls prog 35 #[.string L] W (Gives W (.int .i64 s2)))∧
 (∀ W,Calls prog 32 #[.string L,.string L] W (Gives W (.string LL)))∧
 (∀ W,Calls prog 37 #[.string LL,.string x] W (Gives W (.int .i64 c1)))∧
 (∀ W,Calls prog 32 #[.string H,.string H] W (Gives W (.string HH)))∧
 (∀ W,Calls prog 37 #[.string HH,.string x] W (Gives W (.int .i64 c2)))∧
 (∀ W,Calls prog 38 #[.string H,.string L] W (Gives W (.string WD)))∧
 (∀ W,Calls prog 37 #[.string WD,.string ⟨#[49,47,49,48,48,48]⟩] W (Gives W (.int .i64 c3)))
def SqOwn (y:ByteArray):Prop:=∃ BB AB:ByteArray,
 (∀ W,Calls prog 32 #[.string y,.string y] W (Gives W (.string BB)))∧
 (∀ W,Env W→Calls prog 31 #[.string BB] W (Gives W (.tuple #[.agg #[.string AB,.string AB],.int .i64 0])))∧
 (∀ W,Calls prog 34 #[.string y] W (Gives W (.string AB)))
theorem squares_walk (x y:ByteArray) (w:World) (he:Env w) (hfx:∀ W,Calls prog 30 #[.string x,.int .i64 30] W (FewP30 x W)) (hfy:∀ W,Calls prog 30 #[.string y,.int .i64 30] W (FewP30 y W))
  (hx:x.size≤62∧ratErr x.data.toList=0→SqNeg x∨SqPos x) (hy:y.size≤62∧ratErr y.data.toList=0→SqOwn y):
  Calls prog 4 #[.string x,.string y] w fun e w'=>e=.returned (.bool true)∧New w w':=by
 unfold FewP30 at hfx hfy;refine zh6 ?_ (New.refl w) he hfx hfy hx hy;clear he hfx hfy hx hy;intro HN HE a4 a5 HX HY;go_in;go_wp2_with fail;refine zM (awake_calls _ (HE.new HN)) fun w1 hn=>?_;replace HN:=tW HN hn;clear hn;go_wp2_with fail;refine (a4 _).mono ?_;rintro e w2 ⟨⟨t1,rfl,ai⟩,hn⟩;replace HN:=tW HN hn;clear hn
 cases t1 with
 | false=>
  clear ai;go_wp2_with fail;refine zM (awake_calls _ (HE.new HN)) fun be hn=>?_;replace HN:=tW HN hn;clear hn;go_wp2_with fail;go_ret;exact ⟨rfl,HN⟩
 | true=>
  have af:=HX.out (ai rfl);clear ai HX;have am:=hid af;clear af;go_wp2_with fail;refine (a5 _).mono ?_;rintro e w3 ⟨⟨t2,rfl,aj⟩,hn⟩;replace HN:=tW HN hn;clear hn
  cases t2 with
  | false=>
   clear aj;go_wp2_with fail;refine zM (awake_calls _ (HE.new HN)) fun be hn=>?_;replace HN:=tW HN hn;clear hn;go_wp2_with fail;go_ret;exact ⟨rfl,HN⟩
  | true=>
   obtain ⟨BB,AB,ao,ax,an⟩:=HY.out (aj rfl);have af:=am.out;clear aj HY am;refine zh3 ?_ ao ax an;clear ao ax an;intro ak al ae;rcases af with ⟨s,hs,ac,ab⟩ | ⟨s,s2,c1,c2,c3,L,H,LL,HH,WD,k0,k1,k2,k3,k4,ac,ab,au,ay,aw,ap,av,aq,az,ar⟩
   ·have d1:decide (s < 0)=true:=decide_eq_true hs;clear hs;have ah:=hid ac;have ag:=hid ab;clear ac ab;go_wp2_with fail;refine zM (ag _ (HE.new HN)) fun w4 hn=>?_;replace HN:=tW HN hn;clear hn;go_upto_region 4 with (fail);obtain ⟨B3,hn⟩:=lay1 w4 53 #[.string ⟨#[]⟩,.string ⟨#[]⟩];replace HN:=tW HN hn;clear hn;go_wp2_with fail;refine zM (ak _) fun w5 hn=>?_;obtain ⟨HN,B3⟩:=zn2 hn HN B3.new;clear hn;go_wp2_with fail;refine zM (al _ (HE.new HN)) fun w6 hn=>?_;obtain ⟨HN,B3⟩:=zn2 hn HN B3.new;clear hn;go_upto_region 5 with (fail);obtain ⟨B4,hn⟩:=lay1 w6 53 #[.string AB,.string AB];obtain ⟨HN,B3⟩:=zn2 hn HN B3.new;clear hn;obtain ⟨w7,ad⟩:∃ u,w6.alloc (.cells #[.string AB,.string AB] 53)=u:=⟨_,rfl⟩;rw[ad] at B3 B4 HN⊢;clear ad;obtain ⟨P4,aa⟩:∃ u,w6.heap.size=u:=⟨_,rfl⟩;rw[aa] at B4⊢;clear aa;have pb:=B4.out.two;clear pb;refine zR 10 11 (fun W=>zC W P4 (.string AB) (.string AB)) ?_;refine zT 0 (cW2 B4) ?_;refine zT 1 (cW2 B4) ?_;refine zT 2 (cW2 B4) ?_;refine zT 3 (cW2 B4) ?_;refine zT 4 (cW2 B4) ?_;refine zT 6 (cW2 B4) ?_;refine tk1 5 fun K hK=>?_;go_simp;refine zM (ae _) fun w8 hn=>?_;obtain ⟨HN,B3,B4⟩:=zn3 hn.undrew HN B3.new B4.new;clear hn;refine zK hK (cW2 B4) ?_;clear hK K;refine tk1 7 fun K hK=>?_;go_simp;refine zM (ae _) fun w9 hn=>?_;obtain ⟨HN,B3,B4⟩:=zn3 hn HN B3.new B4.new;clear hn;refine zK hK (cW2 B4) ?_;clear hK K;refine tk1 8 fun K hK=>?_;go_simp;refine zM (span_aw AB AB _) fun bb hn=>?_;obtain ⟨HN,B3,B4⟩:=zn3 hn HN B3.new B4.new;clear hn;refine zK hK (cW2 B4) ?_;clear hK K;refine zT 9 (hy:=by (intro W hW;(try dsimp only at hW);have ba:=neq_span AB AB;go_simp;try with_reducible rfl)) (cW2 B4) ?_;refine tlW ?_;have pb:=B4.out.two;clear pb;clear B4;go_wp2_with fail;refine zM (ah _) fun bc hn=>?_;obtain ⟨HN,B3⟩:=zn2 hn HN B3.new;clear hn;go_wp2_with fail;go_ret;exact ⟨rfl,HN⟩
   ·have d1:decide (s < 0)=false:=decide_eq_false (by omega);have d2:decide (s2 ≥ 0)=true:=decide_eq_true k1;have d3:decide (c1≤0)=true:=decide_eq_true k2;have d4:decide (c2 ≥ 0)=true:=decide_eq_true k3;have d5:decide (c3≤0)=true:=decide_eq_true k4;clear k0 k1 k2 k3 k4;refine zh10 ?_ ac ab au ay aw ap av aq az ar;clear ac ab au ay aw ap av aq az ar;intro ah ag a3 a8 a7 a0 a6 a1 a9 a2;go_wp2_with fail;refine zM (ag _ (HE.new HN)) fun w4 hn=>?_;replace HN:=tW HN hn;clear hn;go_upto_region 4 with (fail);obtain ⟨B3,hn⟩:=lay1 w4 53 #[.string L,.string H];replace HN:=tW HN hn;clear hn;go_wp2_with fail;refine zM (ak _) fun w5 hn=>?_;obtain ⟨HN,B3⟩:=zn2 hn HN B3.new;clear hn;go_wp2_with fail;refine zM (al _ (HE.new HN)) fun w6 hn=>?_;obtain ⟨HN,B3⟩:=zn2 hn HN B3.new;clear hn;go_upto_region 5 with (fail);obtain ⟨B4,hn⟩:=lay1 w6 53 #[.string AB,.string AB];obtain ⟨HN,B3⟩:=zn2 hn HN B3.new;clear hn;obtain ⟨w7,ad⟩:∃ u,w6.alloc (.cells #[.string AB,.string AB] 53)=u:=⟨_,rfl⟩;rw[ad] at B3 B4 HN⊢;clear ad;obtain ⟨P4,aa⟩:∃ u,w6.heap.size=u:=⟨_,rfl⟩;rw[aa] at B4⊢;clear aa;have pb:=B4.out.two;clear pb;refine zR 10 11 (fun W=>zC W P4 (.string AB) (.string AB)) ?_;refine zT 0 (cW2 B4) ?_;refine zT 1 (cW2 B4) ?_;refine zT 2 (cW2 B4) ?_;refine zT 3 (cW2 B4) ?_;refine zT 4 (cW2 B4) ?_;refine zT 6 (cW2 B4) ?_;refine tk1 5 fun K hK=>?_;go_simp;refine zM (ae _) fun w8 hn=>?_;obtain ⟨HN,B3,B4⟩:=zn3 hn.undrew HN B3.new B4.new;clear hn;refine zK hK (cW2 B4) ?_;clear hK K;refine tk1 7 fun K hK=>?_;go_simp;refine zM (ae _) fun w9 hn=>?_;obtain ⟨HN,B3,B4⟩:=zn3 hn HN B3.new B4.new;clear hn;refine zK hK (cW2 B4) ?_;clear hK K;refine tk1 8 fun K hK=>?_;go_simp;refine zM (span_aw AB AB _) fun bb hn=>?_;obtain ⟨HN,B3,B4⟩:=zn3 hn HN B3.new B4.new;clear hn;refine zK hK (cW2 B4) ?_;clear hK K;refine zT 9 (hy:=by (intro W hW;(try dsimp only at hW);have ba:=neq_span AB AB;go_simp;try with_reducible rfl)) (cW2 B4) ?_;refine tlW ?_;have pb:=B4.out.two;clear pb;clear B4;go_wp2_with fail;refine zM (ah _) fun bc hn=>?_;obtain ⟨HN,B3⟩:=zn2 hn HN B3.new;clear hn;have pa:=B3.out.two;go_wp2_with fail;refine zM (a3 _) fun bk hn=>?_;clear pa;obtain ⟨HN,B3⟩:=zn2 hn HN B3.new;clear hn;have pa:=B3.out.two;go_wp2_with fail;refine zM (a8 _) fun bl hn=>?_;clear pa;obtain ⟨HN,B3⟩:=zn2 hn HN B3.new;clear hn;have pa:=B3.out.two;go_wp2_with fail;refine zM (a7 _) fun bm hn=>?_;clear pa;obtain ⟨HN,B3⟩:=zn2 hn HN B3.new;clear hn;have pa:=B3.out.two;go_wp2_with fail;refine zM (a0 _) fun bn hn=>?_;clear pa;obtain ⟨HN,B3⟩:=zn2 hn HN B3.new;clear hn;have pa:=B3.out.two;go_wp2_with fail;refine zM (a6 _) fun bo hn=>?_;clear pa;obtain ⟨HN,B3⟩:=zn2 hn HN B3.new;clear hn;have pa:=B3.out.two;go_wp2_with fail;refine zM (a1 _) fun bp hn=>?_;clear pa;obtain ⟨HN,B3⟩:=zn2 hn HN B3.new;clear hn;have pa:=B3.out.two;go_wp2_with fail;refine zM (a9 _) fun bq hn=>?_;clear pa;obtain ⟨HN,B3⟩:=zn2 hn HN B3.new;clear hn;have pa:=B3.out.two;go_wp2_with fail;refine zM (a2 _) fun br hn=>?_;clear pa;obtain ⟨HN,B3⟩:=zn2 hn HN B3.new;clear hn;obtain ⟨bf,bg,bh,bi,bj⟩:=B3.out.two;go_wp2_with fail;go_ret;exact ⟨rfl,HN⟩
theorem num_sign_nn {q:Rat}(h:0≤q.num):0≤q.num.sign:=by
 rcases Int.lt_trichotomy q.num 0 with h1 | h1 | h1
 ·omega
 ·rw[h1];decide
 ·rw[Int.sign_eq_one_of_pos h1];decide
theorem sign_ge {x y:Rat}:0≤(x - y).num.sign ↔ y≤x:=by
 have h:=sign_le (x:=y) (y:=x)
 have e:(x - y).num.sign= -(y - x).num.sign:=by
  rw[←Rat.neg_sub,Rat.neg_num,Int.sign_neg]
 rw[e,←h];omega
theorem rs_thou:rs (1 / 1000)=⟨#[49,47,49,48,48,48]⟩:=by
 have e:(1 / 1000:Rat)=Rat.divInt 1 1000:=by rw[Rat.divInt_eq_div];rfl
 rw[e];decide +kernel
theorem squares_law (x y:ByteArray)(w:World)(he:Env w)(hx:x.size≤9223372036854775807)(hy:y.size≤9223372036854775807):
  Calls prog 4 #[.string x,.string y] w fun e w'=>e=.returned (.bool true)∧New w w':=by
 refine squares_walk x y w he (fun W=>rfew30_calls x W (by omega)) (fun W=>rfew30_calls y W (by omega)) (fun h=>?_) (fun h=>?_)
 ·obtain ⟨q,rfl,hb⟩:=short_num (n:=62) h.1 h.2 (by omega);have hb:=hb.mono (show 4*62≤250 by omega);have hr:RFB 250 q:=RFB.of hb;have aa:=fun W=>(rsign_calls q W).mono fun e w' h=>(show Gives W (.int .i64 q.num.sign) e w' from ⟨h.1,by rw[h.2];exact New.refl _⟩);rcases Int.lt_or_le q.num 0 with hn | hn
  ·exact .inl ⟨q.num.sign,Int.sign_neg_iff.2 hn,aa,fun W hW=>nroot_neg (rs q) q (rs_list _) (hb.fitsN (by omega)) (fbs_len hb (by omega)) hn W hW⟩
  ·obtain ⟨L,H,hs,fl,fh,ac⟩:=root_all q hb hn;have rl:RFB 600 L:=RFB.of fl;have rh:RFB 600 H:=RFB.of fh;have ab:=fh.sub fl
   have ht:RFB 10 (1 / 1000):=by
    have e:(1 / 1000:Rat)=Rat.divInt 1 1000:=by rw[Rat.divInt_eq_div];rfl
    rw[e];exact RFB.divInt (by decide) (by decide) (by decide)
   refine .inr ⟨q.num.sign,L.num.sign,(L*L - q).num.sign,(H*H - q).num.sign,(H - L - 1 / 1000).num.sign,rs L,rs H,rs (L*L),rs (H*H),rs (H - L),num_sign_nn hn,num_sign_nn (Rat.num_nonneg.2 hs.lo),sign_le.2 hs.sl,sign_ge.2 hs.sh,sign_le.2 hs.w,aa,ac,?_,?_,?_,?_,?_,?_,?_,?_⟩
   ·exact fun W=>rspan_calls L H W (fl.fitsN (by omega)) (fh.fitsN (by omega)) hs.le (fbs_len fl (by omega)) (fbs_len fh (by omega))
   ·exact fun W=>(rsign_calls L W).mono fun e w' h=>⟨h.1,by rw[h.2];exact New.refl _⟩
   ·exact fun W=>(rmulQ_calls 600 600 L L W rl rl (by omega)).mono fun e w' h=>RetS.to rfl h
   ·exact fun W=>rcmpQ_calls 1200 250 (L*L) q W (RFB.of (fl.mul fl)) hr (by omega)
   ·exact fun W=>(rmulQ_calls 600 600 H H W rh rh (by omega)).mono fun e w' h=>RetS.to rfl h
   ·exact fun W=>rcmpQ_calls 1200 250 (H*H) q W (RFB.of (fh.mul fh)) hr (by omega)
   ·exact fun W=>(rsubQ_calls 600 600 H L W rh rl (by omega)).mono fun e w' h=>RetS.to rfl h
   ·rw[←rs_thou];exact fun W=>rcmpQ_calls 1201 10 (H - L) (1 / 1000) W (RFB.of ab) ht (by omega)
 ·obtain ⟨q,rfl,hb⟩:=short_num (n:=62) h.1 h.2 (by omega);have hb:=hb.mono (show 4*62≤250 by omega);have hr:RFB 250 q:=RFB.of hb;exact ⟨rs (q*q),rs (absQ q),fun W=>(rmulQ_calls 250 250 q q W hr hr (by omega)).mono fun e w' h=>RetS.to rfl h,fun W hW=>root_square q hb W hW,fun W=>(rabs_calls q W (by have:=hr.len;omega)).mono fun e w' h=>RetS.to rfl h⟩
end Go.Proofs.YtnjonlnemagomaaGreatDoor
