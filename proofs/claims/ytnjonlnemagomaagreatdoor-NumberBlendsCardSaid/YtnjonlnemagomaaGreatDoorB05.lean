/- Part B05. -/
import Derived.Deep.LoopGhost
import Derived.Test.YtnjonlnemagomaaGreatDoorB04
namespace Go.Proofs.YtnjonlnemagomaaGreatDoor
open Go.RowKit Big Tryz
open Go.Lib (hid)
set_option maxRecDepth 100000
set_option maxHeartbeats 8000000
set_option linter.all false
theorem tdiv_pos {x y:Int}(hy:0 < y):x / y=(if x.tmod y < 0 then x.tdiv y - 1 else x.tdiv y)∧x % y=(if x.tmod y < 0 then x.tmod y+y else x.tmod y):=by
 have h1:=Int.mul_tdiv_add_tmod x y;have h2:=Int.mul_ediv_add_emod x y;have h3:=Int.emod_nonneg x (show y≠0 by omega);have h4:=Int.emod_lt_of_pos x hy;have h5:=Int.lt_tmod_of_pos x hy;have h6:=Int.tmod_lt_of_pos x hy
 have aa:∀ q r q' r':Int,y*q+r=y*q'+r'→0≤r→r < y→0≤r'→r' < y→q=q'∧r=r':=by
  intro q r q' r' h a b c d
  have e:y*(q - q')=r' - r:=by rw[Int.mul_sub];omega
  have:q - q'=0:=by
   rcases Int.lt_trichotomy (q - q') 0 with k | k | k
   ·have:y*(q - q')≤y*(-1):=Int.mul_le_mul_of_nonneg_left (by omega) (by omega);omega
   ·exact k
   ·have:y*1≤y*(q - q'):=Int.mul_le_mul_of_nonneg_left (by omega) (by omega);omega
  rw[this,Int.mul_zero]at e;omega
 split
 ·rename_i hn;exact aa _ _ _ _ (by rw[h2,Int.mul_sub,Int.mul_one];omega) h3 h4 (by omega) (by omega)
 ·rename_i hn;exact aa _ _ _ _ (by rw[h2];omega) h3 h4 (by omega) (by omega)
def Int2Post (w:World)(q r:Int)(e:Ending)(w':World):Prop:=∃ v v':Value,e=.returned (.tuple #[v,v'])∧New w w'∧IsInt w' v q∧IsInt w' v' r
theorem tdiv_bound {x y:Int}(hy:0 < y)(lo: -9223372036854775808 < x)(hi:x≤9223372036854775807): -9223372036854775808 < x.tdiv y∧x.tdiv y≤9223372036854775807∧ -9223372036854775808 < x / y:=by
 have h1:=Int.natAbs_tdiv x y;have h2:x.natAbs.div y.natAbs≤x.natAbs:=Nat.div_le_self _ _
 have h3:x.natAbs < 9223372036854775808:=by omega
 refine ⟨by omega,by omega,?_⟩;have h4:=Int.mul_ediv_add_emod x y;have h5:=Int.emod_lt_of_pos x hy;have h6:=Int.emod_nonneg x (show y≠0 by omega);rcases Int.lt_or_le (x / y) (-9223372036854775807) with h | h
 ·exfalso;have h7:y*(x / y)≤y*(-9223372036854775808):=Int.mul_le_mul_of_nonneg_left (by omega) (by omega)
  have h8:(y - 1)*(-9223372036854775808)≤0:=by
   have:0≤(y - 1)*9223372036854775808:=Int.mul_nonneg (by omega) (by omega);omega
  rw[Int.sub_mul]at h8;omega
 ·omega
theorem divmod_small (x y:Int)(w:World)(lo: -9223372036854775808 < x)(hi:x≤9223372036854775807)(hy0:0 < y)(hy:y≤9223372036854775807):
  Calls prog 177 #[.agg #[.int .i64 x,.slice none 0 0],.agg #[.int .i64 y,.slice none 0 0]] w (Int2Post w (x / y) (x % y)):=by
 have q1:=eql_nil;obtain ⟨e1,e2⟩:=tdiv_pos (x:=x) hy0;have b1:=Int.lt_tmod_of_pos x hy0;have ac:=Int.tmod_lt_of_pos x hy0;obtain ⟨b2,ad,b3⟩:=tdiv_bound hy0 lo hi;have b4:=Int.emod_lt_of_pos x hy0;have b5:=Int.emod_nonneg x (show y≠0 by omega);by_cases hr:x.tmod y < 0
 ·rw[if_pos hr] at e1 e2;rw[e1] at b3⊢;rw[e2] at b4 b5⊢;clear e1 e2;generalize hq:x.tdiv y=q at *;generalize hr:x.tmod y=r at *
  have aa:(x != -9223372036854775808)=true:=by simp;omega
  have ab:(y==0)=false:=by simp;omega
  go_in;go_wp2_with fail
  go_quiet (fail)
  go_wp2_with fail
  go_quiet (fail)
  go_wp2_with fail;refine bodyPost_ret (v:=.tuple #[.agg #[.int .i64 (q - 1),.slice none 0 0],.agg #[.int .i64 (r+y),.slice none 0 0]]) (by simp[results,results177,go_sem]) rfl ?_;refine ⟨_,_,rfl,?_,.small rfl (by omega) (by omega),.small rfl (by omega) (by omega)⟩
  repeat first
   | with_reducible exact New.refl _
   | with_reducible refine New.drewN ?_ _
   | with_reducible refine New.drew ?_
   | with_reducible refine New.alloc ?_ _
   | (with_reducible refine New.setCell ?_ ?_ _;rotate_left;(show _≤_+_);omega)
   | with_reducible assumption
 ·rw[if_neg hr] at e1 e2;rw[e1] at b3⊢;rw[e2] at b4 b5⊢;clear e1 e2;generalize hq:x.tdiv y=q at *;generalize hr:x.tmod y=r at *
  have aa:(x != -9223372036854775808)=true:=by simp;omega
  have ab:(y==0)=false:=by simp;omega
  go_in;go_wp2_with fail
  go_quiet (fail)
  go_wp2_with fail;refine bodyPost_ret (v:=.tuple #[.agg #[.int .i64 q,.slice none 0 0],.agg #[.int .i64 r,.slice none 0 0]]) (by simp[results,results177,go_sem]) rfl ?_;refine ⟨_,_,rfl,?_,.small rfl (by omega) (by omega),.small rfl (by omega) (by omega)⟩
  repeat first
   | with_reducible exact New.refl _
   | with_reducible refine New.drewN ?_ _
   | with_reducible refine New.drew ?_
   | with_reducible refine New.alloc ?_ _
   | (with_reducible refine New.setCell ?_ ?_ _;rotate_left;(show _≤_+_);omega)
   | with_reducible assumption
theorem natAbs_signed (b:Bool)(n:Nat):(signed b n).natAbs=n:=by
 unfold signed;split <;> simp
theorem stored_two {w w6:World} {B B':Nat} {t:TypeId} {s s':Int} {a a':Option Addr} {l c l' c':Nat} {q r:Int} {s3 s4:Int} {a3 a4:Option Addr} {l3 k3 l4 k4:Nat} (hN:New w w6)
  (bp:Box w6 B t #[.int .i64 s,.slice a l c]) (bq:Box w6 B' t #[.int .i64 s',.slice a' l' c']) (hB:w.heap.size≤B) (hB':w.heap.size≤B') (hne:B≠B')
  (hi3:IsInt w6 (.agg #[.int .i64 s3,.slice a3 l3 k3]) q) (hi4:IsInt w6 (.agg #[.int .i64 s4,.slice a4 l4 k4]) r):
  Int2Post w q r (.returned (.tuple #[.agg #[.int .i64 s3,.slice a3 l3 k3],.agg #[.int .i64 s4,.slice a4 l4 k4]]))
   ((((w6.setCell ⟨B,0,none⟩ (.int .i64 s3)).setCell ⟨B,1,none⟩ (.slice a3 l3 k3)).setCell ⟨B',0,none⟩ (.int .i64 s4)).setCell ⟨B',1,none⟩ (.slice a4 l4 k4)):=
 have bq':=(bq.other (p:=⟨B,0,none⟩) hne (.int .i64 s3)).other (p:=⟨B,1,none⟩) hne (.slice a3 l3 k3)
 ⟨_,_,rfl,(hN.put2 hB _ _).put2 hB' _ _,(hi3.put2 bp _ _ _ _).put2 bq' _ _ _ _,(hi4.put2 bp _ _ _ _).put2 bq' _ _ _ _⟩
theorem Int2Post.drew {w w':World}{q r:Int}{e:Ending}(h:Int2Post w q r e w'):Int2Post w q r e w'.drew:=by
 obtain ⟨v,v',h1,h2,h3,h4⟩:=h;exact ⟨v,v',h1,h2.drew,h3.new (New.refl _).drew,h4.new (New.refl _).drew⟩
theorem IsInt.of_none {w:World}{s:Int}{a:Option Addr}{l c:Nat}{z:Int}(h:IsInt w (.agg #[.int .i64 s,.slice a l c]) z)(ha:a.isNone=true):s=z∧a=none∧l=0∧c=0∧ -9223372036854775808≤z∧z≤9223372036854775807:=by
 rcases h with ⟨h,lo,hi⟩ | ⟨b,ab,n,aa,f,s,h,hs,hw,h0,hv,hz⟩
 ·injection h with h;injection h with h;simp at h;obtain ⟨rfl,rfl,rfl,rfl⟩:=h;exact ⟨rfl,rfl,rfl,rfl,lo,hi⟩
 ·injection h with h;injection h with h;simp at h;obtain ⟨rfl,rfl,rfl,rfl⟩:=h
  cases ha
theorem wds_pos {w:World}{v:Value}{n:Nat}{f:Nat→Nat}{y:Int}(h:Wds w v n f)(hv:vf W64 f n=y.natAbs)(hy:0 < y):0 < n:=by
 rcases Nat.eq_zero_or_pos n with rfl | h0
 ·simp[vf] at hv;omega
 ·exact h0
theorem signed_div {x y:Int}(hy:0 < y){q r:Nat}(h:q*y.natAbs+r=x.natAbs)(hr:r < y.natAbs):
  (0≤signed (decide (x < 0)) r→signed (decide (x < 0)) q=x / y∧signed (decide (x < 0)) r=x % y)∧(signed (decide (x < 0)) r < 0→signed (decide (x < 0)) q - 1=x / y∧signed (decide (x < 0)) r+y=x % y):=by
 have aa:∀ q r:Int,y*q+r=x→0≤r→r < y→q=x / y∧r=x % y:=by
  intro q r h a b
  have e1:x / y=q:=by
   rw[←h,Int.add_comm,Int.add_mul_ediv_left _ _ (by omega),Int.ediv_eq_zero_of_lt a b,Int.zero_add]
  have e2:x % y=r:=by
   rw[←h,Int.add_comm,Int.add_mul_emod_self_left,Int.emod_eq_of_lt a b]
  exact ⟨e1.symm,e2.symm⟩
 have h':(y:Int)*q+r=x.natAbs:=by
  have e:((y.natAbs:Nat):Int)=y:=by omega
  have:=congrArg (fun n:Nat=>(n:Int)) h;simp only[Int.natCast_add,Int.natCast_mul,e] at this;rw[Int.mul_comm];exact this
 unfold signed;by_cases hx:x < 0
 ·simp only[hx,decide_true,if_true]
  have ex:(x.natAbs:Int)= -x:=by omega
  rw[ex]at h';refine ⟨fun h0=>?_,fun h0=>?_⟩
  ·obtain rfl:r=0:=by omega
   exact aa _ _ (by rw[Int.mul_neg];omega) (by omega) (by omega)
  ·refine aa _ _ ?_ (by omega) (by omega);rw[Int.mul_sub,Int.mul_neg,Int.mul_one];omega
 ·simp only[hx,decide_false]
  have ex:(x.natAbs:Int)=x:=by omega
  rw[ex]at h';exact ⟨fun _=>aa _ _ (by simpa using h') (by simp) (by simp;omega),fun h0=>by simp at h0;omega⟩
theorem divmod_calls (va vb:Value)(x y:Int)(w:World)(hx:IsInt w va x)(hy:IsInt w vb y)(bx:Bd x)(by':Bd y)(hy0:0 < y):Calls prog 177 #[va,vb] w (Int2Post w (x / y) (x % y)):=by
 have q1:=eql_nil;refine zh4 ?_ hx hy bx by';clear bx by';intro HX HY BX BY;obtain ⟨sa,aa,la,ca,rfl⟩:=hx.shape;obtain ⟨sb,ab,lb,cb,rfl⟩:=hy.shape;by_cases hs:aa.isNone=true∧ab.isNone=true∧sa≠ -9223372036854775808
 ·obtain ⟨ha,hb,hm⟩:=hs;obtain ⟨rfl,rfl,rfl,rfl,lo,hi⟩:=hx.of_none ha;obtain ⟨rfl,rfl,rfl,rfl,bj,bi⟩:=hy.of_none hb;exact divmod_small _ _ w (by omega) hi hy0 bi
 ·clear hx hy
  cases ha:aa.isNone with
  | false=>
   clear hs;go_in;go_wp2_with fail;have BA:=hid ((Box.alloc w (w.heap.size) 113 #[.int .i64 sa,.slice aa la ca] (by simp)).new ((((New.refl _).alloc (.cells #[.int .i64 sb,.slice ab lb cb] 113)).alloc (.cells #[.int .i64 0,.slice none 0 0] 113)).alloc (.cells #[.int .i64 0,.slice none 0 0] 113)));have BB:=hid ((Box.alloc (w.alloc (.cells #[.int .i64 sa,.slice aa la ca] 113)) (w.heap.size+1) 113 #[.int .i64 sb,.slice ab lb cb] (by simp)).new (((New.refl _).alloc (.cells #[.int .i64 0,.slice none 0 0] 113)).alloc (.cells #[.int .i64 0,.slice none 0 0] 113)));have BP:=hid ((Box.alloc ((w.alloc (.cells #[.int .i64 sa,.slice aa la ca] 113)).alloc (.cells #[.int .i64 sb,.slice ab lb cb] 113)) (w.heap.size+1+1) 113 #[.int .i64 0,.slice none 0 0] (by simp)).new ((New.refl _).alloc (.cells #[.int .i64 0,.slice none 0 0] 113)));have BQ:=hid ((Box.alloc (((w.alloc (.cells #[.int .i64 sa,.slice aa la ca] 113)).alloc (.cells #[.int .i64 sb,.slice ab lb cb] 113)).alloc (.cells #[.int .i64 0,.slice none 0 0] 113)) (w.heap.size+1+1+1) 113 #[.int .i64 0,.slice none 0 0] (by simp)).new (New.refl _));have HN:=hid (((((New.refl w).alloc (.cells #[.int .i64 sa,.slice aa la ca] 113)).alloc (.cells #[.int .i64 sb,.slice ab lb cb] 113)).alloc (.cells #[.int .i64 0,.slice none 0 0] 113)).alloc (.cells #[.int .i64 0,.slice none 0 0] 113));refine (parts_calls _ x _ (HX.new HN)).mono ?_;rintro e w1 ⟨v1,n1,f1,rfl,hn,hw,hv⟩;have ah:=hid hw;have am:=hid hv;clear hw hv;obtain ⟨HN,BB,BP,BQ⟩:=zn4 hn HN BB.new BP.new BQ.new;clear hn;obtain ⟨b0,b1,b2,b3,b4⟩:=BB.out.two;go_wp2_with fail;clear b0 b1 b2 b3 b4;refine (parts_calls _ y _ (HY.new HN)).mono ?_;rintro e w2 ⟨v2,n2,f2,rfl,hn,hw,hv⟩;have a0:=hid hw;have ar:=hid hv;clear hw hv;obtain ⟨HN,BB,BP,BQ,ah⟩:=zn5 hn HN BB.new BP.new BQ.new ah.new;clear hn;go_wp2_with fail;refine (divide_calls v1 v2 n1 n2 f1 f2 _ (ah.le BX am) ah a0 (wds_pos a0 ar hy0)).mono ?_;rintro e w3 ⟨v3,v4,n3,n4,f3,f4,rfl,hn,ay,az,ai,ao⟩;rw[am.out,ar.out] at ai;rw[ar.out] at ao;obtain ⟨ap,aq⟩:=signed_div hy0 ai ao;obtain ⟨zq,aj⟩:∃ z,signed (decide (x < 0)) (vf W64 f3 n3)=z:=⟨_,rfl⟩;obtain ⟨zr,ak⟩:∃ z,signed (decide (x < 0)) (vf W64 f4 n4)=z:=⟨_,rfl⟩;have aw:Bd zq:=BX.out.le (by rw[←aj,natAbs_signed,←ai];exact Nat.le_trans (Nat.le_mul_of_pos_right _ (by omega)) (Nat.le_add_right _ _));have ax:Bd zr:=BY.out.le (by rw[←ak,natAbs_signed];omega);rw[aj,ak] at ap aq;clear ai ao ah a0 am ar;refine zh8 ?_ aw ax ay az ap aq aj ak;clear aw ax ay az ap aq aj ak;intro a2 a7 a8 an bb bc a9 ba;obtain ⟨HN,BB,BP,BQ⟩:=zn4 hn HN BB.new BP.new BQ.new;clear hn;go_wp2_with fail;refine zO (made_calls _ v3 n3 f3 _ a8) fun w4 s3 a3 l3 k3 hn hi=>?_;rw[a9.out] at hi;have ac:=hid hi;clear hi;obtain ⟨HN,BB,BP,BQ,an⟩:=zn5 hn HN BB.new BP.new BQ.new an.new;clear hn;go_wp2_with fail;refine zO (made_calls _ v4 n4 f4 _ an) fun w5 s4 a4 l4 k4 hn hi=>?_;rw[ba.out] at hi;have ad:=hid hi;clear hi;obtain ⟨HN,BB,BP,BQ,ac⟩:=zn5 hn HN BB.new BP.new BQ.new ac.new;clear hn;go_wp2_with fail;have au:=HN;have bh:=BQ.out.lt;clear HN;obtain ⟨B3,B4,HN⟩:=lay2 w5 113 #[.int .i64 s3,.slice a3 l3 k3] 113 #[.int .i64 s4,.slice a4 l4 k4];obtain ⟨BB,BP,BQ,ac,ad⟩:=zm5 HN BB.new BP.new BQ.new ac.new ad.new;have av:=au.out.trans HN.out;clear HN au;have HN:=hid av;clear av;refine zM (sign_calls _ zr _ ad) fun w6 hn=>?_;obtain ⟨HN,BB,BP,BQ,ac,ad,B3,B4⟩:=zn8 hn HN BB.new BP.new BQ.new ac.new ad.new B3.new B4.new;clear hn;by_cases ae:zr < 0
   ·obtain ⟨t,ht,be⟩:∃ t,zr.sign=t∧t < 0:=⟨_,rfl,by rw[Int.sign_eq_neg_one_of_neg ae];omega⟩;rw[ht];have af:=bc.out ae;clear ht;have ag:=hid af;have a1:=hid ae;clear af ae;obtain ⟨c0,c1,c2,c3,c4⟩:=B3.out.two;obtain ⟨d0,d1,d2,d3,d4⟩:=B4.out.two;obtain ⟨b0,b1,b2,b3,b4⟩:=BB.out.two;go_wp2_with fail;clear c0 c1 c2 c3 c4;clear d0 d1 d2 d3 d4;clear b0 b1 b2 b3 b4;refine zR 6 8 (fun W=>zI W w5.heap.size s3 a3 l3 k3∧zI W (w5.heap.size+1) s4 a4 l4 k4∧zI W (w.heap.size+1) sb ab lb cb) ?_;refine zT 0 ⟨cW2 B3,cW2 B4,cW2 BB⟩ ?_;refine zT 3 ⟨cW2 B3,cW2 B4,cW2 BB⟩ ?_;refine zT 4 ⟨cW2 B3,cW2 B4,cW2 BB⟩ ?_;refine tk1 1 fun K hK=>?_;go_simp;refine zM (of_calls 1 _) fun w7 hn=>?_;obtain ⟨HN,BB,BP,BQ,ac,ad,B3,B4⟩:=zn8 hn.undrew HN BB.new BP.new BQ.new ac.new ad.new B3.new B4.new;clear hn;refine zK hK ⟨cW2 B3,cW2 B4,cW2 BB⟩ ?_;clear hK K;refine tk1 2 fun K hK=>?_;go_simp;refine zO (sub_calls _ _ zq 1 _ ac (.small rfl (by omega) (by omega)) a2 (.small (by omega) (by omega))) fun w8 s5 a5 l5 k5 hn hi=>?_;have al:=hid hi;clear hi;obtain ⟨HN,BB,BP,BQ,ac,ad,B3,B4⟩:=zn8 hn HN BB.new BP.new BQ.new ac.new ad.new B3.new B4.new;clear hn;refine zK hK ⟨cW2 B3,cW2 B4,cW2 BB⟩ ?_;clear hK K;refine tk1 5 fun K hK=>?_;go_simp;refine zO (add_calls _ _ zr y _ ad (HY.new HN) a7 BY) fun w9 s6 a6 l6 k6 hn hi=>?_;have bf:=hid hi;clear hi;obtain ⟨HN,BB,BP,BQ,al,B3,B4⟩:=zn7 hn HN BB.new BP.new BQ.new al.new B3.new B4.new;clear hn;refine zK hK ⟨cW2 B3,cW2 B4,cW2 BB⟩ ?_;clear hK K;refine tlW ?_;obtain ⟨c0,c1,c2,c3,c4⟩:=B3.out.two;obtain ⟨d0,d1,d2,d3,d4⟩:=B4.out.two;obtain ⟨b0,b1,b2,b3,b4⟩:=BB.out.two
    have bg:w5.heap.size≠w5.heap.size+1:=by omega
    obtain ⟨p0,p1,p2,p3,p4⟩:=BP.out.two;obtain ⟨q0,q1,q2,q3,q4⟩:=BQ.out.two;go_wp2_with fail
    go_region
    go_wp2_with fail;refine bodyPost_ret (v:=.tuple #[.agg #[.int .i64 s5,.slice a5 l5 k5],.agg #[.int .i64 s6,.slice a6 l6 k6]]) (by simp[results,results177,go_sem,p0,p1,q0,q1]) rfl ?_;rw[←ag.out.1,←ag.out.2]
    exact (stored_two ((HN.put2 (by omega) _ _).put2 (by omega) _ _) ((BP.other2 (by omega) _ _).other2 (by omega) _ _) ((BQ.other2 (by omega) _ _).other2 (by omega) _ _) (by omega) (by omega) (by omega)
     ((al.out.put2 B3.out _ _ _ _).put2 (B4.out.other2 (by omega) _ _) _ _ _ _) ((bf.out.put2 B3.out _ _ _ _).put2 (B4.out.other2 (by omega) _ _) _ _ _ _)).drew
   ·obtain ⟨t,ht,be⟩:∃ t,zr.sign=t∧0≤t:=⟨_,rfl,Int.sign_nonneg_iff.2 (by omega)⟩;rw[ht];have af:=bb.out (by omega);clear ht;have ag:=hid af;have a1:=hid ae;clear af ae;obtain ⟨c0,c1,c2,c3,c4⟩:=B3.out.two;obtain ⟨d0,d1,d2,d3,d4⟩:=B4.out.two;obtain ⟨b0,b1,b2,b3,b4⟩:=BP.out.two;obtain ⟨e0,e1,e2,e3,e4⟩:=BQ.out.two;go_wp2_with fail
    go_region
    go_wp2_with fail
    all_goals
     refine bodyPost_ret (v:=.tuple #[.agg #[.int .i64 s3,.slice a3 l3 k3],.agg #[.int .i64 s4,.slice a4 l4 k4]]) (by simp[results,results177,go_sem,b0,b1,e0,e1]) rfl ?_;rw[←ag.out.1,←ag.out.2];exact (stored_two HN BP BQ (by omega) (by omega) (by omega) ac ad).drew
  | true=>
   cases hb:ab.isNone with
   | false=>
    clear hs;go_in;go_wp2_with fail;have BA:=hid ((Box.alloc w (w.heap.size) 113 #[.int .i64 sa,.slice aa la ca] (by simp)).new ((((New.refl _).alloc (.cells #[.int .i64 sb,.slice ab lb cb] 113)).alloc (.cells #[.int .i64 0,.slice none 0 0] 113)).alloc (.cells #[.int .i64 0,.slice none 0 0] 113)));have BB:=hid ((Box.alloc (w.alloc (.cells #[.int .i64 sa,.slice aa la ca] 113)) (w.heap.size+1) 113 #[.int .i64 sb,.slice ab lb cb] (by simp)).new (((New.refl _).alloc (.cells #[.int .i64 0,.slice none 0 0] 113)).alloc (.cells #[.int .i64 0,.slice none 0 0] 113)));have BP:=hid ((Box.alloc ((w.alloc (.cells #[.int .i64 sa,.slice aa la ca] 113)).alloc (.cells #[.int .i64 sb,.slice ab lb cb] 113)) (w.heap.size+1+1) 113 #[.int .i64 0,.slice none 0 0] (by simp)).new ((New.refl _).alloc (.cells #[.int .i64 0,.slice none 0 0] 113)));have BQ:=hid ((Box.alloc (((w.alloc (.cells #[.int .i64 sa,.slice aa la ca] 113)).alloc (.cells #[.int .i64 sb,.slice ab lb cb] 113)).alloc (.cells #[.int .i64 0,.slice none 0 0] 113)) (w.heap.size+1+1+1) 113 #[.int .i64 0,.slice none 0 0] (by simp)).new (New.refl _));have HN:=hid (((((New.refl w).alloc (.cells #[.int .i64 sa,.slice aa la ca] 113)).alloc (.cells #[.int .i64 sb,.slice ab lb cb] 113)).alloc (.cells #[.int .i64 0,.slice none 0 0] 113)).alloc (.cells #[.int .i64 0,.slice none 0 0] 113));refine (parts_calls _ x _ (HX.new HN)).mono ?_;rintro e w1 ⟨v1,n1,f1,rfl,hn,hw,hv⟩;have ah:=hid hw;have am:=hid hv;clear hw hv;obtain ⟨HN,BB,BP,BQ⟩:=zn4 hn HN BB.new BP.new BQ.new;clear hn;obtain ⟨b0,b1,b2,b3,b4⟩:=BB.out.two;go_wp2_with fail;clear b0 b1 b2 b3 b4;refine (parts_calls _ y _ (HY.new HN)).mono ?_;rintro e w2 ⟨v2,n2,f2,rfl,hn,hw,hv⟩;have a0:=hid hw;have ar:=hid hv;clear hw hv;obtain ⟨HN,BB,BP,BQ,ah⟩:=zn5 hn HN BB.new BP.new BQ.new ah.new;clear hn;go_wp2_with fail;refine (divide_calls v1 v2 n1 n2 f1 f2 _ (ah.le BX am) ah a0 (wds_pos a0 ar hy0)).mono ?_;rintro e w3 ⟨v3,v4,n3,n4,f3,f4,rfl,hn,ay,az,ai,ao⟩;rw[am.out,ar.out] at ai;rw[ar.out] at ao;obtain ⟨ap,aq⟩:=signed_div hy0 ai ao;obtain ⟨zq,aj⟩:∃ z,signed (decide (x < 0)) (vf W64 f3 n3)=z:=⟨_,rfl⟩;obtain ⟨zr,ak⟩:∃ z,signed (decide (x < 0)) (vf W64 f4 n4)=z:=⟨_,rfl⟩;have aw:Bd zq:=BX.out.le (by rw[←aj,natAbs_signed,←ai];exact Nat.le_trans (Nat.le_mul_of_pos_right _ (by omega)) (Nat.le_add_right _ _));have ax:Bd zr:=BY.out.le (by rw[←ak,natAbs_signed];omega);rw[aj,ak] at ap aq;clear ai ao ah a0 am ar;refine zh8 ?_ aw ax ay az ap aq aj ak;clear aw ax ay az ap aq aj ak;intro a2 a7 a8 an bb bc a9 ba;obtain ⟨HN,BB,BP,BQ⟩:=zn4 hn HN BB.new BP.new BQ.new;clear hn;go_wp2_with fail;refine zO (made_calls _ v3 n3 f3 _ a8) fun w4 s3 a3 l3 k3 hn hi=>?_;rw[a9.out] at hi;have ac:=hid hi;clear hi;obtain ⟨HN,BB,BP,BQ,an⟩:=zn5 hn HN BB.new BP.new BQ.new an.new;clear hn;go_wp2_with fail;refine zO (made_calls _ v4 n4 f4 _ an) fun w5 s4 a4 l4 k4 hn hi=>?_;rw[ba.out] at hi;have ad:=hid hi;clear hi;obtain ⟨HN,BB,BP,BQ,ac⟩:=zn5 hn HN BB.new BP.new BQ.new ac.new;clear hn;go_wp2_with fail;have au:=HN;have bh:=BQ.out.lt;clear HN;obtain ⟨B3,B4,HN⟩:=lay2 w5 113 #[.int .i64 s3,.slice a3 l3 k3] 113 #[.int .i64 s4,.slice a4 l4 k4];obtain ⟨BB,BP,BQ,ac,ad⟩:=zm5 HN BB.new BP.new BQ.new ac.new ad.new;have av:=au.out.trans HN.out;clear HN au;have HN:=hid av;clear av;refine zM (sign_calls _ zr _ ad) fun w6 hn=>?_;obtain ⟨HN,BB,BP,BQ,ac,ad,B3,B4⟩:=zn8 hn HN BB.new BP.new BQ.new ac.new ad.new B3.new B4.new;clear hn;by_cases ae:zr < 0
    ·obtain ⟨t,ht,be⟩:∃ t,zr.sign=t∧t < 0:=⟨_,rfl,by rw[Int.sign_eq_neg_one_of_neg ae];omega⟩;rw[ht];have af:=bc.out ae;clear ht;have ag:=hid af;have a1:=hid ae;clear af ae;obtain ⟨c0,c1,c2,c3,c4⟩:=B3.out.two;obtain ⟨d0,d1,d2,d3,d4⟩:=B4.out.two;obtain ⟨b0,b1,b2,b3,b4⟩:=BB.out.two;go_wp2_with fail;clear c0 c1 c2 c3 c4;clear d0 d1 d2 d3 d4;clear b0 b1 b2 b3 b4;refine zR 6 8 (fun W=>zI W w5.heap.size s3 a3 l3 k3∧zI W (w5.heap.size+1) s4 a4 l4 k4∧zI W (w.heap.size+1) sb ab lb cb) ?_;refine zT 0 ⟨cW2 B3,cW2 B4,cW2 BB⟩ ?_;refine zT 3 ⟨cW2 B3,cW2 B4,cW2 BB⟩ ?_;refine zT 4 ⟨cW2 B3,cW2 B4,cW2 BB⟩ ?_;refine tk1 1 fun K hK=>?_;go_simp;refine zM (of_calls 1 _) fun w7 hn=>?_;obtain ⟨HN,BB,BP,BQ,ac,ad,B3,B4⟩:=zn8 hn.undrew HN BB.new BP.new BQ.new ac.new ad.new B3.new B4.new;clear hn;refine zK hK ⟨cW2 B3,cW2 B4,cW2 BB⟩ ?_;clear hK K;refine tk1 2 fun K hK=>?_;go_simp;refine zO (sub_calls _ _ zq 1 _ ac (.small rfl (by omega) (by omega)) a2 (.small (by omega) (by omega))) fun w8 s5 a5 l5 k5 hn hi=>?_;have al:=hid hi;clear hi;obtain ⟨HN,BB,BP,BQ,ac,ad,B3,B4⟩:=zn8 hn HN BB.new BP.new BQ.new ac.new ad.new B3.new B4.new;clear hn;refine zK hK ⟨cW2 B3,cW2 B4,cW2 BB⟩ ?_;clear hK K;refine tk1 5 fun K hK=>?_;go_simp;refine zO (add_calls _ _ zr y _ ad (HY.new HN) a7 BY) fun w9 s6 a6 l6 k6 hn hi=>?_;have bf:=hid hi;clear hi;obtain ⟨HN,BB,BP,BQ,al,B3,B4⟩:=zn7 hn HN BB.new BP.new BQ.new al.new B3.new B4.new;clear hn;refine zK hK ⟨cW2 B3,cW2 B4,cW2 BB⟩ ?_;clear hK K;refine tlW ?_;obtain ⟨c0,c1,c2,c3,c4⟩:=B3.out.two;obtain ⟨d0,d1,d2,d3,d4⟩:=B4.out.two;obtain ⟨b0,b1,b2,b3,b4⟩:=BB.out.two
     have bg:w5.heap.size≠w5.heap.size+1:=by omega
     obtain ⟨p0,p1,p2,p3,p4⟩:=BP.out.two;obtain ⟨q0,q1,q2,q3,q4⟩:=BQ.out.two;go_wp2_with fail
     go_region
     go_wp2_with fail;refine bodyPost_ret (v:=.tuple #[.agg #[.int .i64 s5,.slice a5 l5 k5],.agg #[.int .i64 s6,.slice a6 l6 k6]]) (by simp[results,results177,go_sem,p0,p1,q0,q1]) rfl ?_;rw[←ag.out.1,←ag.out.2]
     exact (stored_two ((HN.put2 (by omega) _ _).put2 (by omega) _ _) ((BP.other2 (by omega) _ _).other2 (by omega) _ _) ((BQ.other2 (by omega) _ _).other2 (by omega) _ _) (by omega) (by omega) (by omega)
      ((al.out.put2 B3.out _ _ _ _).put2 (B4.out.other2 (by omega) _ _) _ _ _ _) ((bf.out.put2 B3.out _ _ _ _).put2 (B4.out.other2 (by omega) _ _) _ _ _ _)).drew
    ·obtain ⟨t,ht,be⟩:∃ t,zr.sign=t∧0≤t:=⟨_,rfl,Int.sign_nonneg_iff.2 (by omega)⟩;rw[ht];have af:=bb.out (by omega);clear ht;have ag:=hid af;have a1:=hid ae;clear af ae;obtain ⟨c0,c1,c2,c3,c4⟩:=B3.out.two;obtain ⟨d0,d1,d2,d3,d4⟩:=B4.out.two;obtain ⟨b0,b1,b2,b3,b4⟩:=BP.out.two;obtain ⟨e0,e1,e2,e3,e4⟩:=BQ.out.two;go_wp2_with fail
     go_region
     go_wp2_with fail
     all_goals
      refine bodyPost_ret (v:=.tuple #[.agg #[.int .i64 s3,.slice a3 l3 k3],.agg #[.int .i64 s4,.slice a4 l4 k4]]) (by simp[results,results177,go_sem,b0,b1,e0,e1]) rfl ?_;rw[←ag.out.1,←ag.out.2];exact (stored_two HN BP BQ (by omega) (by omega) (by omega) ac ad).drew
   | true=>
    have hm:(sa != -9223372036854775808)=false:=by
     have:sa= -9223372036854775808:=Decidable.byContradiction fun h=>hs ⟨ha,hb,h⟩;simpa using this
    clear hs;go_in;go_wp2_with fail;have BA:=hid ((Box.alloc w (w.heap.size) 113 #[.int .i64 sa,.slice aa la ca] (by simp)).new ((((New.refl _).alloc (.cells #[.int .i64 sb,.slice ab lb cb] 113)).alloc (.cells #[.int .i64 0,.slice none 0 0] 113)).alloc (.cells #[.int .i64 0,.slice none 0 0] 113)));have BB:=hid ((Box.alloc (w.alloc (.cells #[.int .i64 sa,.slice aa la ca] 113)) (w.heap.size+1) 113 #[.int .i64 sb,.slice ab lb cb] (by simp)).new (((New.refl _).alloc (.cells #[.int .i64 0,.slice none 0 0] 113)).alloc (.cells #[.int .i64 0,.slice none 0 0] 113)));have BP:=hid ((Box.alloc ((w.alloc (.cells #[.int .i64 sa,.slice aa la ca] 113)).alloc (.cells #[.int .i64 sb,.slice ab lb cb] 113)) (w.heap.size+1+1) 113 #[.int .i64 0,.slice none 0 0] (by simp)).new ((New.refl _).alloc (.cells #[.int .i64 0,.slice none 0 0] 113)));have BQ:=hid ((Box.alloc (((w.alloc (.cells #[.int .i64 sa,.slice aa la ca] 113)).alloc (.cells #[.int .i64 sb,.slice ab lb cb] 113)).alloc (.cells #[.int .i64 0,.slice none 0 0] 113)) (w.heap.size+1+1+1) 113 #[.int .i64 0,.slice none 0 0] (by simp)).new (New.refl _));have HN:=hid (((((New.refl w).alloc (.cells #[.int .i64 sa,.slice aa la ca] 113)).alloc (.cells #[.int .i64 sb,.slice ab lb cb] 113)).alloc (.cells #[.int .i64 0,.slice none 0 0] 113)).alloc (.cells #[.int .i64 0,.slice none 0 0] 113));refine (parts_calls _ x _ (HX.new HN)).mono ?_;rintro e w1 ⟨v1,n1,f1,rfl,hn,hw,hv⟩;have ah:=hid hw;have am:=hid hv;clear hw hv;obtain ⟨HN,BB,BP,BQ⟩:=zn4 hn HN BB.new BP.new BQ.new;clear hn;obtain ⟨b0,b1,b2,b3,b4⟩:=BB.out.two;go_wp2_with fail;clear b0 b1 b2 b3 b4;refine (parts_calls _ y _ (HY.new HN)).mono ?_;rintro e w2 ⟨v2,n2,f2,rfl,hn,hw,hv⟩;replace hw:=hid hw;replace hv:=hid hv;obtain ⟨HN,BB,BP,BQ,ah⟩:=zn5 hn HN BB.new BP.new BQ.new ah.new;clear hn;go_wp2_with fail;refine (divide_calls v1 v2 n1 n2 f1 f2 _ (ah.le BX am) ah hw (wds_pos hw hv hy0)).mono ?_;rintro e w3 ⟨v3,v4,n3,n4,f3,f4,rfl,hn,ay,az,ai,ao⟩;rw[am.out,hv.out] at ai;rw[hv.out] at ao;obtain ⟨ap,aq⟩:=signed_div hy0 ai ao;obtain ⟨zq,aj⟩:∃ z,signed (decide (x < 0)) (vf W64 f3 n3)=z:=⟨_,rfl⟩;obtain ⟨zr,ak⟩:∃ z,signed (decide (x < 0)) (vf W64 f4 n4)=z:=⟨_,rfl⟩;have aw:Bd zq:=BX.out.le (by rw[←aj,natAbs_signed,←ai];exact Nat.le_trans (Nat.le_mul_of_pos_right _ (by omega)) (Nat.le_add_right _ _));have ax:Bd zr:=BY.out.le (by rw[←ak,natAbs_signed];omega);rw[aj,ak] at ap aq;clear ai ao ah hw am hv;refine zh8 ?_ aw ax ay az ap aq aj ak;clear aw ax ay az ap aq aj ak;intro a2 a7 a8 an bb bc a9 ba;obtain ⟨HN,BB,BP,BQ⟩:=zn4 hn HN BB.new BP.new BQ.new;clear hn;go_wp2_with fail;refine zO (made_calls _ v3 n3 f3 _ a8) fun w4 s3 a3 l3 k3 hn hi=>?_;rw[a9.out] at hi;have ac:=hid hi;clear hi;obtain ⟨HN,BB,BP,BQ,an⟩:=zn5 hn HN BB.new BP.new BQ.new an.new;clear hn;go_wp2_with fail;refine zO (made_calls _ v4 n4 f4 _ an) fun w5 s4 a4 l4 k4 hn hi=>?_;rw[ba.out] at hi;have ad:=hid hi;clear hi;obtain ⟨HN,BB,BP,BQ,ac⟩:=zn5 hn HN BB.new BP.new BQ.new ac.new;clear hn;go_wp2_with fail;have au:=HN;have bh:=BQ.out.lt;clear HN;obtain ⟨B3,B4,HN⟩:=lay2 w5 113 #[.int .i64 s3,.slice a3 l3 k3] 113 #[.int .i64 s4,.slice a4 l4 k4];obtain ⟨BB,BP,BQ,ac,ad⟩:=zm5 HN BB.new BP.new BQ.new ac.new ad.new;have av:=au.out.trans HN.out;clear HN au;have HN:=hid av;clear av;refine zM (sign_calls _ zr _ ad) fun w6 hn=>?_;obtain ⟨HN,BB,BP,BQ,ac,ad,B3,B4⟩:=zn8 hn HN BB.new BP.new BQ.new ac.new ad.new B3.new B4.new;clear hn;by_cases ae:zr < 0
    ·obtain ⟨t,ht,be⟩:∃ t,zr.sign=t∧t < 0:=⟨_,rfl,by rw[Int.sign_eq_neg_one_of_neg ae];omega⟩;rw[ht];have af:=bc.out ae;clear ht;have ag:=hid af;have a1:=hid ae;clear af ae;have c:=B3.out.two;have d:=B4.out.two;have b:=BB.out.two;go_wp2_with fail;clear c;clear d;clear b;refine zR 6 8 (fun W=>zI W w5.heap.size s3 a3 l3 k3∧zI W (w5.heap.size+1) s4 a4 l4 k4∧zI W (w.heap.size+1) sb ab lb cb) ?_;refine zT 0 ⟨cW2 B3,cW2 B4,cW2 BB⟩ ?_;refine zT 3 ⟨cW2 B3,cW2 B4,cW2 BB⟩ ?_;refine zT 4 ⟨cW2 B3,cW2 B4,cW2 BB⟩ ?_;refine tk1 1 fun K hK=>?_;go_simp;refine zM (of_calls 1 _) fun w7 hn=>?_;obtain ⟨HN,BB,BP,BQ,ac,ad,B3,B4⟩:=zn8 hn.undrew HN BB.new BP.new BQ.new ac.new ad.new B3.new B4.new;clear hn;refine zK hK ⟨cW2 B3,cW2 B4,cW2 BB⟩ ?_;clear hK K;refine tk1 2 fun K hK=>?_;go_simp;refine zO (sub_calls _ _ zq 1 _ ac (.small rfl (by omega) (by omega)) a2 (.small (by omega) (by omega))) fun w8 s5 a5 l5 k5 hn hi=>?_;have al:=hid hi;clear hi;obtain ⟨HN,BB,BP,BQ,ac,ad,B3,B4⟩:=zn8 hn HN BB.new BP.new BQ.new ac.new ad.new B3.new B4.new;clear hn;refine zK hK ⟨cW2 B3,cW2 B4,cW2 BB⟩ ?_;clear hK K;refine tk1 5 fun K hK=>?_;go_simp;refine zO (add_calls _ _ zr y _ ad (HY.new HN) a7 BY) fun w9 s6 a6 l6 k6 hn hi=>?_;replace hi:=hid hi;obtain ⟨HN,BB,BP,BQ,al,B3,B4⟩:=zn7 hn HN BB.new BP.new BQ.new al.new B3.new B4.new;clear hn;refine zK hK ⟨cW2 B3,cW2 B4,cW2 BB⟩ ?_;clear hK K;refine tlW ?_;obtain ⟨c0,c1,c2,c3,c4⟩:=B3.out.two;obtain ⟨d0,d1,d2,d3,d4⟩:=B4.out.two;obtain ⟨b0,b1,b2,b3,b4⟩:=BB.out.two
     have bg:w5.heap.size≠w5.heap.size+1:=by omega
     obtain ⟨p0,p1,p2,p3,p4⟩:=BP.out.two;obtain ⟨q0,q1,q2,q3,q4⟩:=BQ.out.two;go_wp2_with fail
     go_region
     go_wp2_with fail;refine bodyPost_ret (v:=.tuple #[.agg #[.int .i64 s5,.slice a5 l5 k5],.agg #[.int .i64 s6,.slice a6 l6 k6]]) (by simp[results,results177,go_sem,p0,p1,q0,q1]) rfl ?_;rw[←ag.out.1,←ag.out.2]
     exact (stored_two ((HN.put2 (by omega) _ _).put2 (by omega) _ _) ((BP.other2 (by omega) _ _).other2 (by omega) _ _) ((BQ.other2 (by omega) _ _).other2 (by omega) _ _) (by omega) (by omega) (by omega)
      ((al.out.put2 B3.out _ _ _ _).put2 (B4.out.other2 (by omega) _ _) _ _ _ _) ((hi.out.put2 B3.out _ _ _ _).put2 (B4.out.other2 (by omega) _ _) _ _ _ _)).drew
    ·obtain ⟨t,ht,be⟩:∃ t,zr.sign=t∧0≤t:=⟨_,rfl,Int.sign_nonneg_iff.2 (by omega)⟩;rw[ht];have af:=bb.out (by omega);clear ht;replace af:=hid af;replace ae:=hid ae;obtain ⟨c0,c1,c2,c3,c4⟩:=B3.out.two;obtain ⟨d0,d1,d2,d3,d4⟩:=B4.out.two;obtain ⟨b0,b1,b2,b3,b4⟩:=BP.out.two;obtain ⟨e0,e1,e2,e3,e4⟩:=BQ.out.two;go_wp2_with fail
     go_region
     go_wp2_with fail
     all_goals
      refine bodyPost_ret (v:=.tuple #[.agg #[.int .i64 s3,.slice a3 l3 k3],.agg #[.int .i64 s4,.slice a4 l4 k4]]) (by simp[results,results177,go_sem,b0,b1,e0,e1]) rfl ?_;rw[←af.out.1,←af.out.2];exact (stored_two HN BP BQ (by omega) (by omega) (by omega) ac ad).drew
def quo (x y:Int):Int:=if y < 0 then -x / -y else x / y
theorem quo_calls (va vb:Value)(x y:Int)(w:World)(hx:IsInt w va x)(hy:IsInt w vb y)(bx:Bd x)(by':Bd y)(hy0:y≠0):Calls prog 180 #[va,vb] w (IntPost w (quo x y)):=by
 obtain ⟨sa,aa,la,ca,rfl⟩:=hx.shape;obtain ⟨sb,ab,lb,cb,rfl⟩:=hy.shape;obtain ⟨z,hz⟩:∃ z,quo x y=z:=⟨_,rfl⟩;rw[hz];have an:∀ w' v,New w w'→IsInt w' v z→IntPost w z (.returned v) w':=fun w' v h1 h2=>⟨v,rfl,h1,h2⟩;refine zh6 ?_ hx hy bx by' an hz;clear hx hy bx by' an hz;intro HX HY BX BY am HZ;by_cases hneg:y < 0
 ·obtain ⟨t,ht,ax⟩:∃ t,y.sign=t∧t < 0:=⟨_,rfl,by rw[Int.sign_eq_neg_one_of_neg hneg];omega⟩;go_in;go_wp2_with fail;obtain ⟨BA,BB,BP,HN⟩:=lay3 w 113 #[.int .i64 sa,.slice aa la ca] 113 #[.int .i64 sb,.slice ab lb cb] 113 #[.int .i64 0,.slice none 0 0];refine zM (sign_calls _ y _ (HY.new HN)) fun w4 hn=>?_;rw[ht];clear ht;obtain ⟨HN,BA,BB,BP⟩:=zn4 hn HN BA.new BB.new BP.new;clear hn;have a:=BA.out.two;have b:=BB.out.two;go_wp2_with fail;clear a;clear b;refine zR 4 6 (fun W=>zI W w.heap.size sa aa la ca∧zI W (w.heap.size+1) sb ab lb cb) ?_;refine zT 0 ⟨cW2 BA,cW2 BB⟩ ?_;refine zT 2 ⟨cW2 BA,cW2 BB⟩ ?_;refine tk1 1 fun K hK=>?_;go_simp;refine zO (neg_calls _ x _ (HX.new HN.drew)) fun w5 s5 a5 l5 k5 hn hi=>?_;have hn:=hn.undrew;have ac:=hid hi;clear hi;obtain ⟨HN,BA,BB,BP⟩:=zn4 hn HN BA.new BB.new BP.new;clear hn;refine zK hK ⟨cW2 BA,cW2 BB⟩ ?_;clear hK K;refine tk1 3 fun K hK=>?_;go_simp;refine zO (neg_calls _ y _ (HY.new HN)) fun w6 s6 a6 l6 k6 hn hi=>?_;have ag:=hid hi;clear hi;obtain ⟨HN,BA,BB,BP,ac⟩:=zn5 hn HN BA.new BB.new BP.new ac.new;clear hn;refine zK hK ⟨cW2 BA,cW2 BB⟩ ?_;clear hK K;refine tlW ?_;have a:=BA.out.two;have b:=BB.out.two;go_wp2_with fail;clear a b;have ai:=BB.out.away BA.out (by omega) (.int .i64 s5) (.slice a5 l5 k5);have aj:=BP.out.away BA.out (by omega) (.int .i64 s5) (.slice a5 l5 k5);have ad:=ac.out.put2 BA.out s5 a5 l5 k5;have ae:=ag.out.put2 BA.out s5 a5 l5 k5;have ak:=HN.out.putAt BA.out (by omega) (.int .i64 s5) (.slice a5 l5 k5);have ah:=BA.out.put2 (.int .i64 s5) (.slice a5 l5 k5);clear BB BP ac ag HN BA;refine zh6 ?_ ai aj ad ae ak ah;clear ai aj ad ae ak ah;intro BB BP ac ag HN BA;have ah:=BA.out.away BB.out (by omega) (.int .i64 s6) (.slice a6 l6 k6);have aj:=BP.out.away BB.out (by omega) (.int .i64 s6) (.slice a6 l6 k6);have ad:=ac.out.put2 BB.out s6 a6 l6 k6;have ae:=ag.out.put2 BB.out s6 a6 l6 k6;have ak:=HN.out.putAt BB.out (by omega) (.int .i64 s6) (.slice a6 l6 k6);have ai:=BB.out.put2 (.int .i64 s6) (.slice a6 l6 k6);clear BA BP ac ag HN BB;refine zh6 ?_ ah aj ad ae ak ai;clear ah aj ad ae ak ai;intro BA BP ac ag HN BB;have au:=BX.out.neg;have av:=BY.out.neg;have ao:=hid au;have ap:=hid av;clear au av;refine (divmod_calls _ _ (-x) (-y) _ ac ag ao ap (by omega)).mono ?_;rintro e w9 ⟨v7,v8,rfl,hn,af,al⟩;obtain ⟨s7,a7,l7,k7,rfl⟩:=af.shape;obtain ⟨s8,a8,l8,k8,rfl⟩:=al.shape;have aw:=hid af;clear af;obtain ⟨HN,BP⟩:=zn2 hn HN BP.new;clear hn;obtain ⟨p0,p1,p2,p3,p4⟩:=BP.out.two;clear al;have p5:=Nat.lt_add_right 1 p4;go_wp2_with fail;refine bodyPost_ret (v:=.agg #[.int .i64 s7,.slice a7 l7 k7]) (by simp[results,results180,go_sem,p0,p1,p4,p5]) rfl ?_;refine am _ _ (((HN.putAt BP (by omega) _ _).alloc _).alloc _) ?_;rw[←HZ.out];unfold quo;rw[if_pos hneg];exact (aw.put2 BP _ _ _ _).new (((New.refl _).alloc _).alloc _)
 ·obtain ⟨t,ht,ax⟩:∃ t,y.sign=t∧0≤t:=⟨_,rfl,Int.sign_nonneg_iff.2 (by omega)⟩;go_in;go_wp2_with fail;obtain ⟨BA,BB,BP,HN⟩:=lay3 w 113 #[.int .i64 sa,.slice aa la ca] 113 #[.int .i64 sb,.slice ab lb cb] 113 #[.int .i64 0,.slice none 0 0];refine zM (sign_calls _ y _ (HY.new HN)) fun w4 hn=>?_;rw[ht];clear ht;obtain ⟨HN,BA,BB,BP⟩:=zn4 hn HN BA.new BB.new BP.new;clear hn;have aq:=HX.out.new HN.out;have ar:=HY.out.new HN.out;have ao:=BX;have ap:=BY;replace aq:=hid aq;replace ar:=hid ar;have a:=BA.out.two;have b:=BB.out.two;go_wp2_with fail;clear a b;refine (divmod_calls _ _ x y _ aq ar ao ap (by omega)).mono ?_;rintro e w9 ⟨v7,v8,rfl,hn,af,al⟩;obtain ⟨s7,a7,l7,k7,rfl⟩:=af.shape;obtain ⟨s8,a8,l8,k8,rfl⟩:=al.shape;replace af:=hid af;obtain ⟨HN,BP⟩:=zn2 hn HN BP.new;clear hn;obtain ⟨p0,p1,p2,p3,p4⟩:=BP.out.two;clear al;have p5:=Nat.lt_add_right 1 p4;go_wp2_with fail;refine bodyPost_ret (v:=.agg #[.int .i64 s7,.slice a7 l7 k7]) (by simp[results,results180,go_sem,p0,p1,p4,p5]) rfl ?_;refine am _ _ (((HN.putAt BP (by omega) _ _).alloc _).alloc _) ?_;rw[←HZ.out];unfold quo;rw[if_neg (by omega)];exact (af.put2 BP _ _ _ _).new (((New.refl _).alloc _).alloc _)
def GcdRel (w:World)(g k:Nat)(wr:World):Prop:=∃ (a:Nat) (s1 s2:Int) (a1 a2:Option Addr) (l1 k1 l2 k2:Nat),
 New w wr∧Box wr w.heap.size 113 #[.int .i64 s1,.slice a1 l1 k1]∧Box wr (w.heap.size+1) 113 #[.int .i64 s2,.slice a2 l2 k2]∧
 Box wr (w.heap.size+1+1) 113 #[.int .i64 0,.slice none 0 0]∧
 IsInt wr (.agg #[.int .i64 s1,.slice a1 l1 k1]) a∧IsInt wr (.agg #[.int .i64 s2,.slice a2 l2 k2]) k∧Bd a∧Bd k∧Nat.gcd a k=g
theorem Bd.natAbs {z:Int}(h:Bd z):Bd (z.natAbs:Int):=h.le (by simp)
theorem gcd_calls (va vb:Value)(x y:Int)(w:World)(hx:IsInt w va x)(hy:IsInt w vb y)(bx:Bd x)(by':Bd y):Calls prog 158 #[va,vb] w (IntPost w (Int.gcd x y)):=by
 obtain ⟨sa,aa,la,ca,rfl⟩:=hx.shape;obtain ⟨sb,ab,lb,cb,rfl⟩:=hy.shape;have aq:∀ w' v,New w w'→IsInt w' v (Int.gcd x y)→IntPost w (Int.gcd x y) (.returned v) w':=fun w' v h1 h2=>⟨v,rfl,h1,h2⟩;obtain ⟨g,hg⟩:∃ g,Int.gcd x y=g:=⟨_,rfl⟩;rw[hg] at aq⊢;refine zh6 ?_ hx hy bx by' aq hg;clear hx hy bx by' aq hg;intro HX HY BX BY au HG;go_in;go_wp2_with fail;obtain ⟨BA,BB,BP,HN⟩:=lay3 w 113 #[.int .i64 sa,.slice aa la ca] 113 #[.int .i64 sb,.slice ab lb cb] 113 #[.int .i64 0,.slice none 0 0];have a:=BA.out.two;have b:=BB.out.two;clear a;clear b;refine zR 4 6 (fun W=>zI W w.heap.size sa aa la ca∧zI W (w.heap.size+1) sb ab lb cb) ?_;refine zT 0 ⟨cW2 BA,cW2 BB⟩ ?_;refine zT 2 ⟨cW2 BA,cW2 BB⟩ ?_;refine tk1 1 fun K hK=>?_;go_simp;refine zO (abs_calls _ x _ (HX.new HN.drew)) fun w5 s5 a5 l5 k5 hn hi=>?_;have hn:=hn.undrew;have ai:=hid hi;clear hi;obtain ⟨HN,BA,BB,BP⟩:=zn4 hn HN BA.new BB.new BP.new;clear hn;refine zK hK ⟨cW2 BA,cW2 BB⟩ ?_;clear hK K;refine tk1 3 fun K hK=>?_;go_simp;refine zO (abs_calls _ y _ (HY.new HN)) fun w6 s6 a6 l6 k6 hn hi=>?_;have al:=hid hi;clear hi;obtain ⟨HN,BA,BB,BP,ai⟩:=zn5 hn HN BA.new BB.new BP.new ai.new;clear hn;refine zK hK ⟨cW2 BA,cW2 BB⟩ ?_;clear hK K;refine tlW ?_;obtain ⟨a0,a1,a2,a3,a4⟩:=BA.out.two;obtain ⟨b0,b1,b2,b3,b4⟩:=BB.out.two;go_wp2_with fail;clear a0 a1 a2 a3 a4 b0 b1 b2 b3 b4;have af:=BB.out.away BA.out (by omega) (.int .i64 s5) (.slice a5 l5 k5);have ag:=BP.out.away BA.out (by omega) (.int .i64 s5) (.slice a5 l5 k5);have ak:=ai.out.put2 BA.out s5 a5 l5 k5;have am:=al.out.put2 BA.out s5 a5 l5 k5;have ah:=HN.out.putAt BA.out (by omega) (.int .i64 s5) (.slice a5 l5 k5);have ae:=BA.out.put2 (.int .i64 s5) (.slice a5 l5 k5);clear BB BP ai al HN BA;refine zh6 ?_ af ag ak am ah ae;clear af ag ak am ah ae;intro BB BP ai al HN BA;have ae:=BA.out.away BB.out (by omega) (.int .i64 s6) (.slice a6 l6 k6);have ag:=BP.out.away BB.out (by omega) (.int .i64 s6) (.slice a6 l6 k6);have ak:=ai.out.put2 BB.out s6 a6 l6 k6;have am:=al.out.put2 BB.out s6 a6 l6 k6;have ah:=HN.out.putAt BB.out (by omega) (.int .i64 s6) (.slice a6 l6 k6);have af:=BB.out.put2 (.int .i64 s6) (.slice a6 l6 k6);clear BA BP ai al HN BB;refine zh6 ?_ ae ag ak am ah af;clear ae ag ak am ah af;intro BA BP ai al HN BB;have ad:GcdRel w g y.natAbs _:=⟨x.natAbs,_,_,_,_,_,_,_,_,HN.out,BA.out,BB.out,BP.out,ai.out,al.out,BX.out.natAbs,BY.out.natAbs,HG.out⟩;clear HN BA BB BP ai al BX BY HX HY HG;replace ad:=hid ad
 go_loopg [] y.natAbs (fun k wr=>GcdRel w g k wr)
 case atStart=>exact ad
 case round=>
  clear ad;obtain ⟨a,s1,s2,o1,o2,l1,k1,l2,k2,hN,hA,hB,hP,ax,ay,b1,b2,aw⟩:=hrel;refine zh9 ?_ hN hA hB hP ax ay b1 b2 aw;clear hN hA hB hP ax ay b1 b2 aw;intro HN BA BB BP ap ac B1 B2 HG;by_cases hk:gk=0
  ·obtain ⟨t,ht,bf⟩:∃ t,Int.sign (gk:Int)=t∧(t != 0)=false:=⟨_,rfl,by rw[hk];rfl⟩;have HK:=hid hk;clear hk;have b:=BB.out.two;go_wp2_with fail;refine zM (sign_calls _ (gk:Int) _ ac) fun w7 hn=>?_;rw[ht];clear ht;clear b;obtain ⟨HN,BA,BP,ap⟩:=zn4 hn HN BA.new BP.new ap.new;clear hn;obtain ⟨b0,b1,b2,b3,b4⟩:=BA.out.two;obtain ⟨p0,p1,p2,p3,p4⟩:=BP.out.two;go_wp2_with fail;refine bodyPost_ret (v:=.agg #[.int .i64 s1,.slice o1 l1 k1]) (by simp[results,results158,go_sem,p0,p1,p4]) rfl ?_;refine au _ _ (HN.putAt BP (by omega) _ _) ?_
   have e:(a:Int)=(g:Int):=by
    have:=HG.out;rw[HK.out,Nat.gcd_zero_right] at this;rw[this]
   rw[←e];exact ap.put2 BP _ _ _ _
  ·obtain ⟨t,ht,bf⟩:∃ t,Int.sign (gk:Int)=t∧(t != 0)=true:=⟨_,rfl,by rw[Int.sign_eq_one_of_pos (by omega)];rfl⟩;have a9:=Nat.mod_lt a (by omega:0 < gk);have av:(a:Int) % (gk:Int)=((a % gk:Nat):Int):=rfl;refine zh3 ?_ hk a9 av;clear hk a9 av;intro HK bb ba;have b:=BB.out.two;go_wp2_with fail;refine zM (sign_calls _ (gk:Int) _ ac) fun w7 hn=>?_;rw[ht];clear ht;clear b;obtain ⟨HN,BA,BB,BP,ap,ac⟩:=zn6 hn HN BA.new BB.new BP.new ap.new ac.new;clear hn;obtain ⟨a0,a1,a2,a3,a4⟩:=BA.out.two;have b:=BB.out.two;go_wp2_with fail;clear a0 a1 a2 a3 a4 b;refine (divmod_calls _ _ (a:Int) (gk:Int) _ ap ac B1 B2 (by have:=HK.out;omega)).mono ?_;rintro e w8 ⟨v7,v8,rfl,hn,az,ar⟩;obtain ⟨s7,a7,l7,k7,rfl⟩:=az.shape;obtain ⟨s8,a8,l8,k8,rfl⟩:=ar.shape;rw[ba.out] at ar;have ao:=hid ar;clear ar;clear az;obtain ⟨HN,BA,BB,BP,ac⟩:=zn5 hn HN BA.new BB.new BP.new ac.new;clear hn;obtain ⟨a0,a1,a2,a3,a4⟩:=BA.out.two;obtain ⟨b0,b1,b2,b3,b4⟩:=BB.out.two;have a5:=Nat.lt_add_right 1 a4;have b5:=Nat.lt_add_right 1 b4;go_wp2_with fail
   go_region
   go_wp2_with fail
   go_roundg (a % gk)
   case measure=>exact bb
   case rel=>
    have be:Nat.gcd gk (a % gk)=g:=by rw[Nat.gcd_comm,←Nat.gcd_rec,Nat.gcd_comm];exact HG.out
    have bc:Bd ((a % gk:Nat):Int):=B1.out.le (by have:=Nat.mod_le a gk;omega);have af:=BB.out.away BA.out (by omega) (.int .i64 s2) (.slice o2 l2 k2);have ag:=BP.out.away BA.out (by omega) (.int .i64 s2) (.slice o2 l2 k2);have aj:=ac.out.put2 BA.out s2 o2 l2 k2;have an:=ao.out.put2 BA.out s2 o2 l2 k2;have ah:=HN.out.putAt BA.out (by omega) (.int .i64 s2) (.slice o2 l2 k2);have ae:=BA.out.put2 (.int .i64 s2) (.slice o2 l2 k2);clear BB BP ac ao HN BA;refine zh6 ?_ af ag aj an ah ae;clear af ag aj an ah ae;intro BB BP ac ao HN BA;have ae:=BA.out.away BB.out (by omega) (.int .i64 s8) (.slice a8 l8 k8);have ag:=BP.out.away BB.out (by omega) (.int .i64 s8) (.slice a8 l8 k8);have aj:=ac.out.put2 BB.out s8 a8 l8 k8;have an:=ao.out.put2 BB.out s8 a8 l8 k8;have ah:=HN.out.putAt BB.out (by omega) (.int .i64 s8) (.slice a8 l8 k8);have af:=BB.out.put2 (.int .i64 s8) (.slice a8 l8 k8);clear BA BP ac ao HN BB;refine zh6 ?_ ae ag aj an ah af;clear ae ag aj an ah af;intro BA BP ac ao HN BB;have hx:∀ W o o',New W (((W.alloc o).alloc o').drew):=fun W o o'=>(((New.refl W).alloc o).alloc o').drew;exact ⟨gk,s2,s8,o2,a8,l2,k2,l8,k8,HN.trans (hx _ _ _),BA.new (hx _ _ _),BB.new (hx _ _ _),BP.new (hx _ _ _),ac.new (hx _ _ _),ao.new (hx _ _ _),B2,bc,be⟩
theorem bits_and_one (k:Nat)(hk:k < 9223372036854775808):bits .and .i64 (k:Int) 1=((k % 2:Nat):Int):=by
 have h1:(BitVec.ofInt 64 (k:Int)).toNat=k:=by
  rw[BitVec.ofInt_natCast,BitVec.toNat_ofNat];exact Nat.mod_eq_of_lt (by omega)
 have h2:(BitVec.ofInt 64 1).toNat=1:=by decide
 show IntKind.i64.wrap ((BitVec.ofInt 64 (k:Int) &&& BitVec.ofInt 64 1).toNat:Int)=_;rw[BitVec.toNat_and,h1,h2,IntKind.wrap_i64,Nat.and_one_is_mod];omega
def BdK (m:Nat)(x:Int):Prop:=x.natAbs < 2^m
theorem BdK.bd {m:Nat}{x:Int}(h:BdK m x)(hm:m≤60000000):Bd x:=⟨m,hm,h⟩
theorem BdK.pow {m:Nat}{x:Int}(h:BdK m x)(i:Nat):BdK (m*i+1) (x^i):=by
 unfold BdK at *;rw[Int.natAbs_pow];have h1:x.natAbs^i≤(2^m)^i:=Nat.pow_le_pow_left (by omega) i;rw[←Nat.pow_mul] at h1;have h2:2^(m*i) < 2^(m*i+1):=Nat.pow_lt_pow_right (by omega) (by omega);omega
theorem hm_pow {m k0 i:Nat}{x:Int}(hm:BdK m x)(hk:m*k0+1≤60000000)(hi:i≤k0):Bd (x^i):=
 (hm.pow i).bd (by have:=Nat.mul_le_mul_left m hi;omega)
def PowRel (w:World)(B:Nat)(x:Int)(k0 k:Nat)(u:Value)(wr:World):Prop:=∃ (i j:Nat) (s1 s2:Int) (o1 o2:Option Addr) (l1 k1 l2 k2:Nat),
 u=.int .i64 (k:Int)∧i+j*k=k0∧1≤j∧
 New w wr∧Box wr w.heap.size 113 #[.int .i64 s1,.slice o1 l1 k1]∧Box wr (w.heap.size+1) 113 #[.int .i64 0,.slice none 0 0]∧
 Box wr B 113 #[.int .i64 s2,.slice o2 l2 k2]∧
 IsInt wr (.agg #[.int .i64 s1,.slice o1 l1 k1]) (x^j)∧IsInt wr (.agg #[.int .i64 s2,.slice o2 l2 k2]) (x^i)
theorem pow_calls (va:Value)(x:Int)(k0 m:Nat)(w:World)(hx:IsInt w va x)(hm:BdK m x)(hk:m*k0+1≤60000000)(hk0:k0 < 9223372036854775808):Calls prog 178 #[va,.int .i64 (k0:Int)] w (IntPost w (x^k0)):=by
 obtain ⟨sa,aa,la,ca,rfl⟩:=hx.shape;obtain ⟨z,hz⟩:∃ z,x^k0=z:=⟨_,rfl⟩;rw[hz];have aq:∀ w' v,New w w'→IsInt w' v z→IntPost w z (.returned v) w':=fun w' v h1 h2=>⟨v,rfl,h1,h2⟩;refine zh5 ?_ hx hm hk aq hz;clear hx hm hk aq hz;intro HX HM HK av HZ;go_in;go_wp2_with fail;obtain ⟨BA,BP,HN⟩:=lay2 w 113 #[.int .i64 sa,.slice aa la ca] 113 #[.int .i64 0,.slice none 0 0];refine zM (of_calls 1 _) fun w1 hn=>?_;obtain ⟨HN,BA,BP⟩:=zn3 hn HN BA.new BP.new;clear hn;go_wp2_with fail;have au:=HN;have hB:=BP.out.lt;clear HN;obtain ⟨BO,HN⟩:=lay1 w1 113 #[.int .i64 1,.slice none 0 0];obtain ⟨BA,BP⟩:=zm2 HN BA.new BP.new;have hX:=HX.out.new (au.out.trans HN.out);have ae:PowRel w w1.heap.size x k0 k0 (.int .i64 (k0:Int)) _:=⟨0,1,_,_,_,_,_,_,_,_,rfl,by omega,Nat.le_refl _,au.out.trans HN.out,BA.out,BP.out,BO.out,by rw[Int.pow_succ,Int.pow_zero,Int.one_mul];exact hX,.small (by rw[Int.pow_zero]) (by rw[Int.pow_zero];omega) (by rw[Int.pow_zero];omega)⟩;clear hX HN au BA BP BO HX;replace ae:=hid ae
 go_loopg [1] k0 (fun k u wr=>PowRel w w1.heap.size x k0 k u wr)
 case atStart=>exact ae
 case round=>
  clear ae;obtain ⟨i,j,s1,s2,o1,o2,l1,k1,l2,k2,rfl,a1,a2,hN,hA,hP,hO,az,a0⟩:=hrel
  have a4:gk≤k0:=by
   have:=Nat.le_mul_of_pos_left gk (show 0 < j by omega);omega
  have ay:i≤k0:=by omega
  refine zh9 ?_ hN hA hP hO az a0 a1 a2 ay;clear hN hA hP hO az a0 a1 a2 ay;intro HN BA BP BO ab aj an ar a3;by_cases hk:gk=0
  ·subst hk;obtain ⟨b0,b1,b2,b3,b4⟩:=BO.out.two;obtain ⟨p0,p1,p2,p3,p4⟩:=BP.out.two;go_wp2_with fail;refine bodyPost_ret (v:=.agg #[.int .i64 s2,.slice o2 l2 k2]) (by simp[results,results178,go_sem,p0,p1,p4]) rfl ?_;refine av _ _ (HN.putAt BP (by omega) _ _) ?_
   have e:i=k0:=by have:=an.out;simpa using this
   rw[←HZ.out,←e];exact aj.put2 BP _ _ _ _
  ·have hj:j≤k0:=by
    have h1:=an.out;have:=Nat.le_mul_of_pos_right j (show 0 < gk by omega);omega
   have aw:=(hm_pow HM.out HK.out a3.out);have ax:=(hm_pow HM.out HK.out hj);refine zh3 ?_ aw ax hj;clear aw ax hj;intro BI BJ HJ;have hb:=bits_and_one gk (by omega);by_cases h1:gk=1
   ·subst h1;rw[show ((1 % 2:Nat):Int)=1 from rfl] at hb;have b:=BO.out.two;have c:=BA.out.two;go_wp2_with fail;refine zO (mul_calls _ _ (x^i) (x^j) _ aj ab BI BJ) fun w2 s5 a5 l5 k5 hn hi=>?_;clear b c;have ac:=hid hi;clear hi;obtain ⟨HN,BA,BP,BO,ab⟩:=zn5 hn HN BA.new BP.new BO.new ab.new;clear hn;obtain ⟨b0,b1,b2,b3,b4⟩:=BO.out.two;obtain ⟨c0,c1,c2,c3,c4⟩:=BA.out.two;go_wp2_with fail;clear b0 b1 b2 b3 b4;have af:=BA.out.away BO.out (by omega) (.int .i64 s5) (.slice a5 l5 k5);have ah:=BP.out.away BO.out (by omega) (.int .i64 s5) (.slice a5 l5 k5);have al:=ab.out.put2 BO.out s5 a5 l5 k5;have ad:=ac.out.put2 BO.out s5 a5 l5 k5;have ai:=HN.out.putAt BO.out (by omega) (.int .i64 s5) (.slice a5 l5 k5);have ag:=BO.out.put2 (.int .i64 s5) (.slice a5 l5 k5);clear BA BP ab ac HN BO;refine zh6 ?_ af ah al ad ai ag;clear af ah al ad ai ag;intro BA BP ab ac HN BO
    go_roundg 0
    case measure=>omega
    case rel=>exact ⟨i+j,j,_,_,_,_,_,_,_,_,rfl,by have:=an.out;omega,ar.out,HN.out,BA.out,BP.out,BO.out,ab.out,by rw[Int.pow_add];exact ac.out⟩
   ·have h2:(1:Int) < (gk:Int):=by omega
    have ao:gk / 2 < gk:=by omega
    replace ao:=hid ao;rcases Nat.mod_two_eq_zero_or_one gk with ho | ho
    ·have hh:i+(j+j)*(gk / 2)=k0:=by
      have h3:=an.out
      have h4:gk=2*(gk / 2):=by omega
      rw[←h3,←Nat.two_mul,Nat.mul_comm 2 j,Nat.mul_assoc,←h4]
     rw[ho,show ((0:Nat):Int)=0 from rfl]at hb;have HH:=hid hh;have HO:=hid ho;clear hh ho;obtain ⟨b0,b1,b2,b3,b4⟩:=BO.out.two;obtain ⟨c0,c1,c2,c3,c4⟩:=BA.out.two;go_wp2_with fail;refine zO (mul_calls _ _ (x^j) (x^j) _ ab ab BJ BJ) fun w3 s6 a6 l6 k6 hn hi=>?_;have ak:=hid hi;clear hi;obtain ⟨HN,BA,BP,BO,aj⟩:=zn5 hn HN BA.new BP.new BO.new aj.new;clear hn;have d:=BA.out.two;go_wp2_with fail;clear d;have ag:=BO.out.away BA.out (by omega) (.int .i64 s6) (.slice a6 l6 k6);have ah:=BP.out.away BA.out (by omega) (.int .i64 s6) (.slice a6 l6 k6);have ap:=aj.out.put2 BA.out s6 a6 l6 k6;have am:=ak.out.put2 BA.out s6 a6 l6 k6;have ai:=HN.out.putAt BA.out (by omega) (.int .i64 s6) (.slice a6 l6 k6);have af:=BA.out.put2 (.int .i64 s6) (.slice a6 l6 k6);clear BO BP aj ak HN BA;refine zh6 ?_ ag ah ap am ai af;clear ag ah ap am ai af;intro BO BP aj ak HN BA
     go_roundg (gk / 2)
     case measure=>exact ao
     case rel=>exact ⟨i,j+j,_,_,_,_,_,_,_,_,rfl,HH,by have:=ar.out;omega,HN.out,BA.out,BP.out,BO.out,by rw[Int.pow_add];exact ak.out,aj.out⟩
    ·have hh:i+j+(j+j)*(gk / 2)=k0:=by
      have h3:=an.out
      have h4:gk=2*(gk / 2)+1:=by omega
      rw[←h3,←Nat.two_mul,Nat.mul_comm 2 j,Nat.mul_assoc]
      have h5:j*gk=j*(2*(gk / 2))+j:=by
       have:=congrArg (j*·) h4;simp only[Nat.mul_add,Nat.mul_one] at this;exact this
      omega
     rw[ho,show ((1:Nat):Int)=1 from rfl]at hb;replace hh:=hid hh;replace ho:=hid ho;have b:=BO.out.two;have c:=BA.out.two;go_wp2_with fail;refine zO (mul_calls _ _ (x^i) (x^j) _ aj ab BI BJ) fun w2 s5 a5 l5 k5 hn hi=>?_;clear b c;have ac:=hid hi;clear hi;obtain ⟨HN,BA,BP,BO,ab⟩:=zn5 hn HN BA.new BP.new BO.new ab.new;clear hn;have b:=BO.out.two;have c:=BA.out.two;go_wp2_with fail;clear b c;have af:=BA.out.away BO.out (by omega) (.int .i64 s5) (.slice a5 l5 k5);have ah:=BP.out.away BO.out (by omega) (.int .i64 s5) (.slice a5 l5 k5);have al:=ab.out.put2 BO.out s5 a5 l5 k5;have ad:=ac.out.put2 BO.out s5 a5 l5 k5;have ai:=HN.out.putAt BO.out (by omega) (.int .i64 s5) (.slice a5 l5 k5);have ag:=BO.out.put2 (.int .i64 s5) (.slice a5 l5 k5);clear BA BP ab ac HN BO;refine zh6 ?_ af ah al ad ai ag;clear af ah al ad ai ag;intro BA BP ab ac HN BO;refine zO (mul_calls _ _ (x^j) (x^j) _ ab ab BJ BJ) fun w3 s6 a6 l6 k6 hn hi=>?_;have ak:=hid hi;clear hi;obtain ⟨HN,BA,BP,BO,ac⟩:=zn5 hn HN BA.new BP.new BO.new ac.new;clear hn;have d:=BA.out.two;go_wp2_with fail;clear d;have ag:=BO.out.away BA.out (by omega) (.int .i64 s6) (.slice a6 l6 k6);have ah:=BP.out.away BA.out (by omega) (.int .i64 s6) (.slice a6 l6 k6);have ad:=ac.out.put2 BA.out s6 a6 l6 k6;have am:=ak.out.put2 BA.out s6 a6 l6 k6;have ai:=HN.out.putAt BA.out (by omega) (.int .i64 s6) (.slice a6 l6 k6);have af:=BA.out.put2 (.int .i64 s6) (.slice a6 l6 k6);clear BO BP ac ak HN BA;refine zh6 ?_ ag ah ad am ai af;clear ag ah ad am ai af;intro BO BP ac ak HN BA
     go_roundg (gk / 2)
     case measure=>exact ao
     case rel=>exact ⟨i+j,j+j,_,_,_,_,_,_,_,_,rfl,hh,by have:=ar.out;omega,HN.out,BA.out,BP.out,BO.out,by rw[Int.pow_add];exact ak.out,by rw[Int.pow_add];exact ac.out⟩
structure IsBits (x b:Nat):Prop where
 lt:x < 2^b
 ge:b=0∨2^(b - 1)≤x
theorem IsBits.le {x b k:Nat}(h:IsBits x b)(hk:x < 2^k):b≤k:=by
 rcases h.ge with h1 | h1
 ·omega
 ·have:=(Nat.pow_lt_pow_iff_right (by omega:1 < 2)).1 (Nat.lt_of_le_of_lt h1 hk);omega
theorem isBits_top {f:Nat→Nat}{k b x:Nat}(hc:Canon W64 f (k+1))(h1:1≤b)(h2:2^(b - 1)≤f k)(h3:f k < 2^b)(hx:vf W64 f (k+1)=x):IsBits x (64*k+b):=by
 subst hx
 have e:W64^k=2^(64*k):=by rw[Nat.pow_mul]
 have aa:vf W64 f k < W64^k:=vf_lt fun i hi=>hc.lt i (by omega);rw[vf_succ];constructor
 ·rw[Nat.pow_add,←e];have h4:(f k+1)*W64^k≤2^b*W64^k:=Nat.mul_le_mul_right _ (by omega);rw[Nat.add_mul,Nat.one_mul] at h4;rw[Nat.mul_comm (W64^k)];omega
 ·right;rw[show 64*k+b - 1=64*k+(b - 1) by omega,Nat.pow_add,←e];have h4:2^(b - 1)*W64^k≤f k*W64^k:=Nat.mul_le_mul_right _ h2;rw[Nat.mul_comm (W64^k)];omega
def BitsPost (w:World)(x:Nat)(e:Ending)(w':World):Prop:=∃ b:Nat,e=.returned (.int .i64 (b:Int))∧New w w'∧IsBits x b
theorem bits_calls (va:Value)(x:Int)(w:World)(hx:IsInt w va x)(bx:Bd x):Calls prog 128 #[va] w (BitsPost w x.natAbs):=by
 obtain ⟨sa,aa,la,ca,rfl⟩:=hx.shape;replace hx:=hid hx;replace bx:=hid bx;go_in;go_wp2_with fail;obtain ⟨BA,HN⟩:=lay1 w 113 #[.int .i64 sa,.slice aa la ca];refine (parts_calls _ x _ (hx.new HN)).mono ?_;rintro e w1 ⟨v1,n,f,rfl,hn,hw,hv⟩;have ag:=hw.le bx.out hv;obtain ⟨a,ae,⟨rfl,c1,c2,c3⟩,hr,cf⟩:=hw;replace hv:=hid hv;replace cf:=hid cf;replace HN:=tW HN hn;clear hn;rcases Nat.eq_zero_or_pos n with h0 | h0
 ·subst h0;go_wp2_with fail;go_ret;exact ⟨0,rfl,HN,⟨by rw[←hv.out];simp[vf],.inl rfl⟩⟩
 ·obtain ⟨k,rfl⟩:∃ k,n=k+1:=⟨n - 1,by omega⟩;obtain ⟨b,ah,rfl,hc⟩:=hr k (by omega);have ht:=cf.out.top (by omega);have hl:=cf.out.lt k (by omega);obtain ⟨b1,b2,b3,b4⟩:=bitLen_bounds hl ht;have ac:=len_calls (f k) hl;have ab:=isBits_top cf.out b1 b3 b4 hv.out;refine zh7 ?_ ac ab ht hl b3 b4 hr;clear ac ab ht hl b3 b4 hr;intro HL HB HT ad B3 B4 HR
  have af:((k:Int)+1==0)=false:=by simp;omega
  go_wp2_with fail;clear hc;refine (HL _).mono ?_;rintro e w2 ⟨rfl,rfl⟩;go_wp2_with fail;go_ret;exact ⟨64*k+Lib.bitLen (f k),by rw[Int.natCast_add,Int.natCast_mul];rfl,HN.out,HB.out⟩
theorem long_calls (va:Value)(x:Int)(w:World)(hx:IsInt w va x)(hs:x.natAbs < 2^1800):Calls prog 218 #[va] w fun e w'=>e=.returned (.bool false)∧New w w':=by
 obtain ⟨sa,aa,la,ca,rfl⟩:=hx.shape;have bx:Bd x:=⟨1800,by omega,hs⟩;refine zh3 ?_ hx bx hs;clear hx bx hs;intro HX BX HS;go_in;go_wp2_with fail;obtain ⟨BA,HN⟩:=lay1 w 113 #[.int .i64 sa,.slice aa la ca];refine zN (bits_calls _ x _ (HX.new HN) BX) fun w1 b hn hb=>?_;have hb:=hb.le HS.out
 have hb:(b:Int)≤1800:=by omega
 replace HN:=tW HN hn;clear hn;go_wp2_with fail;go_ret;exact ⟨rfl,HN⟩
def IsFrac (w:World)(v:Value)(q:Rat):Prop:=∃ (s:Int) (a:Option Addr) (l c:Nat) (s':Int) (a':Option Addr) (l' c':Nat),
 v=.agg #[.int .i64 s,.slice a l c,.int .i64 s',.slice a' l' c']∧IsInt w (.agg #[.int .i64 s,.slice a l c]) q.num∧IsInt w (.agg #[.int .i64 s',.slice a' l' c']) (q.den:Int)
theorem IsFrac.new {w w':World}{v:Value}{q:Rat}(h:IsFrac w v q)(hn:New w w'):IsFrac w' v q:=by
 obtain ⟨s,a,l,c,s',a',l',c',h1,h2,h3⟩:=h;exact ⟨s,a,l,c,s',a',l',c',h1,h2.new hn,h3.new hn⟩
theorem IsFrac.shape {w:World}{v:Value}{q:Rat}(h:IsFrac w v q):∃ (s:Int) (a:Option Addr) (l c:Nat) (s':Int) (a':Option Addr) (l' c':Nat),v=.agg #[.int .i64 s,.slice a l c,.int .i64 s',.slice a' l' c']:=by
 obtain ⟨s,a,l,c,s',a',l',c',h1, -, -⟩:=h;exact ⟨s,a,l,c,s',a',l',c',h1⟩
theorem IsFrac.parts {w:World}{q:Rat}{s:Int}{a:Option Addr}{l c:Nat}{s':Int}{a':Option Addr}{l' c':Nat}(h:IsFrac w (.agg #[.int .i64 s,.slice a l c,.int .i64 s',.slice a' l' c']) q):
  IsInt w (.agg #[.int .i64 s,.slice a l c]) q.num∧IsInt w (.agg #[.int .i64 s',.slice a' l' c']) (q.den:Int):=by
 obtain ⟨t,b,m,d,t',b',m',d',h1,h2,h3⟩:=h;injection h1 with h1;simp at h1;obtain ⟨⟨rfl,rfl⟩,⟨rfl,rfl,rfl⟩,⟨rfl,rfl⟩,rfl,rfl,rfl⟩:=h1;exact ⟨h2,h3⟩
theorem IsFrac.put4 {w:World}{v:Value}{q:Rat}(h:IsFrac w v q){B:Nat}{t:TypeId}{s s':Int}{a a':Option Addr}{l c l' c':Nat}(hb:Box w B t #[.int .i64 s,.slice a l c,.int .i64 s',.slice a' l' c'])(n n':Int)(b b':Option Addr)(m k m' k':Nat):
  IsFrac ((((w.setCell ⟨B,0,none⟩ (.int .i64 n)).setCell ⟨B,1,none⟩ (.slice b m k)).setCell ⟨B,2,none⟩ (.int .i64 n')).setCell ⟨B,3,none⟩ (.slice b' m' k')) v q:=by
 obtain ⟨s,a,l,c,s',a',l',c',h1,h2,h3⟩:=h;exact ⟨s,a,l,c,s',a',l',c',h1,h2.put4 hb _ _ _ _ _ _ _ _,h3.put4 hb _ _ _ _ _ _ _ _⟩
def FracPost (w:World)(q:Rat)(e:Ending)(w':World):Prop:=∃ v:Value,e=.returned v∧New w w'∧IsFrac w' v q
theorem frac_ret {w w6:World} {q:Rat} {B:Nat} {t:TypeId} {s s':Int} {a a':Option Addr} {l c l' c':Nat} {n n':Int} {b b':Option Addr} {m k m' k':Nat} (hN:New w w6) (bp:Box w6 B t #[.int .i64 s,.slice a l c,.int .i64 s',.slice a' l' c']) (hB:w.heap.size≤B)
  (h1:IsInt w6 (.agg #[.int .i64 n,.slice b m k]) q.num) (h2:IsInt w6 (.agg #[.int .i64 n',.slice b' m' k']) (q.den:Int)):
  FracPost w q (.returned (.agg #[.int .i64 n,.slice b m k,.int .i64 n',.slice b' m' k'])) ((((w6.setCell ⟨B,0,none⟩ (.int .i64 n)).setCell ⟨B,1,none⟩ (.slice b m k)).setCell ⟨B,2,none⟩ (.int .i64 n')).setCell ⟨B,3,none⟩ (.slice b' m' k')):=
 ⟨_,rfl,hN.put4 hB _ _ _ _,_,_,_,_,_,_,_,_,rfl,h1.put4 bp _ _ _ _ _ _ _ _,h2.put4 bp _ _ _ _ _ _ _ _⟩
theorem IsInt.one (w:World):IsInt w (.agg #[.int .i64 1,.slice none 0 0]) ((1:Nat):Int):=.small rfl (by omega) (by omega)
theorem whole_calls (va:Value)(x:Int)(w:World)(hx:IsInt w va x):Calls prog 147 #[va] w (FracPost w (x:Rat)):=by
 obtain ⟨sa,aa,la,ca,rfl⟩:=hx.shape;obtain ⟨q,hq⟩:∃ q,(x:Rat)=q:=⟨_,rfl⟩;rw[hq];replace hx:=hid hx;replace hq:=hid hq;go_in;go_wp2_with fail;obtain ⟨BA,BP,HN⟩:=lay2 w 113 #[.int .i64 sa,.slice aa la ca] 115 #[.int .i64 0,.slice none 0 0,.int .i64 0,.slice none 0 0];have a:=BA.out.two;clear a;refine zR 3 4 (fun W=>zI W w.heap.size sa aa la ca) ?_;refine zT 0 (cW2 BA) ?_;refine tk1 1 fun K hK=>?_;go_simp;refine zM (of_calls 1 _) fun w1 hn=>?_;obtain ⟨HN,BA,BP⟩:=zn3 hn.undrew HN BA.new BP.new;clear hn;refine zK hK (cW2 BA) ?_;clear hK K;refine zT 2 (cW2 BA) ?_;refine tlW ?_;obtain ⟨a0,a1,a2,a3,a4⟩:=BA.out.two;obtain ⟨⟨p0,p1,p2,p3⟩,p4,p5,p6,p7,p8⟩:=BP.out.four;go_wp2_with fail;refine bodyPost_ret (v:=.agg #[.int .i64 sa,.slice aa la ca,.int .i64 1,.slice none 0 0]) (by simp[results,results147,go_sem,p0,p1,p2,p3]) rfl ?_;exact frac_ret HN BP (by omega) (by rw[←hq.out,Rat.num_intCast];exact hx.out.new HN.out) (by rw[←hq.out,Rat.den_intCast];exact IsInt.one _)
theorem f_calls (x:Int)(w:World)(lo: -9223372036854775808≤x)(hi:x≤9223372036854775807):Calls prog 115 #[.int .i64 x] w (FracPost w (x:Rat)):=by
 obtain ⟨q,hq⟩:∃ q,(x:Rat)=q:=⟨_,rfl⟩;rw[hq];have hs:∀ W,IsInt W (.agg #[.int .i64 x,.slice none 0 0]) x:=fun W=>.small rfl lo hi;replace hs:=hid hs;replace hq:=hid hq;go_in;go_wp2_with fail;obtain ⟨BP,HN⟩:=lay1 w 115 #[.int .i64 0,.slice none 0 0,.int .i64 0,.slice none 0 0];refine zM (of_calls x _) fun w1 hn=>?_;obtain ⟨HN,BP⟩:=zn2 hn HN BP.new;clear hn;go_wp2_with fail;refine zS (whole_calls _ x _ (hs _)) fun w2 s a l c s' a' l' c' hn hf=>?_;rw[hq.out] at hf;replace hf:=hid hf;obtain ⟨HN,BP⟩:=zn2 hn HN BP.new;clear hn;obtain ⟨⟨p0,p1,p2,p3⟩,p4,p5,p6,p7,p8⟩:=BP.out.four;go_wp2_with fail;refine bodyPost_ret (v:=.agg #[.int .i64 s,.slice a l c,.int .i64 s',.slice a' l' c']) (by simp[results,results115,go_sem,p0,p1,p2,p3]) rfl ?_;exact frac_ret HN BP (by omega) hf.parts.1 hf.parts.2
theorem IsInt.none_or {w:World}{s:Int}{a:Option Addr}{l c:Nat}{z:Int}(h:IsInt w (.agg #[.int .i64 s,.slice a l c]) z):(a.isNone=true∧s=z)∨(a.isNone=false∧z≠1):=by
 rcases h with ⟨h,lo,hi⟩ | ⟨b,ab,n,aa,f,s,h,hs,hw,h0,hv,hz⟩
 ·injection h with h;simp at h;obtain ⟨rfl,rfl,rfl,rfl⟩:=h;exact .inl ⟨rfl,rfl⟩
 ·injection h with h;simp at h;obtain ⟨rfl,rfl,rfl,rfl⟩:=h;refine .inr ⟨rfl,?_⟩;rcases hs with rfl | rfl <;> omega
theorem isWhole_calls (va:Value)(q:Rat)(w:World)(hx:IsFrac w va q):Calls prog 166 #[va] w fun e w'=>e=.returned (.bool (decide (q.den=1)))∧New w w':=by
 have q1:=eql_nil;obtain ⟨s,a,l,c,s',a',l',c',rfl,h1,h2⟩:=hx;rcases h2.none_or with ⟨hn,rfl⟩ | ⟨hn,hz⟩
 ·clear h1 h2;by_cases h1:q.den=1
  ·have hd:((q.den:Int)==1)=true:=by simp[h1]
   rw[decide_eq_true h1];have H1:=hid h1;clear h1;go_in;go_wp2_with fail;go_ret;exact ⟨rfl,(New.refl w).alloc _⟩
  ·have hd:((q.den:Int)==1)=false:=by simp;omega
   rw[decide_eq_false h1];have H1:=hid h1;clear h1;go_in;go_wp2_with fail;go_ret;exact ⟨rfl,(New.refl w).alloc _⟩
 ·rw[decide_eq_false (fun h=>hz (by rw[h];rfl))];clear h1 h2 hz;go_in;go_wp2_with fail;go_ret;exact ⟨rfl,(New.refl w).alloc _⟩
theorem fsign_calls (va:Value)(q:Rat)(w:World)(hx:IsFrac w va q):Calls prog 112 #[va] w fun e w'=>e=.returned (.int .i64 q.num.sign)∧New w w':=by
 obtain ⟨s,a,l,c,s',a',l',c',rfl,h1,h2⟩:=hx;replace h1:=hid h1;replace h2:=hid h2;go_in;go_wp2_with fail;obtain ⟨BA,HN⟩:=lay1 w 115 #[.int .i64 s,.slice a l c,.int .i64 s',.slice a' l' c'];refine zM (sign_calls _ q.num _ (h1.new HN)) fun w1 hn=>?_;replace HN:=tW HN hn;clear hn;go_wp2_with fail;go_ret;exact ⟨rfl,HN⟩
theorem fneg_calls (va:Value)(q:Rat)(w:World)(hx:IsFrac w va q):Calls prog 167 #[va] w (FracPost w (-q)):=by
 obtain ⟨s,a,l,c,s',a',l',c',rfl,h1,h2⟩:=hx;obtain ⟨r,hr⟩:∃ r, -q=r:=⟨_,rfl⟩;rw[hr];refine zh3 ?_ h1 h2 hr;clear h1 h2 hr;intro H1 H2 HR;go_in;go_wp2_with fail;obtain ⟨BA,BP,HN⟩:=lay2 w 115 #[.int .i64 s,.slice a l c,.int .i64 s',.slice a' l' c'] 115 #[.int .i64 0,.slice none 0 0,.int .i64 0,.slice none 0 0];have b:=BA.out.four;clear b;refine zR 6 7 (fun W=>zF W w.heap.size s a l c s' a' l' c') ?_;refine zT 0 (cW4 BA) ?_;refine zT 1 (cW4 BA) ?_;refine zT 3 (cW4 BA) ?_;refine zT 4 (cW4 BA) ?_;refine tk1 2 fun K hK=>?_;go_simp;refine zO (neg_calls _ q.num _ (H1.new HN.drew)) fun w1 s5 a5 l5 c5 hn hi=>?_;have hn:=hn.undrew;replace hi:=hid hi;obtain ⟨HN,BA,BP⟩:=zn3 hn HN BA.new BP.new;clear hn;refine zK hK (cW4 BA) ?_;clear hK K;refine zT 5 (cW4 BA) ?_;refine tlW ?_;obtain ⟨⟨b0,b1,b2,b3⟩,b4,b5,b6,b7,b8⟩:=BA.out.four;obtain ⟨⟨p0,p1,p2,p3⟩,p4,p5,p6,p7,p8⟩:=BP.out.four;go_wp2_with fail;refine bodyPost_ret (v:=.agg #[.int .i64 s5,.slice a5 l5 c5,.int .i64 s',.slice a' l' c']) (by simp[results,results167,go_sem,p0,p1,p2,p3]) rfl ?_;exact frac_ret HN BP (by omega) (by rw[←HR.out,Rat.neg_num];exact hi.out) (by rw[←HR.out];exact H2.out.new HN.out)
end Go.Proofs.YtnjonlnemagomaaGreatDoor
