/- Part B07. -/
import Derived.Deep.LoopGhost
import Derived.Test.YtnjonlnemagomaaGreatDoorB06
namespace Go.Proofs.YtnjonlnemagomaaGreatDoor
open Go.RowKit Big
open Go.Lib (hid)
set_option maxRecDepth 100000
set_option maxHeartbeats 8000000
theorem ylt {x y:Int}(hy:0 < y):x / y=(if x.tmod y < 0 then x.tdiv y - 1 else x.tdiv y)/\x % y=(if x.tmod y < 0 then x.tmod y+y else x.tmod y):=by
 have h1:=Int.mul_tdiv_add_tmod x y;have h2:=Int.mul_ediv_add_emod x y;have h3:=Int.emod_nonneg x (show y≠0 by omega);have h4:=Int.emod_lt_of_pos x hy;have h5:=Int.lt_tmod_of_pos x hy;have h6:=Int.tmod_lt_of_pos x hy
 have key:∀ q r q' r':Int,y*q+r=y*q'+r'->0<=r->r < y->0<=r'->r' < y->q=q'/\r=r':=by
  intro q r q' r' h a b c d
  have e:y*(q - q')=r' - r:=by rw[Int.mul_sub];omega
  have:q - q'=0:=by
   rcases Int.lt_trichotomy (q - q') 0 with k | k | k
   ·have:y*(q - q')<=y*(-1):=Int.mul_le_mul_of_nonneg_left (by omega) (by omega);omega
   ·exact k
   ·have:y*1<=y*(q - q'):=Int.mul_le_mul_of_nonneg_left (by omega) (by omega);omega
  rw[this,Int.mul_zero]at e;omega
 split
 ·rename_i hn;exact key _ _ _ _ (by rw[h2,Int.mul_sub,Int.mul_one];omega) h3 h4 (by omega) (by omega)
 ·rename_i hn;exact key _ _ _ _ (by rw[h2];omega) h3 h4 (by omega) (by omega)
def y63 (w:World)(q r:Int)(e:Ending)(w':World):Prop:=∃ v v':Value,e=.returned (.tuple #[v,v'])/\New w w'/\y06 w' v q/\y06 w' v' r
theorem yin {x y:Int}(hy:0 < y)(lo: -9223372036854775808 < x)(hi:x<=9223372036854775807): -9223372036854775808 < x.tdiv y/\x.tdiv y<=9223372036854775807/\ -9223372036854775808 < x / y:=by
 have h1:=Int.natAbs_tdiv x y;have h2:x.natAbs.div y.natAbs<=x.natAbs:=Nat.div_le_self _ _
 have h3:x.natAbs < 9223372036854775808:=by omega
 refine ⟨by omega,by omega,?_⟩;have h4:=Int.mul_ediv_add_emod x y;have h5:=Int.emod_lt_of_pos x hy;have h6:=Int.emod_nonneg x (show y≠0 by omega);rcases Int.lt_or_le (x / y) (-9223372036854775807) with h | h
 ·exfalso;have h7:y*(x / y)<=y*(-9223372036854775808):=Int.mul_le_mul_of_nonneg_left (by omega) (by omega)
  have h8:(y - 1)*(-9223372036854775808)<=0:=by
   have:0<=(y - 1)*9223372036854775808:=Int.mul_nonneg (by omega) (by omega);omega
  rw[Int.sub_mul]at h8;omega
 ·omega
theorem ye5 (x y:Int)(w:World)(lo: -9223372036854775808 < x)(hi:x<=9223372036854775807)(hy0:0 < y)(hy:y<=9223372036854775807):
  Calls Tryz.prog 177 #[.agg #[.int .i64 x,.slice none 0 0],.agg #[.int .i64 y,.slice none 0 0]] w (y63 w (x / y) (x % y)):=by
 have q1:=y4d;obtain ⟨e1,e2⟩:=ylt (x:=x) hy0;have b1:=Int.lt_tmod_of_pos x hy0;have b1':=Int.tmod_lt_of_pos x hy0;obtain ⟨b2,b2',b3⟩:=yin hy0 lo hi;have b4:=Int.emod_lt_of_pos x hy0;have b5:=Int.emod_nonneg x (show y≠0 by omega);by_cases hr:x.tmod y < 0
 ·rw[if_pos hr] at e1 e2;rw[e1] at b3⊢;rw[e2] at b4 b5⊢;clear e1 e2;generalize hq:x.tdiv y=q at *;generalize hr:x.tmod y=r at *
  have hm1:(x != -9223372036854775808)=true:=by simp;omega
  have hy1:(y==0)=false:=by simp;omega
  go_enter Tryz.func177,Tryz.ntmps177;go_wp2_with fail
  go_quiet (fail)
  go_wp2_with fail
  go_quiet (fail)
  go_wp2_with fail;refine bodyPost_ret (v:=.tuple #[.agg #[.int .i64 (q - 1),.slice none 0 0],.agg #[.int .i64 (r+y),.slice none 0 0]]) (by simp[results,Tryz.results177,go_sem]) rfl ?_;refine ⟨_,_,rfl,?_,.small rfl (by omega) (by omega),.small rfl (by omega) (by omega)⟩
  repeat first
   | with_reducible exact New.refl _
   | with_reducible refine New.drewN ?_ _
   | with_reducible refine New.drew ?_
   | with_reducible refine New.alloc ?_ _
   | (with_reducible refine New.setCell ?_ ?_ _;rotate_left;(show _<=_+_);omega)
   | with_reducible assumption
 ·rw[if_neg hr] at e1 e2;rw[e1] at b3⊢;rw[e2] at b4 b5⊢;clear e1 e2;generalize hq:x.tdiv y=q at *;generalize hr:x.tmod y=r at *
  have hm1:(x != -9223372036854775808)=true:=by simp;omega
  have hy1:(y==0)=false:=by simp;omega
  go_enter Tryz.func177,Tryz.ntmps177;go_wp2_with fail
  go_quiet (fail)
  go_wp2_with fail;refine bodyPost_ret (v:=.tuple #[.agg #[.int .i64 q,.slice none 0 0],.agg #[.int .i64 r,.slice none 0 0]]) (by simp[results,Tryz.results177,go_sem]) rfl ?_;refine ⟨_,_,rfl,?_,.small rfl (by omega) (by omega),.small rfl (by omega) (by omega)⟩
  repeat first
   | with_reducible exact New.refl _
   | with_reducible refine New.drewN ?_ _
   | with_reducible refine New.drew ?_
   | with_reducible refine New.alloc ?_ _
   | (with_reducible refine New.setCell ?_ ?_ _;rotate_left;(show _<=_+_);omega)
   | with_reducible assumption
theorem y2p (b:Bool)(n:Nat):(signed b n).natAbs=n:=by
 unfold signed;split <;> simp
theorem y49 {w w6:World} {B B':Nat} {t:TypeId} {s s':Int} {a a':Option Addr} {l c l' c':Nat} {q r:Int} {s3 s4:Int} {a3 a4:Option Addr} {l3 k3 l4 k4:Nat} (hN:New w w6)
  (bp:Box w6 B t #[.int .i64 s,.slice a l c]) (bq:Box w6 B' t #[.int .i64 s',.slice a' l' c']) (hB:w.heap.size<=B) (hB':w.heap.size<=B') (hne:B≠B')
  (hi3:y06 w6 (.agg #[.int .i64 s3,.slice a3 l3 k3]) q) (hi4:y06 w6 (.agg #[.int .i64 s4,.slice a4 l4 k4]) r):
  y63 w q r (.returned (.tuple #[.agg #[.int .i64 s3,.slice a3 l3 k3],.agg #[.int .i64 s4,.slice a4 l4 k4]]))
   ((((w6.setCell ⟨B,0,none⟩ (.int .i64 s3)).setCell ⟨B,1,none⟩ (.slice a3 l3 k3)).setCell ⟨B',0,none⟩ (.int .i64 s4)).setCell ⟨B',1,none⟩ (.slice a4 l4 k4)):=
 have bq':=(bq.other (p:=⟨B,0,none⟩) hne (.int .i64 s3)).other (p:=⟨B,1,none⟩) hne (.slice a3 l3 k3)
 ⟨_,_,rfl,(hN.put2 hB _ _).put2 hB' _ _,(hi3.put2 bp _ _ _ _).put2 bq' _ _ _ _,(hi4.put2 bp _ _ _ _).put2 bq' _ _ _ _⟩
theorem y63.drew {w w':World}{q r:Int}{e:Ending}(h:y63 w q r e w'):y63 w q r e w'.drew:=by
 obtain ⟨v,v',h1,h2,h3,h4⟩:=h;exact ⟨v,v',h1,h2.drew,h3.new (New.refl _).drew,h4.new (New.refl _).drew⟩
theorem y06.of_none {w:World}{s:Int}{a:Option Addr}{l c:Nat}{z:Int}(h:y06 w (.agg #[.int .i64 s,.slice a l c]) z)(ha:a.isNone=true):s=z/\a=none/\l=0/\c=0/\ -9223372036854775808<=z/\z<=9223372036854775807:=by
 rcases h with ⟨h,lo,hi⟩ | ⟨b,off,n,cap,f,s,h,hs,hw,h0,hv,hz⟩
 ·injection h with h;injection h with h;simp at h;obtain ⟨rfl,rfl,rfl,rfl⟩:=h;exact ⟨rfl,rfl,rfl,rfl,lo,hi⟩
 ·injection h with h;injection h with h;simp at h;obtain ⟨rfl,rfl,rfl,rfl⟩:=h
  cases ha
theorem yg6 {w:World}{v:Value}{n:Nat}{f:Nat->Nat}{y:Int}(h:Wds w v n f)(hv:vf W64 f n=y.natAbs)(hy:0 < y):0 < n:=by
 rcases Nat.eq_zero_or_pos n with rfl | h0
 ·simp[vf] at hv;omega
 ·exact h0
theorem y7v {x y:Int}(hy:0 < y){q r:Nat}(h:q*y.natAbs+r=x.natAbs)(hr:r < y.natAbs):
  (0<=signed (decide (x < 0)) r->signed (decide (x < 0)) q=x / y/\signed (decide (x < 0)) r=x % y)/\(signed (decide (x < 0)) r < 0->signed (decide (x < 0)) q - 1=x / y/\signed (decide (x < 0)) r+y=x % y):=by
 have key:∀ q r:Int,y*q+r=x->0<=r->r < y->q=x / y/\r=x % y:=by
  intro q r h a b
  have e1:x / y=q:=by
   rw[<-h,Int.add_comm,Int.add_mul_ediv_left _ _ (by omega),Int.ediv_eq_zero_of_lt a b,Int.zero_add]
  have e2:x % y=r:=by
   rw[<-h,Int.add_comm,Int.add_mul_emod_self_left,Int.emod_eq_of_lt a b]
  exact ⟨e1.symm,e2.symm⟩
 have h':(y:Int)*q+r=x.natAbs:=by
  have e:((y.natAbs:Nat):Int)=y:=by omega
  have:=congrArg (fun n:Nat=>(n:Int)) h;simp only[Int.natCast_add,Int.natCast_mul,e] at this;rw[Int.mul_comm];exact this
 unfold signed;by_cases hx:x < 0
 ·simp only[hx,decide_true,if_true]
  have ex:(x.natAbs:Int)= -x:=by omega
  rw[ex]at h';refine ⟨fun h0=>?_,fun h0=>?_⟩
  ·obtain rfl:r=0:=by omega
   exact key _ _ (by rw[Int.mul_neg];omega) (by omega) (by omega)
  ·refine key _ _ ?_ (by omega) (by omega);rw[Int.mul_sub,Int.mul_neg,Int.mul_one];omega
 ·simp only[hx,decide_false]
  have ex:(x.natAbs:Int)=x:=by omega
  rw[ex]at h';exact ⟨fun _=>key _ _ (by simpa using h') (by simp) (by simp;omega),fun h0=>by simp at h0;omega⟩
theorem y36 (va vb:Value)(x y:Int)(w:World)(hx:y06 w va x)(hy:y06 w vb y)(bx:Bd x)(by':Bd y)(hy0:0 < y):Calls Tryz.prog 177 #[va,vb] w (y63 w (x / y) (x % y)):=by
 have q1:=y4d;have HX:=hid hx;have HY:=hid hy;have BX:=hid bx;have BY:=hid by';clear bx by';obtain ⟨sa,aa,la,ca,rfl⟩:=hx.shape;obtain ⟨sb,ab,lb,cb,rfl⟩:=hy.shape;by_cases hs:aa.isNone=true/\ab.isNone=true/\sa≠ -9223372036854775808
 ·obtain ⟨ha,hb,hm⟩:=hs;obtain ⟨rfl,rfl,rfl,rfl,lo,hi⟩:=hx.of_none ha;obtain ⟨rfl,rfl,rfl,rfl,lo',hi'⟩:=hy.of_none hb;exact ye5 _ _ w (by omega) hi hy0 hi'
 ·clear hx hy
  cases ha:aa.isNone with
  | false=>
   clear hs;go_enter Tryz.func177,Tryz.ntmps177;go_wp2_with fail;have BA:=hid ((Box.alloc w (w.heap.size) 113 #[.int .i64 sa,.slice aa la ca] (by simp)).new ((((New.refl _).alloc (.cells #[.int .i64 sb,.slice ab lb cb] 113)).alloc (.cells #[.int .i64 0,.slice none 0 0] 113)).alloc (.cells #[.int .i64 0,.slice none 0 0] 113)));have BB:=hid ((Box.alloc (w.alloc (.cells #[.int .i64 sa,.slice aa la ca] 113)) (w.heap.size+1) 113 #[.int .i64 sb,.slice ab lb cb] (by simp)).new (((New.refl _).alloc (.cells #[.int .i64 0,.slice none 0 0] 113)).alloc (.cells #[.int .i64 0,.slice none 0 0] 113)));have BP:=hid ((Box.alloc ((w.alloc (.cells #[.int .i64 sa,.slice aa la ca] 113)).alloc (.cells #[.int .i64 sb,.slice ab lb cb] 113)) (w.heap.size+1+1) 113 #[.int .i64 0,.slice none 0 0] (by simp)).new ((New.refl _).alloc (.cells #[.int .i64 0,.slice none 0 0] 113)));have BQ:=hid ((Box.alloc (((w.alloc (.cells #[.int .i64 sa,.slice aa la ca] 113)).alloc (.cells #[.int .i64 sb,.slice ab lb cb] 113)).alloc (.cells #[.int .i64 0,.slice none 0 0] 113)) (w.heap.size+1+1+1) 113 #[.int .i64 0,.slice none 0 0] (by simp)).new (New.refl _));have HN:=hid (((((New.refl w).alloc (.cells #[.int .i64 sa,.slice aa la ca] 113)).alloc (.cells #[.int .i64 sb,.slice ab lb cb] 113)).alloc (.cells #[.int .i64 0,.slice none 0 0] 113)).alloc (.cells #[.int .i64 0,.slice none 0 0] 113));refine (y0d _ x _ (HX.out.new HN.out)).mono ?_;rintro e w1 ⟨v1,n1,f1,rfl,hn,hw,hv⟩;have HW1:=hid hw;have HV1:=hid hv;clear hw hv;replace BB:=bW BB hn;replace BP:=bW BP hn;replace BQ:=bW BQ hn;replace HN:=tW HN hn;clear hn;obtain ⟨b0,b1,b2,b3,b4⟩:=BB.out.two;go_wp2_with fail;clear b0 b1 b2 b3 b4;refine (y0d _ y _ (HY.out.new HN.out)).mono ?_;rintro e w2 ⟨v2,n2,f2,rfl,hn,hw,hv⟩;have HW2:=hid hw;have HV2:=hid hv;clear hw hv;replace BB:=bW BB hn;replace BP:=bW BP hn;replace BQ:=bW BQ hn;replace HW1:=hid (HW1.out.new hn);replace HN:=tW HN hn;clear hn;go_wp2_with fail;refine (y60 v1 v2 n1 n2 f1 f2 _ (HW1.out.le BX.out HV1.out) HW1.out HW2.out (yg6 HW2.out HV2.out hy0)).mono ?_;rintro e w3 ⟨v3,v4,n3,n4,f3,f4,rfl,hn,hw3,hw4,hdv,hlt⟩;rw[HV1.out,HV2.out] at hdv;rw[HV2.out] at hlt;obtain ⟨sd1,sd2⟩:=y7v hy0 hdv hlt;obtain ⟨zq,hzq⟩:∃ z,signed (decide (x < 0)) (vf W64 f3 n3)=z:=⟨_,rfl⟩;obtain ⟨zr,hzr⟩:∃ z,signed (decide (x < 0)) (vf W64 f4 n4)=z:=⟨_,rfl⟩;have bzq:Bd zq:=BX.out.le (by rw[<-hzq,y2p,<-hdv];exact Nat.le_trans (Nat.le_mul_of_pos_right _ (by omega)) (Nat.le_add_right _ _));have bzr:Bd zr:=BY.out.le (by rw[<-hzr,y2p];omega);rw[hzq,hzr] at sd1 sd2;clear hdv hlt HW1 HW2 HV1 HV2;have BZQ:=hid bzq;have BZR:=hid bzr;have HW3:=hid hw3;have HW4:=hid hw4;have SD1:=hid sd1;have SD2:=hid sd2;have HZQ:=hid hzq;have HZR:=hid hzr;clear bzq bzr hw3 hw4 sd1 sd2 hzq hzr;replace BB:=bW BB hn;replace BP:=bW BP hn;replace BQ:=bW BQ hn;replace HN:=tW HN hn;clear hn;go_wp2_with fail;refine (y0k _ v3 n3 f3 _ HW3.out).mono ?_;rintro e w4 ⟨r3,rfl,hn,hi⟩;rw[HZQ.out] at hi;obtain ⟨s3,a3,l3,k3,rfl⟩:=hi.shape;have HI3:=hid hi;clear hi;replace BB:=bW BB hn;replace BP:=bW BP hn;replace BQ:=bW BQ hn;replace HW4:=hid (HW4.out.new hn);replace HN:=tW HN hn;clear hn;go_wp2_with fail;refine (y0k _ v4 n4 f4 _ HW4.out).mono ?_;rintro e w5 ⟨r4,rfl,hn,hi⟩;rw[HZR.out] at hi;obtain ⟨s4,a4,l4,k4,rfl⟩:=hi.shape;have HI4:=hid hi;clear hi;replace BB:=bW BB hn;replace BP:=bW BP hn;replace BQ:=bW BQ hn;replace HI3:=hid (HI3.out.new hn);replace HN:=tW HN hn;clear hn;go_wp2_with fail;have HN0:=HN;have hz5:=BQ.out.lt;clear HN;obtain ⟨B3,B4,HN⟩:=lay2 w5 113 #[.int .i64 s3,.slice a3 l3 k3] 113 #[.int .i64 s4,.slice a4 l4 k4];replace BB:=hid (BB.out.new HN.out);replace BP:=hid (BP.out.new HN.out);replace BQ:=hid (BQ.out.new HN.out);replace HI3:=hid (HI3.out.new HN.out);replace HI4:=hid (HI4.out.new HN.out);have HN_:=HN0.out.trans HN.out;clear HN HN0;have HN:=hid HN_;clear HN_;refine (y0y _ zr _ HI4.out).mono ?_;rintro e w6 ⟨rfl,hn⟩;replace BB:=bW BB hn;replace BP:=bW BP hn;replace BQ:=bW BQ hn;replace HI3:=hid (HI3.out.new hn);replace HI4:=hid (HI4.out.new hn);replace B3:=bW B3 hn;replace B4:=bW B4 hn;replace HN:=tW HN hn;clear hn;by_cases hneg:zr < 0
   ·obtain ⟨t,ht,htn⟩:∃ t,zr.sign=t/\t < 0:=⟨_,rfl,by rw[Int.sign_eq_neg_one_of_neg hneg];omega⟩;rw[ht];have hend:=SD2.out hneg;clear ht;have HEND:=hid hend;have HNEG:=hid hneg;clear hend hneg;obtain ⟨c0,c1,c2,c3,c4⟩:=B3.out.two;obtain ⟨d0,d1,d2,d3,d4⟩:=B4.out.two;obtain ⟨b0,b1,b2,b3,b4⟩:=BB.out.two;go_wp2_with fail;clear c0 c1 c2 c3 c4;clear d0 d1 d2 d3 d4;clear b0 b1 b2 b3 b4;refine y00 6 (fun W=>(W.cell? ⟨w5.heap.size,0,none⟩=some (.int .i64 s3)/\W.cell? ⟨w5.heap.size,1,none⟩=some (.slice a3 l3 k3))/\(W.cell? ⟨w5.heap.size+1,0,none⟩=some (.int .i64 s4)/\W.cell? ⟨w5.heap.size+1,1,none⟩=some (.slice a4 l4 k4))/\(W.cell? ⟨w.heap.size+1,0,none⟩=some (.int .i64 sb)/\W.cell? ⟨w.heap.size+1,1,none⟩=some (.slice ab lb cb))) 8 #[false,false,false,false,false,false,false,false] rfl (by kernel_rfl) (by kernel_rfl) ?_;refine tk 0 (by exact ⟨cW2 B3,cW2 B4,cW2 BB⟩) ?_
    try simp only[PT]
    refine tk 3 (by exact ⟨cW2 B3,cW2 B4,cW2 BB⟩) ?_
    try simp only[PT]
    refine tk 4 (by exact ⟨cW2 B3,cW2 B4,cW2 BB⟩) ?_
    try simp only[PT]
    refine tk1 1 fun K hK=>?_;go_simp;refine (y09 1 _).mono ?_;rintro e w7 ⟨rfl,hn⟩;have hn:=hn.undrew;replace BB:=bW BB hn;replace BP:=bW BP hn;replace BQ:=bW BQ hn;replace HI3:=hid (HI3.out.new hn);replace HI4:=hid (HI4.out.new hn);replace B3:=bW B3 hn;replace B4:=bW B4 hn;replace HN:=tW HN hn;clear hn;refine hK.out _ _ (fun _=>⟨cW2 B3,cW2 B4,cW2 BB⟩) ?_;clear hK K
    try simp only[PT]
    refine tk1 2 fun K hK=>?_;go_simp;refine (y3v _ _ zq 1 _ HI3.out (.small rfl (by omega) (by omega)) BZQ.out (.small (by omega) (by omega))).mono ?_;rintro e w8 ⟨v5,rfl,hn,hi⟩;obtain ⟨s5,a5,l5,k5,rfl⟩:=hi.shape;have HI5:=hid hi;clear hi;replace BB:=bW BB hn;replace BP:=bW BP hn;replace BQ:=bW BQ hn;replace HI3:=hid (HI3.out.new hn);replace HI4:=hid (HI4.out.new hn);replace B3:=bW B3 hn;replace B4:=bW B4 hn;replace HN:=tW HN hn;clear hn;refine hK.out _ _ (fun _=>⟨cW2 B3,cW2 B4,cW2 BB⟩) ?_;clear hK K
    try simp only[PT]
    refine tk1 5 fun K hK=>?_;go_simp;refine (y1r _ _ zr y _ HI4.out (HY.out.new HN.out) BZR.out BY.out).mono ?_;rintro e w9 ⟨v6,rfl,hn,hi⟩;obtain ⟨s6,a6,l6,k6,rfl⟩:=hi.shape;have HI6:=hid hi;clear hi;replace BB:=bW BB hn;replace BP:=bW BP hn;replace BQ:=bW BQ hn;replace HI5:=hid (HI5.out.new hn);replace B3:=bW B3 hn;replace B4:=bW B4 hn;replace HN:=tW HN hn;clear hn;refine hK.out _ _ (fun _=>⟨cW2 B3,cW2 B4,cW2 BB⟩) ?_;clear hK K
    try simp only[PT]
    refine tlW ?_;obtain ⟨c0,c1,c2,c3,c4⟩:=B3.out.two;obtain ⟨d0,d1,d2,d3,d4⟩:=B4.out.two;obtain ⟨b0,b1,b2,b3,b4⟩:=BB.out.two
    have hne:w5.heap.size≠w5.heap.size+1:=by omega
    obtain ⟨p0,p1,p2,p3,p4⟩:=BP.out.two;obtain ⟨q0,q1,q2,q3,q4⟩:=BQ.out.two;go_wp2_with fail
    go_region
    go_wp2_with fail;refine bodyPost_ret (v:=.tuple #[.agg #[.int .i64 s5,.slice a5 l5 k5],.agg #[.int .i64 s6,.slice a6 l6 k6]]) (by simp[results,Tryz.results177,go_sem,p0,p1,q0,q1]) rfl ?_;rw[<-HEND.out.1,<-HEND.out.2]
    exact (y49 ((HN.out.put2 (by omega) _ _).put2 (by omega) _ _) ((BP.out.other2 (by omega) _ _).other2 (by omega) _ _) ((BQ.out.other2 (by omega) _ _).other2 (by omega) _ _) (by omega) (by omega) (by omega)
     ((HI5.out.put2 B3.out _ _ _ _).put2 (B4.out.other2 (by omega) _ _) _ _ _ _) ((HI6.out.put2 B3.out _ _ _ _).put2 (B4.out.other2 (by omega) _ _) _ _ _ _)).drew
   ·obtain ⟨t,ht,htn⟩:∃ t,zr.sign=t/\0<=t:=⟨_,rfl,Int.sign_nonneg_iff.2 (by omega)⟩;rw[ht];have hend:=SD1.out (by omega);clear ht;have HEND:=hid hend;have HNEG:=hid hneg;clear hend hneg;obtain ⟨c0,c1,c2,c3,c4⟩:=B3.out.two;obtain ⟨d0,d1,d2,d3,d4⟩:=B4.out.two;obtain ⟨b0,b1,b2,b3,b4⟩:=BP.out.two;obtain ⟨e0,e1,e2,e3,e4⟩:=BQ.out.two;go_wp2_with fail
    go_region
    go_wp2_with fail
    all_goals
     refine bodyPost_ret (v:=.tuple #[.agg #[.int .i64 s3,.slice a3 l3 k3],.agg #[.int .i64 s4,.slice a4 l4 k4]]) (by simp[results,Tryz.results177,go_sem,b0,b1,e0,e1]) rfl ?_;rw[<-HEND.out.1,<-HEND.out.2];exact (y49 HN.out BP.out BQ.out (by omega) (by omega) (by omega) HI3.out HI4.out).drew
  | true=>
   cases hb:ab.isNone with
   | false=>
    clear hs;go_enter Tryz.func177,Tryz.ntmps177;go_wp2_with fail;have BA:=hid ((Box.alloc w (w.heap.size) 113 #[.int .i64 sa,.slice aa la ca] (by simp)).new ((((New.refl _).alloc (.cells #[.int .i64 sb,.slice ab lb cb] 113)).alloc (.cells #[.int .i64 0,.slice none 0 0] 113)).alloc (.cells #[.int .i64 0,.slice none 0 0] 113)));have BB:=hid ((Box.alloc (w.alloc (.cells #[.int .i64 sa,.slice aa la ca] 113)) (w.heap.size+1) 113 #[.int .i64 sb,.slice ab lb cb] (by simp)).new (((New.refl _).alloc (.cells #[.int .i64 0,.slice none 0 0] 113)).alloc (.cells #[.int .i64 0,.slice none 0 0] 113)));have BP:=hid ((Box.alloc ((w.alloc (.cells #[.int .i64 sa,.slice aa la ca] 113)).alloc (.cells #[.int .i64 sb,.slice ab lb cb] 113)) (w.heap.size+1+1) 113 #[.int .i64 0,.slice none 0 0] (by simp)).new ((New.refl _).alloc (.cells #[.int .i64 0,.slice none 0 0] 113)));have BQ:=hid ((Box.alloc (((w.alloc (.cells #[.int .i64 sa,.slice aa la ca] 113)).alloc (.cells #[.int .i64 sb,.slice ab lb cb] 113)).alloc (.cells #[.int .i64 0,.slice none 0 0] 113)) (w.heap.size+1+1+1) 113 #[.int .i64 0,.slice none 0 0] (by simp)).new (New.refl _));have HN:=hid (((((New.refl w).alloc (.cells #[.int .i64 sa,.slice aa la ca] 113)).alloc (.cells #[.int .i64 sb,.slice ab lb cb] 113)).alloc (.cells #[.int .i64 0,.slice none 0 0] 113)).alloc (.cells #[.int .i64 0,.slice none 0 0] 113));refine (y0d _ x _ (HX.out.new HN.out)).mono ?_;rintro e w1 ⟨v1,n1,f1,rfl,hn,hw,hv⟩;have HW1:=hid hw;have HV1:=hid hv;clear hw hv;replace BB:=bW BB hn;replace BP:=bW BP hn;replace BQ:=bW BQ hn;replace HN:=tW HN hn;clear hn;obtain ⟨b0,b1,b2,b3,b4⟩:=BB.out.two;go_wp2_with fail;clear b0 b1 b2 b3 b4;refine (y0d _ y _ (HY.out.new HN.out)).mono ?_;rintro e w2 ⟨v2,n2,f2,rfl,hn,hw,hv⟩;have HW2:=hid hw;have HV2:=hid hv;clear hw hv;replace BB:=bW BB hn;replace BP:=bW BP hn;replace BQ:=bW BQ hn;replace HW1:=hid (HW1.out.new hn);replace HN:=tW HN hn;clear hn;go_wp2_with fail;refine (y60 v1 v2 n1 n2 f1 f2 _ (HW1.out.le BX.out HV1.out) HW1.out HW2.out (yg6 HW2.out HV2.out hy0)).mono ?_;rintro e w3 ⟨v3,v4,n3,n4,f3,f4,rfl,hn,hw3,hw4,hdv,hlt⟩;rw[HV1.out,HV2.out] at hdv;rw[HV2.out] at hlt;obtain ⟨sd1,sd2⟩:=y7v hy0 hdv hlt;obtain ⟨zq,hzq⟩:∃ z,signed (decide (x < 0)) (vf W64 f3 n3)=z:=⟨_,rfl⟩;obtain ⟨zr,hzr⟩:∃ z,signed (decide (x < 0)) (vf W64 f4 n4)=z:=⟨_,rfl⟩;have bzq:Bd zq:=BX.out.le (by rw[<-hzq,y2p,<-hdv];exact Nat.le_trans (Nat.le_mul_of_pos_right _ (by omega)) (Nat.le_add_right _ _));have bzr:Bd zr:=BY.out.le (by rw[<-hzr,y2p];omega);rw[hzq,hzr] at sd1 sd2;clear hdv hlt HW1 HW2 HV1 HV2;have BZQ:=hid bzq;have BZR:=hid bzr;have HW3:=hid hw3;have HW4:=hid hw4;have SD1:=hid sd1;have SD2:=hid sd2;have HZQ:=hid hzq;have HZR:=hid hzr;clear bzq bzr hw3 hw4 sd1 sd2 hzq hzr;replace BB:=bW BB hn;replace BP:=bW BP hn;replace BQ:=bW BQ hn;replace HN:=tW HN hn;clear hn;go_wp2_with fail;refine (y0k _ v3 n3 f3 _ HW3.out).mono ?_;rintro e w4 ⟨r3,rfl,hn,hi⟩;rw[HZQ.out] at hi;obtain ⟨s3,a3,l3,k3,rfl⟩:=hi.shape;have HI3:=hid hi;clear hi;replace BB:=bW BB hn;replace BP:=bW BP hn;replace BQ:=bW BQ hn;replace HW4:=hid (HW4.out.new hn);replace HN:=tW HN hn;clear hn;go_wp2_with fail;refine (y0k _ v4 n4 f4 _ HW4.out).mono ?_;rintro e w5 ⟨r4,rfl,hn,hi⟩;rw[HZR.out] at hi;obtain ⟨s4,a4,l4,k4,rfl⟩:=hi.shape;have HI4:=hid hi;clear hi;replace BB:=bW BB hn;replace BP:=bW BP hn;replace BQ:=bW BQ hn;replace HI3:=hid (HI3.out.new hn);replace HN:=tW HN hn;clear hn;go_wp2_with fail;have HN0:=HN;have hz5:=BQ.out.lt;clear HN;obtain ⟨B3,B4,HN⟩:=lay2 w5 113 #[.int .i64 s3,.slice a3 l3 k3] 113 #[.int .i64 s4,.slice a4 l4 k4];replace BB:=hid (BB.out.new HN.out);replace BP:=hid (BP.out.new HN.out);replace BQ:=hid (BQ.out.new HN.out);replace HI3:=hid (HI3.out.new HN.out);replace HI4:=hid (HI4.out.new HN.out);have HN_:=HN0.out.trans HN.out;clear HN HN0;have HN:=hid HN_;clear HN_;refine (y0y _ zr _ HI4.out).mono ?_;rintro e w6 ⟨rfl,hn⟩;replace BB:=bW BB hn;replace BP:=bW BP hn;replace BQ:=bW BQ hn;replace HI3:=hid (HI3.out.new hn);replace HI4:=hid (HI4.out.new hn);replace B3:=bW B3 hn;replace B4:=bW B4 hn;replace HN:=tW HN hn;clear hn;by_cases hneg:zr < 0
    ·obtain ⟨t,ht,htn⟩:∃ t,zr.sign=t/\t < 0:=⟨_,rfl,by rw[Int.sign_eq_neg_one_of_neg hneg];omega⟩;rw[ht];have hend:=SD2.out hneg;clear ht;have HEND:=hid hend;have HNEG:=hid hneg;clear hend hneg;obtain ⟨c0,c1,c2,c3,c4⟩:=B3.out.two;obtain ⟨d0,d1,d2,d3,d4⟩:=B4.out.two;obtain ⟨b0,b1,b2,b3,b4⟩:=BB.out.two;go_wp2_with fail;clear c0 c1 c2 c3 c4;clear d0 d1 d2 d3 d4;clear b0 b1 b2 b3 b4;refine y00 6 (fun W=>(W.cell? ⟨w5.heap.size,0,none⟩=some (.int .i64 s3)/\W.cell? ⟨w5.heap.size,1,none⟩=some (.slice a3 l3 k3))/\(W.cell? ⟨w5.heap.size+1,0,none⟩=some (.int .i64 s4)/\W.cell? ⟨w5.heap.size+1,1,none⟩=some (.slice a4 l4 k4))/\(W.cell? ⟨w.heap.size+1,0,none⟩=some (.int .i64 sb)/\W.cell? ⟨w.heap.size+1,1,none⟩=some (.slice ab lb cb))) 8 #[false,false,false,false,false,false,false,false] rfl (by kernel_rfl) (by kernel_rfl) ?_;refine tk 0 (by exact ⟨cW2 B3,cW2 B4,cW2 BB⟩) ?_
     try simp only[PT]
     refine tk 3 (by exact ⟨cW2 B3,cW2 B4,cW2 BB⟩) ?_
     try simp only[PT]
     refine tk 4 (by exact ⟨cW2 B3,cW2 B4,cW2 BB⟩) ?_
     try simp only[PT]
     refine tk1 1 fun K hK=>?_;go_simp;refine (y09 1 _).mono ?_;rintro e w7 ⟨rfl,hn⟩;have hn:=hn.undrew;replace BB:=bW BB hn;replace BP:=bW BP hn;replace BQ:=bW BQ hn;replace HI3:=hid (HI3.out.new hn);replace HI4:=hid (HI4.out.new hn);replace B3:=bW B3 hn;replace B4:=bW B4 hn;replace HN:=tW HN hn;clear hn;refine hK.out _ _ (fun _=>⟨cW2 B3,cW2 B4,cW2 BB⟩) ?_;clear hK K
     try simp only[PT]
     refine tk1 2 fun K hK=>?_;go_simp;refine (y3v _ _ zq 1 _ HI3.out (.small rfl (by omega) (by omega)) BZQ.out (.small (by omega) (by omega))).mono ?_;rintro e w8 ⟨v5,rfl,hn,hi⟩;obtain ⟨s5,a5,l5,k5,rfl⟩:=hi.shape;have HI5:=hid hi;clear hi;replace BB:=bW BB hn;replace BP:=bW BP hn;replace BQ:=bW BQ hn;replace HI3:=hid (HI3.out.new hn);replace HI4:=hid (HI4.out.new hn);replace B3:=bW B3 hn;replace B4:=bW B4 hn;replace HN:=tW HN hn;clear hn;refine hK.out _ _ (fun _=>⟨cW2 B3,cW2 B4,cW2 BB⟩) ?_;clear hK K
     try simp only[PT]
     refine tk1 5 fun K hK=>?_;go_simp;refine (y1r _ _ zr y _ HI4.out (HY.out.new HN.out) BZR.out BY.out).mono ?_;rintro e w9 ⟨v6,rfl,hn,hi⟩;obtain ⟨s6,a6,l6,k6,rfl⟩:=hi.shape;have HI6:=hid hi;clear hi;replace BB:=bW BB hn;replace BP:=bW BP hn;replace BQ:=bW BQ hn;replace HI5:=hid (HI5.out.new hn);replace B3:=bW B3 hn;replace B4:=bW B4 hn;replace HN:=tW HN hn;clear hn;refine hK.out _ _ (fun _=>⟨cW2 B3,cW2 B4,cW2 BB⟩) ?_;clear hK K
     try simp only[PT]
     refine tlW ?_;obtain ⟨c0,c1,c2,c3,c4⟩:=B3.out.two;obtain ⟨d0,d1,d2,d3,d4⟩:=B4.out.two;obtain ⟨b0,b1,b2,b3,b4⟩:=BB.out.two
     have hne:w5.heap.size≠w5.heap.size+1:=by omega
     obtain ⟨p0,p1,p2,p3,p4⟩:=BP.out.two;obtain ⟨q0,q1,q2,q3,q4⟩:=BQ.out.two;go_wp2_with fail
     go_region
     go_wp2_with fail;refine bodyPost_ret (v:=.tuple #[.agg #[.int .i64 s5,.slice a5 l5 k5],.agg #[.int .i64 s6,.slice a6 l6 k6]]) (by simp[results,Tryz.results177,go_sem,p0,p1,q0,q1]) rfl ?_;rw[<-HEND.out.1,<-HEND.out.2]
     exact (y49 ((HN.out.put2 (by omega) _ _).put2 (by omega) _ _) ((BP.out.other2 (by omega) _ _).other2 (by omega) _ _) ((BQ.out.other2 (by omega) _ _).other2 (by omega) _ _) (by omega) (by omega) (by omega)
      ((HI5.out.put2 B3.out _ _ _ _).put2 (B4.out.other2 (by omega) _ _) _ _ _ _) ((HI6.out.put2 B3.out _ _ _ _).put2 (B4.out.other2 (by omega) _ _) _ _ _ _)).drew
    ·obtain ⟨t,ht,htn⟩:∃ t,zr.sign=t/\0<=t:=⟨_,rfl,Int.sign_nonneg_iff.2 (by omega)⟩;rw[ht];have hend:=SD1.out (by omega);clear ht;have HEND:=hid hend;have HNEG:=hid hneg;clear hend hneg;obtain ⟨c0,c1,c2,c3,c4⟩:=B3.out.two;obtain ⟨d0,d1,d2,d3,d4⟩:=B4.out.two;obtain ⟨b0,b1,b2,b3,b4⟩:=BP.out.two;obtain ⟨e0,e1,e2,e3,e4⟩:=BQ.out.two;go_wp2_with fail
     go_region
     go_wp2_with fail
     all_goals
      refine bodyPost_ret (v:=.tuple #[.agg #[.int .i64 s3,.slice a3 l3 k3],.agg #[.int .i64 s4,.slice a4 l4 k4]]) (by simp[results,Tryz.results177,go_sem,b0,b1,e0,e1]) rfl ?_;rw[<-HEND.out.1,<-HEND.out.2];exact (y49 HN.out BP.out BQ.out (by omega) (by omega) (by omega) HI3.out HI4.out).drew
   | true=>
    have hm:(sa != -9223372036854775808)=false:=by
     have:sa= -9223372036854775808:=Decidable.byContradiction fun h=>hs ⟨ha,hb,h⟩;simpa using this
    clear hs;go_enter Tryz.func177,Tryz.ntmps177;go_wp2_with fail;have BA:=hid ((Box.alloc w (w.heap.size) 113 #[.int .i64 sa,.slice aa la ca] (by simp)).new ((((New.refl _).alloc (.cells #[.int .i64 sb,.slice ab lb cb] 113)).alloc (.cells #[.int .i64 0,.slice none 0 0] 113)).alloc (.cells #[.int .i64 0,.slice none 0 0] 113)));have BB:=hid ((Box.alloc (w.alloc (.cells #[.int .i64 sa,.slice aa la ca] 113)) (w.heap.size+1) 113 #[.int .i64 sb,.slice ab lb cb] (by simp)).new (((New.refl _).alloc (.cells #[.int .i64 0,.slice none 0 0] 113)).alloc (.cells #[.int .i64 0,.slice none 0 0] 113)));have BP:=hid ((Box.alloc ((w.alloc (.cells #[.int .i64 sa,.slice aa la ca] 113)).alloc (.cells #[.int .i64 sb,.slice ab lb cb] 113)) (w.heap.size+1+1) 113 #[.int .i64 0,.slice none 0 0] (by simp)).new ((New.refl _).alloc (.cells #[.int .i64 0,.slice none 0 0] 113)));have BQ:=hid ((Box.alloc (((w.alloc (.cells #[.int .i64 sa,.slice aa la ca] 113)).alloc (.cells #[.int .i64 sb,.slice ab lb cb] 113)).alloc (.cells #[.int .i64 0,.slice none 0 0] 113)) (w.heap.size+1+1+1) 113 #[.int .i64 0,.slice none 0 0] (by simp)).new (New.refl _));have HN:=hid (((((New.refl w).alloc (.cells #[.int .i64 sa,.slice aa la ca] 113)).alloc (.cells #[.int .i64 sb,.slice ab lb cb] 113)).alloc (.cells #[.int .i64 0,.slice none 0 0] 113)).alloc (.cells #[.int .i64 0,.slice none 0 0] 113));refine (y0d _ x _ (HX.out.new HN.out)).mono ?_;rintro e w1 ⟨v1,n1,f1,rfl,hn,hw,hv⟩;have HW1:=hid hw;have HV1:=hid hv;clear hw hv;replace BB:=bW BB hn;replace BP:=bW BP hn;replace BQ:=bW BQ hn;replace HN:=tW HN hn;clear hn;obtain ⟨b0,b1,b2,b3,b4⟩:=BB.out.two;go_wp2_with fail;clear b0 b1 b2 b3 b4;refine (y0d _ y _ (HY.out.new HN.out)).mono ?_;rintro e w2 ⟨v2,n2,f2,rfl,hn,hw,hv⟩;have HW2:=hid hw;have HV2:=hid hv;clear hw hv;replace BB:=bW BB hn;replace BP:=bW BP hn;replace BQ:=bW BQ hn;replace HW1:=hid (HW1.out.new hn);replace HN:=tW HN hn;clear hn;go_wp2_with fail;refine (y60 v1 v2 n1 n2 f1 f2 _ (HW1.out.le BX.out HV1.out) HW1.out HW2.out (yg6 HW2.out HV2.out hy0)).mono ?_;rintro e w3 ⟨v3,v4,n3,n4,f3,f4,rfl,hn,hw3,hw4,hdv,hlt⟩;rw[HV1.out,HV2.out] at hdv;rw[HV2.out] at hlt;obtain ⟨sd1,sd2⟩:=y7v hy0 hdv hlt;obtain ⟨zq,hzq⟩:∃ z,signed (decide (x < 0)) (vf W64 f3 n3)=z:=⟨_,rfl⟩;obtain ⟨zr,hzr⟩:∃ z,signed (decide (x < 0)) (vf W64 f4 n4)=z:=⟨_,rfl⟩;have bzq:Bd zq:=BX.out.le (by rw[<-hzq,y2p,<-hdv];exact Nat.le_trans (Nat.le_mul_of_pos_right _ (by omega)) (Nat.le_add_right _ _));have bzr:Bd zr:=BY.out.le (by rw[<-hzr,y2p];omega);rw[hzq,hzr] at sd1 sd2;clear hdv hlt HW1 HW2 HV1 HV2;have BZQ:=hid bzq;have BZR:=hid bzr;have HW3:=hid hw3;have HW4:=hid hw4;have SD1:=hid sd1;have SD2:=hid sd2;have HZQ:=hid hzq;have HZR:=hid hzr;clear bzq bzr hw3 hw4 sd1 sd2 hzq hzr;replace BB:=bW BB hn;replace BP:=bW BP hn;replace BQ:=bW BQ hn;replace HN:=tW HN hn;clear hn;go_wp2_with fail;refine (y0k _ v3 n3 f3 _ HW3.out).mono ?_;rintro e w4 ⟨r3,rfl,hn,hi⟩;rw[HZQ.out] at hi;obtain ⟨s3,a3,l3,k3,rfl⟩:=hi.shape;have HI3:=hid hi;clear hi;replace BB:=bW BB hn;replace BP:=bW BP hn;replace BQ:=bW BQ hn;replace HW4:=hid (HW4.out.new hn);replace HN:=tW HN hn;clear hn;go_wp2_with fail;refine (y0k _ v4 n4 f4 _ HW4.out).mono ?_;rintro e w5 ⟨r4,rfl,hn,hi⟩;rw[HZR.out] at hi;obtain ⟨s4,a4,l4,k4,rfl⟩:=hi.shape;have HI4:=hid hi;clear hi;replace BB:=bW BB hn;replace BP:=bW BP hn;replace BQ:=bW BQ hn;replace HI3:=hid (HI3.out.new hn);replace HN:=tW HN hn;clear hn;go_wp2_with fail;have HN0:=HN;have hz5:=BQ.out.lt;clear HN;obtain ⟨B3,B4,HN⟩:=lay2 w5 113 #[.int .i64 s3,.slice a3 l3 k3] 113 #[.int .i64 s4,.slice a4 l4 k4];replace BB:=hid (BB.out.new HN.out);replace BP:=hid (BP.out.new HN.out);replace BQ:=hid (BQ.out.new HN.out);replace HI3:=hid (HI3.out.new HN.out);replace HI4:=hid (HI4.out.new HN.out);have HN_:=HN0.out.trans HN.out;clear HN HN0;have HN:=hid HN_;clear HN_;refine (y0y _ zr _ HI4.out).mono ?_;rintro e w6 ⟨rfl,hn⟩;replace BB:=bW BB hn;replace BP:=bW BP hn;replace BQ:=bW BQ hn;replace HI3:=hid (HI3.out.new hn);replace HI4:=hid (HI4.out.new hn);replace B3:=bW B3 hn;replace B4:=bW B4 hn;replace HN:=tW HN hn;clear hn;by_cases hneg:zr < 0
    ·obtain ⟨t,ht,htn⟩:∃ t,zr.sign=t/\t < 0:=⟨_,rfl,by rw[Int.sign_eq_neg_one_of_neg hneg];omega⟩;rw[ht];have hend:=SD2.out hneg;clear ht;have HEND:=hid hend;have HNEG:=hid hneg;clear hend hneg;obtain ⟨c0,c1,c2,c3,c4⟩:=B3.out.two;obtain ⟨d0,d1,d2,d3,d4⟩:=B4.out.two;obtain ⟨b0,b1,b2,b3,b4⟩:=BB.out.two;go_wp2_with fail;clear c0 c1 c2 c3 c4;clear d0 d1 d2 d3 d4;clear b0 b1 b2 b3 b4;refine y00 6 (fun W=>(W.cell? ⟨w5.heap.size,0,none⟩=some (.int .i64 s3)/\W.cell? ⟨w5.heap.size,1,none⟩=some (.slice a3 l3 k3))/\(W.cell? ⟨w5.heap.size+1,0,none⟩=some (.int .i64 s4)/\W.cell? ⟨w5.heap.size+1,1,none⟩=some (.slice a4 l4 k4))/\(W.cell? ⟨w.heap.size+1,0,none⟩=some (.int .i64 sb)/\W.cell? ⟨w.heap.size+1,1,none⟩=some (.slice ab lb cb))) 8 #[false,false,false,false,false,false,false,false] rfl (by kernel_rfl) (by kernel_rfl) ?_;refine tk 0 (by exact ⟨cW2 B3,cW2 B4,cW2 BB⟩) ?_
     try simp only[PT]
     refine tk 3 (by exact ⟨cW2 B3,cW2 B4,cW2 BB⟩) ?_
     try simp only[PT]
     refine tk 4 (by exact ⟨cW2 B3,cW2 B4,cW2 BB⟩) ?_
     try simp only[PT]
     refine tk1 1 fun K hK=>?_;go_simp;refine (y09 1 _).mono ?_;rintro e w7 ⟨rfl,hn⟩;have hn:=hn.undrew;replace BB:=bW BB hn;replace BP:=bW BP hn;replace BQ:=bW BQ hn;replace HI3:=hid (HI3.out.new hn);replace HI4:=hid (HI4.out.new hn);replace B3:=bW B3 hn;replace B4:=bW B4 hn;replace HN:=tW HN hn;clear hn;refine hK.out _ _ (fun _=>⟨cW2 B3,cW2 B4,cW2 BB⟩) ?_;clear hK K
     try simp only[PT]
     refine tk1 2 fun K hK=>?_;go_simp;refine (y3v _ _ zq 1 _ HI3.out (.small rfl (by omega) (by omega)) BZQ.out (.small (by omega) (by omega))).mono ?_;rintro e w8 ⟨v5,rfl,hn,hi⟩;obtain ⟨s5,a5,l5,k5,rfl⟩:=hi.shape;have HI5:=hid hi;clear hi;replace BB:=bW BB hn;replace BP:=bW BP hn;replace BQ:=bW BQ hn;replace HI3:=hid (HI3.out.new hn);replace HI4:=hid (HI4.out.new hn);replace B3:=bW B3 hn;replace B4:=bW B4 hn;replace HN:=tW HN hn;clear hn;refine hK.out _ _ (fun _=>⟨cW2 B3,cW2 B4,cW2 BB⟩) ?_;clear hK K
     try simp only[PT]
     refine tk1 5 fun K hK=>?_;go_simp;refine (y1r _ _ zr y _ HI4.out (HY.out.new HN.out) BZR.out BY.out).mono ?_;rintro e w9 ⟨v6,rfl,hn,hi⟩;obtain ⟨s6,a6,l6,k6,rfl⟩:=hi.shape;have HI6:=hid hi;clear hi;replace BB:=bW BB hn;replace BP:=bW BP hn;replace BQ:=bW BQ hn;replace HI5:=hid (HI5.out.new hn);replace B3:=bW B3 hn;replace B4:=bW B4 hn;replace HN:=tW HN hn;clear hn;refine hK.out _ _ (fun _=>⟨cW2 B3,cW2 B4,cW2 BB⟩) ?_;clear hK K
     try simp only[PT]
     refine tlW ?_;obtain ⟨c0,c1,c2,c3,c4⟩:=B3.out.two;obtain ⟨d0,d1,d2,d3,d4⟩:=B4.out.two;obtain ⟨b0,b1,b2,b3,b4⟩:=BB.out.two
     have hne:w5.heap.size≠w5.heap.size+1:=by omega
     obtain ⟨p0,p1,p2,p3,p4⟩:=BP.out.two;obtain ⟨q0,q1,q2,q3,q4⟩:=BQ.out.two;go_wp2_with fail
     go_region
     go_wp2_with fail;refine bodyPost_ret (v:=.tuple #[.agg #[.int .i64 s5,.slice a5 l5 k5],.agg #[.int .i64 s6,.slice a6 l6 k6]]) (by simp[results,Tryz.results177,go_sem,p0,p1,q0,q1]) rfl ?_;rw[<-HEND.out.1,<-HEND.out.2]
     exact (y49 ((HN.out.put2 (by omega) _ _).put2 (by omega) _ _) ((BP.out.other2 (by omega) _ _).other2 (by omega) _ _) ((BQ.out.other2 (by omega) _ _).other2 (by omega) _ _) (by omega) (by omega) (by omega)
      ((HI5.out.put2 B3.out _ _ _ _).put2 (B4.out.other2 (by omega) _ _) _ _ _ _) ((HI6.out.put2 B3.out _ _ _ _).put2 (B4.out.other2 (by omega) _ _) _ _ _ _)).drew
    ·obtain ⟨t,ht,htn⟩:∃ t,zr.sign=t/\0<=t:=⟨_,rfl,Int.sign_nonneg_iff.2 (by omega)⟩;rw[ht];have hend:=SD1.out (by omega);clear ht;have HEND:=hid hend;have HNEG:=hid hneg;clear hend hneg;obtain ⟨c0,c1,c2,c3,c4⟩:=B3.out.two;obtain ⟨d0,d1,d2,d3,d4⟩:=B4.out.two;obtain ⟨b0,b1,b2,b3,b4⟩:=BP.out.two;obtain ⟨e0,e1,e2,e3,e4⟩:=BQ.out.two;go_wp2_with fail
     go_region
     go_wp2_with fail
     all_goals
      refine bodyPost_ret (v:=.tuple #[.agg #[.int .i64 s3,.slice a3 l3 k3],.agg #[.int .i64 s4,.slice a4 l4 k4]]) (by simp[results,Tryz.results177,go_sem,b0,b1,e0,e1]) rfl ?_;rw[<-HEND.out.1,<-HEND.out.2];exact (y49 HN.out BP.out BQ.out (by omega) (by omega) (by omega) HI3.out HI4.out).drew
def quo (x y:Int):Int:=if y < 0 then -x / -y else x / y
theorem y2n (va vb:Value)(x y:Int)(w:World)(hx:y06 w va x)(hy:y06 w vb y)(bx:Bd x)(by':Bd y)(hy0:y≠0):Calls Tryz.prog 180 #[va,vb] w (y0l w (quo x y)):=by
 obtain ⟨sa,aa,la,ca,rfl⟩:=hx.shape;obtain ⟨sb,ab,lb,cb,rfl⟩:=hy.shape;obtain ⟨z,hz⟩:∃ z,quo x y=z:=⟨_,rfl⟩;rw[hz];have hend:∀ w' v,New w w'->y06 w' v z->y0l w z (.returned v) w':=fun w' v h1 h2=>⟨v,rfl,h1,h2⟩;have HX:=hid hx;have HY:=hid hy;have BX:=hid bx;have BY:=hid by';have HEND:=hid hend;have HZ:=hid hz;clear hx hy bx by' hend hz;by_cases hneg:y < 0
 ·obtain ⟨t,ht,htn⟩:∃ t,y.sign=t/\t < 0:=⟨_,rfl,by rw[Int.sign_eq_neg_one_of_neg hneg];omega⟩;go_enter Tryz.func180,Tryz.ntmps180;go_wp2_with fail;obtain ⟨BA,BB,BP,HN⟩:=lay3 w 113 #[.int .i64 sa,.slice aa la ca] 113 #[.int .i64 sb,.slice ab lb cb] 113 #[.int .i64 0,.slice none 0 0];refine (y0y _ y _ (HY.out.new HN.out)).mono ?_;rintro e w4 ⟨rfl,hn⟩;rw[ht];clear ht;replace BA:=bW BA hn;replace BB:=bW BB hn;replace BP:=bW BP hn;replace HN:=tW HN hn;clear hn;obtain ⟨a0,a1,a2,a3,a4⟩:=BA.out.two;obtain ⟨b0,b1,b2,b3,b4⟩:=BB.out.two;go_wp2_with fail;clear a0 a1 a2 a3 a4;clear b0 b1 b2 b3 b4;refine y00 4 (fun W=>(W.cell? ⟨w.heap.size,0,none⟩=some (.int .i64 sa)/\W.cell? ⟨w.heap.size,1,none⟩=some (.slice aa la ca))/\(W.cell? ⟨w.heap.size+1,0,none⟩=some (.int .i64 sb)/\W.cell? ⟨w.heap.size+1,1,none⟩=some (.slice ab lb cb))) 6 #[false,false,false,false,false,false] rfl (by kernel_rfl) (by kernel_rfl) ?_;refine tk 0 (by exact ⟨cW2 BA,cW2 BB⟩) ?_
  try simp only[PT]
  refine tk 2 (by exact ⟨cW2 BA,cW2 BB⟩) ?_
  try simp only[PT]
  refine tk1 1 fun K hK=>?_;go_simp;refine (y3g _ x _ (HX.out.new HN.out.drew)).mono ?_;rintro e w5 ⟨v5,rfl,hn,hi⟩;have hn:=hn.undrew;obtain ⟨s5,a5,l5,k5,rfl⟩:=hi.shape;have HI5:=hid hi;clear hi;replace BA:=bW BA hn;replace BB:=bW BB hn;replace BP:=bW BP hn;replace HN:=tW HN hn;clear hn;refine hK.out _ _ (fun _=>⟨cW2 BA,cW2 BB⟩) ?_;clear hK K
  try simp only[PT]
  refine tk1 3 fun K hK=>?_;go_simp;refine (y3g _ y _ (HY.out.new HN.out)).mono ?_;rintro e w6 ⟨v6,rfl,hn,hi⟩;obtain ⟨s6,a6,l6,k6,rfl⟩:=hi.shape;have HI6:=hid hi;clear hi;replace BA:=bW BA hn;replace BB:=bW BB hn;replace BP:=bW BP hn;replace HI5:=hid (HI5.out.new hn);replace HN:=tW HN hn;clear hn;refine hK.out _ _ (fun _=>⟨cW2 BA,cW2 BB⟩) ?_;clear hK K
  try simp only[PT]
  refine tlW ?_;obtain ⟨a0,a1,a2,a3,a4⟩:=BA.out.two;obtain ⟨b0,b1,b2,b3,b4⟩:=BB.out.two;go_wp2_with fail;clear a0 a1 a2 a3 a4 b0 b1 b2 b3 b4;have BB_:=BB.out.away BA.out (by omega) (.int .i64 s5) (.slice a5 l5 k5);have BP_:=BP.out.away BA.out (by omega) (.int .i64 s5) (.slice a5 l5 k5);have HI5_:=HI5.out.put2 BA.out s5 a5 l5 k5;have HI6_:=HI6.out.put2 BA.out s5 a5 l5 k5;have HN_:=HN.out.putAt BA.out (by omega) (.int .i64 s5) (.slice a5 l5 k5);have BA_:=BA.out.put2 (.int .i64 s5) (.slice a5 l5 k5);clear BB BP HI5 HI6 HN BA;have BB:=hid BB_;have BP:=hid BP_;have HI5:=hid HI5_;have HI6:=hid HI6_;have HN:=hid HN_;have BA:=hid BA_;clear BB_ BP_ HI5_ HI6_ HN_ BA_;have BA_:=BA.out.away BB.out (by omega) (.int .i64 s6) (.slice a6 l6 k6);have BP_:=BP.out.away BB.out (by omega) (.int .i64 s6) (.slice a6 l6 k6);have HI5_:=HI5.out.put2 BB.out s6 a6 l6 k6;have HI6_:=HI6.out.put2 BB.out s6 a6 l6 k6;have HN_:=HN.out.putAt BB.out (by omega) (.int .i64 s6) (.slice a6 l6 k6);have BB_:=BB.out.put2 (.int .i64 s6) (.slice a6 l6 k6);clear BA BP HI5 HI6 HN BB;have BA:=hid BA_;have BP:=hid BP_;have HI5:=hid HI5_;have HI6:=hid HI6_;have HN:=hid HN_;have BB:=hid BB_;clear BA_ BP_ HI5_ HI6_ HN_ BB_;have bi5:=BX.out.neg;have bi6:=BY.out.neg;have BI5:=hid bi5;have BI6:=hid bi6;clear bi5 bi6;refine (y36 _ _ (-x) (-y) _ HI5.out HI6.out BI5.out BI6.out (by omega)).mono ?_;rintro e w9 ⟨v7,v8,rfl,hn,hi7,hi8⟩;obtain ⟨s7,a7,l7,k7,rfl⟩:=hi7.shape;obtain ⟨s8,a8,l8,k8,rfl⟩:=hi8.shape;have HI7:=hid hi7;clear hi7;replace BP:=bW BP hn;replace HN:=tW HN hn;clear hn;obtain ⟨p0,p1,p2,p3,p4⟩:=BP.out.two;clear hi8;have p5:=Nat.lt_add_right 1 p4;go_wp2_with fail;refine bodyPost_ret (v:=.agg #[.int .i64 s7,.slice a7 l7 k7]) (by simp[results,Tryz.results180,go_sem,p0,p1,p4,p5]) rfl ?_;refine HEND.out _ _ (((HN.out.putAt BP.out (by omega) _ _).alloc _).alloc _) ?_;rw[<-HZ.out];unfold quo;rw[if_pos hneg];exact (HI7.out.put2 BP.out _ _ _ _).new (((New.refl _).alloc _).alloc _)
 ·obtain ⟨t,ht,htn⟩:∃ t,y.sign=t/\0<=t:=⟨_,rfl,Int.sign_nonneg_iff.2 (by omega)⟩;go_enter Tryz.func180,Tryz.ntmps180;go_wp2_with fail;obtain ⟨BA,BB,BP,HN⟩:=lay3 w 113 #[.int .i64 sa,.slice aa la ca] 113 #[.int .i64 sb,.slice ab lb cb] 113 #[.int .i64 0,.slice none 0 0];refine (y0y _ y _ (HY.out.new HN.out)).mono ?_;rintro e w4 ⟨rfl,hn⟩;rw[ht];clear ht;replace BA:=bW BA hn;replace BB:=bW BB hn;replace BP:=bW BP hn;replace HN:=tW HN hn;clear hn;have hi5:=HX.out.new HN.out;have hi6:=HY.out.new HN.out;have BI5:=BX;have BI6:=BY;have HI5:=hid hi5;have HI6:=hid hi6;clear hi5 hi6;obtain ⟨a0,a1,a2,a3,a4⟩:=BA.out.two;obtain ⟨b0,b1,b2,b3,b4⟩:=BB.out.two;go_wp2_with fail;clear a0 a1 a2 a3 a4 b0 b1 b2 b3 b4;refine (y36 _ _ x y _ HI5.out HI6.out BI5.out BI6.out (by omega)).mono ?_;rintro e w9 ⟨v7,v8,rfl,hn,hi7,hi8⟩;obtain ⟨s7,a7,l7,k7,rfl⟩:=hi7.shape;obtain ⟨s8,a8,l8,k8,rfl⟩:=hi8.shape;have HI7:=hid hi7;clear hi7;replace BP:=bW BP hn;replace HN:=tW HN hn;clear hn;obtain ⟨p0,p1,p2,p3,p4⟩:=BP.out.two;clear hi8;have p5:=Nat.lt_add_right 1 p4;go_wp2_with fail;refine bodyPost_ret (v:=.agg #[.int .i64 s7,.slice a7 l7 k7]) (by simp[results,Tryz.results180,go_sem,p0,p1,p4,p5]) rfl ?_;refine HEND.out _ _ (((HN.out.putAt BP.out (by omega) _ _).alloc _).alloc _) ?_;rw[<-HZ.out];unfold quo;rw[if_neg (by omega)];exact (HI7.out.put2 BP.out _ _ _ _).new (((New.refl _).alloc _).alloc _)
def ynl (w:World)(g k:Nat)(wr:World):Prop:=∃ (a:Nat) (s1 s2:Int) (a1 a2:Option Addr) (l1 k1 l2 k2:Nat),
 New w wr/\Box wr w.heap.size 113 #[.int .i64 s1,.slice a1 l1 k1]/\Box wr (w.heap.size+1) 113 #[.int .i64 s2,.slice a2 l2 k2]/\
 Box wr (w.heap.size+1+1) 113 #[.int .i64 0,.slice none 0 0]/\
 y06 wr (.agg #[.int .i64 s1,.slice a1 l1 k1]) a/\y06 wr (.agg #[.int .i64 s2,.slice a2 l2 k2]) k/\Bd a/\Bd k/\Nat.gcd a k=g
theorem Bd.natAbs {z:Int}(h:Bd z):Bd (z.natAbs:Int):=h.le (by simp)
theorem y5l (va vb:Value)(x y:Int)(w:World)(hx:y06 w va x)(hy:y06 w vb y)(bx:Bd x)(by':Bd y):Calls Tryz.prog 158 #[va,vb] w (y0l w (Int.gcd x y)):=by
 obtain ⟨sa,aa,la,ca,rfl⟩:=hx.shape;obtain ⟨sb,ab,lb,cb,rfl⟩:=hy.shape;have hend:∀ w' v,New w w'->y06 w' v (Int.gcd x y)->y0l w (Int.gcd x y) (.returned v) w':=fun w' v h1 h2=>⟨v,rfl,h1,h2⟩;obtain ⟨g,hg⟩:∃ g,Int.gcd x y=g:=⟨_,rfl⟩;rw[hg] at hend⊢;have HX:=hid hx;have HY:=hid hy;have BX:=hid bx;have BY:=hid by';have HEND:=hid hend;have HG:=hid hg;clear hx hy bx by' hend hg;go_enter Tryz.func158,Tryz.ntmps158;go_wp2_with fail;obtain ⟨BA,BB,BP,HN⟩:=lay3 w 113 #[.int .i64 sa,.slice aa la ca] 113 #[.int .i64 sb,.slice ab lb cb] 113 #[.int .i64 0,.slice none 0 0];obtain ⟨a0,a1,a2,a3,a4⟩:=BA.out.two;obtain ⟨b0,b1,b2,b3,b4⟩:=BB.out.two;clear a0 a1 a2 a3 a4;clear b0 b1 b2 b3 b4;refine y00 4 (fun W=>(W.cell? ⟨w.heap.size,0,none⟩=some (.int .i64 sa)/\W.cell? ⟨w.heap.size,1,none⟩=some (.slice aa la ca))/\(W.cell? ⟨w.heap.size+1,0,none⟩=some (.int .i64 sb)/\W.cell? ⟨w.heap.size+1,1,none⟩=some (.slice ab lb cb))) 6 #[false,false,false,false,false,false] rfl (by kernel_rfl) (by kernel_rfl) ?_;refine tk 0 (by exact ⟨cW2 BA,cW2 BB⟩) ?_
 try simp only[PT]
 refine tk 2 (by exact ⟨cW2 BA,cW2 BB⟩) ?_
 try simp only[PT]
 refine tk1 1 fun K hK=>?_;go_simp;refine (y9n _ x _ (HX.out.new HN.out.drew)).mono ?_;rintro e w5 ⟨v5,rfl,hn,hi⟩;have hn:=hn.undrew;obtain ⟨s5,a5,l5,k5,rfl⟩:=hi.shape;have HI5:=hid hi;clear hi;replace BA:=bW BA hn;replace BB:=bW BB hn;replace BP:=bW BP hn;replace HN:=tW HN hn;clear hn;refine hK.out _ _ (fun _=>⟨cW2 BA,cW2 BB⟩) ?_;clear hK K
 try simp only[PT]
 refine tk1 3 fun K hK=>?_;go_simp;refine (y9n _ y _ (HY.out.new HN.out)).mono ?_;rintro e w6 ⟨v6,rfl,hn,hi⟩;obtain ⟨s6,a6,l6,k6,rfl⟩:=hi.shape;have HI6:=hid hi;clear hi;replace BA:=bW BA hn;replace BB:=bW BB hn;replace BP:=bW BP hn;replace HI5:=hid (HI5.out.new hn);replace HN:=tW HN hn;clear hn;refine hK.out _ _ (fun _=>⟨cW2 BA,cW2 BB⟩) ?_;clear hK K
 try simp only[PT]
 refine tlW ?_;obtain ⟨a0,a1,a2,a3,a4⟩:=BA.out.two;obtain ⟨b0,b1,b2,b3,b4⟩:=BB.out.two;go_wp2_with fail;clear a0 a1 a2 a3 a4 b0 b1 b2 b3 b4;have BB_:=BB.out.away BA.out (by omega) (.int .i64 s5) (.slice a5 l5 k5);have BP_:=BP.out.away BA.out (by omega) (.int .i64 s5) (.slice a5 l5 k5);have HI5_:=HI5.out.put2 BA.out s5 a5 l5 k5;have HI6_:=HI6.out.put2 BA.out s5 a5 l5 k5;have HN_:=HN.out.putAt BA.out (by omega) (.int .i64 s5) (.slice a5 l5 k5);have BA_:=BA.out.put2 (.int .i64 s5) (.slice a5 l5 k5);clear BB BP HI5 HI6 HN BA;have BB:=hid BB_;have BP:=hid BP_;have HI5:=hid HI5_;have HI6:=hid HI6_;have HN:=hid HN_;have BA:=hid BA_;clear BB_ BP_ HI5_ HI6_ HN_ BA_;have BA_:=BA.out.away BB.out (by omega) (.int .i64 s6) (.slice a6 l6 k6);have BP_:=BP.out.away BB.out (by omega) (.int .i64 s6) (.slice a6 l6 k6);have HI5_:=HI5.out.put2 BB.out s6 a6 l6 k6;have HI6_:=HI6.out.put2 BB.out s6 a6 l6 k6;have HN_:=HN.out.putAt BB.out (by omega) (.int .i64 s6) (.slice a6 l6 k6);have BB_:=BB.out.put2 (.int .i64 s6) (.slice a6 l6 k6);clear BA BP HI5 HI6 HN BB;have BA:=hid BA_;have BP:=hid BP_;have HI5:=hid HI5_;have HI6:=hid HI6_;have HN:=hid HN_;have BB:=hid BB_;clear BA_ BP_ HI5_ HI6_ HN_ BB_;have hstart:ynl w g y.natAbs _:=⟨x.natAbs,_,_,_,_,_,_,_,_,HN.out,BA.out,BB.out,BP.out,HI5.out,HI6.out,BX.out.natAbs,BY.out.natAbs,HG.out⟩;clear HN BA BB BP HI5 HI6 BX BY HX HY HG;have HS:=hid hstart;clear hstart
 go_loopg [] y.natAbs (fun k wr=>ynl w g k wr)
 case atStart=>exact HS.out
 case round=>
  clear HS;obtain ⟨a,s1,s2,o1,o2,l1,k1,l2,k2,hN,hA,hB,hP,hi1,hi2,b1,b2,hgg⟩:=hrel;have HN:=hid hN;have BA:=hid hA;have BB:=hid hB;have BP:=hid hP;have HI1:=hid hi1;have HI2:=hid hi2;have B1:=hid b1;have B2:=hid b2;have HG:=hid hgg;clear hN hA hB hP hi1 hi2 b1 b2 hgg;by_cases hk:gk=0
  ·obtain ⟨t,ht,htn⟩:∃ t,Int.sign (gk:Int)=t/\(t != 0)=false:=⟨_,rfl,by rw[hk];rfl⟩;have HK:=hid hk;clear hk;obtain ⟨b0,b1,b2,b3,b4⟩:=BB.out.two;go_wp2_with fail;refine (y0y _ (gk:Int) _ HI2.out).mono ?_;rintro e w7 ⟨rfl,hn⟩;rw[ht];clear ht;clear b0 b1 b2 b3 b4;replace BA:=bW BA hn;replace BP:=bW BP hn;replace HI1:=hid (HI1.out.new hn);replace HN:=tW HN hn;clear hn;obtain ⟨b0,b1,b2,b3,b4⟩:=BA.out.two;obtain ⟨p0,p1,p2,p3,p4⟩:=BP.out.two;go_wp2_with fail;refine bodyPost_ret (v:=.agg #[.int .i64 s1,.slice o1 l1 k1]) (by simp[results,Tryz.results158,go_sem,p0,p1]) rfl ?_;refine HEND.out _ _ (HN.out.putAt BP.out (by omega) _ _) ?_
   have e:(a:Int)=(g:Int):=by
    have:=HG.out;rw[HK.out,Nat.gcd_zero_right] at this;rw[this]
   rw[<-e];exact HI1.out.put2 BP.out _ _ _ _
  ·obtain ⟨t,ht,htn⟩:∃ t,Int.sign (gk:Int)=t/\(t != 0)=true:=⟨_,rfl,by rw[Int.sign_eq_one_of_pos (by omega)];rfl⟩;have hlt:=Nat.mod_lt a (by omega:0 < gk);have hdm:(a:Int) % (gk:Int)=((a % gk:Nat):Int):=rfl;have HK:=hid hk;have HLT:=hid hlt;have HDM:=hid hdm;clear hk hlt hdm;obtain ⟨b0,b1,b2,b3,b4⟩:=BB.out.two;go_wp2_with fail;refine (y0y _ (gk:Int) _ HI2.out).mono ?_;rintro e w7 ⟨rfl,hn⟩;rw[ht];clear ht;clear b0 b1 b2 b3 b4;replace BA:=bW BA hn;replace BB:=bW BB hn;replace BP:=bW BP hn;replace HI1:=hid (HI1.out.new hn);replace HI2:=hid (HI2.out.new hn);replace HN:=tW HN hn;clear hn;obtain ⟨a0,a1,a2,a3,a4⟩:=BA.out.two;obtain ⟨b0,b1,b2,b3,b4⟩:=BB.out.two;go_wp2_with fail;clear a0 a1 a2 a3 a4 b0 b1 b2 b3 b4;refine (y36 _ _ (a:Int) (gk:Int) _ HI1.out HI2.out B1.out B2.out (by have:=HK.out;omega)).mono ?_;rintro e w8 ⟨v7,v8,rfl,hn,hi7,hi8⟩;obtain ⟨s7,a7,l7,k7,rfl⟩:=hi7.shape;obtain ⟨s8,a8,l8,k8,rfl⟩:=hi8.shape;rw[HDM.out] at hi8;have HI8:=hid hi8;clear hi8;clear hi7;replace BA:=bW BA hn;replace BB:=bW BB hn;replace BP:=bW BP hn;replace HI2:=hid (HI2.out.new hn);replace HN:=tW HN hn;clear hn;obtain ⟨a0,a1,a2,a3,a4⟩:=BA.out.two;obtain ⟨b0,b1,b2,b3,b4⟩:=BB.out.two;have a5:=Nat.lt_add_right 1 a4;have b5:=Nat.lt_add_right 1 b4;go_wp2_with fail
   go_region
   go_wp2_with fail
   go_roundg (a % gk)
   case measure=>exact HLT.out
   case rel=>
    have hg':Nat.gcd gk (a % gk)=g:=by rw[Nat.gcd_comm,<-Nat.gcd_rec,Nat.gcd_comm];exact HG.out
    have hb':Bd ((a % gk:Nat):Int):=B1.out.le (by have:=Nat.mod_le a gk;omega);have BB_:=BB.out.away BA.out (by omega) (.int .i64 s2) (.slice o2 l2 k2);have BP_:=BP.out.away BA.out (by omega) (.int .i64 s2) (.slice o2 l2 k2);have HI2_:=HI2.out.put2 BA.out s2 o2 l2 k2;have HI8_:=HI8.out.put2 BA.out s2 o2 l2 k2;have HN_:=HN.out.putAt BA.out (by omega) (.int .i64 s2) (.slice o2 l2 k2);have BA_:=BA.out.put2 (.int .i64 s2) (.slice o2 l2 k2);clear BB BP HI2 HI8 HN BA;have BB:=hid BB_;have BP:=hid BP_;have HI2:=hid HI2_;have HI8:=hid HI8_;have HN:=hid HN_;have BA:=hid BA_;clear BB_ BP_ HI2_ HI8_ HN_ BA_;have BA_:=BA.out.away BB.out (by omega) (.int .i64 s8) (.slice a8 l8 k8);have BP_:=BP.out.away BB.out (by omega) (.int .i64 s8) (.slice a8 l8 k8);have HI2_:=HI2.out.put2 BB.out s8 a8 l8 k8;have HI8_:=HI8.out.put2 BB.out s8 a8 l8 k8;have HN_:=HN.out.putAt BB.out (by omega) (.int .i64 s8) (.slice a8 l8 k8);have BB_:=BB.out.put2 (.int .i64 s8) (.slice a8 l8 k8);clear BA BP HI2 HI8 HN BB;have BA:=hid BA_;have BP:=hid BP_;have HI2:=hid HI2_;have HI8:=hid HI8_;have HN:=hid HN_;have BB:=hid BB_;clear BA_ BP_ HI2_ HI8_ HN_ BB_;have hx:∀ W o o',New W (((W.alloc o).alloc o').drew):=fun W o o'=>(((New.refl W).alloc o).alloc o').drew;exact ⟨gk,s2,s8,o2,a8,l2,k2,l8,k8,HN.out.trans (hx _ _ _),BA.out.new (hx _ _ _),BB.out.new (hx _ _ _),BP.out.new (hx _ _ _),HI2.out.new (hx _ _ _),HI8.out.new (hx _ _ _),B2.out,hb',hg'⟩
end Go.Proofs.YtnjonlnemagomaaGreatDoor
