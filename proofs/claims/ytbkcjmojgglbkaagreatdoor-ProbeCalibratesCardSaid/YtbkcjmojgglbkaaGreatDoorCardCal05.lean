/- Part CardCal05. -/
import Derived.Test.YtbkcjmojgglbkaaGreatDoorCardCal04
namespace Go.Proofs.YtbkcjmojgglbkaaGreatDoor
open Go.RowKit Big Go.Lib Go
set_option maxRecDepth 100000
set_option maxHeartbeats 8000000
theorem put5 {W:World}{a:Nat}{T:TypeId}{z0 z1 z2 z3 z4:Value}(h:Box W a T #[z0,z1,z2,z3,z4])(u0 u1 u2 u3 u4:Value):∃ x,((((W.setCell ⟨a,0,none⟩ u0).setCell ⟨a,1,none⟩ u1).setCell ⟨a,2,none⟩ u2).setCell ⟨a,3,none⟩ u3).setCell ⟨a,4,none⟩ u4=x∧Box x a T #[u0,u1,u2,u3,u4]∧
  (∀ b T' cs,a≠b→Box W b T' cs→Box x b T' cs)∧∀ w:World,w.heap.size≤a→New w W→New w x:=
 ⟨_,rfl,(((((h.set 0 u0).set 1 u1).set 2 u2).set 3 u3).set 4 u4),
  fun _b _T' _cs hb hB=>((((hB.other (p:=⟨a,0,none⟩) hb u0).other (p:=⟨a,1,none⟩) hb u1).other (p:=⟨a,2,none⟩) hb u2).other (p:=⟨a,3,none⟩) hb u3).other (p:=⟨a,4,none⟩) hb u4,
  fun _w hw hn=>((((hn.setCell (p:=⟨a,0,none⟩) hw u0).setCell (p:=⟨a,1,none⟩) hw u1).setCell (p:=⟨a,2,none⟩) hw u2).setCell (p:=⟨a,3,none⟩) hw u3).setCell (p:=⟨a,4,none⟩) hw u4⟩
theorem cal_A (haw:AwakeOk) (b s z c1 c2 n:Int) (g o t1 t2:ByteArray) (w:World) (he:Env w) (h0:n≠0) (hl1:t1.size≤60) (hl2:t2.size≤60)
  (hsh:∀ W,Calls Tryz.prog 9 #[adV b s z g o] W fun e w'=>e=.returned (.bool true)∧New W w')
  (hca:∀ W,Env W→Calls Tryz.prog 40 #[adV b s z g o,mkV c1 t1,mkV c2 t2] W (RetAdc W noAdc n))
  (hrc:∀ W,Calls Tryz.prog 14 #[adV b s z g o] W (RetNew W n)):
  Calls Tryz.prog 6 #[adV b s z g o,mkV c1 t1,mkV c2 t2] w fun e w'=>e=.returned (.bool true)∧New w w':=by
 have hn0:(n==0)=false:=beq_false_of_ne h0
 have k1i:¬(60:Int) < (t1.size:Int):=by omega
 have k1b:decide ((60:Int) < (t1.size:Int))=false:=decide_eq_false k1i
 have k2i:¬(60:Int) < (t2.size:Int):=by omega
 have k2b:decide ((60:Int) < (t2.size:Int))=false:=decide_eq_false k2i;unfold RetAdc noAdc adV mkV at *;clear h0;have HAW:=hid haw;have HE:=hid he;have HSH:=hid hsh;have HCA:=hid hca;have HRC:=hid hrc;clear haw he hsh hca hrc;go_enter Tryz.func6,Tryz.ntmps6;go_upto_region 1 with (fail);obtain ⟨BA,B1,B2,HN⟩:=lay3 w 24 #[.int .i64 b,.int .i64 s,.int .i64 z,.string g,.string o] 75 #[.int .i64 c1,.string t1] 75 #[.int .i64 c2,.string t2];obtain ⟨⟨pa0,pa1,pa2,pa3,pa4⟩,pa5⟩:=BA.out.five;obtain ⟨p0,p1,p2,p3,p4⟩:=B1.out.two;obtain ⟨q0,q1,q2,q3,q4⟩:=B2.out.two;go_wp2_with fail;refine (HSH.out _).mono ?_;rintro e w1 ⟨rfl,hn⟩;clear pa0 pa1 pa2 pa3 pa4 pa5;clear p0 p1 p2 p3 p4 q0 q1 q2 q3 q4;replace BA:=bW BA hn;replace B1:=bW B1 hn;replace B2:=bW B2 hn;replace HN:=tW HN hn;clear hn;obtain ⟨⟨pa0,pa1,pa2,pa3,pa4⟩,pa5⟩:=BA.out.five;obtain ⟨p0,p1,p2,p3,p4⟩:=B1.out.two;obtain ⟨q0,q1,q2,q3,q4⟩:=B2.out.two;go_wp2_with fail;refine (HCA.out _ (HE.out.new HN.out)).mono ?_;rintro e w2 ⟨rfl,hn⟩;clear pa0 pa1 pa2 pa3 pa4 pa5;clear p0 p1 p2 p3 p4 q0 q1 q2 q3 q4;replace BA:=bW BA hn;replace B1:=bW B1 hn;replace B2:=bW B2 hn;replace HN:=tW HN hn;clear hn;obtain ⟨⟨pa0,pa1,pa2,pa3,pa4⟩,pa5⟩:=BA.out.five;obtain ⟨p0,p1,p2,p3,p4⟩:=B1.out.two;obtain ⟨q0,q1,q2,q3,q4⟩:=B2.out.two;go_wp2_with fail;clear pa0 pa1 pa2 pa3 pa4 pa5;clear p0 p1 p2 p3 p4 q0 q1 q2 q3 q4;have HN0:=HN;clear HN;obtain ⟨BF,HN⟩:=lay1 w2 32 #[.int .i64 0,.int .i64 0,.int .i64 0,.string ⟨#[]⟩,.string ⟨#[]⟩];replace BA:=hid (BA.out.new HN.out);replace B1:=hid (B1.out.new HN.out);replace B2:=hid (B2.out.new HN.out);have HN_:=HN0.out.trans HN.out;clear HN HN0;have HN:=hid HN_;clear HN_;refine (HRC.out _).mono ?_;rintro e w3 ⟨rfl,hn⟩;replace BA:=bW BA hn;replace B1:=bW B1 hn;replace B2:=bW B2 hn;replace BF:=bW BF hn;replace HN:=tW HN hn;clear hn;have l1:=BA.out.lt;have l2:=BF.out.lt;go_upto_region 6 with (fail);have HN0:=HN;clear HN;obtain ⟨BW,HN⟩:=lay1 w3 24 #[.int .i64 0,.int .i64 0,.int .i64 0,.string ⟨#[]⟩,.string ⟨#[]⟩];replace BA:=hid (BA.out.new HN.out);replace B1:=hid (B1.out.new HN.out);replace B2:=hid (B2.out.new HN.out);replace BF:=hid (BF.out.new HN.out);have HN_:=HN0.out.trans HN.out;clear HN HN0;have HN:=hid HN_;clear HN_;obtain ⟨⟨f0,f1,f2,f3,f4⟩,f5⟩:=BF.out.five;obtain ⟨⟨y0,y1,y2,y3,y4⟩,y5⟩:=BW.out.five;go_wp2_with fail;refine (HAW.out _ (HE.out.new HN.out)).mono ?_;rintro e w9 ⟨rfl,hn⟩;have HN_:=HN.out.trans hn;go_wp2_with fail;go_ret;exact ⟨rfl,HN_⟩
theorem cal_B (haw:AwakeOk) (b s z c1 c2 n BB SS ZZ:Int) (g o t1 t2 GG OO:ByteArray) (w:World) (he:Env w) (hl1:t1.size≤60) (hl2:t2.size≤60)
  (hsh:∀ W,Calls Tryz.prog 9 #[adV b s z g o] W fun e w'=>e=.returned (.bool true)∧New W w')
  (hca:∀ W,Env W→Calls Tryz.prog 40 #[adV b s z g o,mkV c1 t1,mkV c2 t2] W (RetAdc W (adV BB SS ZZ GG OO) n))
  (hrc:∀ W,Calls Tryz.prog 14 #[adV b s z g o] W (RetNew W 0))
  (hra:∀ W,Calls Tryz.prog 41 #[adV b s z g o,mkV c1 t1,mkV c2 t2] W (RetAdc W (adV BB SS ZZ GG OO) n)):
  Calls Tryz.prog 6 #[adV b s z g o,mkV c1 t1,mkV c2 t2] w fun e w'=>e=.returned (.bool true)∧New w w':=by
 have k1i:¬(60:Int) < (t1.size:Int):=by omega
 have k1b:decide ((60:Int) < (t1.size:Int))=false:=decide_eq_false k1i
 have k2i:¬(60:Int) < (t2.size:Int):=by omega
 have k2b:decide ((60:Int) < (t2.size:Int))=false:=decide_eq_false k2i;unfold RetAdc adV mkV at *;have HAW:=hid haw;have HE:=hid he;have HSH:=hid hsh;have HCA:=hid hca;have HRC:=hid hrc;have HRA:=hid hra;clear haw he hsh hca hrc hra;go_enter Tryz.func6,Tryz.ntmps6;go_upto_region 1 with (fail);obtain ⟨BA,B1,B2,HN⟩:=lay3 w 24 #[.int .i64 b,.int .i64 s,.int .i64 z,.string g,.string o] 75 #[.int .i64 c1,.string t1] 75 #[.int .i64 c2,.string t2];obtain ⟨⟨pa0,pa1,pa2,pa3,pa4⟩,pa5⟩:=BA.out.five;obtain ⟨p0,p1,p2,p3,p4⟩:=B1.out.two;obtain ⟨q0,q1,q2,q3,q4⟩:=B2.out.two;go_wp2_with fail;refine (HSH.out _).mono ?_;rintro e w1 ⟨rfl,hn⟩;clear pa0 pa1 pa2 pa3 pa4 pa5;clear p0 p1 p2 p3 p4 q0 q1 q2 q3 q4;replace BA:=bW BA hn;replace B1:=bW B1 hn;replace B2:=bW B2 hn;replace HN:=tW HN hn;clear hn;obtain ⟨⟨pa0,pa1,pa2,pa3,pa4⟩,pa5⟩:=BA.out.five;obtain ⟨p0,p1,p2,p3,p4⟩:=B1.out.two;obtain ⟨q0,q1,q2,q3,q4⟩:=B2.out.two;go_wp2_with fail;refine (HCA.out _ (HE.out.new HN.out)).mono ?_;rintro e w2 ⟨rfl,hn⟩;clear pa0 pa1 pa2 pa3 pa4 pa5;clear p0 p1 p2 p3 p4 q0 q1 q2 q3 q4;replace BA:=bW BA hn;replace B1:=bW B1 hn;replace B2:=bW B2 hn;replace HN:=tW HN hn;clear hn;obtain ⟨⟨pa0,pa1,pa2,pa3,pa4⟩,pa5⟩:=BA.out.five;obtain ⟨p0,p1,p2,p3,p4⟩:=B1.out.two;obtain ⟨q0,q1,q2,q3,q4⟩:=B2.out.two;go_wp2_with fail;clear pa0 pa1 pa2 pa3 pa4 pa5;clear p0 p1 p2 p3 p4 q0 q1 q2 q3 q4;have HN0:=HN;clear HN;obtain ⟨BF,HN⟩:=lay1 w2 32 #[.int .i64 BB,.int .i64 SS,.int .i64 ZZ,.string GG,.string OO];replace BA:=hid (BA.out.new HN.out);replace B1:=hid (B1.out.new HN.out);replace B2:=hid (B2.out.new HN.out);have HN_:=HN0.out.trans HN.out;clear HN HN0;have HN:=hid HN_;clear HN_;refine (HRC.out _).mono ?_;rintro e w3 ⟨rfl,hn⟩;replace BA:=bW BA hn;replace B1:=bW B1 hn;replace B2:=bW B2 hn;replace BF:=bW BF hn;replace HN:=tW HN hn;clear hn;have l1:=BA.out.lt;have l2:=BF.out.lt;go_upto_region 6 with (fail);have HN0:=HN;clear HN;obtain ⟨BW,HN⟩:=lay1 w3 24 #[.int .i64 0,.int .i64 0,.int .i64 0,.string ⟨#[]⟩,.string ⟨#[]⟩];replace BA:=hid (BA.out.new HN.out);replace B1:=hid (B1.out.new HN.out);replace B2:=hid (B2.out.new HN.out);replace BF:=hid (BF.out.new HN.out);have HN_:=HN0.out.trans HN.out;clear HN HN0;have HN:=hid HN_;clear HN_;obtain ⟨⟨pa0,pa1,pa2,pa3,pa4⟩,pa5⟩:=BA.out.five;obtain ⟨p0,p1,p2,p3,p4⟩:=B1.out.two;obtain ⟨q0,q1,q2,q3,q4⟩:=B2.out.two;go_wp2_with fail;refine (HRA.out _).mono ?_;rintro e w4 ⟨rfl,hn⟩;clear pa0 pa1 pa2 pa3 pa4 pa5;clear p0 p1 p2 p3 p4 q0 q1 q2 q3 q4;replace BF:=bW BF hn;replace BW:=bW BW hn;replace HN:=tW HN hn;clear hn;obtain ⟨⟨y0,y1,y2,y3,y4⟩,y5⟩:=BW.out.five;have x0:=BW.out.frozen 0;have x1:=BW.out.frozen 1;have x2:=BW.out.frozen 2;have x3:=BW.out.frozen 3;have x4:=BW.out.frozen 4;go_upto_region 8 with (fail);clear x0 x1 x2 x3 x4;clear y0 y1 y2 y3 y4 y5;obtain ⟨w5,hw5,BW5,hk5,hs5⟩:=put5 BW.out (.int .i64 BB) (.int .i64 SS) (.int .i64 ZZ) (.string GG) (.string OO);rw[hw5];clear hw5;have BF_:=hk5 _ _ _ (by omega) BF.out;have HN_:=hs5 _ (by omega) HN.out;clear BF BW HN hk5 hs5;have BF:=hid BF_;have BW:=hid BW5;have HN:=hid HN_;clear BF_ BW5 HN_;obtain ⟨⟨f0,f1,f2,f3,f4⟩,f5⟩:=BF.out.five;obtain ⟨⟨y0,y1,y2,y3,y4⟩,y5⟩:=BW.out.five;go_wp2_with fail;refine (HAW.out _ (HE.out.new HN.out)).mono ?_;rintro e w9 ⟨rfl,hn⟩;have HN_:=HN.out.trans hn;go_wp2_with fail;go_ret;exact ⟨rfl,HN_⟩
theorem cal_short (haw:AwakeOk) (b s z c1 c2:Int) (g o t1 t2:ByteArray) (w:World) (he:Env w)
  (hsh:∀ W,Calls Tryz.prog 9 #[adV b s z g o] W fun e w'=>e=.returned (.bool false)∧New W w'):
  Calls Tryz.prog 6 #[adV b s z g o,mkV c1 t1,mkV c2 t2] w fun e w'=>e=.returned (.bool true)∧New w w':=by
 unfold adV mkV at *;have HAW:=hid haw;have HE:=hid he;have HSH:=hid hsh;clear haw he hsh;go_enter Tryz.func6,Tryz.ntmps6;go_upto_region 1 with (fail);obtain ⟨BA,B1,B2,HN⟩:=lay3 w 24 #[.int .i64 b,.int .i64 s,.int .i64 z,.string g,.string o] 75 #[.int .i64 c1,.string t1] 75 #[.int .i64 c2,.string t2];obtain ⟨⟨pa0,pa1,pa2,pa3,pa4⟩,pa5⟩:=BA.out.five;obtain ⟨p0,p1,p2,p3,p4⟩:=B1.out.two;obtain ⟨q0,q1,q2,q3,q4⟩:=B2.out.two;go_wp2_with fail;refine (HSH.out _).mono ?_;rintro e w1 ⟨rfl,hn⟩;clear pa0 pa1 pa2 pa3 pa4 pa5;clear p0 p1 p2 p3 p4 q0 q1 q2 q3 q4;replace BA:=bW BA hn;replace B1:=bW B1 hn;replace B2:=bW B2 hn;replace HN:=tW HN hn;clear hn;obtain ⟨⟨pa0,pa1,pa2,pa3,pa4⟩,pa5⟩:=BA.out.five;obtain ⟨p0,p1,p2,p3,p4⟩:=B1.out.two;obtain ⟨q0,q1,q2,q3,q4⟩:=B2.out.two;go_wp2_with fail;refine (HAW.out _ (HE.out.new HN.out)).mono ?_;rintro e w9 ⟨rfl,hn⟩;have HN_:=HN.out.trans hn;go_wp2_with fail;go_ret;exact ⟨rfl,HN_⟩
theorem cal_long (haw:AwakeOk) (b s z c1 c2:Int) (g o t1 t2:ByteArray) (w:World) (he:Env w) (h:¬(t1.size≤60∧t2.size≤60))
  (hsh:∀ W,Calls Tryz.prog 9 #[adV b s z g o] W fun e w'=>e=.returned (.bool true)∧New W w'):
  Calls Tryz.prog 6 #[adV b s z g o,mkV c1 t1,mkV c2 t2] w fun e w'=>e=.returned (.bool true)∧New w w':=by
 unfold adV mkV at *;by_cases h1:t1.size≤60
 ·have k1i:¬(60:Int) < (t1.size:Int):=by omega
  have k1b:decide ((60:Int) < (t1.size:Int))=false:=decide_eq_false k1i
  have k2i:(60:Int) < (t2.size:Int):=by omega
  have k2b:decide ((60:Int) < (t2.size:Int))=true:=decide_eq_true k2i;clear h h1;have HAW:=hid haw;have HE:=hid he;have HSH:=hid hsh;clear haw he hsh;go_enter Tryz.func6,Tryz.ntmps6;go_upto_region 1 with (fail);obtain ⟨BA,B1,B2,HN⟩:=lay3 w 24 #[.int .i64 b,.int .i64 s,.int .i64 z,.string g,.string o] 75 #[.int .i64 c1,.string t1] 75 #[.int .i64 c2,.string t2];obtain ⟨⟨pa0,pa1,pa2,pa3,pa4⟩,pa5⟩:=BA.out.five;obtain ⟨p0,p1,p2,p3,p4⟩:=B1.out.two;obtain ⟨q0,q1,q2,q3,q4⟩:=B2.out.two;go_wp2_with fail;refine (HSH.out _).mono ?_;rintro e w1 ⟨rfl,hn⟩;clear pa0 pa1 pa2 pa3 pa4 pa5;clear p0 p1 p2 p3 p4 q0 q1 q2 q3 q4;replace BA:=bW BA hn;replace B1:=bW B1 hn;replace B2:=bW B2 hn;replace HN:=tW HN hn;clear hn;obtain ⟨⟨pa0,pa1,pa2,pa3,pa4⟩,pa5⟩:=BA.out.five;obtain ⟨p0,p1,p2,p3,p4⟩:=B1.out.two;obtain ⟨q0,q1,q2,q3,q4⟩:=B2.out.two;go_wp2_with fail;refine (HAW.out _ (HE.out.new HN.out)).mono ?_;rintro e w9 ⟨rfl,hn⟩;have HN_:=HN.out.trans hn;go_wp2_with fail;go_ret;exact ⟨rfl,HN_⟩
 ·have k1i:(60:Int) < (t1.size:Int):=by omega
  have k1b:decide ((60:Int) < (t1.size:Int))=true:=decide_eq_true k1i;clear h h1;have HAW:=hid haw;have HE:=hid he;have HSH:=hid hsh;clear haw he hsh;go_enter Tryz.func6,Tryz.ntmps6;go_upto_region 1 with (fail);obtain ⟨BA,B1,B2,HN⟩:=lay3 w 24 #[.int .i64 b,.int .i64 s,.int .i64 z,.string g,.string o] 75 #[.int .i64 c1,.string t1] 75 #[.int .i64 c2,.string t2];obtain ⟨⟨pa0,pa1,pa2,pa3,pa4⟩,pa5⟩:=BA.out.five;obtain ⟨p0,p1,p2,p3,p4⟩:=B1.out.two;obtain ⟨q0,q1,q2,q3,q4⟩:=B2.out.two;go_wp2_with fail;refine (HSH.out _).mono ?_;rintro e w1 ⟨rfl,hn⟩;clear pa0 pa1 pa2 pa3 pa4 pa5;clear p0 p1 p2 p3 p4 q0 q1 q2 q3 q4;replace BA:=bW BA hn;replace B1:=bW B1 hn;replace B2:=bW B2 hn;replace HN:=tW HN hn;clear hn;obtain ⟨⟨pa0,pa1,pa2,pa3,pa4⟩,pa5⟩:=BA.out.five;obtain ⟨p0,p1,p2,p3,p4⟩:=B1.out.two;obtain ⟨q0,q1,q2,q3,q4⟩:=B2.out.two;go_wp2_with fail;refine (HAW.out _ (HE.out.new HN.out)).mono ?_;rintro e w9 ⟨rfl,hn⟩;have HN_:=HN.out.trans hn;go_wp2_with fail;go_ret;exact ⟨rfl,HN_⟩
section
variable {P:Program} {ops:Array Oper} {Q:Exit→Act→World→Prop} {md:Region.Mode} {S:World→Prop} {m:Nat}
def wpU (P:Program)(md:Region.Mode)(ops:Array Oper)(Q:Exit→Act→World→Prop)(S:World→Prop)(m:Nat):Nat→Array Bool→Act→World→Prop
 | 0,listed,a,w=>Region.ready md ops listed=[]∧Q .normal a w
 | fuel+1,listed,a,w=>
  (Region.ready md ops listed=[]→Q .normal a w)∧
  ∀ i∈Region.ready md ops listed,wpOp P ops Q i (fun a' w'=>((listed.setIfInBounds i true).getD m true=false→S w')∧wpU P md ops Q S m fuel (listed.setIfInBounds i true) a' w') a w
theorem wpAny_of_U:∀ (fuel:Nat) (listed:Array Bool) (a:Act) (w:World),wpU P md ops Q S m fuel listed a w→wpAny P md ops Q fuel listed a w
 | 0,_,_,_,h=>h
 | fuel+1,_,_,_,h=>⟨h.1,fun i hi=>wpOp_mono (fun a' w' h'=>wpAny_of_U fuel _ a' w' h'.2) (h.2 i hi)⟩
theorem wpU_first {i:Nat} {oi:Oper} {v:Value} {SS:World→Prop} (hi:ops[i]?=some oi) (hsel:∀ (j:Nat) (o:Oper) cs b,ops[j]?=some o→o.op≠.select cs b) (him:i≠m)
  (hSS:∀ (L:Array Bool) (w:World),HeadInv md ops ops.size L→L.getD i true=false→(L.getD m true=false→S w)→SS w)
  (hQ:∀ c a w,Q (.panic c) (a.put oi.dst v) w→Q (.panic c) a w):
  ∀ (fuel:Nat) (listed:Array Bool) (a:Act) (w:World),HeadInv md ops ops.size listed→
   (∀ j oj,ops[j]?=some oj→j≠i→listed.getD j true=false→(∀ e∈oj.after,Region.binds md e=true→e.on≠i)→oi.apart ops oj=true)→
   i∈Region.ready md ops listed→YieldsIf P ops SS oi v a→(listed.getD m true=false→S w)→
   wpU P md ops Q S m fuel (listed.setIfInBounds i true) (a.put oi.dst v) w→wpU P md ops Q S m (fuel+1) listed a w:=by
 intro fuel
 induction fuel with
 | zero=>
  intro listed a w inv _ hr hy hS H;have hun:=(mem_ready.1 hr).1;refine ⟨fun h=>(by rw[h] at hr;cases hr),fun j hj=>?_⟩;by_cases hji:j=i
  ·subst hji;exact hy.wpOp hi (hSS _ _ inv hun hS) ⟨fun h=>hS (by rw[getD_set_ne true him] at h;exact h),H⟩
  ·have:=ready_mono hj hji;rw[H.1] at this
   cases this
 | succ fuel ih=>
  intro listed a w inv hfree hr hy hS H;have hun:=(mem_ready.1 hr).1;refine ⟨fun h=>(by rw[h] at hr;cases hr),fun j hj=>?_⟩;by_cases hji:j=i
  ·subst hji;exact hy.wpOp hi (hSS _ _ inv hun hS) ⟨fun h=>hS (by rw[getD_set_ne true him] at h;exact h),H⟩
  ·have h1:=H.2 j (ready_mono hj hji);obtain ⟨hjun,oj,hoj,hall⟩:=mem_ready.1 hj;have hjn:j < ops.size:=(Array.getElem?_eq_some_iff.1 hoj).1
   have hnot:∀ e∈oj.after,Region.binds md e=true→e.on≠i:=fun e he hb heq=>by
    have h1:=hall e he hb;rw[heq,getD_both hun] at h1
    cases h1
   have h2:=wpOp_putIf hoj (hfree j oj hoj hji hjun hnot) (fun cs b=>hsel i oi cs b hi) (fun cs b=>hsel j oj cs b hoj) hQ hy h1
   have hfree':∀ k ok,ops[k]?=some ok→k≠i→(listed.setIfInBounds j true).getD k true=false→
     (∀ e∈ok.after,Region.binds md e=true→e.on≠i)→oi.apart ops ok=true:=fun k ok hk hki hun hno=>by
    refine hfree k ok hk hki ?_ hno;by_cases hjk:j=k
    ·subst hjk;exact hjun
    ·rw[getD_set_ne true hjk] at hun;exact hun
   have hS2:∀ w',(((listed.setIfInBounds i true).setIfInBounds j true).getD m true=false→S w')→(listed.setIfInBounds j true).getD m true=false→S w':=fun w' h3 h4=>
    h3 (by rw[Array.setIfInBounds_comm _ _ (Ne.symm hji),getD_set_ne true him];exact h4)
   refine wpOp_mono (fun a' w' h3=>⟨hS2 w' h3.2.1,ih (listed.setIfInBounds j true) a' w' (inv.set hj hjn) hfree' (ready_mono hr (Ne.symm hji)) h3.1 (hS2 w' h3.2.1) ?_⟩) h2;rw[Array.setIfInBounds_comm _ _ hji];exact h3.2.2
def waitsF (md:Region.Mode)(ops:Array Oper)(i:Nat):Nat→Nat→Bool
 | 0,_=>false
 | f+1,j=>match ops[j]? with | some oj=>oj.after.any fun e=>Region.binds md e && (e.on==i || waitsF md ops i f e.on) | none=>false
def waitsB (md:Region.Mode)(ops:Array Oper)(m i:Nat):Bool:=waitsF md ops i ops.size m
def takeU (md:Region.Mode)(ops:Array Oper)(m:Nat)(listed:Array Bool)(i:Nat):Bool:=
 Region.noSelect ops && decide (i≠m) && Region.free md ops listed i && (Region.ready md ops listed).contains i && headB md ops ops.size listed
theorem waits_spec {i:Nat}{L:Array Bool}(inv:HeadInv md ops ops.size L)(hun:L.getD i true=false):∀ (f j:Nat),waitsF md ops i f j=true→L.getD j true=false:=by
 intro f
 induction f with
 | zero=>intro j h;cases h
 | succ f ih=>
  intro j h;unfold waitsF at h
  cases ho:ops[j]? with
  | none=>rw[ho] at h;cases h
  | some oj=>
   rw[ho]at h;simp only[Array.any_eq_true',Bool.and_eq_true,Bool.or_eq_true,beq_iff_eq] at h;obtain ⟨e,he,hb,hon⟩:=h;have hm:j < ops.size:=(Array.getElem?_eq_some_iff.1 ho).1
   have hun2:L.getD e.on true=false:=by
    rcases hon with hon | hon
    ·rw[hon];exact hun
    ·exact ih _ hon
   cases hL:L.getD j true with
   | false=>rfl
   | true=>
    exfalso
    have hL':L.getD j false=true:=by
     have:=inv.size;simp[Array.getD,show j < L.size by omega] at hL⊢;exact hL
    have:=inv.closed j oj ho hL' e he hb;rw[getD_both hun2] at this
    cases this
theorem tkU (i:Nat) {oi:Oper} {v:Value} {fuel:Nat} {listed:Array Bool} {a:Act} {w:World} (hS:listed.getD m true=false→S w) (h:wpU P md ops Q S m fuel (listed.setIfInBounds i true) (a.put oi.dst v) w)
  (hi:ops[i]?=some oi:=by rfl) (hB:takeU md ops m listed i=true:=by kernel_rfl) (hW:waitsB md ops m i=true:=by kernel_rfl) (hw:Region.wanted oi (yielded ops a.tmps)=true:=by first | kernel_rfl | rfl)
  (hy:∀ W,S W→(execOp a.eval oi).run P W=.ok (.value v) W:=by (intro W hW;(try dsimp only at hW);go_simp;try with_reducible rfl))
  (hQ:∀ c a w,Q (.panic c) (a.put oi.dst v) w→Q (.panic c) a w:=by exact fun _ _ _ h=>h):wpU P md ops Q S m (fuel+1) listed a w:=by
 simp only[takeU,Bool.and_eq_true,decide_eq_true_eq]at hB;obtain ⟨⟨⟨⟨h1,h2⟩,h3⟩,h4⟩,h5⟩:=hB;exact wpU_first (SS:=S) hi (Region.noSelect_spec h1) h2 (fun L w inv hun hS=>hS (waits_spec inv hun _ _ hW)) hQ fuel listed a w (headB_spec h5) (Region.free_spec hi h3) (by simpa using h4) (Or.inl ⟨hw,hy⟩) hS h
theorem tkU0 (i:Nat) {oi:Oper} {v:Value} {fuel:Nat} {listed:Array Bool} {a:Act} {w:World} (hS:listed.getD m true=false→S w) (h:wpU P md ops Q S m fuel (listed.setIfInBounds i true) (a.put oi.dst v) w)
  (hi:ops[i]?=some oi:=by rfl) (hB:takeU md ops m listed i=true:=by kernel_rfl) (hw:Region.wanted oi (yielded ops a.tmps)=true:=by first | kernel_rfl | rfl)
  (hy:∀ W:World,True→(execOp a.eval oi).run P W=.ok (.value v) W:=by (intro W hW;go_simp;try with_reducible rfl))
  (hQ:∀ c a w,Q (.panic c) (a.put oi.dst v) w→Q (.panic c) a w:=by exact fun _ _ _ h=>h):wpU P md ops Q S m (fuel+1) listed a w:=by
 simp only[takeU,Bool.and_eq_true,decide_eq_true_eq]at hB;obtain ⟨⟨⟨⟨h1,h2⟩,h3⟩,h4⟩,h5⟩:=hB;exact wpU_first (SS:=fun _=>True) hi (Region.noSelect_spec h1) h2 (fun L w inv hun hS=>trivial) hQ fuel listed a w (headB_spec h5) (Region.free_spec hi h3) (by simpa using h4) (Or.inl ⟨hw,hy⟩) hS h
theorem wpU_one (i:Nat) {oi:Oper} {fuel:Nat} {listed:Array Bool} {a:Act} {w:World} (hi:ops[i]?=some oi) (hr:Region.ready md ops listed=[i])
  (h:∀ K':Act→World→Prop,Shut (∀ a w,((listed.setIfInBounds i true).getD m true=false→S w)→wpU P md ops Q S m fuel (listed.setIfInBounds i true) a w→K' a w)→if Region.wanted oi (yielded ops a.tmps)=true then Oper.wp P oi a w K' Q else K' (a.put oi.dst undef) w):
  wpU P md ops Q S m (fuel+1) listed a w:=by
 refine ⟨fun h0=>(by rw[hr] at h0;cases h0),fun j hj=>?_⟩;rw[hr] at hj
 obtain rfl:j=i:=by simpa using hj
 exact wpOp_step hi fun K' hK=>h K' fun a w hS hW=>hK a w ⟨hS,hW⟩
theorem wpU_end {listed:Array Bool}{a:Act}{w:World}(hr:Region.ready md ops listed=[])(h:Q .normal a w):wpU P md ops Q S m 0 listed a w:=⟨hr,h⟩
theorem wp_region_U {id:Nat}{a:Act}{w:World}(m:Nat)(S:World→Prop)(N:Nat)(L:Array Bool)(hN:ops.size=N)(hL:Array.replicate N false=L)(hm:P.follows .mixedOrders=true)(h:wpU P .any ops Q S m N L a w.drew):(Code.region id ops true).wp P Q a w:=by
 subst hN hL;exact wp_region_any hm (wpAny_of_U _ _ _ _ h)
end
end Go.Proofs.YtbkcjmojgglbkaaGreatDoor
