/- Part B39. -/
import Derived.Deep.DeepCutAuto
import Derived.Test.YtnjonlnemagomaaGreatDoorB33
import Derived.Test.YtnjonlnemagomaaGreatDoorB38
namespace Go.Proofs.YtnjonlnemagomaaGreatDoor
open Go.RowKit Big
open Go.Lib (hid)
set_option maxRecDepth 100000
set_option maxHeartbeats 8000000
def RdP (w:World)(a:Option Addr)(pts:List (ByteArray × ByteArray)):Prop:=∀ (k:Nat) (h:k < pts.length),∃ b off,a=some ⟨b,off,none⟩/\w.cell? ⟨b,off+k*2,none⟩=some (.string pts[k].1)/\w.cell? ⟨b,off+k*2+1,none⟩=some (.string pts[k].2)
theorem RdP.new {w w':World}{a:Option Addr}{pts:List (ByteArray × ByteArray)}(h:RdP w a pts)(hn:New w w'):RdP w' a pts:=fun k hk=>by
 obtain ⟨b,off,e,h1,h2⟩:=h k hk;exact ⟨b,off,e,hn.cell h1,hn.cell h2⟩
def y4k (s:ByteArray)(q:Rat):Prop:=s.data.toList=y02 q/\Fits q/\s.size<=100000
structure yma (pts:List (ByteArray × ByteArray))(xs ys:Nat->Rat):Prop where
 x:∀ (k:Nat) (h:k < pts.length),y4k pts[k].1 (xs k)
 y:∀ (k:Nat) (h:k < pts.length),y4k pts[k].2 (ys k)
 inc:∀ k,k+1 < pts.length->xs k < xs (k+1)
theorem y4k.err {s t:ByteArray}{p q:Rat}(h:y4k s p)(g:y4k t q):err2 s t=0:=by
 unfold err2;rw[h.1,g.1,y18 h.2.1,y18 g.2.1];rfl
theorem yfr (X Y:ByteArray)(x y:Rat)(hx:y4k X x)(hy:y4k Y y)(p:Nat)(a:Option Addr)(n cap:Nat)(w:World)(he:Env w)(_htp:w.cell? ⟨p,0,none⟩=some (.slice a n cap)):Calls Tryz.prog 102 #[.int .i64 0,.agg #[.string X,.string Y],.pointer (some ⟨p,0,none⟩)] w (y1o w 0):=by
 have hrow:=y5e X Y hx.2.2 hy.2.2;rw[hx.err hy] at hrow;clear hx hy _htp;have HE:=hid he;have HROW:=hid hrow;clear he hrow;go_enter Tryz.func102,Tryz.ntmps102;go_upto_region 1 with (fail);obtain ⟨BA,HN⟩:=lay1 w 30 #[.string X,.string Y];obtain ⟨w0,hw0⟩:∃ u,w.alloc (.cells #[.string X,.string Y] 30)=u:=⟨_,rfl⟩;rw[hw0] at BA HN⊢;clear hw0;obtain ⟨pa0,pa1,pa2,pa3,pa4⟩:=BA.out.two;go_wp2_with fail;clear pa0 pa1 pa2 pa3 pa4;have HN0:=HN;clear HN;obtain ⟨BG,HN⟩:=lay1 w0 23 #[.string X,.string Y];replace BA:=hid (BA.out.new HN.out);have HN_:=HN0.out.trans HN.out;clear HN HN0;have HN:=hid HN_;clear HN_;refine (HROW.out _ _ _ _ (HE.out.new HN.out) BG.out).mono ?_;rintro e w2 ⟨rfl,hn⟩;clear BG;replace BA:=bW BA hn;replace HN:=tW HN hn;clear hn;go_wp2_with fail;go_ret;exact ⟨rfl,HN.out⟩
theorem yfw (X Y Z:ByteArray)(x y z:Rat)(hx:y4k X x)(hy:y4k Y y)(hz:y4k Z z)(hlt:z < x)(p k b off:Nat)(n cap:Nat)(hk:k+1 < n)(hk2:n<=100000)(w:World)(he:Env w)(htp:w.cell? ⟨p,0,none⟩=some (.slice (some ⟨b,off,none⟩) n cap))(hc:w.cell? ⟨b,off+k*2,none⟩=some (.string Z)):
  Calls Tryz.prog 102 #[.int .i64 ((k:Int)+1),.agg #[.string X,.string Y],.pointer (some ⟨p,0,none⟩)] w (y1o w 0):=by
 have hrow:=y5e X Y hx.2.2 hy.2.2;rw[hx.err hy] at hrow;have hfx:=fun W hW=>y0c X x W hW hx.1 (by have:=hx.2.2;omega);have hfz:=fun W hW=>y0c Z z W hW hz.1 (by have:=hz.2.2;omega);have hcm:=fun va vb W h1 h2=>y16 va vb x z 2000 2000 W h1 h2 (Fits.fb hx.2.1) (Fits.fb hz.2.1) (by omega);unfold y1t at hcm;obtain ⟨t,ht,ht0⟩:∃ t,(y0v x z).sign=t/\0 < t:=⟨_,rfl,y2o.2 hlt⟩;rw[ht] at hcm;have htb:decide (t<=0)=false:=decide_eq_false (by omega);have hk0:((k:Int)+1==0)=false:=beq_false_of_ne (by omega)
 have hwk:IntKind.i64.wrap (k:Int)=k:=by rw[IntKind.wrap_i64];omega
 have hk1:(0:Int)<=k/\(k:Int) < n:=by omega
 have hk3:(0:Int)<=k:=by omega
 have hk4:(k:Int) < n:=by omega
 clear hx hy hz hlt ht ht0 hk hk2;have HE:=hid he;have HROW:=hid hrow;have HFX:=hid hfx;have HFZ:=hid hfz;have HCM:=hid hcm;clear he hrow hfx hfz hcm;go_enter Tryz.func102,Tryz.ntmps102;go_upto_region 1 with (fail);obtain ⟨BA,HN⟩:=lay1 w 30 #[.string X,.string Y];obtain ⟨w0,hw0⟩:∃ u,w.alloc (.cells #[.string X,.string Y] 30)=u:=⟨_,rfl⟩;rw[hw0] at BA HN⊢;clear hw0;obtain ⟨pa0,pa1,pa2,pa3,pa4⟩:=BA.out.two;go_wp2_with fail;clear pa0 pa1 pa2 pa3 pa4;have HN0:=HN;clear HN;obtain ⟨BG,HN⟩:=lay1 w0 23 #[.string X,.string Y];replace BA:=hid (BA.out.new HN.out);have HN_:=HN0.out.trans HN.out;clear HN HN0;have HN:=hid HN_;clear HN_;refine (HROW.out _ _ _ _ (HE.out.new HN.out) BG.out).mono ?_;rintro e w2 ⟨rfl,hn⟩;clear BG;replace BA:=bW BA hn;replace HN:=tW HN hn;clear hn;replace htp:=HN.out.cell htp;replace hc:=HN.out.cell hc;go_upto_region 4 with (fail);obtain ⟨pa0,pa1,pa2,pa3,pa4⟩:=BA.out.two;clear pa0 pa1 pa2 pa3 pa4;refine y00 13 (fun W=>(W.cell? ⟨w.heap.size,0,none⟩=some (.string X)/\W.cell? ⟨w.heap.size,1,none⟩=some (.string Y))/\W.cell? ⟨p,0,none⟩=some (.slice (some ⟨b,off,none⟩) n cap)/\W.cell? ⟨b,off+k*2,none⟩=some (.string Z)) 14 #[false,false,false,false,false,false,false,false,false,false,false,false,false,false] rfl (by kernel_rfl) (by kernel_rfl) ?_;refine tk 0 (by exact ⟨cW2 BA,htp,hc⟩) ?_
 try simp only[PT]
 refine tk 1 (by exact ⟨cW2 BA,htp,hc⟩) ?_
 try simp only[PT]
 refine tk 3 (by exact ⟨cW2 BA,htp,hc⟩) ?_
 try simp only[PT]
 refine tk 4 (by exact ⟨cW2 BA,htp,hc⟩) ?_
 try simp only[PT]
 refine tk 5 (by exact ⟨cW2 BA,htp,hc⟩) ?_
 try simp only[PT]
 refine tk 6 (by exact ⟨cW2 BA,htp,hc⟩) ?_
 try simp only[PT]
 refine tk 7 (by exact ⟨cW2 BA,htp,hc⟩) ?_
 try simp only[PT]
 refine tk 8 (by exact ⟨cW2 BA,htp,hc⟩) ?_
 try simp only[PT]
 refine tk1 2 fun K hK=>?_;go_simp;refine (HFX.out _ (HE.out.new HN.out.drew)).mono ?_;rintro e w3 ⟨v3,rfl,hn,hf⟩;have hn:=hn.undrew;replace htp:=hn.cell htp;replace hc:=hn.cell hc;have HF3:=hid hf;clear hf;replace BA:=bW BA hn;replace HN:=tW HN hn;clear hn;refine hK.out _ _ (fun _=>⟨cW2 BA,htp,hc⟩) ?_;clear hK K
 try simp only[PT]
 refine tk1 9 fun K hK=>?_;go_simp;refine (HFZ.out _ (HE.out.new HN.out)).mono ?_;rintro e w4 ⟨v4,rfl,hn,hf⟩;replace htp:=hn.cell htp;replace hc:=hn.cell hc;have HF4:=hid hf;clear hf;replace BA:=bW BA hn;replace HF3:=hid (HF3.out.new hn);replace HN:=tW HN hn;clear hn;refine hK.out _ _ (fun _=>⟨cW2 BA,htp,hc⟩) ?_;clear hK K
 try simp only[PT]
 refine tk1 10 fun K hK=>?_;go_simp;refine (HCM.out _ _ _ HF3.out HF4.out).mono ?_;rintro e w5 ⟨rfl,hn⟩;replace htp:=hn.cell htp;replace hc:=hn.cell hc;clear HF3 HF4;replace BA:=bW BA hn;replace HN:=tW HN hn;clear hn;refine hK.out _ _ (fun _=>⟨cW2 BA,htp,hc⟩) ?_;clear hK K
 try simp only[PT]
 refine tk 11 (by exact ⟨cW2 BA,htp,hc⟩) ?_
 try simp only[PT]
 refine tk1 12 fun K hK=>?_;go_simp;refine (y04 false 11 _).mono ?_;rintro e w6 ⟨rfl,hw⟩;have hn:=New.of_eq hw;replace htp:=hn.cell htp;replace hc:=hn.cell hc;clear hw;replace BA:=bW BA hn;replace HN:=tW HN hn;clear hn;refine hK.out _ _ (fun _=>⟨cW2 BA,htp,hc⟩) ?_;clear hK K
 try simp only[PT]
 refine tlW ?_;obtain ⟨pa0,pa1,pa2,pa3,pa4⟩:=BA.out.two;clear pa0 pa1 pa2 pa3 pa4;go_wp2_with fail;go_ret;exact ⟨rfl,HN.out⟩
theorem yf3 (pts:List (ByteArray × ByteArray))(xs ys:Nat->Rat)(ht:yma pts xs ys)(hl:pts.length<=64)(p:Nat)(a:Option Addr)(cap:Nat)(w:World)(he:Env w)(htp:w.cell? ⟨p,0,none⟩=some (.slice a pts.length cap))(hr:RdP w a pts):
  Calls Tryz.prog 101 #[.slice a pts.length cap,.func (.func 102) #[] #[.pointer (some ⟨p,0,none⟩)]] w (y1o w 0):=by
 have hcl:∀ (k:Nat) (hk:k < pts.length) (W:World),New w W->Calls Tryz.prog 102 #[.int .i64 (k:Int),.agg #[.string pts[k].1,.string pts[k].2],.pointer (some ⟨p,0,none⟩)] W (y1o W 0):=fun k hk W hn=>by
  rcases Nat.eq_zero_or_pos k with h0 | h0
  ·subst h0;exact yfr _ _ _ _ (ht.x 0 hk) (ht.y 0 hk) p a _ cap W (he.new hn) (hn.cell htp)
  ·obtain ⟨j,rfl⟩:∃ j,k=j+1:=⟨k - 1,by omega⟩;obtain ⟨b,off,e,h1,h2⟩:=hr j (by omega);have h:=yfw _ _ _ _ _ _ (ht.x (j+1) hk) (ht.y (j+1) hk) (ht.x j (by omega)) (ht.inc j hk) p j b off pts.length cap hk (by omega) W (he.new hn) (by rw[<-e];exact hn.cell htp) (hn.cell h1);rw[show ((j+1:Nat):Int)=(j:Int)+1 by omega];exact h
 obtain ⟨n,hn⟩:∃ n,pts.length=n:=⟨_,rfl⟩;rw[hn]
 have hni:(n:Int)<=64:=by omega
 clear ht htp he hl;have HR:=hid hr;have HCL:=hid hcl;have HNN:=hid hn;clear hr hcl hn;go_enter Tryz.func101,Tryz.ntmps101;go_wp2_with fail;go_loopw [10] (fun i wr=>∃ k:Nat,k<=n/\i=.int .i64 (k:Int)/\Hid (New w wr)) (fun i _=>n - (intOf i).toNat)
 case atStart=>exact ⟨0,Nat.zero_le _,rfl,hid (New.refl _)⟩
 case round=>
  obtain ⟨k,hk,rfl,HN⟩:=hrel;by_cases hlt:k < n
  ·obtain ⟨b,off,rfl,h1,h2⟩:=HR.out k (by rw[HNN.out];exact hlt);have hc:=fun W hW=>HCL.out k (by rw[HNN.out];exact hlt) W hW;have h1:=HN.out.cell h1;have h2:=HN.out.cell h2;obtain ⟨X,hX⟩:∃ x,(pts[k]'(by rw[HNN.out];exact hlt)).1=x:=⟨_,rfl⟩;obtain ⟨Y,hY⟩:∃ x,(pts[k]'(by rw[HNN.out];exact hlt)).2=x:=⟨_,rfl⟩;rw[hX] at h1;rw[hY] at h2;simp only[hX,hY] at hc
   have hki:(k:Int) < n:=by omega
   clear hX hY;have HC:=hid hc;clear hc;go_upto_region 4 with (fail);have HN0:=HN;clear HN;obtain ⟨BE,HN⟩:=lay1 wr 30 #[.string X,.string Y];have HN_:=HN0.out.trans HN.out;clear HN HN0;have HN:=hid HN_;clear HN_;clear h1 h2;obtain ⟨pe0,pe1,pe2,pe3,pe4⟩:=BE.out.two;go_wp2_with fail;refine (HC.out _ HN.out).mono ?_;rintro e w4 ⟨rfl,hn⟩;clear pe0 pe1 pe2 pe3 pe4;clear BE;replace HN:=tW HN hn;clear hn;go_wp2_with fail;go_roundw
   case rel=>exact ⟨k+1,by omega,by go_num,HN⟩
   case measure=>simp[intOf];omega
  ·obtain rfl:k=n:=by omega
   go_wp2_with fail;go_ret;exact ⟨rfl,HN.out⟩
theorem y8h (pts:List (ByteArray × ByteArray))(xs ys:Nat->Rat)(ht:yma pts xs ys)(h0:0 < pts.length)(hl:pts.length<=64)(a:Option Addr)(cap:Nat)(w:World)(he:Env w)(hr:RdP w a pts):
  Calls Tryz.prog 20 #[.slice a pts.length cap] w (y1o w 0):=by
 have hea:=fun p W (h1:Env W) h2 (h3:RdP W a pts)=>yf3 pts xs ys ht hl p a cap W h1 h2 h3;obtain ⟨n,hn⟩:∃ n,pts.length=n:=⟨_,rfl⟩;rw[hn] at h0 hl hea⊢
 have hni:(n:Int)<=64:=by omega
 have hb1:((n:Int)==0)=false:=beq_false_of_ne (by omega);have hb2:decide ((n:Int) > 64)=false:=decide_eq_false (by omega)
 have hb3:¬(64:Int) < (n:Int):=by omega
 clear ht hn hl h0;have HE:=hid he;have HR:=hid hr;have HEA:=hid hea;clear he hr hea;go_enter Tryz.func20,Tryz.ntmps20;go_upto_region 1 with (fail);obtain ⟨BA,HN⟩:=lay1 w 22 #[.slice a n cap];obtain ⟨w0,hw0⟩:∃ u,w.alloc (.cells #[.slice a n cap] 22)=u:=⟨_,rfl⟩;rw[hw0] at BA HN⊢;clear hw0;obtain ⟨pa0,pa1,pa2⟩:=BA.out.one;clear pa0 pa1 pa2;refine y00 10 (fun W=>W.cell? ⟨w.heap.size,0,none⟩=some (.slice a n cap)) 11 #[false,false,false,false,false,false,false,false,false,false,false] rfl (by kernel_rfl) (by kernel_rfl) ?_;refine tk 0 (by exact cW1 BA) ?_
 try simp only[PT]
 refine tk 1 (by exact cW1 BA) ?_
 try simp only[PT]
 refine tk 2 (by exact cW1 BA) ?_
 try simp only[PT]
 refine tk 4 (by exact cW1 BA) ?_
 try simp only[PT]
 refine tk 5 (by exact cW1 BA) ?_
 try simp only[PT]
 refine tk 6 (by exact cW1 BA) ?_
 try simp only[PT]
 refine tk1 3 fun K hK=>?_;go_simp;refine (y04 false 12 _).mono ?_;rintro e w1 ⟨rfl,hw⟩;have hn:=((New.refl w0).drew).trans (.of_eq hw);clear hw;replace BA:=bW BA hn;replace HN:=tW HN hn;clear hn;refine hK.out _ _ (fun _=>cW1 BA) ?_;clear hK K
 try simp only[PT]
 refine tk1 7 fun K hK=>?_;go_simp;refine (y04 false 5 _).mono ?_;rintro e w2 ⟨rfl,hw⟩;have hn:=New.of_eq hw;clear hw;replace BA:=bW BA hn;replace HN:=tW HN hn;clear hn;refine hK.out _ _ (fun _=>cW1 BA) ?_;clear hK K
 try simp only[PT]
 refine tk1 8 fun K hK=>?_;go_simp;have HN0:=HN;clear HN;obtain ⟨BG,HN⟩:=lay1 w2 32 #[.int .i64 0,.int .i64 0];replace BA:=hid (BA.out.new HN.out);have HN_:=HN0.out.trans HN.out;clear HN HN0;have HN:=hid HN_;clear HN_;refine hK.out _ _ (fun _=>cW1 BA) ?_;clear hK K
 try simp only[PT]
 refine tk1 9 fun K hK=>?_;go_simp;refine (y15 0 0 _ _ 32 _ BG.out).mono ?_;rintro e w3 ⟨rfl,hn⟩;clear BG;replace BA:=bW BA hn;replace HN:=tW HN hn;clear hn;refine hK.out _ _ (fun _=>cW1 BA) ?_;clear hK K
 try simp only[]
 refine tlW ?_;obtain ⟨pa0,pa1,pa2⟩:=BA.out.one;go_wp2_with fail;refine (HEA.out _ _ (HE.out.new HN.out) pa0 (HR.out.new HN.out)).mono ?_;rintro e w4 ⟨rfl,hn⟩;clear pa0 pa1 pa2;replace HN:=tW HN hn;clear hn;go_wp2_with fail;go_ret;exact ⟨rfl,HN.out⟩
theorem yct (X Y:ByteArray)(x q:Rat)(hx:y4k X x)(hq:FB 2000 q)(P:Nat)(s t:Int)(a d:Option Addr)(l c m k:Nat)(w:World)(he:Env w)(hb:Box w P 115 #[.int .i64 s,.slice a l c,.int .i64 t,.slice d m k])(hf:y07 w (.agg #[.int .i64 s,.slice a l c,.int .i64 t,.slice d m k]) q):
  Calls Tryz.prog 89 #[.agg #[.string X,.string Y],.pointer (some ⟨P,0,none⟩)] w fun e w'=>e=.returned (.bool (decide (q<=x)))/\New w w':=by
 have hfx:=fun W hW=>y0c X x W hW hx.1 (by have:=hx.2.2;omega);have hcm:=fun va vb W h1 h2=>y16 va vb x q 2000 2000 W h1 h2 (Fits.fb hx.2.1) hq (by omega);unfold y1t at hcm;obtain ⟨r,hr⟩:∃ r,(y0v x q).sign=r:=⟨_,rfl⟩
 have hd:decide (r ≥ 0)=decide (q<=x):=by
  rw[decide_eq_decide,<-hr];constructor
  ·intro h
   exact Rat.not_lt.1 fun h2=>by have:=y1x.2 h2;omega
  ·intro h;rcases Int.lt_or_le (y0v x q).sign 0 with h2 | h2
   ·exact absurd (y1x.1 h2) (Rat.not_lt.2 h)
   ·exact h2
 rw[hr]at hcm;obtain ⟨u,hu⟩:∃ u,decide (q<=x)=u:=⟨_,rfl⟩;rw[hu] at hd⊢;clear hx hq hr hu;have HE:=hid he;have HFX:=hid hfx;have HCM:=hid hcm;have BB:=hid hb;have HF:=hid hf;clear he hfx hcm hb hf;go_enter Tryz.func89,Tryz.ntmps89;go_upto_region 1 with (fail);obtain ⟨BA,HN⟩:=lay1 w 30 #[.string X,.string Y];replace BB:=hid (BB.out.new HN.out);replace HF:=hid (HF.out.new HN.out);obtain ⟨w0,hw0⟩:∃ u,w.alloc (.cells #[.string X,.string Y] 30)=u:=⟨_,rfl⟩;rw[hw0] at BA HN BB HF⊢;clear hw0;obtain ⟨pa0,pa1,pa2,pa3,pa4⟩:=BA.out.two;obtain ⟨⟨pb0,pb1,pb2,pb3⟩,pb4,pb5,pb6,pb7,pb8⟩:=BB.out.four;clear pa0 pa1 pa2 pa3 pa4;clear pb0 pb1 pb2 pb3 pb4 pb5 pb6 pb7 pb8;refine y00 6 (fun W=>(W.cell? ⟨w.heap.size,0,none⟩=some (.string X)/\W.cell? ⟨w.heap.size,1,none⟩=some (.string Y))/\(W.cell? ⟨P,0,none⟩=some (.int .i64 s)/\W.cell? ⟨P,1,none⟩=some (.slice a l c)/\W.cell? ⟨P,2,none⟩=some (.int .i64 t)/\W.cell? ⟨P,3,none⟩=some (.slice d m k))) 7 #[false,false,false,false,false,false,false] rfl (by kernel_rfl) (by kernel_rfl) ?_;refine tk 0 (by exact ⟨cW2 BA,cW4 BB⟩) ?_
 try simp only[PT]
 refine tk 1 (by exact ⟨cW2 BA,cW4 BB⟩) ?_
 try simp only[PT]
 refine tk 3 (by exact ⟨cW2 BA,cW4 BB⟩) ?_
 try simp only[PT]
 refine tk1 2 fun K hK=>?_;go_simp;refine (HFX.out _ (HE.out.new HN.out.drew)).mono ?_;rintro e w3 ⟨v3,rfl,hn,hf⟩;have hn:=hn.undrew;have HF3:=hid hf;clear hf;replace BA:=bW BA hn;replace BB:=bW BB hn;replace HF:=hid (HF.out.new hn);replace HN:=tW HN hn;clear hn;refine hK.out _ _ (fun _=>⟨cW2 BA,cW4 BB⟩) ?_;clear hK K
 try simp only[PT]
 refine tk1 4 fun K hK=>?_;go_simp;refine (HCM.out _ _ _ HF3.out HF.out).mono ?_;rintro e w4 ⟨rfl,hn⟩;clear HF3;replace BA:=bW BA hn;replace BB:=bW BB hn;replace HF:=hid (HF.out.new hn);replace HN:=tW HN hn;clear hn;refine hK.out _ _ (fun _=>⟨cW2 BA,cW4 BB⟩) ?_;clear hK K
 try simp only[PT]
 refine tk 5 (by exact ⟨cW2 BA,cW4 BB⟩) ?_
 try simp only[PT]
 refine tlW ?_;obtain ⟨pa0,pa1,pa2,pa3,pa4⟩:=BA.out.two;obtain ⟨⟨pb0,pb1,pb2,pb3⟩,pb4,pb5,pb6,pb7,pb8⟩:=BB.out.four;clear pa0 pa1 pa2 pa3 pa4;clear pb0 pb1 pb2 pb3 pb4 pb5 pb6 pb7 pb8;go_wp2_with fail;go_ret;exact ⟨rfl,HN.out⟩
def y6r (n:Nat)(xs:Nat->Rat)(q:Rat)(r:Int):Prop:=(∃ i:Nat,i < n/\r=(i:Int)/\q<=xs i/\∀ j,j < i->xs j < q)\/(r= -1/\∀ j,j < n->xs j < q)
theorem ydc (pts:List (ByteArray × ByteArray))(xs:Nat->Rat)(hx:∀ (k:Nat) (h:k < pts.length),y4k pts[k].1 (xs k))(hl:pts.length<=64)(q:Rat)(hq:FB 2000 q)(P:Nat)(s t:Int)(a d:Option Addr)(l c m k:Nat)(ar:Option Addr)(cap:Nat)(w:World)(he:Env w)(hb:Box w P 115 #[.int .i64 s,.slice a l c,.int .i64 t,.slice d m k])(hf:y07 w (.agg #[.int .i64 s,.slice a l c,.int .i64 t,.slice d m k]) q)(hr:RdP w ar pts):
  Calls Tryz.prog 88 #[.slice ar pts.length cap,.func (.func 89) #[] #[.pointer (some ⟨P,0,none⟩)]] w fun e w'=>∃ r,e=.returned (.int .i64 r)/\New w w'/\y6r pts.length xs q r:=by
 have hcl:∀ (j:Nat) (hj:j < pts.length) (W:World),New w W->Calls Tryz.prog 89 #[.agg #[.string pts[j].1,.string pts[j].2],.pointer (some ⟨P,0,none⟩)] W fun e w'=>e=.returned (.bool (decide (q<=xs j)))/\New W w':=fun j hj W hn=>
  yct _ _ (xs j) q (hx j hj) hq P s t a d l c m k W (he.new hn) (hb.new hn) (hf.new hn)
 obtain ⟨n,hn⟩:∃ n,pts.length=n:=⟨_,rfl⟩;rw[hn]
 have hni:(n:Int)<=64:=by omega
 clear hx hq he hl hb hf;have HR:=hid hr;have HCL:=hid hcl;have HNN:=hid hn;clear hr hcl hn;go_enter Tryz.func88,Tryz.ntmps88;go_wp2_with fail;go_loopw [8] (fun i wr=>∃ j:Nat,j<=n/\i=.int .i64 (j:Int)/\Hid (∀ u,u < j->xs u < q)/\Hid (New w wr)) (fun i _=>n - (intOf i).toNat)
 case atStart=>exact ⟨0,Nat.zero_le _,rfl,hid (fun u h=>by omega),hid (New.refl _)⟩
 case round=>
  obtain ⟨j,hj,rfl,HB,HN⟩:=hrel;by_cases hlt:j < n
  ·obtain ⟨b,off,rfl,h1,h2⟩:=HR.out j (by rw[HNN.out];exact hlt);have hc:=fun W hW=>HCL.out j (by rw[HNN.out];exact hlt) W hW;have h1:=HN.out.cell h1;have h2:=HN.out.cell h2;obtain ⟨X,hX⟩:∃ x,(pts[j]'(by rw[HNN.out];exact hlt)).1=x:=⟨_,rfl⟩;obtain ⟨Y,hY⟩:∃ x,(pts[j]'(by rw[HNN.out];exact hlt)).2=x:=⟨_,rfl⟩;rw[hX] at h1;rw[hY] at h2;simp only[hX,hY] at hc
   have hki:(j:Int) < n:=by omega
   clear hX hY;by_cases hle:q<=xs j
   ·rw[decide_eq_true hle] at hc;have hres:y6r n xs q (j:Int):=.inl ⟨j,hlt,rfl,hle,HB.out⟩;clear hle;have HC:=hid hc;have HRES:=hid hres;clear hc hres;go_wp2_with fail;refine (HC.out _ HN.out).mono ?_;rintro e w4 ⟨rfl,hn⟩;replace HN:=tW HN hn;clear hn;go_wp2_with fail;go_ret;exact ⟨_,rfl,HN.out,HRES.out⟩
   ·rw[decide_eq_false hle] at hc
    have hb:∀ u,u < j+1->xs u < q:=fun u hu=>by
     rcases Nat.lt_or_ge u j with h | h
     ·exact HB.out u h
     ·have:u=j:=by omega
      rw[this];exact Rat.not_le.1 hle
    clear hle;have HC:=hid hc;have HB2:=hid hb;clear hc hb;go_wp2_with fail;refine (HC.out _ HN.out).mono ?_;rintro e w4 ⟨rfl,hn⟩;clear h1 h2;replace HN:=tW HN hn;clear hn;go_wp2_with fail;go_roundw
    case rel=>exact ⟨j+1,by omega,by go_num,HB2,HN⟩
    case measure=>simp[intOf];omega
  ·obtain rfl:j=n:=by omega
   go_wp2_with fail;go_ret;exact ⟨_,rfl,HN.out,.inr ⟨rfl,HB.out⟩⟩
end Go.Proofs.YtnjonlnemagomaaGreatDoor
namespace Go.Proofs.YtnjonlnemagomaaGreatDoor
open Go.RowKit Big Go.Lib
set_option maxRecDepth 100000
set_option maxHeartbeats 8000000
theorem yfc {p q:Rat}(h:y02 p=y02 q):p=q:=by
 have key:∀ r:Rat,upTo (unsigned (y02 r))=decDigits r.num.natAbs/\behind (unsigned (y02 r))=if r.den=1 then [] else decDigits r.den:=fun r=>by
  rw[y2z];by_cases hd:r.den=1
  ·rw[if_pos hd,if_pos hd];exact ⟨y66 _,y8f _⟩
  ·rw[if_neg hd,if_neg hd];exact ⟨y2r _ _,y1w _ _⟩
 have h1:=(key p).1.symm.trans ((congrArg (fun l=>upTo (unsigned l)) h).trans (key q).1);have h2:=(key p).2.symm.trans ((congrArg (fun l=>behind (unsigned l)) h).trans (key q).2);have hn:=y45 h1;have hs:=y5n p;rw[h,y5n q] at hs;have hs2:q.num < 0 ↔ p.num < 0:=decide_eq_decide.1 hs
 have hd:p.den=q.den:=by
  by_cases d1:p.den=1
  ·by_cases d2:q.den=1
   ·rw[d1,d2]
   ·rw[if_pos d1,if_neg d2] at h2;exact absurd h2.symm (y0r _)
  ·by_cases d2:q.den=1
   ·rw[if_neg d1,if_pos d2] at h2;exact absurd h2 (y0r _)
   ·rw[if_neg d1,if_neg d2] at h2;exact y45 h2
 exact Rat.ext (by omega) hd
theorem y4k.ne {s t:ByteArray}{p q:Rat}(h:y4k s p)(g:y4k t q)(hne:p≠q):(s.toList==t.toList)=false:=by
 rw[beq_eq_false_iff_ne,ByteArray.toList_eq,ByteArray.toList_eq,h.1,g.1];exact fun e=>hne (yfc e)
theorem y4k.same {s t:ByteArray}{q:Rat}(h:y4k s q)(g:y4k t q):(s.toList==t.toList)=true:=by
 rw[beq_iff_eq,ByteArray.toList_eq,ByteArray.toList_eq,h.1,g.1]
theorem y6r.eq {n:Nat}{xs:Nat->Rat}{q:Rat}{r:Int}(h:y6r n xs q r){i:Nat}(hi:i < n)(h1:q<=xs i)(h2:∀ j,j < i->xs j < q):r=(i:Int):=by
 rcases h with ⟨k,hk,rfl,h3,h4⟩ | ⟨-,h3⟩
 ·rcases Nat.lt_trichotomy k i with h5 | h5 | h5
  ·exact absurd (h2 k h5) (Rat.not_lt.2 h3)
  ·rw[h5]
  ·exact absurd (h4 i h5) (Rat.not_lt.2 h1)
 ·exact absurd (h3 i hi) (Rat.not_lt.2 h1)
theorem y6r.none {n:Nat}{xs:Nat->Rat}{q:Rat}{r:Int}(h:y6r n xs q r)(h2:∀ j,j < n->xs j < q):r= -1:=by
 rcases h with ⟨k,hk,rfl,h3,h4⟩ | ⟨h3, -⟩
 ·exact absurd (h2 k hk) (Rat.not_lt.2 h3)
 ·exact h3
end Go.Proofs.YtnjonlnemagomaaGreatDoor
