/- Part B09. -/
import Derived.Lib.ItoaNum
import Derived.Test.YtnjonlnemagomaaGreatDoorB08
namespace Go.Proofs.YtnjonlnemagomaaGreatDoor
open Go.RowKit Big
open Go.Lib (hid)
set_option maxRecDepth 100000
set_option maxHeartbeats 8000000
theorem BdK.mul {j k:Nat}{x y:Int}(hx:BdK j x)(hy:BdK k y):BdK (j+k) (x*y):=by
 unfold BdK at *;rw[Int.natAbs_mul,Nat.pow_add];exact Nat.mul_lt_mul'' hx hy
theorem BdK.add {m:Nat}{x y:Int}(hx:BdK m x)(hy:BdK m y):BdK (m+1) (x+y):=by
 unfold BdK at *;rw[Nat.pow_succ];omega
theorem BdK.mono {j k:Nat}{x:Int}(h:BdK j x)(hk:j<=k):BdK k x:=Nat.lt_of_lt_of_le h (Nat.pow_le_pow_right (by omega) hk)
structure FB (k:Nat)(q:Rat):Prop where
 num:BdK k q.num
 den:BdK k (q.den:Int)
theorem FB.mono {j k:Nat}{q:Rat}(h:FB j q)(hk:j<=k):FB k q:=⟨h.num.mono hk,h.den.mono hk⟩
theorem yka {x y:Int}(hy:y≠0):(Rat.divInt x y).num.natAbs<=x.natAbs/\(Rat.divInt x y).den<=y.natAbs:=by
 rw[Rat.num_divInt,Rat.den_divInt,if_neg hy];refine ⟨Nat.le_trans (Int.natAbs_ediv_le_natAbs _ _) ?_,Nat.div_le_self _ _⟩;rw[Int.natAbs_mul]
 have:y.sign.natAbs=1:=by rw[Int.natAbs_sign_of_ne_zero hy]
 rw[this,Nat.one_mul];exact Nat.le_refl _
theorem FB.divInt {j:Nat}{x y:Int}(hx:BdK j x)(hy:BdK j y)(h0:y≠0):FB j (Rat.divInt x y):=by
 obtain ⟨h1,h2⟩:=yka (x:=x) h0;exact ⟨Nat.lt_of_le_of_lt h1 hx,Nat.lt_of_le_of_lt (by simpa using h2) hy⟩
theorem y7t (a b:Rat):a+b=Rat.divInt (a.num*b.den+b.num*a.den) (a.den*b.den):=by
 rw[Rat.add_def'];rfl
theorem ybb (a b:Rat):a*b=Rat.divInt (a.num*b.num) (a.den*b.den):=by
 rw[Rat.mul_def'];rfl
theorem ynb (q:Rat):(q.den:Int)≠0:=by
 have:=q.den_nz;omega
theorem ybu (a b:Rat):(a.den:Int)*(b.den:Int)≠0:=Int.mul_ne_zero (ynb a) (ynb b)
theorem FB.add {j k:Nat}{a b:Rat}(ha:FB j a)(hb:FB k b):FB (j+k+1) (a+b):=by
 rw[y7t];exact FB.divInt ((ha.num.mul hb.den).add (by rw[Nat.add_comm];exact hb.num.mul ha.den)) ((ha.den.mul hb.den).mono (by omega)) (ybu a b)
theorem FB.mul {j k:Nat}{a b:Rat}(ha:FB j a)(hb:FB k b):FB (j+k) (a*b):=by
 rw[ybb];exact FB.divInt (ha.num.mul hb.num) (ha.den.mul hb.den) (ybu a b)
theorem FB.neg {j:Nat}{a:Rat}(ha:FB j a):FB j (-a):=⟨by
 have:=ha.num;unfold BdK at *;rw[Rat.neg_num,Int.natAbs_neg]
 exact this,ha.den⟩
theorem FB.sub {j k:Nat}{a b:Rat}(ha:FB j a)(hb:FB k b):FB (j+k+1) (a - b):=by
 rw[Rat.sub_eq_add_neg];exact ha.add hb.neg
theorem ynf {a:Rat}(h:a≠0):a.num≠0:=fun h0=>h (by rw[<-Rat.num_divInt_den a,h0,Rat.zero_divInt])
theorem FB.inv {j:Nat}{a:Rat}(ha:FB j a)(h:a≠0):FB j a⁻¹:=by
 rw[Rat.inv_def];exact FB.divInt ha.den ha.num (ynf h)
theorem FB.div {j k:Nat}{a b:Rat}(ha:FB j a)(hb:FB k b)(h:b≠0):FB (j+k) (a / b):=by
 rw[Rat.div_def];exact ha.mul (hb.inv h)
theorem yda (va:Value)(q:Rat)(k:Nat)(w:World)(hx:y07 w va q)(hb:FB k q)(hk:k<=60000000)(h0:q≠0):Calls Tryz.prog 168 #[va] w (y1h w q⁻¹):=by
 obtain ⟨s,a,l,c,s',a',l',c',rfl,h1,h2⟩:=hx;obtain ⟨r,hr⟩:∃ r,q⁻¹=r:=⟨_,rfl⟩;have hr':=Rat.inv_def q;rw[hr] at hr'⊢;have H1:=hid h1;have H2:=hid h2;have HR:=hid hr';have HB:=hid hb;have HK:=hid hk;have H0:=hid h0;clear h1 h2 hr' hb hk h0;clear hr;go_enter Tryz.func168,Tryz.ntmps168;go_wp2_with fail;obtain ⟨BA,BP,HN⟩:=lay2 w 115 #[.int .i64 s,.slice a l c,.int .i64 s',.slice a' l' c'] 115 #[.int .i64 0,.slice none 0 0,.int .i64 0,.slice none 0 0];refine (y12 _ _ (q.den:Int) q.num _ (H2.out.new HN.out) (H1.out.new HN.out) (HB.out.den.bd HK.out) (HB.out.num.bd HK.out) (ynf H0.out)).mono ?_;rintro e w2 ⟨v,rfl,hn,hf⟩;rw[<-HR.out] at hf;obtain ⟨s9,a9,l9,k9,t9,b9,m9,n9,rfl⟩:=hf.shape;have HF:=hid hf;clear hf;replace BP:=bW BP hn;replace HN:=tW HN hn;clear hn;obtain ⟨⟨p0,p1,p2,p3⟩,p4,p5,p6,p7,p8⟩:=BP.out.four;go_wp2_with fail;refine bodyPost_ret (v:=.agg #[.int .i64 s9,.slice a9 l9 k9,.int .i64 t9,.slice b9 m9 n9]) (by simp[results,Tryz.results168,go_sem,p0,p1,p2,p3]) rfl ?_;exact y10 HN.out BP.out (by omega) HF.out.parts.1 HF.out.parts.2
theorem y3n (va vb:Value)(x y:Rat)(j k:Nat)(w:World)(hx:y07 w va x)(hy:y07 w vb y)(bx:FB j x)(by':FB k y)(hk:j+k<=60000000):Calls Tryz.prog 94 #[va,vb] w (y1h w (x*y)):=by
 obtain ⟨sa,aa,la,ca,ta,ba,ma,na,rfl,hx1,hx2⟩:=hx;obtain ⟨sb,ab,lb,cb,tb,bb,mb,nb,rfl,hy1,hy2⟩:=hy;obtain ⟨r,hr⟩:∃ r,x*y=r:=⟨_,rfl⟩;have hr':=ybb x y;rw[hr] at hr'⊢;clear hr;have bn:=(bx.num.mul by'.num).bd hk;have bd:=(bx.den.mul by'.den).bd hk;have bx1:=bx.num.bd (show j<=60000000 by omega);have bx2:=bx.den.bd (show j<=60000000 by omega);have by1:=by'.num.bd (show k<=60000000 by omega);have by2:=by'.den.bd (show k<=60000000 by omega);have hne:=ybu x y;clear bx by';have X1:=hid hx1;have X2:=hid hx2;have Y1:=hid hy1;have Y2:=hid hy2;have HR:=hid hr';have HK:=hid hk;have BX1:=hid bx1;have BX2:=hid bx2;have BY1:=hid by1;have BY2:=hid by2;have BN:=hid bn;have BD:=hid bd;have HNE:=hid hne;clear hx1 hx2 hy1 hy2 hr' hk bx1 bx2 by1 by2 bn bd hne;go_enter Tryz.func94,Tryz.ntmps94;go_wp2_with fail;obtain ⟨BA,BB,BP,HN⟩:=lay3 w 115 #[.int .i64 sa,.slice aa la ca,.int .i64 ta,.slice ba ma na] 115 #[.int .i64 sb,.slice ab lb cb,.int .i64 tb,.slice bb mb nb] 115 #[.int .i64 0,.slice none 0 0,.int .i64 0,.slice none 0 0];obtain ⟨⟨pa0,pa1,pa2,pa3⟩,pa4,pa5,pa6,pa7,pa8⟩:=BA.out.four;obtain ⟨⟨pb0,pb1,pb2,pb3⟩,pb4,pb5,pb6,pb7,pb8⟩:=BB.out.four;clear pa0 pa1 pa2 pa3 pa4 pa5 pa6 pa7 pa8;clear pb0 pb1 pb2 pb3 pb4 pb5 pb6 pb7 pb8;refine y00 11 (fun W=>(W.cell? ⟨w.heap.size,0,none⟩=some (.int .i64 sa)/\W.cell? ⟨w.heap.size,1,none⟩=some (.slice aa la ca)/\W.cell? ⟨w.heap.size,2,none⟩=some (.int .i64 ta)/\W.cell? ⟨w.heap.size,3,none⟩=some (.slice ba ma na))/\(W.cell? ⟨w.heap.size+1,0,none⟩=some (.int .i64 sb)/\W.cell? ⟨w.heap.size+1,1,none⟩=some (.slice ab lb cb)/\W.cell? ⟨w.heap.size+1,2,none⟩=some (.int .i64 tb)/\W.cell? ⟨w.heap.size+1,3,none⟩=some (.slice bb mb nb))) 12 #[false,false,false,false,false,false,false,false,false,false,false,false] rfl (by kernel_rfl) (by kernel_rfl) ?_;refine tk 0 (by exact ⟨cW4 BA,cW4 BB⟩) ?_
 try simp only[PT]
 refine tk 1 (by exact ⟨cW4 BA,cW4 BB⟩) ?_
 try simp only[PT]
 refine tk 2 (by exact ⟨cW4 BA,cW4 BB⟩) ?_
 try simp only[PT]
 refine tk 3 (by exact ⟨cW4 BA,cW4 BB⟩) ?_
 try simp only[PT]
 refine tk 5 (by exact ⟨cW4 BA,cW4 BB⟩) ?_
 try simp only[PT]
 refine tk 6 (by exact ⟨cW4 BA,cW4 BB⟩) ?_
 try simp only[PT]
 refine tk 7 (by exact ⟨cW4 BA,cW4 BB⟩) ?_
 try simp only[PT]
 refine tk 8 (by exact ⟨cW4 BA,cW4 BB⟩) ?_
 try simp only[PT]
 refine tk1 4 fun K hK=>?_;go_simp;refine (y0u _ _ x.num y.num _ (X1.out.new HN.out.drew) (Y1.out.new HN.out.drew) BX1.out BY1.out).mono ?_;rintro e w1 ⟨v,rfl,hn,hi⟩;have hn:=hn.undrew;obtain ⟨s5,a5,l5,k5,rfl⟩:=hi.shape;have HI5:=hid hi;clear hi;replace BA:=bW BA hn;replace BB:=bW BB hn;replace BP:=bW BP hn;replace HN:=tW HN hn;clear hn;refine hK.out _ _ (fun _=>⟨cW4 BA,cW4 BB⟩) ?_;clear hK K
 try simp only[PT]
 refine tk1 9 fun K hK=>?_;go_simp;refine (y0u _ _ (x.den:Int) (y.den:Int) _ (X2.out.new HN.out) (Y2.out.new HN.out) BX2.out BY2.out).mono ?_;rintro e w2 ⟨v,rfl,hn,hi⟩;obtain ⟨s6,a6,l6,k6,rfl⟩:=hi.shape;have HI6:=hid hi;clear hi;replace BA:=bW BA hn;replace BB:=bW BB hn;replace BP:=bW BP hn;replace HI5:=hid (HI5.out.new hn);replace HN:=tW HN hn;clear hn;refine hK.out _ _ (fun _=>⟨cW4 BA,cW4 BB⟩) ?_;clear hK K
 try simp only[PT]
 refine tk1 10 fun K hK=>?_;go_simp;refine (y12 _ _ (x.num*y.num) (x.den*y.den:Int) _ HI5.out HI6.out BN.out BD.out HNE.out).mono ?_;rintro e w3 ⟨v,rfl,hn,hf⟩;rw[<-HR.out] at hf;obtain ⟨s9,a9,l9,k9,t9,b9,m9,n9,rfl⟩:=hf.shape;have HF:=hid hf;clear hf;replace BA:=bW BA hn;replace BB:=bW BB hn;replace BP:=bW BP hn;replace HN:=tW HN hn;clear hn;refine hK.out _ _ (fun _=>⟨cW4 BA,cW4 BB⟩) ?_;clear hK K
 try simp only[PT]
 refine tlW ?_;obtain ⟨⟨pa0,pa1,pa2,pa3⟩,pa4,pa5,pa6,pa7,pa8⟩:=BA.out.four;obtain ⟨⟨pb0,pb1,pb2,pb3⟩,pb4,pb5,pb6,pb7,pb8⟩:=BB.out.four;obtain ⟨⟨p0,p1,p2,p3⟩,p4,p5,p6,p7,p8⟩:=BP.out.four;go_wp2_with fail;refine bodyPost_ret (v:=.agg #[.int .i64 s9,.slice a9 l9 k9,.int .i64 t9,.slice b9 m9 n9]) (by simp[results,Tryz.results94,go_sem,p0,p1,p2,p3]) rfl ?_;exact y10 HN.out BP.out (by omega) HF.out.parts.1 HF.out.parts.2
def y5t:Int:=100000000000000000000000000000000000000000000000000
def y6h:Int:=78539816339744830961566084581987572104929234984377
def serD (k:Nat):Int:=(2*(k:Int) - 1)*2*(k:Int)
def serT:Nat->Int
 | 0=>y5t
 | k+1=>serT k*y6h / y5t*y6h / y5t / serD (k+1)
def serS:Nat->Int
 | 0=>y5t
 | k+1=>if (k+1) % 2=1 then serS k - serT (k+1) else serS k+serT (k+1)
def serU (k:Nat):Int:=serT k*y6h
def serV (k:Nat):Int:=serU k / y5t
def serW (k:Nat):Int:=serV k*y6h
def serX (k:Nat):Int:=serW k / y5t
theorem yon:∀ k,k < 20->0 < serT k:=by decide +kernel
theorem ymm:serT 20=0:=by decide +kernel
theorem yoz:serS 20=70710678118654752440084436210484903928483593768848:=by decide +kernel
theorem y7c:∀ k,k < 21->(serT k).natAbs < 2^400/\(serU k).natAbs < 2^400/\(serV k).natAbs < 2^400/\(serW k).natAbs < 2^400/\(serX k).natAbs < 2^400/\(serS k).natAbs < 2^400:=by decide +kernel
theorem yge:∀ k,k < 21->0 < serD (k+1)/\serD (k+1) < 2000:=by decide +kernel
theorem yp6:(10:Int)^50=y5t:=by decide +kernel
theorem ylj:(10:Int)^47=100000000000000000000000000000000000000000000000:=by decide +kernel
theorem yit {x y:Rat}(hx:x.den=1)(hy:y.den=1):x+y=((x.num+y.num:Int):Rat):=by
 rw[y7t,hx,hy];apply Rat.ext
 ·rw[Rat.num_divInt,Rat.num_intCast];simp
 ·rw[Rat.den_divInt,Rat.den_intCast];simp
theorem yaw (va vb:Value)(x y:Rat)(j k:Nat)(w:World)(hx:y07 w va x)(hy:y07 w vb y)(bx:FB j x)(by':FB k y)(hk:j+k+1<=60000000):Calls Tryz.prog 92 #[va,vb] w (y1h w (x+y)):=by
 have hX:=hx;have hY:=hy;obtain ⟨sa,aa,la,ca,ta,ba,ma,na,rfl,hx1,hx2⟩:=hx;obtain ⟨sb,ab,lb,cb,tb,bb,mb,nb,rfl,hy1,hy2⟩:=hy;obtain ⟨r,hr⟩:∃ r,x+y=r:=⟨_,rfl⟩;have hr':=y7t x y;have hw:=yit (x:=x) (y:=y);rw[hr] at hr' hw⊢;clear hr;have bm1:=(bx.num.mul by'.den).bd (show j+k<=60000000 by omega);have bm2:=(by'.num.mul bx.den).bd (show k+j<=60000000 by omega);have bn:=((bx.num.mul by'.den).add (by rw[Nat.add_comm];exact by'.num.mul bx.den)).bd hk;have bd:=(bx.den.mul by'.den).bd (show j+k<=60000000 by omega);have bx1:=bx.num.bd (show j<=60000000 by omega);have bx2:=bx.den.bd (show j<=60000000 by omega);have by1:=by'.num.bd (show k<=60000000 by omega);have by2:=by'.den.bd (show k<=60000000 by omega);have hne:=ybu x y;clear bx by';have HX:=hid hX;have HY:=hid hY;have X1:=hid hx1;have X2:=hid hx2;have Y1:=hid hy1;have Y2:=hid hy2;have HR:=hid hr';have HW:=hid hw;have HK:=hid hk;have BX1:=hid bx1;have BX2:=hid bx2;have BY1:=hid by1;have BY2:=hid by2;have BM1:=hid bm1;have BM2:=hid bm2;have BN:=hid bn;have BD:=hid bd;have HNE:=hid hne;clear hX hY hx1 hx2 hy1 hy2 hr' hw hk bx1 bx2 by1 by2 bm1 bm2 bn bd hne;by_cases h1:x.den=1
 ·have d1:decide (x.den=1)=true:=by simpa using h1
  have H1:=hid h1;clear h1;go_enter Tryz.func92,Tryz.ntmps92;go_wp2_with fail;obtain ⟨BA,BB,BP,HN⟩:=lay3 w 115 #[.int .i64 sa,.slice aa la ca,.int .i64 ta,.slice ba ma na] 115 #[.int .i64 sb,.slice ab lb cb,.int .i64 tb,.slice bb mb nb] 115 #[.int .i64 0,.slice none 0 0,.int .i64 0,.slice none 0 0];refine (y3c _ x _ (HX.out.new HN.out)).mono ?_;rintro e w1 ⟨rfl,hn⟩;rw[d1];replace BA:=bW BA hn;replace BB:=bW BB hn;replace BP:=bW BP hn;replace HN:=tW HN hn;clear hn;obtain ⟨⟨pb0,pb1,pb2,pb3⟩,pb4,pb5,pb6,pb7,pb8⟩:=BB.out.four;go_wp2_with fail;clear pb0 pb1 pb2 pb3 pb4 pb5 pb6 pb7 pb8;refine (y3c _ y _ (HY.out.new HN.out)).mono ?_;rintro e w2 ⟨rfl,hn⟩;replace BA:=bW BA hn;replace BB:=bW BB hn;replace BP:=bW BP hn;replace HN:=tW HN hn;clear hn;obtain ⟨⟨pa0,pa1,pa2,pa3⟩,pa4,pa5,pa6,pa7,pa8⟩:=BA.out.four;obtain ⟨⟨pb0,pb1,pb2,pb3⟩,pb4,pb5,pb6,pb7,pb8⟩:=BB.out.four;by_cases h2:y.den=1
  ·rw[decide_eq_true h2];have hw:=HW.out H1.out h2;have H2:=hid h2;have HWW:=hid hw;clear h2 hw;go_wp2_with fail;clear pa0 pa1 pa2 pa3 pa4 pa5 pa6 pa7 pa8 pb0 pb1 pb2 pb3 pb4 pb5 pb6 pb7 pb8;refine (y1r _ _ x.num y.num _ (X1.out.new HN.out) (Y1.out.new HN.out) BX1.out BY1.out).mono ?_;rintro e w3 ⟨v,rfl,hn,hi⟩;obtain ⟨s5,a5,l5,k5,rfl⟩:=hi.shape;have HI5:=hid hi;clear hi;replace BP:=bW BP hn;replace HN:=tW HN hn;clear hn;go_wp2_with fail;refine (y26 _ (x.num+y.num) _ HI5.out).mono ?_;rintro e w4 ⟨v,rfl,hn,hf⟩;rw[<-HWW.out] at hf;obtain ⟨s9,a9,l9,k9,t9,b9,m9,n9,rfl⟩:=hf.shape;have HF:=hid hf;clear hf;replace BP:=bW BP hn;replace HN:=tW HN hn;clear hn;obtain ⟨⟨p0,p1,p2,p3⟩,p4,p5,p6,p7,p8⟩:=BP.out.four;go_wp2_with fail;refine bodyPost_ret (v:=.agg #[.int .i64 s9,.slice a9 l9 k9,.int .i64 t9,.slice b9 m9 n9]) (by simp[results,Tryz.results92,go_sem,p0,p1,p2,p3]) rfl ?_;exact y10 HN.out BP.out (by omega) HF.out.parts.1 HF.out.parts.2
  ·rw[decide_eq_false h2];clear h2;go_wp2_with fail;clear pa0 pa1 pa2 pa3 pa4 pa5 pa6 pa7 pa8;clear pb0 pb1 pb2 pb3 pb4 pb5 pb6 pb7 pb8;refine y00 17 (fun W=>(W.cell? ⟨w.heap.size,0,none⟩=some (.int .i64 sa)/\W.cell? ⟨w.heap.size,1,none⟩=some (.slice aa la ca)/\W.cell? ⟨w.heap.size,2,none⟩=some (.int .i64 ta)/\W.cell? ⟨w.heap.size,3,none⟩=some (.slice ba ma na))/\(W.cell? ⟨w.heap.size+1,0,none⟩=some (.int .i64 sb)/\W.cell? ⟨w.heap.size+1,1,none⟩=some (.slice ab lb cb)/\W.cell? ⟨w.heap.size+1,2,none⟩=some (.int .i64 tb)/\W.cell? ⟨w.heap.size+1,3,none⟩=some (.slice bb mb nb))) 18 #[false,false,false,false,false,false,false,false,false,false,false,false,false,false,false,false,false,false] rfl (by kernel_rfl) (by kernel_rfl) ?_;refine tk 0 (by exact ⟨cW4 BA,cW4 BB⟩) ?_
   try simp only[PT]
   refine tk 1 (by exact ⟨cW4 BA,cW4 BB⟩) ?_
   try simp only[PT]
   refine tk 2 (by exact ⟨cW4 BA,cW4 BB⟩) ?_
   try simp only[PT]
   refine tk 3 (by exact ⟨cW4 BA,cW4 BB⟩) ?_
   try simp only[PT]
   refine tk 5 (by exact ⟨cW4 BA,cW4 BB⟩) ?_
   try simp only[PT]
   refine tk 6 (by exact ⟨cW4 BA,cW4 BB⟩) ?_
   try simp only[PT]
   refine tk 7 (by exact ⟨cW4 BA,cW4 BB⟩) ?_
   try simp only[PT]
   refine tk 8 (by exact ⟨cW4 BA,cW4 BB⟩) ?_
   try simp only[PT]
   refine tk 11 (by exact ⟨cW4 BA,cW4 BB⟩) ?_
   try simp only[PT]
   refine tk 12 (by exact ⟨cW4 BA,cW4 BB⟩) ?_
   try simp only[PT]
   refine tk 13 (by exact ⟨cW4 BA,cW4 BB⟩) ?_
   try simp only[PT]
   refine tk 14 (by exact ⟨cW4 BA,cW4 BB⟩) ?_
   try simp only[PT]
   refine tk1 4 fun K hK=>?_;go_simp;refine (y0u _ _ x.num (y.den:Int) _ (X1.out.new HN.out.drew) (Y2.out.new HN.out.drew) BX1.out BY2.out).mono ?_;rintro e w3 ⟨v,rfl,hn,hi⟩;have hn:=hn.undrew;obtain ⟨s5,a5,l5,k5,rfl⟩:=hi.shape;have HI5:=hid hi;clear hi;replace BA:=bW BA hn;replace BB:=bW BB hn;replace BP:=bW BP hn;replace HN:=tW HN hn;clear hn;refine hK.out _ _ (fun _=>⟨cW4 BA,cW4 BB⟩) ?_;clear hK K
   try simp only[PT]
   refine tk1 9 fun K hK=>?_;go_simp;refine (y0u _ _ y.num (x.den:Int) _ (Y1.out.new HN.out) (X2.out.new HN.out) BY1.out BX2.out).mono ?_;rintro e w4 ⟨v,rfl,hn,hi⟩;obtain ⟨s6,a6,l6,k6,rfl⟩:=hi.shape;have HI6:=hid hi;clear hi;replace BA:=bW BA hn;replace BB:=bW BB hn;replace BP:=bW BP hn;replace HI5:=hid (HI5.out.new hn);replace HN:=tW HN hn;clear hn;refine hK.out _ _ (fun _=>⟨cW4 BA,cW4 BB⟩) ?_;clear hK K
   try simp only[PT]
   refine tk1 10 fun K hK=>?_;go_simp;refine (y1r _ _ (x.num*y.den) (y.num*x.den) _ HI5.out HI6.out BM1.out BM2.out).mono ?_;rintro e w5 ⟨v,rfl,hn,hi⟩;obtain ⟨s7,a7,l7,k7,rfl⟩:=hi.shape;have HI7:=hid hi;clear hi;replace BA:=bW BA hn;replace BB:=bW BB hn;replace BP:=bW BP hn;replace HN:=tW HN hn;clear hn;refine hK.out _ _ (fun _=>⟨cW4 BA,cW4 BB⟩) ?_;clear hK K
   try simp only[PT]
   refine tk1 15 fun K hK=>?_;go_simp;refine (y0u _ _ (x.den:Int) (y.den:Int) _ (X2.out.new HN.out) (Y2.out.new HN.out) BX2.out BY2.out).mono ?_;rintro e w6 ⟨v,rfl,hn,hi⟩;obtain ⟨s8,a8,l8,k8,rfl⟩:=hi.shape;have HI8:=hid hi;clear hi;replace BA:=bW BA hn;replace BB:=bW BB hn;replace BP:=bW BP hn;replace HI7:=hid (HI7.out.new hn);replace HN:=tW HN hn;clear hn;refine hK.out _ _ (fun _=>⟨cW4 BA,cW4 BB⟩) ?_;clear hK K
   try simp only[PT]
   refine tk1 16 fun K hK=>?_;go_simp;refine (y12 _ _ (x.num*y.den+y.num*x.den) (x.den*y.den:Int) _ HI7.out HI8.out BN.out BD.out HNE.out).mono ?_;rintro e w7 ⟨v,rfl,hn,hf⟩;rw[<-HR.out] at hf;obtain ⟨s9,a9,l9,k9,t9,b9,m9,n9,rfl⟩:=hf.shape;have HF:=hid hf;clear hf;replace BA:=bW BA hn;replace BB:=bW BB hn;replace BP:=bW BP hn;replace HN:=tW HN hn;clear hn;refine hK.out _ _ (fun _=>⟨cW4 BA,cW4 BB⟩) ?_;clear hK K
   try simp only[PT]
   refine tlW ?_;obtain ⟨⟨pa0,pa1,pa2,pa3⟩,pa4,pa5,pa6,pa7,pa8⟩:=BA.out.four;obtain ⟨⟨pb0,pb1,pb2,pb3⟩,pb4,pb5,pb6,pb7,pb8⟩:=BB.out.four;obtain ⟨⟨p0,p1,p2,p3⟩,p4,p5,p6,p7,p8⟩:=BP.out.four;go_wp2_with fail;refine bodyPost_ret (v:=.agg #[.int .i64 s9,.slice a9 l9 k9,.int .i64 t9,.slice b9 m9 n9]) (by simp[results,Tryz.results92,go_sem,p0,p1,p2,p3]) rfl ?_;exact y10 HN.out BP.out (by omega) HF.out.parts.1 HF.out.parts.2
 ·have d1:decide (x.den=1)=false:=by simpa using h1
  clear h1;go_enter Tryz.func92,Tryz.ntmps92;go_wp2_with fail;obtain ⟨BA,BB,BP,HN⟩:=lay3 w 115 #[.int .i64 sa,.slice aa la ca,.int .i64 ta,.slice ba ma na] 115 #[.int .i64 sb,.slice ab lb cb,.int .i64 tb,.slice bb mb nb] 115 #[.int .i64 0,.slice none 0 0,.int .i64 0,.slice none 0 0];refine (y3c _ x _ (HX.out.new HN.out)).mono ?_;rintro e w1 ⟨rfl,hn⟩;rw[d1];replace BA:=bW BA hn;replace BB:=bW BB hn;replace BP:=bW BP hn;replace HN:=tW HN hn;clear hn;obtain ⟨⟨pa0,pa1,pa2,pa3⟩,pa4,pa5,pa6,pa7,pa8⟩:=BA.out.four;obtain ⟨⟨pb0,pb1,pb2,pb3⟩,pb4,pb5,pb6,pb7,pb8⟩:=BB.out.four;go_wp2_with fail;clear pa0 pa1 pa2 pa3 pa4 pa5 pa6 pa7 pa8;clear pb0 pb1 pb2 pb3 pb4 pb5 pb6 pb7 pb8;refine y00 17 (fun W=>(W.cell? ⟨w.heap.size,0,none⟩=some (.int .i64 sa)/\W.cell? ⟨w.heap.size,1,none⟩=some (.slice aa la ca)/\W.cell? ⟨w.heap.size,2,none⟩=some (.int .i64 ta)/\W.cell? ⟨w.heap.size,3,none⟩=some (.slice ba ma na))/\(W.cell? ⟨w.heap.size+1,0,none⟩=some (.int .i64 sb)/\W.cell? ⟨w.heap.size+1,1,none⟩=some (.slice ab lb cb)/\W.cell? ⟨w.heap.size+1,2,none⟩=some (.int .i64 tb)/\W.cell? ⟨w.heap.size+1,3,none⟩=some (.slice bb mb nb))) 18 #[false,false,false,false,false,false,false,false,false,false,false,false,false,false,false,false,false,false] rfl (by kernel_rfl) (by kernel_rfl) ?_;refine tk 0 (by exact ⟨cW4 BA,cW4 BB⟩) ?_
  try simp only[PT]
  refine tk 1 (by exact ⟨cW4 BA,cW4 BB⟩) ?_
  try simp only[PT]
  refine tk 2 (by exact ⟨cW4 BA,cW4 BB⟩) ?_
  try simp only[PT]
  refine tk 3 (by exact ⟨cW4 BA,cW4 BB⟩) ?_
  try simp only[PT]
  refine tk 5 (by exact ⟨cW4 BA,cW4 BB⟩) ?_
  try simp only[PT]
  refine tk 6 (by exact ⟨cW4 BA,cW4 BB⟩) ?_
  try simp only[PT]
  refine tk 7 (by exact ⟨cW4 BA,cW4 BB⟩) ?_
  try simp only[PT]
  refine tk 8 (by exact ⟨cW4 BA,cW4 BB⟩) ?_
  try simp only[PT]
  refine tk 11 (by exact ⟨cW4 BA,cW4 BB⟩) ?_
  try simp only[PT]
  refine tk 12 (by exact ⟨cW4 BA,cW4 BB⟩) ?_
  try simp only[PT]
  refine tk 13 (by exact ⟨cW4 BA,cW4 BB⟩) ?_
  try simp only[PT]
  refine tk 14 (by exact ⟨cW4 BA,cW4 BB⟩) ?_
  try simp only[PT]
  refine tk1 4 fun K hK=>?_;go_simp;refine (y0u _ _ x.num (y.den:Int) _ (X1.out.new HN.out.drew) (Y2.out.new HN.out.drew) BX1.out BY2.out).mono ?_;rintro e w3 ⟨v,rfl,hn,hi⟩;have hn:=hn.undrew;obtain ⟨s5,a5,l5,k5,rfl⟩:=hi.shape;have HI5:=hid hi;clear hi;replace BA:=bW BA hn;replace BB:=bW BB hn;replace BP:=bW BP hn;replace HN:=tW HN hn;clear hn;refine hK.out _ _ (fun _=>⟨cW4 BA,cW4 BB⟩) ?_;clear hK K
  try simp only[PT]
  refine tk1 9 fun K hK=>?_;go_simp;refine (y0u _ _ y.num (x.den:Int) _ (Y1.out.new HN.out) (X2.out.new HN.out) BY1.out BX2.out).mono ?_;rintro e w4 ⟨v,rfl,hn,hi⟩;obtain ⟨s6,a6,l6,k6,rfl⟩:=hi.shape;have HI6:=hid hi;clear hi;replace BA:=bW BA hn;replace BB:=bW BB hn;replace BP:=bW BP hn;replace HI5:=hid (HI5.out.new hn);replace HN:=tW HN hn;clear hn;refine hK.out _ _ (fun _=>⟨cW4 BA,cW4 BB⟩) ?_;clear hK K
  try simp only[PT]
  refine tk1 10 fun K hK=>?_;go_simp;refine (y1r _ _ (x.num*y.den) (y.num*x.den) _ HI5.out HI6.out BM1.out BM2.out).mono ?_;rintro e w5 ⟨v,rfl,hn,hi⟩;obtain ⟨s7,a7,l7,k7,rfl⟩:=hi.shape;have HI7:=hid hi;clear hi;replace BA:=bW BA hn;replace BB:=bW BB hn;replace BP:=bW BP hn;replace HN:=tW HN hn;clear hn;refine hK.out _ _ (fun _=>⟨cW4 BA,cW4 BB⟩) ?_;clear hK K
  try simp only[PT]
  refine tk1 15 fun K hK=>?_;go_simp;refine (y0u _ _ (x.den:Int) (y.den:Int) _ (X2.out.new HN.out) (Y2.out.new HN.out) BX2.out BY2.out).mono ?_;rintro e w6 ⟨v,rfl,hn,hi⟩;obtain ⟨s8,a8,l8,k8,rfl⟩:=hi.shape;have HI8:=hid hi;clear hi;replace BA:=bW BA hn;replace BB:=bW BB hn;replace BP:=bW BP hn;replace HI7:=hid (HI7.out.new hn);replace HN:=tW HN hn;clear hn;refine hK.out _ _ (fun _=>⟨cW4 BA,cW4 BB⟩) ?_;clear hK K
  try simp only[PT]
  refine tk1 16 fun K hK=>?_;go_simp;refine (y12 _ _ (x.num*y.den+y.num*x.den) (x.den*y.den:Int) _ HI7.out HI8.out BN.out BD.out HNE.out).mono ?_;rintro e w7 ⟨v,rfl,hn,hf⟩;rw[<-HR.out] at hf;obtain ⟨s9,a9,l9,k9,t9,b9,m9,n9,rfl⟩:=hf.shape;have HF:=hid hf;clear hf;replace BA:=bW BA hn;replace BB:=bW BB hn;replace BP:=bW BP hn;replace HN:=tW HN hn;clear hn;refine hK.out _ _ (fun _=>⟨cW4 BA,cW4 BB⟩) ?_;clear hK K
  try simp only[PT]
  refine tlW ?_;obtain ⟨⟨pa0,pa1,pa2,pa3⟩,pa4,pa5,pa6,pa7,pa8⟩:=BA.out.four;obtain ⟨⟨pb0,pb1,pb2,pb3⟩,pb4,pb5,pb6,pb7,pb8⟩:=BB.out.four;obtain ⟨⟨p0,p1,p2,p3⟩,p4,p5,p6,p7,p8⟩:=BP.out.four;go_wp2_with fail;refine bodyPost_ret (v:=.agg #[.int .i64 s9,.slice a9 l9 k9,.int .i64 t9,.slice b9 m9 n9]) (by simp[results,Tryz.results92,go_sem,p0,p1,p2,p3]) rfl ?_;exact y10 HN.out BP.out (by omega) HF.out.parts.1 HF.out.parts.2
theorem y2c (va vb:Value)(x y:Rat)(j k:Nat)(w:World)(hx:y07 w va x)(hy:y07 w vb y)(bx:FB j x)(by':FB k y)(hk:j+k+1<=60000000):Calls Tryz.prog 93 #[va,vb] w (y1h w (x - y)):=by
 obtain ⟨sa,aa,la,ca,ta,ba,ma,na,rfl⟩:=hx.shape;obtain ⟨sb,ab,lb,cb,tb,bb,mb,nb,rfl⟩:=hy.shape;obtain ⟨r,hr⟩:∃ r,x - y=r:=⟨_,rfl⟩;have hr':=Rat.sub_eq_add_neg x y;have bn:=by'.neg;rw[hr] at hr'⊢;clear hr;have HX:=hid hx;have HY:=hid hy;have HR:=hid hr';have BX:=hid bx;have BN:=hid bn;have BY:=hid by';have HK:=hid hk;clear hx hy hr' bx bn by' hk;go_enter Tryz.func93,Tryz.ntmps93;go_wp2_with fail;obtain ⟨BA,BB,BP,HN⟩:=lay3 w 115 #[.int .i64 sa,.slice aa la ca,.int .i64 ta,.slice ba ma na] 115 #[.int .i64 sb,.slice ab lb cb,.int .i64 tb,.slice bb mb nb] 115 #[.int .i64 0,.slice none 0 0,.int .i64 0,.slice none 0 0];obtain ⟨⟨pa0,pa1,pa2,pa3⟩,pa4,pa5,pa6,pa7,pa8⟩:=BA.out.four;obtain ⟨⟨pb0,pb1,pb2,pb3⟩,pb4,pb5,pb6,pb7,pb8⟩:=BB.out.four;clear pa0 pa1 pa2 pa3 pa4 pa5 pa6 pa7 pa8;clear pb0 pb1 pb2 pb3 pb4 pb5 pb6 pb7 pb8;refine y00 4 (fun W=>(W.cell? ⟨w.heap.size,0,none⟩=some (.int .i64 sa)/\W.cell? ⟨w.heap.size,1,none⟩=some (.slice aa la ca)/\W.cell? ⟨w.heap.size,2,none⟩=some (.int .i64 ta)/\W.cell? ⟨w.heap.size,3,none⟩=some (.slice ba ma na))/\(W.cell? ⟨w.heap.size+1,0,none⟩=some (.int .i64 sb)/\W.cell? ⟨w.heap.size+1,1,none⟩=some (.slice ab lb cb)/\W.cell? ⟨w.heap.size+1,2,none⟩=some (.int .i64 tb)/\W.cell? ⟨w.heap.size+1,3,none⟩=some (.slice bb mb nb))) 5 #[false,false,false,false,false] rfl (by kernel_rfl) (by kernel_rfl) ?_;refine tk 0 (by exact ⟨cW4 BA,cW4 BB⟩) ?_
 try simp only[PT]
 refine tk 1 (by exact ⟨cW4 BA,cW4 BB⟩) ?_
 try simp only[PT]
 refine tk1 2 fun K hK=>?_;go_simp;refine (yic _ y _ (HY.out.new HN.out.drew)).mono ?_;rintro e w1 ⟨v,rfl,hn,hf⟩;have hn:=hn.undrew;obtain ⟨s5,a5,l5,k5,t5,b5,m5,n5,rfl⟩:=hf.shape;have HF5:=hid hf;clear hf;replace BA:=bW BA hn;replace BB:=bW BB hn;replace BP:=bW BP hn;replace HN:=tW HN hn;clear hn;refine hK.out _ _ (fun _=>⟨cW4 BA,cW4 BB⟩) ?_;clear hK K
 try simp only[PT]
 refine tk1 3 fun K hK=>?_;go_simp;refine (yaw _ _ x (-y) j k _ (HX.out.new HN.out) HF5.out BX.out BN.out HK.out).mono ?_;rintro e w2 ⟨v,rfl,hn,hf⟩;rw[<-HR.out] at hf;obtain ⟨s9,a9,l9,k9,t9,b9,m9,n9,rfl⟩:=hf.shape;have HF:=hid hf;clear hf;replace BA:=bW BA hn;replace BB:=bW BB hn;replace BP:=bW BP hn;replace HN:=tW HN hn;clear hn;refine hK.out _ _ (fun _=>⟨cW4 BA,cW4 BB⟩) ?_;clear hK K
 try simp only[PT]
 refine tlW ?_;obtain ⟨⟨pa0,pa1,pa2,pa3⟩,pa4,pa5,pa6,pa7,pa8⟩:=BA.out.four;obtain ⟨⟨pb0,pb1,pb2,pb3⟩,pb4,pb5,pb6,pb7,pb8⟩:=BB.out.four;obtain ⟨⟨p0,p1,p2,p3⟩,p4,p5,p6,p7,p8⟩:=BP.out.four;go_wp2_with fail;refine bodyPost_ret (v:=.agg #[.int .i64 s9,.slice a9 l9 k9,.int .i64 t9,.slice b9 m9 n9]) (by simp[results,Tryz.results93,go_sem,p0,p1,p2,p3]) rfl ?_;exact y10 HN.out BP.out (by omega) HF.out.parts.1 HF.out.parts.2
theorem yav (va vb:Value)(x y:Rat)(j k:Nat)(w:World)(hx:y07 w va x)(hy:y07 w vb y)(bx:FB j x)(by':FB k y)(hk:j+k<=60000000)(h0:y≠0):Calls Tryz.prog 95 #[va,vb] w (y1h w (x / y)):=by
 obtain ⟨sa,aa,la,ca,ta,ba,ma,na,rfl⟩:=hx.shape;obtain ⟨sb,ab,lb,cb,tb,bb,mb,nb,rfl⟩:=hy.shape;obtain ⟨r,hr⟩:∃ r,x / y=r:=⟨_,rfl⟩;have hr':=Rat.div_def x y;have bn:=by'.inv h0
 have hk':k<=60000000:=by omega
 rw[hr]at hr'⊢;clear hr;have HX:=hid hx;have HY:=hid hy;have HR:=hid hr';have BX:=hid bx;have BN:=hid bn;have BY:=hid by';have HK:=hid hk;have HK1:=hid hk';have H0:=hid h0;clear hx hy hr' bx bn by' hk hk' h0;go_enter Tryz.func95,Tryz.ntmps95;go_wp2_with fail;obtain ⟨BA,BB,BP,HN⟩:=lay3 w 115 #[.int .i64 sa,.slice aa la ca,.int .i64 ta,.slice ba ma na] 115 #[.int .i64 sb,.slice ab lb cb,.int .i64 tb,.slice bb mb nb] 115 #[.int .i64 0,.slice none 0 0,.int .i64 0,.slice none 0 0];obtain ⟨⟨pa0,pa1,pa2,pa3⟩,pa4,pa5,pa6,pa7,pa8⟩:=BA.out.four;obtain ⟨⟨pb0,pb1,pb2,pb3⟩,pb4,pb5,pb6,pb7,pb8⟩:=BB.out.four;clear pa0 pa1 pa2 pa3 pa4 pa5 pa6 pa7 pa8;clear pb0 pb1 pb2 pb3 pb4 pb5 pb6 pb7 pb8;refine y00 4 (fun W=>(W.cell? ⟨w.heap.size,0,none⟩=some (.int .i64 sa)/\W.cell? ⟨w.heap.size,1,none⟩=some (.slice aa la ca)/\W.cell? ⟨w.heap.size,2,none⟩=some (.int .i64 ta)/\W.cell? ⟨w.heap.size,3,none⟩=some (.slice ba ma na))/\(W.cell? ⟨w.heap.size+1,0,none⟩=some (.int .i64 sb)/\W.cell? ⟨w.heap.size+1,1,none⟩=some (.slice ab lb cb)/\W.cell? ⟨w.heap.size+1,2,none⟩=some (.int .i64 tb)/\W.cell? ⟨w.heap.size+1,3,none⟩=some (.slice bb mb nb))) 5 #[false,false,false,false,false] rfl (by kernel_rfl) (by kernel_rfl) ?_;refine tk 0 (by exact ⟨cW4 BA,cW4 BB⟩) ?_
 try simp only[PT]
 refine tk 1 (by exact ⟨cW4 BA,cW4 BB⟩) ?_
 try simp only[PT]
 refine tk1 2 fun K hK=>?_;go_simp;refine (yda _ y k _ (HY.out.new HN.out.drew) BY.out HK1.out H0.out).mono ?_;rintro e w1 ⟨v,rfl,hn,hf⟩;have hn:=hn.undrew;obtain ⟨s5,a5,l5,k5,t5,b5,m5,n5,rfl⟩:=hf.shape;have HF5:=hid hf;clear hf;replace BA:=bW BA hn;replace BB:=bW BB hn;replace BP:=bW BP hn;replace HN:=tW HN hn;clear hn;refine hK.out _ _ (fun _=>⟨cW4 BA,cW4 BB⟩) ?_;clear hK K
 try simp only[PT]
 refine tk1 3 fun K hK=>?_;go_simp;refine (y3n _ _ x y⁻¹ j k _ (HX.out.new HN.out) HF5.out BX.out BN.out HK.out).mono ?_;rintro e w2 ⟨v,rfl,hn,hf⟩;rw[<-HR.out] at hf;obtain ⟨s9,a9,l9,k9,t9,b9,m9,n9,rfl⟩:=hf.shape;have HF:=hid hf;clear hf;replace BA:=bW BA hn;replace BB:=bW BB hn;replace BP:=bW BP hn;replace HN:=tW HN hn;clear hn;refine hK.out _ _ (fun _=>⟨cW4 BA,cW4 BB⟩) ?_;clear hK K
 try simp only[PT]
 refine tlW ?_;obtain ⟨⟨pa0,pa1,pa2,pa3⟩,pa4,pa5,pa6,pa7,pa8⟩:=BA.out.four;obtain ⟨⟨pb0,pb1,pb2,pb3⟩,pb4,pb5,pb6,pb7,pb8⟩:=BB.out.four;obtain ⟨⟨p0,p1,p2,p3⟩,p4,p5,p6,p7,p8⟩:=BP.out.four;go_wp2_with fail;refine bodyPost_ret (v:=.agg #[.int .i64 s9,.slice a9 l9 k9,.int .i64 t9,.slice b9 m9 n9]) (by simp[results,Tryz.results95,go_sem,p0,p1,p2,p3]) rfl ?_;exact y10 HN.out BP.out (by omega) HF.out.parts.1 HF.out.parts.2
theorem y1z (va:Value)(q:Rat)(k:Nat)(w:World)(hx:y07 w va q)(hb:FB k q)(hk:k<=60000000):Calls Tryz.prog 116 #[va] w (y0l w q.floor):=by
 obtain ⟨s,a,l,c,s',a',l',c',rfl,h1,h2⟩:=hx;obtain ⟨z,hz⟩:∃ z,q.floor=z:=⟨_,rfl⟩;have hz':=Rat.floor_def q;rw[hz] at hz'⊢;clear hz
 have hp:(0:Int) < q.den:=by have:=q.den_pos;omega
 have H1:=hid h1;have H2:=hid h2;have HZ:=hid hz';have HB:=hid hb;have HK:=hid hk;have HP:=hid hp;clear h1 h2 hz' hb hk hp;go_enter Tryz.func116,Tryz.ntmps116;go_wp2_with fail;obtain ⟨BA,BP,HN⟩:=lay2 w 115 #[.int .i64 s,.slice a l c,.int .i64 s',.slice a' l' c'] 113 #[.int .i64 0,.slice none 0 0];refine (y36 _ _ q.num (q.den:Int) _ (H1.out.new HN.out) (H2.out.new HN.out) (HB.out.num.bd HK.out) (HB.out.den.bd HK.out) HP.out).mono ?_;rintro e w2 ⟨v,v',rfl,hn,hi,hi'⟩;rw[<-HZ.out] at hi;obtain ⟨s5,a5,l5,k5,rfl⟩:=hi.shape;obtain ⟨s6,a6,l6,k6,rfl⟩:=hi'.shape;clear hi';have HI:=hid hi;clear hi;replace BP:=bW BP hn;replace HN:=tW HN hn;clear hn;obtain ⟨p0,p1,p2,p3,p4⟩:=BP.out.two;have p5:=Nat.lt_add_right 1 p4;go_wp2_with fail;refine bodyPost_ret (v:=.agg #[.int .i64 s5,.slice a5 l5 k5]) (by simp[results,Tryz.results116,go_sem,p0,p1,p4,p5]) rfl ?_;exact ⟨_,rfl,(((HN.out.putAt BP.out (by omega) _ _).alloc _).alloc _),(HI.out.put2 BP.out _ _ _ _).new (((New.refl _).alloc _).alloc _)⟩
theorem y6s (va:Value)(q:Rat)(w:World)(hx:y07 w va q)(hb:FB 1800 q):Calls Tryz.prog 165 #[va] w fun e w'=>e=.returned (.bool false)/\New w w':=by
 obtain ⟨s,a,l,c,s',a',l',c',rfl,h1,h2⟩:=hx;have H1:=hid h1;have H2:=hid h2;have HB:=hid hb;clear h1 h2 hb;go_enter Tryz.func165,Tryz.ntmps165;go_wp2_with fail;obtain ⟨BA,HN⟩:=lay1 w 115 #[.int .i64 s,.slice a l c,.int .i64 s',.slice a' l' c'];refine (ybg _ q.num _ (H1.out.new HN.out) HB.out.num).mono ?_;rintro e w2 ⟨rfl,hn⟩;replace BA:=bW BA hn;replace HN:=tW HN hn;clear hn;obtain ⟨⟨pa0,pa1,pa2,pa3⟩,pa4,pa5,pa6,pa7,pa8⟩:=BA.out.four;go_wp2_with fail;refine (ybg _ (q.den:Int) _ (H2.out.new HN.out) HB.out.den).mono ?_;rintro e w3 ⟨rfl,hn⟩;replace HN:=tW HN hn;clear hn;go_wp2_with fail;go_ret;exact ⟨rfl,HN.out⟩
end Go.Proofs.YtnjonlnemagomaaGreatDoor
namespace Go.Proofs.YtnjonlnemagomaaGreatDoor.Big
set_option maxRecDepth 100000
set_option maxHeartbeats 8000000
open Go.Lib
def y0z (c:UInt8):Bool:=decide (48<=c.toNat) && decide (c.toNat<=57)
def dval (acc:Nat)(l:List UInt8):Nat:=l.foldl (fun a c=>10*a+(c.toNat - 48)) acc
theorem y3d (acc:Nat):dval acc []=acc:=by unfold dval;rw[List.foldl_nil]
theorem y2w (acc:Nat)(c:UInt8)(l:List UInt8):dval acc (c::l)=dval (10*acc+(c.toNat - 48)) l:=by unfold dval;rw[List.foldl_cons]
theorem y4f (acc:Nat)(l m:List UInt8):dval acc (l ++ m)=dval (dval acc l) m:=by
 induction l generalizing acc with
 | nil=>rw[List.nil_append,y3d]
 | cons c l ih=>rw[List.cons_append,y2w,y2w,ih]
theorem ygg (acc:Nat)(l:List UInt8):dval acc l=acc*10^l.length+dval 0 l:=by
 induction l generalizing acc with
 | nil=>simp[y3d]
 | cons c l ih=>
  rw[y2w,y2w,List.length_cons];generalize c.toNat - 48=d;rw[ih (10*acc+d),ih (10*0+d),Nat.pow_succ];generalize 10^l.length=p;generalize dval 0 l=e;rw[Nat.add_mul,Nat.mul_zero,Nat.zero_add,Nat.mul_comm p 10,Nat.mul_assoc,Nat.mul_left_comm acc 10 p];omega
theorem y5r {d:Nat}(h:d < 10):(UInt8.ofNat (48+d)).toNat=48+d:=by
 rw[UInt8.toNat_ofNat'];omega
theorem y9o {d:Nat}(h:d < 10):y0z (UInt8.ofNat (48+d))=true:=by
 unfold y0z;rw[y5r h];simp;omega
theorem y2h {c:UInt8}:y0z c=true ↔ 48<=c.toNat/\c.toNat<=57:=by simp[y0z]
theorem y4z {c:UInt8}(h:y0z c=true):c=UInt8.ofNat (48+(c.toNat - 48)):=by
 rw[y2h]at h;apply UInt8.toNat_inj.1;rw[y5r (by omega)];omega
theorem y1g {u:Nat}(h:u < 10):decDigits u=[UInt8.ofNat (48+u)]:=by rw[decDigits,dif_pos h]
theorem y2u {u:Nat}(h:¬u < 10):decDigits u=decDigits (u / 10) ++ [UInt8.ofNat (48+u % 10)]:=by rw[decDigits,dif_neg h]
theorem y0r (u:Nat):decDigits u≠[]:=by
 intro h;have h1:=decDigits_length u;have h2:=nDigits_pos u;rw[h] at h1;simp only[List.length_nil] at h1;omega
theorem y0p (u:Nat):dval 0 (decDigits u)=u:=by
 induction u using Nat.strongRecOn with
 | _ u ih=>
  by_cases h:u < 10
  ·rw[y1g h,y2w,y3d,y5r h];omega
  ·rw[y2u h,y4f,ih _ (by omega),y2w,y3d,y5r (show u % 10 < 10 by omega)];omega
theorem y45 {u v:Nat}(h:decDigits u=decDigits v):u=v:=by
 have:=congrArg (dval 0) h
 rwa [y0p,y0p] at this
theorem y19 (u:Nat):∀ c∈decDigits u,y0z c=true:=by
 induction u using Nat.strongRecOn with
 | _ u ih=>
  by_cases h:u < 10
  ·rw[y1g h];intro c hc;rw[List.mem_singleton] at hc;rw[hc];exact y9o h
  ·rw[y2u h];intro c hc;rcases List.mem_append.1 hc with hc | hc
   ·exact ih _ (by omega) c hc
   ·rw[List.mem_singleton] at hc;rw[hc];exact y9o (by omega)
theorem ya4 {u:Nat}(h:u≠0):(decDigits u).head?≠some 48:=by
 induction u using Nat.strongRecOn with
 | _ u ih=>
  by_cases h10:u < 10
  ·rw[y1g h10];intro e;simp only[List.head?_cons,Option.some.injEq] at e;have:=congrArg UInt8.toNat e;rw[y5r h10] at this;simp at this;omega
  ·rw[y2u h10];have hn:=y0r (u / 10);have:=ih (u / 10) (by omega) (by omega);rw[List.head?_append]
   cases hd:(decDigits (u / 10)).head? with
   | none=>exact absurd (List.head?_eq_none_iff.1 hd) hn
   | some c=>rw[hd] at this;simpa using this
theorem y1f:decDigits 0=[48]:=by rw[y1g (by omega)];rfl
theorem y4v:decDigits 1=[49]:=by rw[y1g (by omega)];rfl
theorem y0w {u k:Nat}(hk:0 < k):nDigits u<=k ↔ u < 10^k:=by
 constructor
 ·intro h;have h1:=lt_pow_nDigits u;have h2:10^nDigits u<=10^k:=Nat.pow_le_pow_right (by omega) h;omega
 ·intro h;by_cases h0:u=0
  ·subst h0;rw[nDigits_small (by omega)];omega
  ·rcases Nat.lt_or_ge k (nDigits u) with h1 | h1
   ·exfalso
    have:∀ u,u≠0->10^(nDigits u - 1)<=u:=by
     intro u
     induction u using Nat.strongRecOn with
     | _ u ih=>
      intro hu;by_cases h10:u < 10
      ·rw[nDigits_small h10];simp;omega
      ·rw[nDigits_big h10];have:=ih (u / 10) (by omega) (by omega);have hp:=nDigits_pos (u / 10);obtain ⟨m,hm⟩:∃ m,nDigits (u / 10)=m+1:=⟨_,(Nat.succ_pred_eq_of_pos hp).symm⟩;rw[hm] at this⊢;simp only[Nat.add_sub_cancel] at this⊢;rw[Nat.pow_succ];omega
    have h2:=this u h0;have h3:10^k<=10^(nDigits u - 1):=Nat.pow_le_pow_right (by omega) (by omega);omega
   ·exact h1
def y0g:Nat->Nat->List UInt8
 | 0,_=>[]
 | k+1,n=>y0g k (n / 10) ++ [UInt8.ofNat (48+n % 10)]
theorem y2y (k n:Nat):(y0g k n).length=k:=by
 induction k generalizing n with
 | zero=>rfl
 | succ k ih=>simp[y0g,ih]
theorem y71 {u:Nat}(h:u≠0)(k n:Nat)(hn:n < 10^k):decDigits (u*10^k+n)=decDigits u ++ y0g k n:=by
 induction k generalizing n with
 | zero=>simp at hn;subst hn;simp[y0g]
 | succ k ih=>
  have hpow:10^(k+1)=10*10^k:=by rw[Nat.pow_succ];omega
  have hpos:1*10^k<=u*10^k:=Nat.mul_le_mul_right _ (by omega);have hpp:0 < 10^k:=Nat.pow_pos (by omega)
  have e1:u*10^(k+1)=10*(u*10^k):=by rw[hpow,Nat.mul_left_comm]
  have e2:(10*(u*10^k)+n) / 10=u*10^k+n / 10:=by omega
  have e3:(10*(u*10^k)+n) % 10=n % 10:=by omega
  rw[e1,y2u (by omega),y0g,<-List.append_assoc,<-ih (n / 10) (by omega),e2,e3]
theorem y42 {k n:Nat}(hk:nDigits n<=k):y0g k n=List.replicate (k - nDigits n) 48 ++ decDigits n:=by
 induction k generalizing n with
 | zero=>have:=nDigits_pos n;omega
 | succ k ih=>
  by_cases h:n < 10
  ·rw[nDigits_small h,y1g h,y0g]
   have:n / 10=0:=by omega
   rw[this,show n % 10=n by omega];congr 1;clear this hk h ih
   induction k with
   | zero=>rfl
   | succ k ih=>rw[y0g,show 0 / 10=0 by rfl,ih];simp[List.replicate_succ']
  ·rw[nDigits_big h] at hk⊢;rw[y0g,ih (by omega),y2u h,show k+1 - (nDigits (n / 10)+1)=k - nDigits (n / 10) by omega,List.append_assoc]
theorem yae {k n:Nat}(hk:nDigits n=k):y0g k n=decDigits n:=by
 rw[y42 (by omega),hk];simp
def y2f (l:List UInt8):Bool:=!l.isEmpty && l.all y0z && (l.head? != some 48 || l==[48])
theorem y4g {l:List UInt8}(h:∀ c∈l,y0z c=true):dval 0 l < 10^l.length:=by
 have:∀ (l:List UInt8) (acc:Nat),(∀ c∈l,y0z c=true)->dval acc l < (acc+1)*10^l.length:=by
  intro l
  induction l with
  | nil=>intro acc _;simp[y3d]
  | cons c l ih=>
   intro acc h;have hc:=y2h.1 (h c (by simp));have h1:=ih (10*acc+(c.toNat - 48)) (fun d hd=>h d (by simp[hd]));have h2:(10*acc+(c.toNat - 48)+1)*10^l.length<=(10*(acc+1))*10^l.length:=Nat.mul_le_mul_right _ (by omega);rw[y2w,List.length_cons,Nat.pow_succ];generalize dval (10*acc+(c.toNat - 48)) l=x at *;generalize 10^l.length=p at *
   have h3:10*(acc+1)*p=(acc+1)*(p*10):=by grind
   omega
 simpa using this l 0 h
theorem yad {l:List UInt8}(h:∀ c∈l,y0z c=true)(hne:l≠[])(hh:l.head?≠some 48\/l=[48]):decDigits (dval 0 l)=l:=by
 obtain ⟨m,hm⟩:∃ m:List UInt8,m=l.reverse:=⟨_,rfl⟩
 have hl:l=m.reverse:=by rw[hm,List.reverse_reverse]
 clear hm;subst hl
 induction m with
 | nil=>simp at hne
 | cons c m ih=>
  rw[List.reverse_cons]at *;have hc:y0z c=true:=h c (by simp);have hcd:=y2h.1 hc;rw[y4f,y2w,y3d];by_cases hm:m=[]
  ·subst hm;simp only[List.reverse_nil,y3d,Nat.mul_zero,Nat.zero_add,List.nil_append];rw[y1g (by omega),<-y4z hc]
  ·have hmr:m.reverse≠[]:=by simpa using hm
   have hh':m.reverse.head?≠some 48:=by
    rcases hh with hh | hh
    ·rw[List.head?_append] at hh
     cases hd:m.reverse.head? with
     | none=>exact absurd (List.head?_eq_none_iff.1 hd) hmr
     | some d=>rw[hd] at hh;simpa using hh
    ·exfalso;have:=congrArg List.length hh;simp at this;exact hm this
   have ihm:=ih (fun d hd=>h d (by simp at hd⊢;exact Or.inl hd)) hmr (.inl hh')
   have hpos:dval 0 m.reverse≠0:=by
    intro e;rw[e,y1f] at ihm;rw[<-ihm] at hh';simp at hh'
   rw[y2u (by omega)];congr 1
   ·rw[show (10*dval 0 m.reverse+(c.toNat - 48)) / 10=dval 0 m.reverse by omega,ihm]
   ·rw[show (10*dval 0 m.reverse+(c.toNat - 48)) % 10=c.toNat - 48 by omega,<-y4z hc]
theorem y5k {l:List UInt8}:y2f l=true ↔ ∃ n,l=decDigits n:=by
 constructor
 ·intro h;simp only[y2f,Bool.and_eq_true,Bool.not_eq_true',List.isEmpty_eq_false_iff,List.all_eq_true,Bool.or_eq_true,bne_iff_ne,beq_iff_eq] at h;exact ⟨dval 0 l,(yad h.1.2 h.1.1 h.2).symm⟩
 ·rintro ⟨n,rfl⟩;simp only[y2f,Bool.and_eq_true,Bool.not_eq_true',List.isEmpty_eq_false_iff,List.all_eq_true,Bool.or_eq_true,bne_iff_ne,beq_iff_eq];refine ⟨⟨y0r n,y19 n⟩,?_⟩;by_cases h0:n=0
  ·subst h0;exact .inr y1f
  ·exact .inl (ya4 h0)
theorem y3a (n:Nat){c:UInt8}(hc:y0z c=false):c ∉ decDigits n:=by
 intro h;rw[y19 n c h] at hc
 cases hc
theorem y2s {n:Nat}:decDigits n=[48] ↔ n=0:=by
 constructor
 ·intro h;exact y45 (h.trans y1f.symm)
 ·rintro rfl;exact y1f
theorem y5h {n:Nat}:decDigits n=[49] ↔ n=1:=by
 constructor
 ·intro h;exact y45 (h.trans y4v.symm)
 ·rintro rfl;exact y4v
def y02 (q:Rat):List UInt8:=if q.den=1 then itoa q.num else itoa q.num ++ 47::decDigits q.den
def unsigned (l:List UInt8):List UInt8:=if l.head?=some 45 then l.tail else l
def upTo (l:List UInt8):List UInt8:=l.takeWhile (· != 47)
def behind (l:List UInt8):List UInt8:=(l.dropWhile (· != 47)).tail
def y0e (l:List UInt8):Bool:=l.any (·==47)
def y5u (l:List UInt8):Bool:=
 y2f (upTo (unsigned l)) && !(l.head?==some 45 && upTo (unsigned l)==[48]) &&
  (!y0e (unsigned l) || (y2f (behind (unsigned l)) && behind (unsigned l) != [48] && behind (unsigned l) != [49]))
def y68 (l:List UInt8):Bool:=decide (600 < (upTo (unsigned l)).length) || decide (600 < (behind (unsigned l)).length)
def y3w (l:List UInt8):Bool:=y0e (unsigned l) && Nat.gcd (dval 0 (upTo (unsigned l))) (dval 0 (behind (unsigned l))) != 1
def y1j (l:List UInt8):Int:=if y5u l=false then 1 else if y68 l then 4 else if y3w l then 1 else 0
theorem y79 {p:UInt8->Bool}{l:List UInt8}(h:∀ c∈l,p c=true):l.takeWhile p=l:=by
 have:=List.takeWhile_append_of_pos (p:=p) (l₁:=l) (l₂:=[]) h;simpa using this
theorem y59 {p:UInt8->Bool}{l:List UInt8}(h:∀ c∈l,p c=true):l.dropWhile p=[]:=by
 have:=List.dropWhile_append_of_pos (p:=p) (l₁:=l) (l₂:=[]) h;simpa using this
theorem y40 {p:UInt8->Bool}:∀ {l:List UInt8},l.dropWhile p=[]->∀ c∈l,p c=true
 | [],_,c,hc=>by simp at hc
 | d::l,h,c,hc=>by
  rw[List.dropWhile_cons]at h;split at h
  ·rename_i hd;rcases List.mem_cons.1 hc with rfl | hc
   ·exact hd
   ·exact y40 h c hc
  ·cases h
theorem ykm:y0z 47=false:=by decide
theorem yco (n:Nat)(r:List UInt8):(decDigits n ++ 47::r).takeWhile (· != 47)=decDigits n:=by
 rw[List.takeWhile_append_of_pos]
 ·simp
 ·intro c hc;simp only[bne_iff_ne,ne_eq];rintro rfl;exact y3a n ykm hc
theorem ya9 (n:Nat):(decDigits n).takeWhile (· != 47)=decDigits n:=by
 refine y79 fun c hc=>?_;simp only[bne_iff_ne,ne_eq];rintro rfl;exact y3a n ykm hc
theorem ybz (n:Nat)(r:List UInt8):(decDigits n ++ 47::r).dropWhile (· != 47)=47::r:=by
 rw[List.dropWhile_append_of_pos]
 ·simp
 ·intro c hc;simp only[bne_iff_ne,ne_eq];rintro rfl;exact y3a n ykm hc
theorem ya5 (n:Nat):(decDigits n).dropWhile (· != 47)=[]:=by
 refine y59 fun c hc=>?_;simp only[bne_iff_ne,ne_eq];rintro rfl;exact y3a n ykm hc
theorem y2r (n:Nat)(r:List UInt8):upTo (decDigits n ++ 47::r)=decDigits n:=yco n r
theorem y1w (n:Nat)(r:List UInt8):behind (decDigits n ++ 47::r)=r:=by unfold behind;rw[ybz];rfl
theorem y66 (n:Nat):upTo (decDigits n)=decDigits n:=ya9 n
theorem y8f (n:Nat):behind (decDigits n)=[]:=by unfold behind;rw[ya5];rfl
theorem y7b (n:Nat)(r:List UInt8):y0e (decDigits n ++ 47::r)=true:=by simp[y0e]
theorem y2t (n:Nat):y0e (decDigits n)=false:=by
 simp only[y0e,List.any_eq_false,beq_iff_eq];rintro c hc rfl;exact y3a n ykm hc
theorem y1y {l:List UInt8}(h:y0e l=true):l=upTo l ++ 47::behind l:=by
 have e:=(List.takeWhile_append_dropWhile (p:=(· != 47)) (l:=l)).symm;unfold upTo behind
 cases hd:l.dropWhile (· != 47) with
 | nil=>
  exfalso;have hd:=y40 hd;simp only[y0e,List.any_eq_true,beq_iff_eq] at h;obtain ⟨c,hc,rfl⟩:=h;have:=hd 47 hc;simp at this
 | cons c r=>
  have hc:(c != 47)=false:=by
   have:=List.head?_dropWhile_not (· != 47) l;rw[hd] at this;simpa using this
  have:c=47:=by simpa using hc
  subst this;rw[hd] at e;exact e
theorem y0x {l:List UInt8}(h:y0e l=false):upTo l=l/\behind l=[]:=by
 have h':∀ c∈l,(c != 47)=true:=by
  simp only[y0e,List.any_eq_false,beq_iff_eq]at h;intro c hc;simpa using h c hc
 refine ⟨y79 h',?_⟩;unfold behind;rw[y59 h'];rfl
theorem yeq (n:Nat)(r:List UInt8):unsigned (decDigits n ++ r)=decDigits n ++ r:=by
 unfold unsigned;rw[if_neg];intro h
 cases hd:decDigits n with
 | nil=>exact y0r n hd
 | cons c t=>
  rw[hd]at h;simp only[List.cons_append,List.head?_cons,Option.some.injEq] at h;have:=y19 n c (by rw[hd];simp);rw[h] at this;exact absurd this (by decide)
theorem y7a (i:Int)(r:List UInt8):unsigned (itoa i ++ r)=decDigits i.natAbs ++ r:=by
 unfold itoa;split
 ·simp[unsigned]
 ·rw[yeq,show i.toNat=i.natAbs by omega]
theorem ymy (n:Nat)(r:List UInt8):((decDigits n ++ r).head?==some 45)=false:=by
 cases hd:decDigits n with
 | nil=>exact absurd hd (y0r n)
 | cons c t=>
  have:=y19 n c (by rw[hd];simp);simp only[List.cons_append,List.head?_cons,beq_eq_false_iff_ne,ne_eq,Option.some.injEq];rintro rfl;exact absurd this (by decide)
theorem yds (i:Int)(r:List UInt8):((itoa i ++ r).head?==some 45)=decide (i < 0):=by
 unfold itoa;split
 ·rename_i h;simp[h]
 ·rename_i h;rw[ymy];simp[h]
theorem y2z (q:Rat):unsigned (y02 q)=if q.den=1 then decDigits q.num.natAbs else decDigits q.num.natAbs ++ 47::decDigits q.den:=by
 unfold y02;split
 ·have:=y7a q.num [];simpa using this
 ·exact y7a _ _
theorem y5n (q:Rat):((y02 q).head?==some 45)=decide (q.num < 0):=by
 unfold y02;split
 ·have:=yds q.num [];simpa using this
 ·exact yds _ _
theorem y4e {i:Int}(h:i < 0):decDigits i.natAbs≠[48]:=by
 rw[ne_eq,y2s];omega
def Fits (q:Rat):Prop:=nDigits q.num.natAbs<=600/\nDigits q.den<=600
theorem Fits.iff {q:Rat}:Fits q ↔ q.num.natAbs < 10^600/\q.den < 10^600:=by
 unfold Fits;rw[y0w (by omega),y0w (by omega)]
theorem y9s (q:Rat):y5u (y02 q)=true:=by
 unfold y5u;rw[y5n,y2z];by_cases h1:q.den=1
 ·rw[if_pos h1,y66,y2t];have:y2f (decDigits q.num.natAbs)=true:=y5k.2 ⟨_,rfl⟩;simp only[this,Bool.true_and,Bool.not_false,Bool.true_or,Bool.and_true,Bool.not_eq_true',Bool.and_eq_false_iff,decide_eq_false_iff_not];by_cases h:q.num < 0
  ·right;simpa using y4e h
  ·left;exact h
 ·rw[if_neg h1,y2r,y1w,y7b];have e1:y2f (decDigits q.num.natAbs)=true:=y5k.2 ⟨_,rfl⟩;have e2:y2f (decDigits q.den)=true:=y5k.2 ⟨_,rfl⟩
  have e3:(decDigits q.den != [48])=true:=by simp only[bne_iff_ne,ne_eq,y2s];exact q.den_nz
  have e4:(decDigits q.den != [49])=true:=by simp only[bne_iff_ne,ne_eq,y5h];exact h1
  simp only[e1,e2,e3,e4,Bool.true_and,Bool.not_true,Bool.false_or,Bool.and_true,Bool.not_eq_true',Bool.and_eq_false_iff,decide_eq_false_iff_not];by_cases h:q.num < 0
  ·right;simpa using y4e h
  ·left;exact h
theorem y80 (q:Rat):y3w (y02 q)=false:=by
 unfold y3w;rw[y2z];by_cases h1:q.den=1
 ·rw[if_pos h1,y2t];rfl
 ·rw[if_neg h1,y7b,y2r,y1w,y0p,y0p];have:=q.reduced;unfold Nat.Coprime at this;simp[this]
theorem y5i (q:Rat):y68 (y02 q)=true ↔ ¬Fits q:=by
 unfold y68 Fits;rw[y2z];by_cases h1:q.den=1
 ·rw[if_pos h1,y66,y8f,decDigits_length,h1,nDigits_small (show 1 < 10 by omega)];simp
 ·rw[if_neg h1,y2r,y1w,decDigits_length,decDigits_length];simp only[Bool.or_eq_true,decide_eq_true_eq];omega
theorem y18 {q:Rat}(h:Fits q):y1j (y02 q)=0:=by
 unfold y1j;rw[if_neg (by rw[y9s];simp),if_neg (by rw[y5i];simpa using h),if_neg (by rw[y80];simp)]
theorem itoa_nonneg {n:Nat}:itoa (n:Int)=decDigits n:=by
 unfold itoa;rw[if_neg (by omega)];simp
theorem itoa_neg {n:Nat}(h:n≠0):itoa (-(n:Int))=45::decDigits n:=by
 unfold itoa;rw[if_pos (by omega)];simp
theorem yaj {l:List UInt8}{n:Nat}{r:List UInt8}(hu:unsigned l=decDigits n ++ r)(hz:(l.head?==some 45 && n==0)=false):
  ∃ i:Int,l=itoa i ++ r/\i.natAbs=n:=by
 by_cases h:l.head?=some 45
 ·have hn:n≠0:=by rw[h] at hz;simpa using hz
  refine ⟨-(n:Int),?_,by omega⟩;rw[itoa_neg hn];unfold unsigned at hu;rw[if_pos h] at hu
  cases l with
  | nil=>simp at h
  | cons c t=>simp only[List.head?_cons,Option.some.injEq] at h;subst h;simp only[List.tail_cons] at hu;rw[hu];rfl
 ·refine ⟨(n:Int),?_,by omega⟩;rw[itoa_nonneg];unfold unsigned at hu
  rwa [if_neg h] at hu
theorem ya6 {l:List UInt8}(h:y1j l=0):∃ q:Rat,Fits q/\l=y02 q:=by
 unfold y1j at h;split at h
 ·omega
 rename_i hf;split at h
 ·omega
 rename_i hl;split at h
 ·omega
 rename_i hc
 have hf':y5u l=true:=by simpa using hf
 have hf2:=hf';unfold y5u at hf2;simp only[Bool.and_eq_true,Bool.not_eq_true',Bool.or_eq_true,bne_iff_ne,ne_eq] at hf2;obtain ⟨⟨hd,hz⟩,hs⟩:=hf2;obtain ⟨n,hn⟩:=y5k.1 hd
 have hz':(l.head?==some 45 && n==0)=false:=by
  rw[hn]at hz;by_cases hn0:n=0
  ·subst hn0;rw[y1f] at hz;simpa using hz
  ·simp[hn0]
 have main:∃ q:Rat,l=y02 q:=by
  cases hsl:y0e (unsigned l) with
  | false=>
   have e:=(y0x hsl).1;obtain ⟨i,hi,hin⟩:=yaj (l:=l) (n:=n) (r:=[]) (by rw[<-hn,e];simp) hz';refine ⟨(i:Rat),?_⟩;unfold y02;rw[if_pos (by rfl)];simpa using hi
  | true=>
   have e:=y1y hsl;rw[hsl] at hs;simp only[reduceCtorEq,false_or] at hs;obtain ⟨⟨hd2,h0⟩,h1⟩:=hs;obtain ⟨d,hdd⟩:=y5k.1 hd2;rw[hdd,y2s] at h0;rw[hdd,y5h] at h1;rw[hn,hdd] at e;obtain ⟨i,hi,hin⟩:=yaj e hz'
   have hg:Nat.gcd n d=1:=by
    have hc':y3w l=false:=by simpa using hc
    unfold y3w at hc';rw[hsl,hn,hdd,y0p,y0p] at hc';simpa using hc'
   refine ⟨⟨i,d,h0,by rw[hin];exact hg⟩,?_⟩;unfold y02;rw[if_neg h1];exact hi
 obtain ⟨q,rfl⟩:=main;refine ⟨q,?_,rfl⟩;have:=y5i q;by_cases hq:Fits q
 ·exact hq
 ·exact absurd (this.2 hq) hl
end Go.Proofs.YtnjonlnemagomaaGreatDoor.Big
