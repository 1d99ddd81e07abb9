/- Part CardFit01. -/
import Derived.Test.YtbkcjmojgglbkaaGreatDoorB34
namespace Go.Proofs.YtbkcjmojgglbkaaGreatDoor
open Go.RowKit Big Go.Lib
set_option maxRecDepth 100000
set_option maxHeartbeats 8000000
theorem ends_top {b s z:Int}{g o:ByteArray}{qg qo:Rat}(h:AdcOk b s z g o qg qo)(code:Int)(hcode:code=2^b.toNat - 1)(w:World)(he:Env w):
  Calls Tryz.prog 88 #[.agg #[.int .i64 b,.int .i64 s,.int .i64 z,.string g,.string o],.int .i64 code] w (EndsPost w (nomQ s z code - halfQ s) (nomQ s z code+halfQ s) 15):=by
 have lo:0≤code:=by have:=top_bd h.blo h.bhi;omega
 have hi:code≤2^b.toNat - 1:=by omega
 have hi':code≤4095:=by have:=top_bd h.blo h.bhi;omega
 have hne:¬code=0:=by have:=top_bd h.blo h.bhi;omega
 have hlo:=h.blo;have hhi:=h.bhi;obtain ⟨tp,htp⟩:∃ tp:Int,2^b.toNat - 1=tp:=⟨_,rfl⟩;have htp1:=top_bd hlo hhi;have hst:=fun W=>step_calls b s z g o W h.slo h.shi;have hfb:=stepQ_fb21 h.slo h.shi;have hhb:=halfQ_fb h.slo h.shi;have hmb:=nomQ_fb h lo (show code≤4095 by omega);have hnm:=fun W=>nominal_calls h code W lo (by omega);have hcc:=fun W hW=>checkCode_calls h code W hW
 have hout:outside code 0 (2^b.toNat - 1)=false:=by simp only[outside,Bool.or_eq_false_iff,decide_eq_false_iff_not];omega
 simp only[hout]at hcc;obtain ⟨m,hm⟩:∃ m,nomQ s z code=m:=⟨_,rfl⟩;have hm':stepQ s*((code - z:Int):Rat)=m:=hm;obtain ⟨d,hd⟩:∃ d,halfQ s=d:=⟨_,rfl⟩;have hd':stepQ s / ((2:Int):Rat)=d:=hd;obtain ⟨t,ht⟩:∃ t,stepQ s=t:=⟨_,rfl⟩;simp only[hm'] at hnm;rw[ht] at hfb hd';simp only[ht] at hst;rw[hm] at hmb⊢;rw[hd] at hhb⊢;clear hm hd hm' hout;rw[htp] at hcode;subst hcode
 have hb1:(code==0)=false:=by simpa using hne
 have hb2:decide (code=0)=false:=by simpa using hne
 have hb3:(code==code)=true:=by simp
 have hb4:decide (code=code)=true:=by simp
 clear hne;clear h lo hi hi';have HLO:=hid hlo;have HHI:=hid hhi;have HTP:=hid htp;have HTP1:=hid htp1;have HST:=hid hst;have HFB:=hid hfb;have HHB:=hid hhb;have HMB:=hid hmb;have HNM:=hid hnm;have HCC:=hid hcc;have HH:=hid hd';have HT:=hid ht;have HE:=hid he;clear hlo hhi htp htp1 hst hfb hhb hmb hnm hcc hd' ht he;go_enter Tryz.func88,Tryz.ntmps88;go_wp2_with fail;obtain ⟨BA,BP,BQ,HN⟩:=lay3 w 32 #[.int .i64 b,.int .i64 s,.int .i64 z,.string g,.string o] 122 #[.int .i64 0,.slice none 0 0,.int .i64 0,.slice none 0 0] 122 #[.int .i64 0,.slice none 0 0,.int .i64 0,.slice none 0 0];refine (HCC.out _ (HE.out.new HN.out)).mono ?_;rintro e w1 ⟨rfl,hn⟩;replace BA:=bW BA hn;replace BP:=bW BP hn;replace BQ:=bW BQ hn;replace HN:=tW HN hn;clear hn;obtain ⟨⟨pa0,pa1,pa2,pa3,pa4⟩,pa5⟩:=BA.out.five;go_wp2_with fail;refine (HST.out _).mono ?_;rintro e w2 ⟨v2,rfl,hn,hf⟩;have HF2:=hid hf;clear hf;clear pa0 pa1 pa2 pa3 pa4 pa5;replace BA:=bW BA hn;replace BP:=bW BP hn;replace BQ:=bW BQ hn;replace HN:=tW HN hn;clear hn;go_wp2_with fail;refine (f_calls 2 _ (by omega) (by omega)).mono ?_;rintro e w3 ⟨v3,rfl,hn,hf⟩;have HF3:=hid hf;clear hf;replace BA:=bW BA hn;replace BP:=bW BP hn;replace BQ:=bW BQ hn;replace HF2:=hid (HF2.out.new hn);replace HN:=tW HN hn;clear hn;go_wp2_with fail;refine (fdiv_calls _ _ t ((2:Int):Rat) 21 2 _ HF2.out HF3.out HFB.out two_fb (by omega) two_ne).mono ?_;rintro e w4 ⟨v4,rfl,hn,hf⟩;rw[HH.out] at hf;obtain ⟨s5,a5,l5,k5,t5,b5,m5,n5,rfl⟩:=hf.shape;clear HF2 HF3;have HF4:=hid hf;clear hf;replace BA:=bW BA hn;replace BP:=bW BP hn;replace BQ:=bW BQ hn;replace HN:=tW HN hn;clear hn;obtain ⟨⟨pa0,pa1,pa2,pa3,pa4⟩,pa5⟩:=BA.out.five;go_wp2_with fail;clear pa0 pa1 pa2 pa3 pa4 pa5;have HN0:=HN;clear HN;obtain ⟨BG,HN⟩:=lay1 w4 122 #[.int .i64 s5,.slice a5 l5 k5,.int .i64 t5,.slice b5 m5 n5];replace BA:=hid (BA.out.new HN.out);replace BP:=hid (BP.out.new HN.out);replace BQ:=hid (BQ.out.new HN.out);replace HF4:=hid (HF4.out.new HN.out);have HN_:=HN0.out.trans HN.out;clear HN HN0;have HN:=hid HN_;clear HN_;refine (HNM.out _).mono ?_;rintro e w5 ⟨v5,rfl,hn,hf⟩;obtain ⟨s6,a6,l6,k6,t6,b6,m6,n6,rfl⟩:=hf.shape;have HF5:=hid hf;clear hf;replace BA:=bW BA hn;replace BP:=bW BP hn;replace BQ:=bW BQ hn;replace BG:=bW BG hn;replace HF4:=hid (HF4.out.new hn);replace HN:=tW HN hn;clear hn;go_wp2_with fail;have HN0:=HN;clear HN;obtain ⟨BH,HN⟩:=lay1 w5 122 #[.int .i64 s6,.slice a6 l6 k6,.int .i64 t6,.slice b6 m6 n6];replace BA:=hid (BA.out.new HN.out);replace BP:=hid (BP.out.new HN.out);replace BQ:=hid (BQ.out.new HN.out);replace BG:=hid (BG.out.new HN.out);replace HF4:=hid (HF4.out.new HN.out);replace HF5:=hid (HF5.out.new HN.out);have HN_:=HN0.out.trans HN.out;clear HN HN0;have HN:=hid HN_;clear HN_;obtain ⟨⟨pa0,pa1,pa2,pa3,pa4⟩,pa5⟩:=BA.out.five;obtain ⟨⟨g0,g1,g2,g3⟩,g4,g5,g6,g7,g8⟩:=BG.out.four;obtain ⟨⟨h0,h1,h2,h3⟩,h4,h5,h6,h7,h8⟩:=BH.out.four;clear pa0 pa1 pa2 pa3 pa4 pa5;clear g0 g1 g2 g3 g4 g5 g6 g7 g8;clear h0 h1 h2 h3 h4 h5 h6 h7 h8;refine wp_region_T 15 (fun W=>(W.cell? ⟨w.heap.size,0,none⟩=some (.int .i64 b)∧W.cell? ⟨w.heap.size,1,none⟩=some (.int .i64 s)∧W.cell? ⟨w.heap.size,2,none⟩=some (.int .i64 z)∧W.cell? ⟨w.heap.size,3,none⟩=some (.string g)∧W.cell? ⟨w.heap.size,4,none⟩=some (.string o))∧(W.cell? ⟨w4.heap.size,0,none⟩=some (.int .i64 s5)∧W.cell? ⟨w4.heap.size,1,none⟩=some (.slice a5 l5 k5)∧W.cell? ⟨w4.heap.size,2,none⟩=some (.int .i64 t5)∧W.cell? ⟨w4.heap.size,3,none⟩=some (.slice b5 m5 n5))∧(W.cell? ⟨w5.heap.size,0,none⟩=some (.int .i64 s6)∧W.cell? ⟨w5.heap.size,1,none⟩=some (.slice a6 l6 k6)∧W.cell? ⟨w5.heap.size,2,none⟩=some (.int .i64 t6)∧W.cell? ⟨w5.heap.size,3,none⟩=some (.slice b6 m6 n6))) 18 #[false,false,false,false,false,false,false,false,false,false,false,false,false,false,false,false,false,false] rfl (by kernel_rfl) (by kernel_rfl) ?_;refine tk 0 (by exact ⟨cW5 BA,cW4 BG,cW4 BH⟩) ?_
 try simp only[PT]
 refine tk 1 (by exact ⟨cW5 BA,cW4 BG,cW4 BH⟩) ?_
 try simp only[PT]
 refine tk 3 (by exact ⟨cW5 BA,cW4 BG,cW4 BH⟩) ?_
 try simp only[PT]
 refine tk 4 (by exact ⟨cW5 BA,cW4 BG,cW4 BH⟩) ?_
 try simp only[PT]
 refine tk 6 (by exact ⟨cW5 BA,cW4 BG,cW4 BH⟩) ?_
 try simp only[PT]
 refine wpT_take 7 (v:=?_) rfl (by kernel_rfl) (fun _ _ _ h=>h) (by exact ⟨cW5 BA,cW4 BG,cW4 BH⟩) (Or.inl ⟨by first | kernel_rfl | rfl,?_⟩) ?_;rotate_left
 ·(intro W hW;(try dsimp only at hW);(go_simp;try simp only[hb1,hb2]);try with_reducible rfl)
 try simp only[PT]
 refine tk1 2 fun K hK=>?_;go_simp;refine (fsub_calls _ _ m d 33 23 _ (HF5.out.new (New.refl _).drew) (HF4.out.new (New.refl _).drew) HMB.out HHB.out (by omega)).mono ?_;rintro e w6 ⟨v6,rfl,hn,hf⟩;have hn:=hn.undrew;obtain ⟨s7,a7,l7,k7,t7,b7,m7,n7,rfl⟩:=hf.shape;have HF6:=hid hf;clear hf;replace HF4:=hid (HF4.out.new hn);replace HF5:=hid (HF5.out.new hn);replace BA:=bW BA hn;replace BP:=bW BP hn;replace BQ:=bW BQ hn;replace BG:=bW BG hn;replace BH:=bW BH hn;replace HN:=tW HN hn;clear hn;refine hK.out _ _ (fun _=>⟨cW5 BA,cW4 BG,cW4 BH⟩) ?_;clear hK K
 try simp only[PT]
 refine tk1 5 fun K hK=>?_;go_simp;refine (fadd_calls _ _ m d 33 23 _ HF5.out HF4.out HMB.out HHB.out (by omega)).mono ?_;rintro e w7 ⟨v7,rfl,hn,hf⟩;obtain ⟨s8,a8,l8,k8,t8,b8,m8,n8,rfl⟩:=hf.shape;clear HF4 HF5;have HF7:=hid hf;clear hf;replace HF6:=hid (HF6.out.new hn);replace BA:=bW BA hn;replace BP:=bW BP hn;replace BQ:=bW BQ hn;replace BG:=bW BG hn;replace BH:=bW BH hn;replace HN:=tW HN hn;clear hn;refine hK.out _ _ (fun _=>⟨cW5 BA,cW4 BG,cW4 BH⟩) ?_;clear hK K
 try simp only[PT]
 refine tk 8 (by exact ⟨cW5 BA,cW4 BG,cW4 BH⟩) ?_
 try simp only[PT]
 refine tk 9 (by exact ⟨cW5 BA,cW4 BG,cW4 BH⟩) ?_
 try simp only[PT]
 refine tk 10 (by exact ⟨cW5 BA,cW4 BG,cW4 BH⟩) ?_
 try simp only[PT]
 refine tk1 11 fun K hK=>?_;go_simp;refine (top_calls b s z g o _ HLO.out HHI.out).mono ?_;rintro e w8 ⟨rfl,hn⟩;rw[HTP.out];replace HF6:=hid (HF6.out.new hn);replace HF7:=hid (HF7.out.new hn);replace BA:=bW BA hn;replace BP:=bW BP hn;replace BQ:=bW BQ hn;replace BG:=bW BG hn;replace BH:=bW BH hn;replace HN:=tW HN hn;clear hn;refine hK.out _ _ (fun _=>⟨cW5 BA,cW4 BG,cW4 BH⟩) ?_;clear hK K
 try simp only[PT]
 refine wpT_take 12 (v:=?_) rfl (by kernel_rfl) (fun _ _ _ h=>h) (by exact ⟨cW5 BA,cW4 BG,cW4 BH⟩) (Or.inl ⟨by first | kernel_rfl | rfl,?_⟩) ?_;rotate_left
 ·(intro W hW;(try dsimp only at hW);(go_simp;try simp only[hb3,hb4]);try with_reducible rfl)
 try simp only[PT]
 refine tk 13 (by exact ⟨cW5 BA,cW4 BG,cW4 BH⟩) ?_
 try simp only[PT]
 refine tk1 14 fun K hK=>?_;go_simp;refine (pwhen_new true 15 _).mono ?_;rintro e w9 ⟨rfl,hn⟩;replace HF6:=hid (HF6.out.new hn);replace HF7:=hid (HF7.out.new hn);replace BA:=bW BA hn;replace BP:=bW BP hn;replace BQ:=bW BQ hn;replace BG:=bW BG hn;replace BH:=bW BH hn;replace HN:=tW HN hn;clear hn;refine hK.out _ _ (fun _=>⟨cW5 BA,cW4 BG,cW4 BH⟩) ?_;clear hK K
 try simp only[]
 refine tlW ?_;obtain ⟨⟨pa0,pa1,pa2,pa3,pa4⟩,pa5⟩:=BA.out.five;obtain ⟨⟨g0,g1,g2,g3⟩,g4,g5,g6,g7,g8⟩:=BG.out.four;obtain ⟨⟨h0,h1,h2,h3⟩,h4,h5,h6,h7,h8⟩:=BH.out.four;obtain ⟨⟨p0,p1,p2,p3⟩,p4,p5,p6,p7,p8⟩:=BP.out.four;obtain ⟨⟨q0,q1,q2,q3⟩,q4,q5,q6,q7,q8⟩:=BQ.out.four;have p9:=BP.out.lt;go_wp2_with fail;refine bodyPost_ret (v:=.tuple #[.agg #[.int .i64 s7,.slice a7 l7 k7,.int .i64 t7,.slice b7 m7 n7],.agg #[.int .i64 s8,.slice a8 l8 k8,.int .i64 t8,.slice b8 m8 n8],.int .i64 15]) (by simp[results,Tryz.results88,go_sem,p0,p1,p2,p3,q0,q1,q2,q3]) rfl ?_;exact frac2_ret 15 HN.out BP.out BQ.out (by omega) (by omega) (by omega) HF6.out HF7.out
theorem true_clip (adc:Value) (b s z:Int) (g o:ByteArray) (code:Int) (x y:Rat) (n:Int) (h0:n≠0) (w:World) (he:Env w) (hadc:adc=.agg #[.int .i64 b,.int .i64 s,.int .i64 z,.string g,.string o])
  (hen:∀ W,Env W→Calls Tryz.prog 88 #[adc,.int .i64 code] W (EndsPost W x y n)):
  Calls Tryz.prog 22 #[adc,.int .i64 code] w (NoSpan w n):=by
 subst hadc
 have ht:(n != 0)=true:=by simpa using h0
 have HEN:=hid hen;have HE:=hid he;have H0:=hid h0;clear hen he h0;go_enter Tryz.func22,Tryz.ntmps22;go_wp2_with fail;obtain ⟨BA,BP,HN⟩:=lay2 w 32 #[.int .i64 b,.int .i64 s,.int .i64 z,.string g,.string o] 28 #[.string ⟨#[]⟩,.string ⟨#[]⟩];refine (HEN.out _ (HE.out.new HN.out)).mono ?_;rintro e w1 ⟨v1,v2,rfl,hn,hf,hf2⟩;obtain ⟨s5,a5,l5,k5,t5,b5,m5,n5,rfl⟩:=hf.shape;obtain ⟨s6,a6,l6,k6,t6,b6,m6,n6,rfl⟩:=hf2.shape;clear hf hf2;replace BP:=bW BP hn;replace HN:=tW HN hn;clear hn;obtain ⟨p0,p1,p2,p3,p4⟩:=BP.out.two;have p5:=Nat.lt_add_right 1 p4;have p6:=Nat.lt_add_right 1 p5;go_wp2_with fail;refine bodyPost_ret (v:=.tuple #[.agg #[.string ⟨#[]⟩,.string ⟨#[]⟩],.int .i64 n]) (by simp[results,Tryz.results22,go_sem,p0,p1,p4,p5]) rfl ?_;refine ⟨rfl,?_⟩;have hN:=HN.out
 repeat first
  | with_reducible exact New.refl _
  | with_reducible refine New.drewN ?_ _
  | with_reducible refine New.drew ?_
  | with_reducible refine New.alloc ?_ _
  | (with_reducible refine New.setCell ?_ ?_ _;rotate_left;(show _≤_+_);omega)
  | with_reducible assumption
theorem half_parts:(Rat.divInt 1 2).num=1∧(Rat.divInt 1 2).den=2:=by
 have h:=divInt_parts (x:=1) (y:=2) (by decide);rw[h.1,h.2];decide
theorem half_eq:(1 / 2:Rat)=Rat.divInt 1 2:=by
 rw[Rat.div_def,Rat.inv_def,Rat.one_mul];rfl
theorem rs_half:rs (1 / 2)=⟨#[49,47,50]⟩:=by
 unfold rs
 have:ratText (1 / 2)=[49,47,50]:=by
  unfold ratText;rw[half_eq,half_parts.1,half_parts.2,if_neg (by decide),show (1:Int)=((1:Nat):Int) from rfl,Big.itoa_nonneg,decDigits_one',decDigits_small (by omega)];rfl
 rw[this];rfl
theorem rfb_half:RFB 2 (1 / 2):=⟨by rw[half_eq,half_parts.1];decide,by rw[half_eq,half_parts.2];decide⟩
theorem rhalf_calls (k:Nat)(x:Rat)(w:World)(hx:RFB k x)(hk:k+2≤40000):Calls Tryz.prog 45 #[.string (rs x)] w (RetS w (x*(1 / 2))):=by
 have hm:=fun W=>rmulQ_calls k 2 x (1 / 2) W hx rfb_half hk;simp only[rs_half] at hm;obtain ⟨R,hR⟩:∃ R,x*(1 / 2)=R:=⟨_,rfl⟩;obtain ⟨A,hA⟩:∃ A,rs x=A:=⟨_,rfl⟩;simp only[hA,hR] at hm;rw[hA,hR];clear hA hR hx hk;have HM:=hid hm;clear hm;go_enter Tryz.func45,Tryz.ntmps45;go_wp2_with fail;refine (HM.out _).mono ?_;rintro e w2 ⟨rfl,hn⟩;have HN:=hid hn;clear hn;go_wp2_with fail;go_ret;exact ⟨rfl,HN.out⟩
theorem rcmpQ_calls (j k:Nat)(x y:Rat)(w:World)(hx:RFB j x)(hy:RFB k y)(hjk:j+k≤40000):Calls Tryz.prog 50 #[.string (rs x),.string (rs y)] w fun e w'=>e=.returned (.int .i64 (x - y).num.sign)∧New w w':=by
 have hm:=fun W=>rsubQ_calls j k x y W hx hy hjk;have hr:=fun W=>rsign_calls (x - y) W;obtain ⟨R,hR⟩:∃ R,(x - y).num.sign=R:=⟨_,rfl⟩;obtain ⟨A,hA⟩:∃ A,rs x=A:=⟨_,rfl⟩;obtain ⟨B,hB⟩:∃ B,rs y=B:=⟨_,rfl⟩;obtain ⟨C,hC⟩:∃ C,rs (x - y)=C:=⟨_,rfl⟩;simp only[hC,hR] at hr;simp only[hA,hB] at hm;have hm:=fun W=>(hm W).mono fun e w' h=>RetS.to hC h;rw[hA,hB,hR];clear hA hB hC hR hx hy hjk;have HR:=hid hr;have HM:=hid hm;clear hr hm;go_enter Tryz.func50,Tryz.ntmps50;go_wp2_with fail;refine (HM.out _).mono ?_;rintro e w1 ⟨rfl,hn⟩;have HN:=hid hn;clear hn;go_wp2_with fail;refine (HR.out _).mono ?_;rintro e w2 ⟨rfl,hw⟩;rw[hw];clear hw;go_wp2_with fail;go_ret;exact ⟨rfl,HN.out⟩
theorem half_inv:(1 / 2:Rat)=((2:Int):Rat)⁻¹:=by rw[Rat.div_def,Rat.one_mul];rfl
theorem stepQ_pos {s:Int}(lo: -20≤s)(hi:s≤4):0 < (stepQ s).num:=by
 have key:∀ n:Nat,n < 25→0 < (stepQ ((n:Int) - 20)).num:=by decide +kernel
 have:=key (s+20).toNat (by omega)
 rwa [show (((s+20).toNat:Int) - 20)=s by omega] at this
theorem rrow_calls (a:Option Addr)(cap n:Nat)(vs:List ByteArray)(E:Int)(w:World)(hn0:vs.length=n)(hl:n≤4096)(hr:RdL w a (strs vs))(hE:rowErr vs=E)(hsz:∀ (k:Nat) (h1:k < vs.length),(vs[k]).size≤100000):
  Calls Tryz.prog 96 #[.slice a n cap] w (RetNew w E):=by
 have hck:∀ (k:Nat) (h1:k < vs.length) (W:World),Calls Tryz.prog 17 #[.string vs[k]] W fun e w'=>e=.returned (.int .i64 (ratErr vs[k].data.toList))∧New W w':=fun k h1 W=>rcheck_calls vs[k] W (by have:=hsz k h1;omega)
 have hli:(n:Int)≤4096:=by omega
 clear hsz hl;have HCK:=hid hck;have HR:=hid hr;have HEE:=hid hE;have HNN:=hid hn0;clear hck hr hE hn0;go_enter Tryz.func96,Tryz.ntmps96;go_wp2_with fail;go_loopw [3] (fun i wr=>∃ (k:Nat),k≤n∧i=.int .i64 (k:Int)∧Hid (rowErr (vs.drop k)=E)∧Hid (New w wr)) (fun i _=>n - (RowKit.intOf i).toNat)
 case atStart=>exact ⟨0,Nat.zero_le _,rfl,HEE,hid (New.refl _)⟩
 case round=>
  obtain ⟨k,hk,rfl,HP,HN⟩:=hrel;by_cases hlt:k < n
  ·have hlt3:k < vs.length:=by rw[HNN.out];exact hlt
   obtain ⟨b1,off,rfl,hcell⟩:=HR.out.str k hlt3;have hcell:=HN.out.cell hcell;have hcall:=HCK.out k hlt3;have hrd:=rowErr_drop vs k hlt3;rw[HP.out] at hrd;obtain ⟨x,hx⟩:∃ x,vs[k]=x:=⟨_,rfl⟩;rw[hx] at hcell hrd;simp only[hx] at hcall;obtain ⟨r,hr⟩:∃ r,ratErr x.data.toList=r:=⟨_,rfl⟩;rw[hr] at hrd;simp only[hr] at hcall;by_cases hr0:r=0
   ·subst hr0;rw[if_pos rfl] at hrd;have HCALL:=hid hcall;have HX:=hid hx;have HRD:=hid hrd;have HRR:=hid hr;clear hcall hx hrd hr;go_wp2_with fail;refine (HCALL.out _).mono ?_;rintro e w4 ⟨rfl,hn⟩;clear hcell;replace HN:=tW HN hn;clear hn;go_wp2_with fail;go_roundw
    case rel=>exact ⟨k+1,by omega,by go_num,hid HRD.out.symm,HN⟩
    case measure=>simp[RowKit.intOf];omega
   ·rw[if_neg hr0] at hrd
    have ht:(r != 0)=true:=by simpa using hr0
    have HCALL:=hid hcall;have HX:=hid hx;have HRD:=hid hrd;have HRR:=hid hr;clear hcall hx hrd hr;clear hr0;go_wp2_with fail;refine (HCALL.out _).mono ?_;rintro e w4 ⟨rfl,hn⟩;clear hcell;replace HN:=tW HN hn;clear hn;go_wp2_with fail;go_ret;exact ⟨by rw[←HRD.out];rfl,HN.out⟩
  ·have hkk:k=n:=by omega
   have hE1:E=0:=by
    rw[←HP.out,hkk,←HNN.out,List.drop_length];rfl
   have HKK:=hid hkk;have HE1:=hid hE1;clear hkk hE1;go_wp2_with fail;go_ret;exact ⟨by rw[HE1.out];rfl,HN.out⟩
theorem rden_calls (s:ByteArray)(w:World)(hl:s.size≤1000000):Calls Tryz.prog 107 #[.string s] w fun e w'=>(∃ d:ByteArray,d.size≤1000000∧e=.returned (.string d))∧New w w':=by
 have hsl:=fun W=>rslash_calls s W hl;have hle:=sl_len s.data.toList
 have hlen:s.data.toList.length=s.size:=by simp
 rw[hlen]at hle;obtain ⟨m,hm⟩:∃ m,(upTo s.data.toList).length=m:=⟨_,rfl⟩;rw[hm] at hle;simp only[hm] at hsl;clear hm hlen;by_cases h:m=s.size
 ·have hb:((m:Int)==(s.size:Int))=true:=by rw[h];exact beq_self_eq_true _
  clear hle;have HSL:=hid hsl;have H:=hid h;clear hsl h;go_enter Tryz.func107,Tryz.ntmps107;go_wp2_with fail;refine (HSL.out _).mono ?_;rintro e w1 ⟨rfl,hw1⟩;rw[hw1];clear hw1;go_wp2_with fail;go_ret;exact ⟨⟨_,by decide,rfl⟩,New.refl _⟩
 ·have hb:((m:Int)==(s.size:Int))=false:=beq_false_of_ne (by omega);obtain ⟨m1,hm1⟩:∃ z,m+1=z:=⟨_,rfl⟩
  have hm1e:(m:Int)+1=(m1:Int):=by omega
  have hm1i:(m1:Int)≤(s.size:Int):=by omega
  have hsi:(s.size:Int)≤1000000:=by omega
  have hwr:IntKind.i64.wrap (m1:Int)=(m1:Int):=by rw[IntKind.wrap_i64];omega
  have hds:(s.extract m1 s.size).size≤1000000:=by simp;omega
  clear hle h hm1;have HSL:=hid hsl;have HDS:=hid hds;clear hsl hds;go_enter Tryz.func107,Tryz.ntmps107;go_wp2_with fail;refine (HSL.out _).mono ?_;rintro e w1 ⟨rfl,hw1⟩;rw[hw1];clear hw1;go_wp2_with fail;go_ret;exact ⟨⟨_,HDS.out,rfl⟩,New.refl _⟩
def FewPost (v:ByteArray)(w:World)(e:Ending)(w':World):Prop:=(∃ t:Bool,e=.returned (.bool t)∧(t=true→v.size≤26∧ratErr v.data.toList=0))∧New w w'
theorem rfew_calls (v:ByteArray)(w:World)(hl:(v.size:Int)≤9223372036854775807):Calls Tryz.prog 53 #[.string v,.int .i64 12] w (FewPost v w):=by
 by_cases h1:v.size≤26
 ·have h1i:(v.size:Int)≤26:=by omega
  have h1b:decide ((v.size:Int)≤26)=true:=decide_eq_true h1i;have hck:=fun W=>rcheck_calls v W (by omega);have HS:=hid h1;obtain ⟨r,hr⟩:∃ r,ratErr v.data.toList=r:=⟨_,rfl⟩;simp only[hr] at hck;by_cases h0:r=0
  ·subst h0;obtain ⟨q,hf,hv⟩:=ratText_of_err hr
   have hvq:v=rs q:=by
    apply ByteArray.ext;apply Array.toList_inj.1;rw[hv,rs_list]
   have hb:RFB 2000 q:=RFB.of (Fits.fb hf);have hb1:RFB 2000 ((q.num:Int):Rat):=rfb_int hb.num (by omega);have hnm:=fun W=>(rnum_calls 2000 q W hb (by omega)).mono fun e w' h=>RetS.to rfl h;have hab:=fun W=>(rabs_calls ((q.num:Int):Rat) W (by have:=hb1.len;omega)).mono fun e w' h=>RetS.to rfl h;have hdn:=fun W=>rden_calls v W (by omega);obtain ⟨B,hB⟩:∃ B,rs ((q.num:Int):Rat)=B:=⟨_,rfl⟩;obtain ⟨D,hD⟩:∃ B,rs (absQ ((q.num:Int):Rat))=B:=⟨_,rfl⟩
   have hDs:D.size≤10000:=by
    rw[←hD]
    have:RFB 2000 (absQ ((q.num:Int):Rat)):=by
     unfold absQ;split
     ·exact hb1.neg
     ·exact hb1
    have:=this.len;omega
   have hDi:(D.size:Int)≤10000:=by omega
   simp only[←hvq,hB]at hnm;simp only[hB,hD] at hab;clear hB hD hb hb1 hvq hf hv hDs h1;have HN:=hid (New.refl w);have HCK:=hid hck;have HNM:=hid hnm;have HAB:=hid hab;have HDN:=hid hdn;have HR:=hid hr;clear hck hnm hab hdn hr;go_enter Tryz.func53,Tryz.ntmps53;go_wp2_with fail;refine (HCK.out _).mono ?_;rintro e w1 ⟨rfl,hn⟩;replace HN:=tW HN hn;clear hn;go_wp2_with fail;refine (HNM.out _).mono ?_;rintro e w2 ⟨rfl,hn⟩;replace HN:=tW HN hn;clear hn;go_wp2_with fail;refine (HAB.out _).mono ?_;rintro e w3 ⟨rfl,hn⟩;replace HN:=tW HN hn;clear hn;by_cases h2:(D.size:Int)≤12
   ·have h2b:decide ((D.size:Int)≤12)=true:=decide_eq_true h2;go_wp2_with fail;refine (HDN.out _).mono ?_;rintro e w4 ⟨⟨d,hd,rfl⟩,hn⟩
    have hdi:(d.size:Int)≤1000000:=by omega
    clear hd;replace HN:=tW HN hn;clear hn;go_wp2_with fail;go_ret;exact ⟨⟨_,rfl,fun _=>⟨HS.out,HR.out⟩⟩,HN.out⟩
   ·have h2b:decide ((D.size:Int)≤12)=false:=decide_eq_false h2;go_wp2_with fail;go_ret;exact ⟨⟨_,rfl,fun h=>by cases h⟩,HN.out⟩
  ·have h0b:(r==0)=false:=beq_false_of_ne h0;have HN:=hid (New.refl w);clear hr h0 h1;have HCK:=hid hck;clear hck;go_enter Tryz.func53,Tryz.ntmps53;go_wp2_with fail;refine (HCK.out _).mono ?_;rintro e w1 ⟨rfl,hn⟩;replace HN:=tW HN hn;clear hn;go_wp2_with fail;go_ret;exact ⟨⟨_,rfl,fun h=>by cases h⟩,HN.out⟩
 ·have h1i:¬(v.size:Int)≤26:=by omega
  have h1b:decide ((v.size:Int)≤26)=false:=decide_eq_false h1i;clear h1;go_enter Tryz.func53,Tryz.ntmps53;go_wp2_with fail;go_ret;exact ⟨⟨_,rfl,fun h=>by cases h⟩,New.refl _⟩
theorem sign_le {x y:Rat}:(x - y).num.sign≤0 ↔ x≤y:=by
 have h1:(x - y).num.sign≤0 ↔ (x - y).num≤0:=by
  rcases Int.lt_trichotomy (x - y).num 0 with h | h | h
  ·rw[Int.sign_eq_neg_one_of_neg h];omega
  ·rw[h];decide
  ·rw[Int.sign_eq_one_of_pos h];omega
 rw[h1]
 have h2:(x - y).num≤0 ↔ 0≤(y - x).num:=by
  rw[←Rat.neg_sub,Rat.neg_num];omega
 rw[h2,Rat.num_nonneg,←Rat.le_iff_sub_nonneg]
theorem rspan_calls (x y:Rat)(w:World)(hx:Fits x)(hy:Fits y)(hxy:x≤y)(hsx:(rs x).size≤100000)(hsy:(rs y).size≤100000):Calls Tryz.prog 44 #[.agg #[.string (rs x),.string (rs y)]] w (RetNew w 0):=by
 have hcm:=fun W=>rcmpQ_calls 2000 2000 x y W (RFB.of (Fits.fb hx)) (RFB.of (Fits.fb hy)) (by omega);have hs:=sign_le.2 hxy;obtain ⟨r,hr⟩:∃ r,(x - y).num.sign=r:=⟨_,rfl⟩;simp only[hr] at hcm;rw[hr] at hs;have hrb:decide (0 < r)=false:=decide_eq_false (by omega)
 have hrow:=fun (W:World) (B cap:Nat) (t:TypeId) (hB:Box W B t #[.string (rs x),.string (rs y)])=>rrow_calls (some ⟨B,0,none⟩) cap 2 [rs x,rs y] 0 W rfl (by omega) (box_strs hB) (by
  show (if ratErr (rs x).data.toList=0 then (if ratErr (rs y).data.toList=0 then 0 else ratErr (rs y).data.toList) else ratErr (rs x).data.toList)=0
  rw[rs_list,rs_list,ratErr_ratText hx,ratErr_ratText hy];rfl) (fun k h1=>by
   match k,h1 with
   | 0,_=>exact hsx
   | 1,_=>exact hsy)
 obtain ⟨X,hX⟩:∃ X,rs x=X:=⟨_,rfl⟩;obtain ⟨Y,hY⟩:∃ X,rs y=X:=⟨_,rfl⟩;rw[hX,hY] at hrow⊢;simp only[hX,hY] at hcm;clear hX hY hx hy hxy hsx hsy hr;have HCM:=hid hcm;have HROW:=hid hrow;clear hcm hrow;go_enter Tryz.func44,Tryz.ntmps44;go_upto_region 1 with (fail);obtain ⟨BA,HN⟩:=lay1 w 28 #[.string X,.string Y];obtain ⟨w8,hw8⟩:∃ x,w.alloc (.cells #[.string X,.string Y] 28)=x:=⟨_,rfl⟩;rw[hw8] at BA HN⊢;clear hw8;obtain ⟨pa0,pa1,pa2,pa3,pa4⟩:=BA.out.two;go_wp2_with fail;clear pa0 pa1 pa2 pa3 pa4;have HN0:=HN;clear HN;obtain ⟨BG,HN⟩:=lay1 w8 22 #[.string X,.string Y];replace BA:=hid (BA.out.new HN.out);have HN_:=HN0.out.trans HN.out;clear HN HN0;have HN:=hid HN_;clear HN_;refine (HROW.out _ _ _ _ BG.out).mono ?_;rintro e w2 ⟨rfl,hn⟩;clear BG;replace BA:=bW BA hn;replace HN:=tW HN hn;clear hn;obtain ⟨pa0,pa1,pa2,pa3,pa4⟩:=BA.out.two;go_wp2_with fail;refine (HCM.out _).mono ?_;rintro e w3 ⟨rfl,hn⟩;clear pa0 pa1 pa2 pa3 pa4;replace HN:=tW HN hn;clear hn;go_wp2_with fail;go_ret;exact ⟨rfl,HN.out⟩
end Go.Proofs.YtbkcjmojgglbkaaGreatDoor
