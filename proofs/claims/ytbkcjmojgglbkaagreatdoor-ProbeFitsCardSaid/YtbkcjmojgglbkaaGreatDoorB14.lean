/- Part B14. -/
import Derived.Test.YtbkcjmojgglbkaaGreatDoorB13
namespace Go.Proofs.YtbkcjmojgglbkaaGreatDoor
open Go.RowKit Big
open Go.Lib (hid)
set_option maxRecDepth 100000
set_option maxHeartbeats 8000000
def EndsPost (w:World)(x y:Rat)(n:Int)(e:Ending)(w':World):Prop:=∃ v v':Value,e=.returned (.tuple #[v,v',.int .i64 n])∧New w w'∧IsFrac w' v x∧IsFrac w' v' y
theorem Box.other4 {w:World}{B B':Nat}{t:TypeId}{cs:Array Value}(h:Box w B t cs)(hp:B'≠B)(u u' v v':Value):Box ((((w.setCell ⟨B',0,none⟩ u).setCell ⟨B',1,none⟩ u').setCell ⟨B',2,none⟩ v).setCell ⟨B',3,none⟩ v') B t cs:=
 (((h.other (p:=⟨B',0,none⟩) hp u).other (p:=⟨B',1,none⟩) hp u').other (p:=⟨B',2,none⟩) hp v).other (p:=⟨B',3,none⟩) hp v'
theorem frac2_ret {w w6:World} {x y:Rat} {B C:Nat} {t t':TypeId} {s s':Int} {a a':Option Addr} {l c l' c':Nat} {r r':Int} {d d':Option Addr} {i j i' j':Nat} {n n':Int} {b b':Option Addr} {m k m' k':Nat} {p p':Int} {e e':Option Addr} {f g f' g':Nat} (N:Int) (hN:New w w6)
  (bp:Box w6 B t #[.int .i64 s,.slice a l c,.int .i64 s',.slice a' l' c']) (bq:Box w6 C t' #[.int .i64 r,.slice d i j,.int .i64 r',.slice d' i' j']) (hB:w.heap.size≤B) (hC:w.heap.size≤C) (hne:B≠C)
  (h1:IsFrac w6 (.agg #[.int .i64 n,.slice b m k,.int .i64 n',.slice b' m' k']) x) (h2:IsFrac w6 (.agg #[.int .i64 p,.slice e f g,.int .i64 p',.slice e' f' g']) y):
  EndsPost w x y N (.returned (.tuple #[.agg #[.int .i64 n,.slice b m k,.int .i64 n',.slice b' m' k'],.agg #[.int .i64 p,.slice e f g,.int .i64 p',.slice e' f' g'],.int .i64 N]))
   ((((((((w6.setCell ⟨B,0,none⟩ (.int .i64 n)).setCell ⟨B,1,none⟩ (.slice b m k)).setCell ⟨B,2,none⟩ (.int .i64 n')).setCell ⟨B,3,none⟩ (.slice b' m' k')).setCell ⟨C,0,none⟩ (.int .i64 p)).setCell ⟨C,1,none⟩ (.slice e f g)).setCell ⟨C,2,none⟩ (.int .i64 p')).setCell ⟨C,3,none⟩ (.slice e' f' g')):=
 ⟨_,_,rfl,(hN.put4 hB _ _ _ _).put4 hC _ _ _ _,(h1.put4 bp _ _ _ _ _ _ _ _).put4 (bq.other4 hne _ _ _ _) _ _ _ _ _ _ _ _,(h2.put4 bp _ _ _ _ _ _ _ _).put4 (bq.other4 hne _ _ _ _) _ _ _ _ _ _ _ _⟩
theorem ends_zero {b s z:Int}{g o:ByteArray}{qg qo:Rat}(h:AdcOk b s z g o qg qo)(w:World)(he:Env w):
  Calls Tryz.prog 88 #[.agg #[.int .i64 b,.int .i64 s,.int .i64 z,.string g,.string o],.int .i64 0] w (EndsPost w (nomQ s z 0 - halfQ s) (nomQ s z 0+halfQ s) 15):=by
 obtain ⟨code,hcode⟩:∃ c:Int,c=0:=⟨_,rfl⟩;rw[←hcode]
 have lo:0≤code:=by omega
 have hi:code≤2^b.toNat - 1:=by have:=top_bd h.blo h.bhi;omega
 have hlo:=h.blo;have hhi:=h.bhi;obtain ⟨tp,htp⟩:∃ tp:Int,2^b.toNat - 1=tp:=⟨_,rfl⟩;have htp1:=top_bd hlo hhi;have hst:=fun W=>step_calls b s z g o W h.slo h.shi;have hfb:=stepQ_fb21 h.slo h.shi;have hhb:=halfQ_fb h.slo h.shi;have hmb:=nomQ_fb h lo (show code≤4095 by omega);have hnm:=fun W=>nominal_calls h code W lo (by omega);have hcc:=fun W hW=>checkCode_calls h code W hW
 have hout:outside code 0 (2^b.toNat - 1)=false:=by simp only[outside,Bool.or_eq_false_iff,decide_eq_false_iff_not];omega
 simp only[hout]at hcc;obtain ⟨m,hm⟩:∃ m,nomQ s z code=m:=⟨_,rfl⟩;have hm':stepQ s*((code - z:Int):Rat)=m:=hm;obtain ⟨d,hd⟩:∃ d,halfQ s=d:=⟨_,rfl⟩;have hd':stepQ s / ((2:Int):Rat)=d:=hd;obtain ⟨t,ht⟩:∃ t,stepQ s=t:=⟨_,rfl⟩;simp only[hm'] at hnm;rw[ht] at hfb hd';simp only[ht] at hst;rw[hm] at hmb⊢;rw[hd] at hhb⊢;clear hm hd hm' hout;subst hcode;clear h lo hi;have HLO:=hid hlo;have HHI:=hid hhi;have HTP:=hid htp;have HTP1:=hid htp1;have HST:=hid hst;have HFB:=hid hfb;have HHB:=hid hhb;have HMB:=hid hmb;have HNM:=hid hnm;have HCC:=hid hcc;have HH:=hid hd';have HT:=hid ht;have HE:=hid he;clear hlo hhi htp htp1 hst hfb hhb hmb hnm hcc hd' ht he;go_enter Tryz.func88,Tryz.ntmps88;go_wp2_with fail;obtain ⟨BA,BP,BQ,HN⟩:=lay3 w 32 #[.int .i64 b,.int .i64 s,.int .i64 z,.string g,.string o] 122 #[.int .i64 0,.slice none 0 0,.int .i64 0,.slice none 0 0] 122 #[.int .i64 0,.slice none 0 0,.int .i64 0,.slice none 0 0];refine (HCC.out _ (HE.out.new HN.out)).mono ?_;rintro e w1 ⟨rfl,hn⟩;replace BA:=bW BA hn;replace BP:=bW BP hn;replace BQ:=bW BQ hn;replace HN:=tW HN hn;clear hn;obtain ⟨⟨pa0,pa1,pa2,pa3,pa4⟩,pa5⟩:=BA.out.five;go_wp2_with fail;refine (HST.out _).mono ?_;rintro e w2 ⟨v2,rfl,hn,hf⟩;have HF2:=hid hf;clear hf;clear pa0 pa1 pa2 pa3 pa4 pa5;replace BA:=bW BA hn;replace BP:=bW BP hn;replace BQ:=bW BQ hn;replace HN:=tW HN hn;clear hn;go_wp2_with fail;refine (f_calls 2 _ (by omega) (by omega)).mono ?_;rintro e w3 ⟨v3,rfl,hn,hf⟩;have HF3:=hid hf;clear hf;replace BA:=bW BA hn;replace BP:=bW BP hn;replace BQ:=bW BQ hn;replace HF2:=hid (HF2.out.new hn);replace HN:=tW HN hn;clear hn;go_wp2_with fail;refine (fdiv_calls _ _ t ((2:Int):Rat) 21 2 _ HF2.out HF3.out HFB.out two_fb (by omega) two_ne).mono ?_;rintro e w4 ⟨v4,rfl,hn,hf⟩;rw[HH.out] at hf;obtain ⟨s5,a5,l5,k5,t5,b5,m5,n5,rfl⟩:=hf.shape;clear HF2 HF3;have HF4:=hid hf;clear hf;replace BA:=bW BA hn;replace BP:=bW BP hn;replace BQ:=bW BQ hn;replace HN:=tW HN hn;clear hn;obtain ⟨⟨pa0,pa1,pa2,pa3,pa4⟩,pa5⟩:=BA.out.five;go_wp2_with fail;clear pa0 pa1 pa2 pa3 pa4 pa5;have HN0:=HN;clear HN;obtain ⟨BG,HN⟩:=lay1 w4 122 #[.int .i64 s5,.slice a5 l5 k5,.int .i64 t5,.slice b5 m5 n5];replace BA:=hid (BA.out.new HN.out);replace BP:=hid (BP.out.new HN.out);replace BQ:=hid (BQ.out.new HN.out);replace HF4:=hid (HF4.out.new HN.out);have HN_:=HN0.out.trans HN.out;clear HN HN0;have HN:=hid HN_;clear HN_;refine (HNM.out _).mono ?_;rintro e w5 ⟨v5,rfl,hn,hf⟩;obtain ⟨s6,a6,l6,k6,t6,b6,m6,n6,rfl⟩:=hf.shape;have HF5:=hid hf;clear hf;replace BA:=bW BA hn;replace BP:=bW BP hn;replace BQ:=bW BQ hn;replace BG:=bW BG hn;replace HF4:=hid (HF4.out.new hn);replace HN:=tW HN hn;clear hn;go_wp2_with fail;have HN0:=HN;clear HN;obtain ⟨BH,HN⟩:=lay1 w5 122 #[.int .i64 s6,.slice a6 l6 k6,.int .i64 t6,.slice b6 m6 n6];replace BA:=hid (BA.out.new HN.out);replace BP:=hid (BP.out.new HN.out);replace BQ:=hid (BQ.out.new HN.out);replace BG:=hid (BG.out.new HN.out);replace HF4:=hid (HF4.out.new HN.out);replace HF5:=hid (HF5.out.new HN.out);have HN_:=HN0.out.trans HN.out;clear HN HN0;have HN:=hid HN_;clear HN_;obtain ⟨⟨pa0,pa1,pa2,pa3,pa4⟩,pa5⟩:=BA.out.five;obtain ⟨⟨g0,g1,g2,g3⟩,g4,g5,g6,g7,g8⟩:=BG.out.four;obtain ⟨⟨h0,h1,h2,h3⟩,h4,h5,h6,h7,h8⟩:=BH.out.four;clear pa0 pa1 pa2 pa3 pa4 pa5;clear g0 g1 g2 g3 g4 g5 g6 g7 g8;clear h0 h1 h2 h3 h4 h5 h6 h7 h8;refine wp_region_T 15 (fun W=>(W.cell? ⟨w.heap.size,0,none⟩=some (.int .i64 b)∧W.cell? ⟨w.heap.size,1,none⟩=some (.int .i64 s)∧W.cell? ⟨w.heap.size,2,none⟩=some (.int .i64 z)∧W.cell? ⟨w.heap.size,3,none⟩=some (.string g)∧W.cell? ⟨w.heap.size,4,none⟩=some (.string o))∧(W.cell? ⟨w4.heap.size,0,none⟩=some (.int .i64 s5)∧W.cell? ⟨w4.heap.size,1,none⟩=some (.slice a5 l5 k5)∧W.cell? ⟨w4.heap.size,2,none⟩=some (.int .i64 t5)∧W.cell? ⟨w4.heap.size,3,none⟩=some (.slice b5 m5 n5))∧(W.cell? ⟨w5.heap.size,0,none⟩=some (.int .i64 s6)∧W.cell? ⟨w5.heap.size,1,none⟩=some (.slice a6 l6 k6)∧W.cell? ⟨w5.heap.size,2,none⟩=some (.int .i64 t6)∧W.cell? ⟨w5.heap.size,3,none⟩=some (.slice b6 m6 n6))) 18 #[false,false,false,false,false,false,false,false,false,false,false,false,false,false,false,false,false,false] rfl (by kernel_rfl) (by kernel_rfl) ?_;refine tk 0 (by exact ⟨cW5 BA,cW4 BG,cW4 BH⟩) ?_
 try simp only[PT]
 refine tk 1 (by exact ⟨cW5 BA,cW4 BG,cW4 BH⟩) ?_
 try simp only[PT]
 refine tk 3 (by exact ⟨cW5 BA,cW4 BG,cW4 BH⟩) ?_
 try simp only[PT]
 refine tk 4 (by exact ⟨cW5 BA,cW4 BG,cW4 BH⟩) ?_
 try simp only[PT]
 refine tk 6 (by exact ⟨cW5 BA,cW4 BG,cW4 BH⟩) ?_
 try simp only[PT]
 refine wpT_take 7 (v:=?_) rfl (by kernel_rfl) (fun _ _ _ h=>h) (by exact ⟨cW5 BA,cW4 BG,cW4 BH⟩) (Or.inl ⟨by first | kernel_rfl | rfl,?_⟩) ?_;rotate_left
 ·(intro W hW;(try dsimp only at hW);go_simp;try with_reducible rfl)
 try simp only[PT]
 refine tk1 2 fun K hK=>?_;go_simp;refine (fsub_calls _ _ m d 33 23 _ (HF5.out.new (New.refl _).drew) (HF4.out.new (New.refl _).drew) HMB.out HHB.out (by omega)).mono ?_;rintro e w6 ⟨v6,rfl,hn,hf⟩;have hn:=hn.undrew;obtain ⟨s7,a7,l7,k7,t7,b7,m7,n7,rfl⟩:=hf.shape;have HF6:=hid hf;clear hf;replace HF4:=hid (HF4.out.new hn);replace HF5:=hid (HF5.out.new hn);replace BA:=bW BA hn;replace BP:=bW BP hn;replace BQ:=bW BQ hn;replace BG:=bW BG hn;replace BH:=bW BH hn;replace HN:=tW HN hn;clear hn;refine hK.out _ _ (fun _=>⟨cW5 BA,cW4 BG,cW4 BH⟩) ?_;clear hK K
 try simp only[PT]
 refine tk1 5 fun K hK=>?_;go_simp;refine (fadd_calls _ _ m d 33 23 _ HF5.out HF4.out HMB.out HHB.out (by omega)).mono ?_;rintro e w7 ⟨v7,rfl,hn,hf⟩;obtain ⟨s8,a8,l8,k8,t8,b8,m8,n8,rfl⟩:=hf.shape;clear HF4 HF5;have HF7:=hid hf;clear hf;replace HF6:=hid (HF6.out.new hn);replace BA:=bW BA hn;replace BP:=bW BP hn;replace BQ:=bW BQ hn;replace BG:=bW BG hn;replace BH:=bW BH hn;replace HN:=tW HN hn;clear hn;refine hK.out _ _ (fun _=>⟨cW5 BA,cW4 BG,cW4 BH⟩) ?_;clear hK K
 try simp only[PT]
 refine tk 8 (by exact ⟨cW5 BA,cW4 BG,cW4 BH⟩) ?_
 try simp only[PT]
 refine wpT_take 9 rfl (by kernel_rfl) (fun _ _ _ h=>h) (by exact ⟨cW5 BA,cW4 BG,cW4 BH⟩) (Or.inr ⟨by first | kernel_rfl | rfl,rfl⟩) ?_
 try simp only[PT]
 refine wpT_take 10 rfl (by kernel_rfl) (fun _ _ _ h=>h) (by exact ⟨cW5 BA,cW4 BG,cW4 BH⟩) (Or.inr ⟨by first | kernel_rfl | rfl,rfl⟩) ?_
 try simp only[PT]
 refine wpT_take 11 rfl (by kernel_rfl) (fun _ _ _ h=>h) (by exact ⟨cW5 BA,cW4 BG,cW4 BH⟩) (Or.inr ⟨by first | kernel_rfl | rfl,rfl⟩) ?_
 try simp only[PT]
 refine wpT_take 12 rfl (by kernel_rfl) (fun _ _ _ h=>h) (by exact ⟨cW5 BA,cW4 BG,cW4 BH⟩) (Or.inr ⟨by first | kernel_rfl | rfl,rfl⟩) ?_
 try simp only[PT]
 refine tk 13 (by exact ⟨cW5 BA,cW4 BG,cW4 BH⟩) ?_
 try simp only[PT]
 refine tk1 14 fun K hK=>?_;go_simp;refine (pwhen_new true 15 _).mono ?_;rintro e w9 ⟨rfl,hn⟩;replace HF6:=hid (HF6.out.new hn);replace HF7:=hid (HF7.out.new hn);replace BA:=bW BA hn;replace BP:=bW BP hn;replace BQ:=bW BQ hn;replace BG:=bW BG hn;replace BH:=bW BH hn;replace HN:=tW HN hn;clear hn;refine hK.out _ _ (fun _=>⟨cW5 BA,cW4 BG,cW4 BH⟩) ?_;clear hK K
 try simp only[]
 refine tlW ?_;obtain ⟨⟨pa0,pa1,pa2,pa3,pa4⟩,pa5⟩:=BA.out.five;obtain ⟨⟨g0,g1,g2,g3⟩,g4,g5,g6,g7,g8⟩:=BG.out.four;obtain ⟨⟨h0,h1,h2,h3⟩,h4,h5,h6,h7,h8⟩:=BH.out.four;obtain ⟨⟨p0,p1,p2,p3⟩,p4,p5,p6,p7,p8⟩:=BP.out.four;obtain ⟨⟨q0,q1,q2,q3⟩,q4,q5,q6,q7,q8⟩:=BQ.out.four;have p9:=BP.out.lt;go_wp2_with fail;refine bodyPost_ret (v:=.tuple #[.agg #[.int .i64 s7,.slice a7 l7 k7,.int .i64 t7,.slice b7 m7 n7],.agg #[.int .i64 s8,.slice a8 l8 k8,.int .i64 t8,.slice b8 m8 n8],.int .i64 15]) (by simp[results,Tryz.results88,go_sem,p0,p1,p2,p3,q0,q1,q2,q3]) rfl ?_;exact frac2_ret 15 HN.out BP.out BQ.out (by omega) (by omega) (by omega) HF6.out HF7.out
theorem ends_mid {b s z:Int}{g o:ByteArray}{qg qo:Rat}(h:AdcOk b s z g o qg qo)(code:Int)(lo:0≤code)(hi:code≤2^b.toNat - 1)(hne:¬code=0)(hnt:¬code=2^b.toNat - 1)(w:World)(he:Env w):
  Calls Tryz.prog 88 #[.agg #[.int .i64 b,.int .i64 s,.int .i64 z,.string g,.string o],.int .i64 code] w (EndsPost w (nomQ s z code - halfQ s) (nomQ s z code+halfQ s) 0):=by
 have hi':code≤4095:=by have:=top_bd h.blo h.bhi;omega
 have hlo:=h.blo;have hhi:=h.bhi;obtain ⟨tp,htp⟩:∃ tp:Int,2^b.toNat - 1=tp:=⟨_,rfl⟩;have htp1:=top_bd hlo hhi;have hst:=fun W=>step_calls b s z g o W h.slo h.shi;have hfb:=stepQ_fb21 h.slo h.shi;have hhb:=halfQ_fb h.slo h.shi;have hmb:=nomQ_fb h lo (show code≤4095 by omega);have hnm:=fun W=>nominal_calls h code W lo (by omega);have hcc:=fun W hW=>checkCode_calls h code W hW
 have hout:outside code 0 (2^b.toNat - 1)=false:=by simp only[outside,Bool.or_eq_false_iff,decide_eq_false_iff_not];omega
 simp only[hout]at hcc;obtain ⟨m,hm⟩:∃ m,nomQ s z code=m:=⟨_,rfl⟩;have hm':stepQ s*((code - z:Int):Rat)=m:=hm;obtain ⟨d,hd⟩:∃ d,halfQ s=d:=⟨_,rfl⟩;have hd':stepQ s / ((2:Int):Rat)=d:=hd;obtain ⟨t,ht⟩:∃ t,stepQ s=t:=⟨_,rfl⟩;simp only[hm'] at hnm;rw[ht] at hfb hd';simp only[ht] at hst;rw[hm] at hmb⊢;rw[hd] at hhb⊢;clear hm hd hm' hout;rw[htp] at hnt
 have hb1:(code==0)=false:=by simpa using hne
 have hb2:decide (code=0)=false:=by simpa using hne
 have hb3:(code==tp)=false:=by simpa using hnt
 have hb4:decide (code=tp)=false:=by simpa using hnt
 clear hne hnt;clear h lo hi hi';have HLO:=hid hlo;have HHI:=hid hhi;have HTP:=hid htp;have HTP1:=hid htp1;have HST:=hid hst;have HFB:=hid hfb;have HHB:=hid hhb;have HMB:=hid hmb;have HNM:=hid hnm;have HCC:=hid hcc;have HH:=hid hd';have HT:=hid ht;have HE:=hid he;clear hlo hhi htp htp1 hst hfb hhb hmb hnm hcc hd' ht he;go_enter Tryz.func88,Tryz.ntmps88;go_wp2_with fail;obtain ⟨BA,BP,BQ,HN⟩:=lay3 w 32 #[.int .i64 b,.int .i64 s,.int .i64 z,.string g,.string o] 122 #[.int .i64 0,.slice none 0 0,.int .i64 0,.slice none 0 0] 122 #[.int .i64 0,.slice none 0 0,.int .i64 0,.slice none 0 0];refine (HCC.out _ (HE.out.new HN.out)).mono ?_;rintro e w1 ⟨rfl,hn⟩;replace BA:=bW BA hn;replace BP:=bW BP hn;replace BQ:=bW BQ hn;replace HN:=tW HN hn;clear hn;obtain ⟨⟨pa0,pa1,pa2,pa3,pa4⟩,pa5⟩:=BA.out.five;go_wp2_with fail;refine (HST.out _).mono ?_;rintro e w2 ⟨v2,rfl,hn,hf⟩;have HF2:=hid hf;clear hf;clear pa0 pa1 pa2 pa3 pa4 pa5;replace BA:=bW BA hn;replace BP:=bW BP hn;replace BQ:=bW BQ hn;replace HN:=tW HN hn;clear hn;go_wp2_with fail;refine (f_calls 2 _ (by omega) (by omega)).mono ?_;rintro e w3 ⟨v3,rfl,hn,hf⟩;have HF3:=hid hf;clear hf;replace BA:=bW BA hn;replace BP:=bW BP hn;replace BQ:=bW BQ hn;replace HF2:=hid (HF2.out.new hn);replace HN:=tW HN hn;clear hn;go_wp2_with fail;refine (fdiv_calls _ _ t ((2:Int):Rat) 21 2 _ HF2.out HF3.out HFB.out two_fb (by omega) two_ne).mono ?_;rintro e w4 ⟨v4,rfl,hn,hf⟩;rw[HH.out] at hf;obtain ⟨s5,a5,l5,k5,t5,b5,m5,n5,rfl⟩:=hf.shape;clear HF2 HF3;have HF4:=hid hf;clear hf;replace BA:=bW BA hn;replace BP:=bW BP hn;replace BQ:=bW BQ hn;replace HN:=tW HN hn;clear hn;obtain ⟨⟨pa0,pa1,pa2,pa3,pa4⟩,pa5⟩:=BA.out.five;go_wp2_with fail;clear pa0 pa1 pa2 pa3 pa4 pa5;have HN0:=HN;clear HN;obtain ⟨BG,HN⟩:=lay1 w4 122 #[.int .i64 s5,.slice a5 l5 k5,.int .i64 t5,.slice b5 m5 n5];replace BA:=hid (BA.out.new HN.out);replace BP:=hid (BP.out.new HN.out);replace BQ:=hid (BQ.out.new HN.out);replace HF4:=hid (HF4.out.new HN.out);have HN_:=HN0.out.trans HN.out;clear HN HN0;have HN:=hid HN_;clear HN_;refine (HNM.out _).mono ?_;rintro e w5 ⟨v5,rfl,hn,hf⟩;obtain ⟨s6,a6,l6,k6,t6,b6,m6,n6,rfl⟩:=hf.shape;have HF5:=hid hf;clear hf;replace BA:=bW BA hn;replace BP:=bW BP hn;replace BQ:=bW BQ hn;replace BG:=bW BG hn;replace HF4:=hid (HF4.out.new hn);replace HN:=tW HN hn;clear hn;go_wp2_with fail;have HN0:=HN;clear HN;obtain ⟨BH,HN⟩:=lay1 w5 122 #[.int .i64 s6,.slice a6 l6 k6,.int .i64 t6,.slice b6 m6 n6];replace BA:=hid (BA.out.new HN.out);replace BP:=hid (BP.out.new HN.out);replace BQ:=hid (BQ.out.new HN.out);replace BG:=hid (BG.out.new HN.out);replace HF4:=hid (HF4.out.new HN.out);replace HF5:=hid (HF5.out.new HN.out);have HN_:=HN0.out.trans HN.out;clear HN HN0;have HN:=hid HN_;clear HN_;obtain ⟨⟨pa0,pa1,pa2,pa3,pa4⟩,pa5⟩:=BA.out.five;obtain ⟨⟨g0,g1,g2,g3⟩,g4,g5,g6,g7,g8⟩:=BG.out.four;obtain ⟨⟨h0,h1,h2,h3⟩,h4,h5,h6,h7,h8⟩:=BH.out.four;clear pa0 pa1 pa2 pa3 pa4 pa5;clear g0 g1 g2 g3 g4 g5 g6 g7 g8;clear h0 h1 h2 h3 h4 h5 h6 h7 h8;refine wp_region_T 15 (fun W=>(W.cell? ⟨w.heap.size,0,none⟩=some (.int .i64 b)∧W.cell? ⟨w.heap.size,1,none⟩=some (.int .i64 s)∧W.cell? ⟨w.heap.size,2,none⟩=some (.int .i64 z)∧W.cell? ⟨w.heap.size,3,none⟩=some (.string g)∧W.cell? ⟨w.heap.size,4,none⟩=some (.string o))∧(W.cell? ⟨w4.heap.size,0,none⟩=some (.int .i64 s5)∧W.cell? ⟨w4.heap.size,1,none⟩=some (.slice a5 l5 k5)∧W.cell? ⟨w4.heap.size,2,none⟩=some (.int .i64 t5)∧W.cell? ⟨w4.heap.size,3,none⟩=some (.slice b5 m5 n5))∧(W.cell? ⟨w5.heap.size,0,none⟩=some (.int .i64 s6)∧W.cell? ⟨w5.heap.size,1,none⟩=some (.slice a6 l6 k6)∧W.cell? ⟨w5.heap.size,2,none⟩=some (.int .i64 t6)∧W.cell? ⟨w5.heap.size,3,none⟩=some (.slice b6 m6 n6))) 18 #[false,false,false,false,false,false,false,false,false,false,false,false,false,false,false,false,false,false] rfl (by kernel_rfl) (by kernel_rfl) ?_;refine tk 0 (by exact ⟨cW5 BA,cW4 BG,cW4 BH⟩) ?_
 try simp only[PT]
 refine tk 1 (by exact ⟨cW5 BA,cW4 BG,cW4 BH⟩) ?_
 try simp only[PT]
 refine tk 3 (by exact ⟨cW5 BA,cW4 BG,cW4 BH⟩) ?_
 try simp only[PT]
 refine tk 4 (by exact ⟨cW5 BA,cW4 BG,cW4 BH⟩) ?_
 try simp only[PT]
 refine tk 6 (by exact ⟨cW5 BA,cW4 BG,cW4 BH⟩) ?_
 try simp only[PT]
 refine wpT_take 7 (v:=?_) rfl (by kernel_rfl) (fun _ _ _ h=>h) (by exact ⟨cW5 BA,cW4 BG,cW4 BH⟩) (Or.inl ⟨by first | kernel_rfl | rfl,?_⟩) ?_;rotate_left
 ·(intro W hW;(try dsimp only at hW);(go_simp;try simp only[hb1,hb2]);try with_reducible rfl)
 try simp only[PT]
 refine tk1 2 fun K hK=>?_;go_simp;refine (fsub_calls _ _ m d 33 23 _ (HF5.out.new (New.refl _).drew) (HF4.out.new (New.refl _).drew) HMB.out HHB.out (by omega)).mono ?_;rintro e w6 ⟨v6,rfl,hn,hf⟩;have hn:=hn.undrew;obtain ⟨s7,a7,l7,k7,t7,b7,m7,n7,rfl⟩:=hf.shape;have HF6:=hid hf;clear hf;replace HF4:=hid (HF4.out.new hn);replace HF5:=hid (HF5.out.new hn);replace BA:=bW BA hn;replace BP:=bW BP hn;replace BQ:=bW BQ hn;replace BG:=bW BG hn;replace BH:=bW BH hn;replace HN:=tW HN hn;clear hn;refine hK.out _ _ (fun _=>⟨cW5 BA,cW4 BG,cW4 BH⟩) ?_;clear hK K
 try simp only[PT]
 refine tk1 5 fun K hK=>?_;go_simp;refine (fadd_calls _ _ m d 33 23 _ HF5.out HF4.out HMB.out HHB.out (by omega)).mono ?_;rintro e w7 ⟨v7,rfl,hn,hf⟩;obtain ⟨s8,a8,l8,k8,t8,b8,m8,n8,rfl⟩:=hf.shape;clear HF4 HF5;have HF7:=hid hf;clear hf;replace HF6:=hid (HF6.out.new hn);replace BA:=bW BA hn;replace BP:=bW BP hn;replace BQ:=bW BQ hn;replace BG:=bW BG hn;replace BH:=bW BH hn;replace HN:=tW HN hn;clear hn;refine hK.out _ _ (fun _=>⟨cW5 BA,cW4 BG,cW4 BH⟩) ?_;clear hK K
 try simp only[PT]
 refine tk 8 (by exact ⟨cW5 BA,cW4 BG,cW4 BH⟩) ?_
 try simp only[PT]
 refine tk 9 (by exact ⟨cW5 BA,cW4 BG,cW4 BH⟩) ?_
 try simp only[PT]
 refine tk 10 (by exact ⟨cW5 BA,cW4 BG,cW4 BH⟩) ?_
 try simp only[PT]
 refine tk1 11 fun K hK=>?_;go_simp;refine (top_calls b s z g o _ HLO.out HHI.out).mono ?_;rintro e w8 ⟨rfl,hn⟩;rw[HTP.out];replace HF6:=hid (HF6.out.new hn);replace HF7:=hid (HF7.out.new hn);replace BA:=bW BA hn;replace BP:=bW BP hn;replace BQ:=bW BQ hn;replace BG:=bW BG hn;replace BH:=bW BH hn;replace HN:=tW HN hn;clear hn;refine hK.out _ _ (fun _=>⟨cW5 BA,cW4 BG,cW4 BH⟩) ?_;clear hK K
 try simp only[PT]
 refine wpT_take 12 (v:=?_) rfl (by kernel_rfl) (fun _ _ _ h=>h) (by exact ⟨cW5 BA,cW4 BG,cW4 BH⟩) (Or.inl ⟨by first | kernel_rfl | rfl,?_⟩) ?_;rotate_left
 ·(intro W hW;(try dsimp only at hW);(go_simp;try simp only[hb3,hb4]);try with_reducible rfl)
 try simp only[PT]
 refine tk 13 (by exact ⟨cW5 BA,cW4 BG,cW4 BH⟩) ?_
 try simp only[PT]
 refine tk1 14 fun K hK=>?_;go_simp;refine (pwhen_new false 15 _).mono ?_;rintro e w9 ⟨rfl,hn⟩;replace HF6:=hid (HF6.out.new hn);replace HF7:=hid (HF7.out.new hn);replace BA:=bW BA hn;replace BP:=bW BP hn;replace BQ:=bW BQ hn;replace BG:=bW BG hn;replace BH:=bW BH hn;replace HN:=tW HN hn;clear hn;refine hK.out _ _ (fun _=>⟨cW5 BA,cW4 BG,cW4 BH⟩) ?_;clear hK K
 try simp only[PT]
 refine tlW ?_;obtain ⟨⟨pa0,pa1,pa2,pa3,pa4⟩,pa5⟩:=BA.out.five;obtain ⟨⟨g0,g1,g2,g3⟩,g4,g5,g6,g7,g8⟩:=BG.out.four;obtain ⟨⟨h0,h1,h2,h3⟩,h4,h5,h6,h7,h8⟩:=BH.out.four;obtain ⟨⟨p0,p1,p2,p3⟩,p4,p5,p6,p7,p8⟩:=BP.out.four;obtain ⟨⟨q0,q1,q2,q3⟩,q4,q5,q6,q7,q8⟩:=BQ.out.four;have p9:=BP.out.lt;go_wp2_with fail;refine bodyPost_ret (v:=.tuple #[.agg #[.int .i64 s7,.slice a7 l7 k7,.int .i64 t7,.slice b7 m7 n7],.agg #[.int .i64 s8,.slice a8 l8 k8,.int .i64 t8,.slice b8 m8 n8],.int .i64 0]) (by simp[results,Tryz.results88,go_sem,p0,p1,p2,p3,q0,q1,q2,q3]) rfl ?_;exact frac2_ret 0 HN.out BP.out BQ.out (by omega) (by omega) (by omega) HF6.out HF7.out
end Go.Proofs.YtbkcjmojgglbkaaGreatDoor
