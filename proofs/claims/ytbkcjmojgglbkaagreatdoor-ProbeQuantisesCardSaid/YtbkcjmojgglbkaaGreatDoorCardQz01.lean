/- Part CardQz01. -/
import Derived.OpenShut
import Derived.WideShapes
import Derived.Deep.Slices
import Derived.Laws.Cover2
import Derived.Carry
import Derived.RowKit
import Derived.Lib.SmallJoins
import Derived.Maps.AppendAt
import Derived.Laws.AppendOwnNone
import Derived.Laws.FloatArith
import Derived.Test.YtbkcjmojgglbkaaGreatDoorA32
namespace Go.Proofs.YtbkcjmojgglbkaaGreatDoor
open Go.RowKit Big Go.ChangeShapes Go.WideShapes Go.Deep Go.Lib Go.Joins
set_option maxRecDepth 100000
set_option maxHeartbeats 8000000
theorem ends_top {b s z:Int}{g o:ByteArray}{qg qo:Rat}(h:AdcOk b s z g o qg qo)(code:Int)(hcode:code=2^b.toNat - 1)(w:World)(he:Env w):
  Calls Tryz.prog 88 #[.agg #[.int .i64 b,.int .i64 s,.int .i64 z,.string g,.string o],.int .i64 code] w (EndsPost w (nomQ s z code - halfQ s) (nomQ s z code+halfQ s) 15):=by
 have lo:0≤code:=by have:=top_bd h.blo h.bhi;omega
 have hi:code≤2^b.toNat - 1:=by omega
 have hi':code≤4095:=by have:=top_bd h.blo h.bhi;omega
 have hne:¬code=0:=by have:=top_bd h.blo h.bhi;omega
 have hlo:=h.blo;have hhi:=h.bhi;obtain ⟨tp,htp⟩:∃ tp:Int,2^b.toNat - 1=tp:=⟨_,rfl⟩;have htp1:=top_bd hlo hhi;have hst:=fun W=>step_calls b s z g o W h.slo h.shi;have hfb:=stepQ_fb21 h.slo h.shi;have hhb:=halfQ_fb h.slo h.shi;have hmb:=nomQ_fb h lo (show code≤4095 by omega);have hnm:=fun W=>nominal_calls h code W lo (by omega);have hcc:=fun W hW=>checkCode_calls h code W hW
 have hout:outside code 0 (2^b.toNat - 1)=false:=by simp only[outside,Bool.or_eq_false_iff,decide_eq_false_iff_not];omega
 simp only[hout]at hcc;obtain ⟨m,hm⟩:∃ m,nomQ s z code=m:=⟨_,rfl⟩;have hm':stepQ s*((code - z:Int):Rat)=m:=hm;obtain ⟨d,hd⟩:∃ d,halfQ s=d:=⟨_,rfl⟩;have hd':stepQ s / ((2:Int):Rat)=d:=hd;obtain ⟨t,ht⟩:∃ t,stepQ s=t:=⟨_,rfl⟩;simp only[hm'] at hnm;rw[ht] at hfb hd';simp only[ht] at hst;rw[hm] at hmb⊢;rw[hd] at hhb⊢;clear hm hd hm' hout;rw[htp] at hcode;subst hcode
 have hb1:(code==0)=false:=by simpa using hne
 have hb2:decide (code=0)=false:=by simpa using hne
 have hb3:(code==code)=true:=by simp
 have hb4:decide (code=code)=true:=by simp
 clear hne;clear h lo hi hi';have HLO:=hid hlo;have HHI:=hid hhi;have HTP:=hid htp;have HTP1:=hid htp1;have HST:=hid hst;have HFB:=hid hfb;have HHB:=hid hhb;have HMB:=hid hmb;have HNM:=hid hnm;have HCC:=hid hcc;have HH:=hid hd';have HT:=hid ht;have HE:=hid he;clear hlo hhi htp htp1 hst hfb hhb hmb hnm hcc hd' ht he;go_enter Tryz.func88,Tryz.ntmps88;go_wp2_with fail;obtain ⟨BA,BP,BQ,HN⟩:=lay3 w 32 #[.int .i64 b,.int .i64 s,.int .i64 z,.string g,.string o] 122 #[.int .i64 0,.slice none 0 0,.int .i64 0,.slice none 0 0] 122 #[.int .i64 0,.slice none 0 0,.int .i64 0,.slice none 0 0];refine (HCC.out _ (HE.out.new HN.out)).mono ?_;rintro e w1 ⟨rfl,hn⟩;replace BA:=bW BA hn;replace BP:=bW BP hn;replace BQ:=bW BQ hn;replace HN:=tW HN hn;clear hn;obtain ⟨⟨pa0,pa1,pa2,pa3,pa4⟩,pa5⟩:=BA.out.five;go_wp2_with fail;refine (HST.out _).mono ?_;rintro e w2 ⟨v2,rfl,hn,hf⟩;have HF2:=hid hf;clear hf;clear pa0 pa1 pa2 pa3 pa4 pa5;replace BA:=bW BA hn;replace BP:=bW BP hn;replace BQ:=bW BQ hn;replace HN:=tW HN hn;clear hn;go_wp2_with fail;refine (f_calls 2 _ (by omega) (by omega)).mono ?_;rintro e w3 ⟨v3,rfl,hn,hf⟩;have HF3:=hid hf;clear hf;replace BA:=bW BA hn;replace BP:=bW BP hn;replace BQ:=bW BQ hn;replace HF2:=hid (HF2.out.new hn);replace HN:=tW HN hn;clear hn;go_wp2_with fail;refine (fdiv_calls _ _ t ((2:Int):Rat) 21 2 _ HF2.out HF3.out HFB.out two_fb (by omega) two_ne).mono ?_;rintro e w4 ⟨v4,rfl,hn,hf⟩;rw[HH.out] at hf;obtain ⟨s5,a5,l5,k5,t5,b5,m5,n5,rfl⟩:=hf.shape;clear HF2 HF3;have HF4:=hid hf;clear hf;replace BA:=bW BA hn;replace BP:=bW BP hn;replace BQ:=bW BQ hn;replace HN:=tW HN hn;clear hn;obtain ⟨⟨pa0,pa1,pa2,pa3,pa4⟩,pa5⟩:=BA.out.five;go_wp2_with fail;clear pa0 pa1 pa2 pa3 pa4 pa5;have HN0:=HN;clear HN;obtain ⟨BG,HN⟩:=lay1 w4 122 #[.int .i64 s5,.slice a5 l5 k5,.int .i64 t5,.slice b5 m5 n5];replace BA:=hid (BA.out.new HN.out);replace BP:=hid (BP.out.new HN.out);replace BQ:=hid (BQ.out.new HN.out);replace HF4:=hid (HF4.out.new HN.out);have HN_:=HN0.out.trans HN.out;clear HN HN0;have HN:=hid HN_;clear HN_;refine (HNM.out _).mono ?_;rintro e w5 ⟨v5,rfl,hn,hf⟩;obtain ⟨s6,a6,l6,k6,t6,b6,m6,n6,rfl⟩:=hf.shape;have HF5:=hid hf;clear hf;replace BA:=bW BA hn;replace BP:=bW BP hn;replace BQ:=bW BQ hn;replace BG:=bW BG hn;replace HF4:=hid (HF4.out.new hn);replace HN:=tW HN hn;clear hn;go_wp2_with fail;have HN0:=HN;clear HN;obtain ⟨BH,HN⟩:=lay1 w5 122 #[.int .i64 s6,.slice a6 l6 k6,.int .i64 t6,.slice b6 m6 n6];replace BA:=hid (BA.out.new HN.out);replace BP:=hid (BP.out.new HN.out);replace BQ:=hid (BQ.out.new HN.out);replace BG:=hid (BG.out.new HN.out);replace HF4:=hid (HF4.out.new HN.out);replace HF5:=hid (HF5.out.new HN.out);have HN_:=HN0.out.trans HN.out;clear HN HN0;have HN:=hid HN_;clear HN_;obtain ⟨⟨pa0,pa1,pa2,pa3,pa4⟩,pa5⟩:=BA.out.five;obtain ⟨⟨g0,g1,g2,g3⟩,g4,g5,g6,g7,g8⟩:=BG.out.four;obtain ⟨⟨h0,h1,h2,h3⟩,h4,h5,h6,h7,h8⟩:=BH.out.four;clear pa0 pa1 pa2 pa3 pa4 pa5;clear g0 g1 g2 g3 g4 g5 g6 g7 g8;clear h0 h1 h2 h3 h4 h5 h6 h7 h8;refine wp_region_T 15 (fun W=>(W.cell? ⟨w.heap.size,0,none⟩=some (.int .i64 b)∧W.cell? ⟨w.heap.size,1,none⟩=some (.int .i64 s)∧W.cell? ⟨w.heap.size,2,none⟩=some (.int .i64 z)∧W.cell? ⟨w.heap.size,3,none⟩=some (.string g)∧W.cell? ⟨w.heap.size,4,none⟩=some (.string o))∧(W.cell? ⟨w4.heap.size,0,none⟩=some (.int .i64 s5)∧W.cell? ⟨w4.heap.size,1,none⟩=some (.slice a5 l5 k5)∧W.cell? ⟨w4.heap.size,2,none⟩=some (.int .i64 t5)∧W.cell? ⟨w4.heap.size,3,none⟩=some (.slice b5 m5 n5))∧(W.cell? ⟨w5.heap.size,0,none⟩=some (.int .i64 s6)∧W.cell? ⟨w5.heap.size,1,none⟩=some (.slice a6 l6 k6)∧W.cell? ⟨w5.heap.size,2,none⟩=some (.int .i64 t6)∧W.cell? ⟨w5.heap.size,3,none⟩=some (.slice b6 m6 n6))) 18 #[false,false,false,false,false,false,false,false,false,false,false,false,false,false,false,false,false,false] rfl (by kernel_rfl) (by kernel_rfl) ?_;refine tk 0 (by exact ⟨cW5 BA,cW4 BG,cW4 BH⟩) ?_
 try simp only[PT]
 refine tk 1 (by exact ⟨cW5 BA,cW4 BG,cW4 BH⟩) ?_
 try simp only[PT]
 refine tk 3 (by exact ⟨cW5 BA,cW4 BG,cW4 BH⟩) ?_
 try simp only[PT]
 refine tk 4 (by exact ⟨cW5 BA,cW4 BG,cW4 BH⟩) ?_
 try simp only[PT]
 refine tk 6 (by exact ⟨cW5 BA,cW4 BG,cW4 BH⟩) ?_
 try simp only[PT]
 refine wpT_take 7 (v:=?_) rfl (by kernel_rfl) (fun _ _ _ h=>h) (by exact ⟨cW5 BA,cW4 BG,cW4 BH⟩) (Or.inl ⟨by first | kernel_rfl | rfl,?_⟩) ?_;rotate_left
 ·(intro W hW;(try dsimp only at hW);(go_simp;try simp only[hb1,hb2]);try with_reducible rfl)
 try simp only[PT]
 refine tk1 2 fun K hK=>?_;go_simp;refine (fsub_calls _ _ m d 33 23 _ (HF5.out.new (New.refl _).drew) (HF4.out.new (New.refl _).drew) HMB.out HHB.out (by omega)).mono ?_;rintro e w6 ⟨v6,rfl,hn,hf⟩;have hn:=hn.undrew;obtain ⟨s7,a7,l7,k7,t7,b7,m7,n7,rfl⟩:=hf.shape;have HF6:=hid hf;clear hf;replace HF4:=hid (HF4.out.new hn);replace HF5:=hid (HF5.out.new hn);replace BA:=bW BA hn;replace BP:=bW BP hn;replace BQ:=bW BQ hn;replace BG:=bW BG hn;replace BH:=bW BH hn;replace HN:=tW HN hn;clear hn;refine hK.out _ _ (fun _=>⟨cW5 BA,cW4 BG,cW4 BH⟩) ?_;clear hK K
 try simp only[PT]
 refine tk1 5 fun K hK=>?_;go_simp;refine (fadd_calls _ _ m d 33 23 _ HF5.out HF4.out HMB.out HHB.out (by omega)).mono ?_;rintro e w7 ⟨v7,rfl,hn,hf⟩;obtain ⟨s8,a8,l8,k8,t8,b8,m8,n8,rfl⟩:=hf.shape;clear HF4 HF5;have HF7:=hid hf;clear hf;replace HF6:=hid (HF6.out.new hn);replace BA:=bW BA hn;replace BP:=bW BP hn;replace BQ:=bW BQ hn;replace BG:=bW BG hn;replace BH:=bW BH hn;replace HN:=tW HN hn;clear hn;refine hK.out _ _ (fun _=>⟨cW5 BA,cW4 BG,cW4 BH⟩) ?_;clear hK K
 try simp only[PT]
 refine tk 8 (by exact ⟨cW5 BA,cW4 BG,cW4 BH⟩) ?_
 try simp only[PT]
 refine tk 9 (by exact ⟨cW5 BA,cW4 BG,cW4 BH⟩) ?_
 try simp only[PT]
 refine tk 10 (by exact ⟨cW5 BA,cW4 BG,cW4 BH⟩) ?_
 try simp only[PT]
 refine tk1 11 fun K hK=>?_;go_simp;refine (top_calls b s z g o _ HLO.out HHI.out).mono ?_;rintro e w8 ⟨rfl,hn⟩;rw[HTP.out];replace HF6:=hid (HF6.out.new hn);replace HF7:=hid (HF7.out.new hn);replace BA:=bW BA hn;replace BP:=bW BP hn;replace BQ:=bW BQ hn;replace BG:=bW BG hn;replace BH:=bW BH hn;replace HN:=tW HN hn;clear hn;refine hK.out _ _ (fun _=>⟨cW5 BA,cW4 BG,cW4 BH⟩) ?_;clear hK K
 try simp only[PT]
 refine wpT_take 12 (v:=?_) rfl (by kernel_rfl) (fun _ _ _ h=>h) (by exact ⟨cW5 BA,cW4 BG,cW4 BH⟩) (Or.inl ⟨by first | kernel_rfl | rfl,?_⟩) ?_;rotate_left
 ·(intro W hW;(try dsimp only at hW);(go_simp;try simp only[hb3,hb4]);try with_reducible rfl)
 try simp only[PT]
 refine tk 13 (by exact ⟨cW5 BA,cW4 BG,cW4 BH⟩) ?_
 try simp only[PT]
 refine tk1 14 fun K hK=>?_;go_simp;refine (pwhen_new true 15 _).mono ?_;rintro e w9 ⟨rfl,hn⟩;replace HF6:=hid (HF6.out.new hn);replace HF7:=hid (HF7.out.new hn);replace BA:=bW BA hn;replace BP:=bW BP hn;replace BQ:=bW BQ hn;replace BG:=bW BG hn;replace BH:=bW BH hn;replace HN:=tW HN hn;clear hn;refine hK.out _ _ (fun _=>⟨cW5 BA,cW4 BG,cW4 BH⟩) ?_;clear hK K
 try simp only[]
 refine tlW ?_;obtain ⟨⟨pa0,pa1,pa2,pa3,pa4⟩,pa5⟩:=BA.out.five;obtain ⟨⟨g0,g1,g2,g3⟩,g4,g5,g6,g7,g8⟩:=BG.out.four;obtain ⟨⟨h0,h1,h2,h3⟩,h4,h5,h6,h7,h8⟩:=BH.out.four;obtain ⟨⟨p0,p1,p2,p3⟩,p4,p5,p6,p7,p8⟩:=BP.out.four;obtain ⟨⟨q0,q1,q2,q3⟩,q4,q5,q6,q7,q8⟩:=BQ.out.four;have p9:=BP.out.lt;go_wp2_with fail;refine bodyPost_ret (v:=.tuple #[.agg #[.int .i64 s7,.slice a7 l7 k7,.int .i64 t7,.slice b7 m7 n7],.agg #[.int .i64 s8,.slice a8 l8 k8,.int .i64 t8,.slice b8 m8 n8],.int .i64 15]) (by simp[results,Tryz.results88,go_sem,p0,p1,p2,p3,q0,q1,q2,q3]) rfl ?_;exact frac2_ret 15 HN.out BP.out BQ.out (by omega) (by omega) (by omega) HF6.out HF7.out
theorem interval_mid (adc:Value) (b s z:Int) (g o:ByteArray) (code:Int) (x y:Rat) (sx:SmF x) (sy:SmF y) (w:World) (he:Env w) (hadc:adc=.agg #[.int .i64 b,.int .i64 s,.int .i64 z,.string g,.string o])
  (hen:∀ W,Env W→Calls Tryz.prog 88 #[adc,.int .i64 code] W (EndsPost W x y 0)):
  Calls Tryz.prog 21 #[adc,.int .i64 code] w (SpanPost w x y 0):=by
 subst hadc;have hsp:=fun (W:World) va vb h1 h2 hW=>span_calls va vb x y W h1 h2 sx sy hW;unfold SpanPost spanV at hsp⊢;obtain ⟨X,hX⟩:∃ X,rtext x=X:=⟨_,rfl⟩;obtain ⟨Y,hY⟩:∃ Y,rtext y=Y:=⟨_,rfl⟩;rw[hX,hY] at hsp⊢;clear hX hY;have HEN:=hid hen;have HE:=hid he;have HSP:=hid hsp;clear hen he hsp;go_enter Tryz.func21,Tryz.ntmps21;go_wp2_with fail;obtain ⟨BA,BP,HN⟩:=lay2 w 32 #[.int .i64 b,.int .i64 s,.int .i64 z,.string g,.string o] 28 #[.string ⟨#[]⟩,.string ⟨#[]⟩];refine (HEN.out _ (HE.out.new HN.out)).mono ?_;rintro e w1 ⟨v1,v2,rfl,hn,hf,hf2⟩;obtain ⟨s5,a5,l5,k5,t5,b5,m5,n5,rfl⟩:=hf.shape;obtain ⟨s6,a6,l6,k6,t6,b6,m6,n6,rfl⟩:=hf2.shape;have HF1:=hid hf;have HF2:=hid hf2;clear hf hf2;replace BP:=bW BP hn;replace HN:=tW HN hn;clear hn;go_wp2_with fail;have HN0:=HN;clear HN;obtain ⟨BG,BH,HN⟩:=lay2 w1 122 #[.int .i64 s5,.slice a5 l5 k5,.int .i64 t5,.slice b5 m5 n5] 122 #[.int .i64 s6,.slice a6 l6 k6,.int .i64 t6,.slice b6 m6 n6];replace BP:=hid (BP.out.new HN.out);replace HF1:=hid (HF1.out.new HN.out);replace HF2:=hid (HF2.out.new HN.out);have HN_:=HN0.out.trans HN.out;clear HN HN0;have HN:=hid HN_;clear HN_;refine (HSP.out _ _ _ HF1.out HF2.out (HE.out.new HN.out)).mono ?_;rintro e w2 ⟨rfl,hn⟩;replace BP:=bW BP hn;replace HN:=tW HN hn;clear hn;obtain ⟨p0,p1,p2,p3,p4⟩:=BP.out.two;go_wp2_with fail;refine bodyPost_ret (v:=.tuple #[.agg #[.string X,.string Y],.int .i64 0]) (by simp[results,Tryz.results21,go_sem,p0,p1]) rfl ?_;exact ⟨rfl,HN.out.putAt BP.out (by omega) _ _⟩
theorem exists_map {α β:Type}{f:α→β}:∀ {vs:List β},(∀ u∈vs,∃ x,u=f x)→∃ xs:List α,vs=xs.map f
 | [],_=>⟨[],rfl⟩
 | u::vs,h=>by
  obtain ⟨x,hx⟩:=h u (by simp);obtain ⟨xs,hxs⟩:=exists_map (vs:=vs) fun u hu=>h u (by simp[hu]);exact ⟨x::xs,by rw[hx,hxs];rfl⟩
section
variable {H:Type} {enc:TypeId × Value→H} {P:Program} {w:World} {base:Nat} {sp:Nat→Bool} {held:Bool}
theorem spot_none {a:Addr}{v:Value}(h:w.cell? a=some v):a=⟨a.block,a.off,none⟩:=by
 obtain ⟨b,o,s⟩:=a
 cases s with
 | none=>rfl
 | some s=>
  unfold World.cell? at h;split at h
  ·simp at h
  ·cases h
theorem rdl_fn {a:Addr}{len:Nat}{V:Nat→Value}(h:∀ i,i < len→w.cell? (a.add i)=some (V i)):RdL w (some a) ((List.range len).map V):=by
 intro i hi
 have hi':i < len:=by simpa using hi
 have h0:=h 0 (by omega);have e0:a.add 0=a:=rfl;rw[e0] at h0;have ha:=spot_none h0;refine ⟨a.block,a.off,by rw[←ha],?_⟩;have h1:=h i hi'
 have e:a.add i=⟨a.block,a.off+i,none⟩:=by
  unfold Addr.add;split
  ·rename_i hz;rw[hz];exact ha
  ·rfl
 rw[e]at h1;rw[h1];simp
theorem in_slice1 {t e:TypeId}{fuel:Nat}{cs:List Value}{y:DataW H × List MemPlace}(ht:P.underlying t=some (.slice e))(hc:P.cellsOf e=1)(h:DataW.trod enc P w base sp held fuel t cs=some y):
  ∃ (a:Option Addr) (cap:Nat) (vs:List Value),cs=[.slice a vs.length cap]∧RdL w a vs∧(a=none→cap=0)∧vs.length≤cap∧cap≤maxLen∧
   ∀ u∈vs,∃ (n:Nat) (y:DataW H × List MemPlace),DataW.trod enc P w base sp held n e [u]=some y:=by
 rcases open_slice1 ht hc h with ⟨h0,_⟩ | ⟨a,len,cap,m,n,V,D,Pl,h0,hb,hl,hm,hmm,_,hel⟩
 ·exact ⟨none,0,[],h0,fun i hi=>by simp at hi,fun _=>rfl,Nat.le_refl _,Nat.zero_le _,fun u hu=>by simp at hu⟩
 ·have hlm:len≤m:=by rw[hmm];split <;> omega
  refine ⟨some a,cap,(List.range len).map V,by simpa using h0,rdl_fn fun i hi=>(hel i (by omega)).1,(fun h=>by cases h),by simpa using hl,hm,fun u hu=>?_⟩;obtain ⟨i,hi,rfl⟩:=List.mem_map.1 hu;exact ⟨n,_,(hel i (by have:=List.mem_range.1 hi;omega)).2⟩
theorem slice_cells {t e:TypeId}{r:Reach}{b0:Nat}{v:Value}(ht:P.underlying t=some (.slice e))(hval:Value.okWide P w r b0 t v):v.cells.toList=[v]:=by
 obtain ⟨a,l,c,rfl⟩:=okWide_slice ht hval;rfl
end
theorem rhalf_calls (k:Nat)(x:Rat)(w:World)(hx:RFB k x)(hk:k+2≤40000):Calls Tryz.prog 45 #[.string (rs x)] w (RetS w (x*(1 / 2))):=by
 have hm:=fun W=>rmulQ_calls k 2 x (1 / 2) W hx rfb_half hk;simp only[rs_half] at hm;obtain ⟨R,hR⟩:∃ R,x*(1 / 2)=R:=⟨_,rfl⟩;obtain ⟨A,hA⟩:∃ A,rs x=A:=⟨_,rfl⟩;simp only[hA,hR] at hm;rw[hA,hR];clear hA hR hx hk;have HM:=hid hm;clear hm;go_enter Tryz.func45,Tryz.ntmps45;go_wp2_with fail;refine (HM.out _).mono ?_;rintro e w2 ⟨rfl,hn⟩;have HN:=hid hn;clear hn;go_wp2_with fail;go_ret;exact ⟨rfl,HN.out⟩
theorem int_divInt (n:Int):(n:Rat)=Rat.divInt n 1:=by
 have:=Rat.num_divInt_den (n:Rat);rw[Rat.num_intCast,Rat.den_intCast] at this;exact this.symm
def AwakeOk:Prop:=∀ w,Env w→Calls Tryz.prog 10 #[] w fun e w'=>e=.returned (.bool true)∧New w w'
theorem rs_of {v:ByteArray}{q:Rat}(h:v.data.toList=ratText q):v=rs q:=by
 have e:v.data=(rs q).data:=by
  apply Array.toList_inj.1;rw[h,rs_list]
 exact ByteArray.ext e
theorem array5 {α:Type}{cs:Array α}(h:cs.size=5):∃ c0 c1 c2 c3 c4,cs=#[c0,c1,c2,c3,c4]:=by
 obtain ⟨l⟩:=cs
 match l,h with
 | [c0,c1,c2,c3,c4],_=>exact ⟨c0,c1,c2,c3,c4,rfl⟩
section
variable {H:Type} {enc:TypeId × Value→H} {P:Program} {w:World} {base:Nat} {sp:Nat→Bool} {held:Bool}
theorem trod_struct5 {t:TypeId}{f0 f1 f2 f3 f4:Field}{fuel:Nat}{cs:List Value}{x:DataW H × List MemPlace}(ht:P.underlying t=some (.struct #[f0,f1,f2,f3,f4]))(h:DataW.trod enc P w base sp held fuel t cs=some x):
  ∃ y0 y1 y2 y3 y4 n,DataW.trod enc P w base sp held n f0.type ((cs.drop f0.offset).take (P.cellsOf f0.type))=some y0∧
   DataW.trod enc P w base sp held n f1.type ((cs.drop f1.offset).take (P.cellsOf f1.type))=some y1∧DataW.trod enc P w base sp held n f2.type ((cs.drop f2.offset).take (P.cellsOf f2.type))=some y2∧
   DataW.trod enc P w base sp held n f3.type ((cs.drop f3.offset).take (P.cellsOf f3.type))=some y3∧DataW.trod enc P w base sp held n f4.type ((cs.drop f4.offset).take (P.cellsOf f4.type))=some y4:=by
 obtain ⟨xs,n,_,rfl,hl,hlen,hf⟩:=DataW.trod_struct ht h
 match xs,hlen with
 | [y0,y1,y2,y3,y4],_=>exact ⟨y0,y1,y2,y3,y4,n,by simpa using hf 0 f0 rfl,by simpa using hf 1 f1 rfl,by simpa using hf 2 f2 rfl,by simpa using hf 3 f3 rfl,by simpa using hf 4 f4 rfl⟩
theorem open_agg5 {r:Reach} {b0:Nat} {t:TypeId} {f0 f1 f2 f3 f4:Field} {v:Value} {d:DataW H} {p:List MemPlace} (hs:P.underlying t=some (.struct #[f0,f1,f2,f3,f4])) (hone:oneCellFields P #[f0,f1,f2,f3,f4]=true) (hC:P.cellsOf t=5)
  (hv:Value.okWide P w r b0 t v) (h:DataW.Trod enc P w base sp held t v d p):
  ∃ (v0 v1 v2 v3 v4:Value) (y0 y1 y2 y3 y4:DataW H × List MemPlace) (n:Nat),v=.agg #[v0,v1,v2,v3,v4]∧
   DataW.trod enc P w base sp held n f0.type [v0]=some y0∧DataW.trod enc P w base sp held n f1.type [v1]=some y1∧DataW.trod enc P w base sp held n f2.type [v2]=some y2∧DataW.trod enc P w base sp held n f3.type [v3]=some y3∧DataW.trod enc P w base sp held n f4.type [v4]=some y4:=by
 obtain ⟨cs,rfl,hsz⟩:=okWide_struct hs hv;obtain ⟨c0,c1,c2,c3,c4,rfl⟩:=array5 (hsz.trans hC);obtain ⟨fuel,hf⟩:=h;obtain ⟨y0,y1,y2,y3,y4,n,h0,h1,h2,h3,h4⟩:=trod_struct5 hs hf;obtain ⟨o0,k0⟩:=hone_of hone 0 f0 rfl;obtain ⟨o1,k1⟩:=hone_of hone 1 f1 rfl;obtain ⟨o2,k2⟩:=hone_of hone 2 f2 rfl;obtain ⟨o3,k3⟩:=hone_of hone 3 f3 rfl;obtain ⟨o4,k4⟩:=hone_of hone 4 f4 rfl;exact ⟨c0,c1,c2,c3,c4,y0,y1,y2,y3,y4,n,rfl,by simpa[Value.cells,o0,k0] using h0,by simpa[Value.cells,o1,k1] using h1,by simpa[Value.cells,o2,k2] using h2,by simpa[Value.cells,o3,k3] using h3,by simpa[Value.cells,o4,k4] using h4⟩
theorem trod_str' {t:TypeId}{fuel:Nat}{v:Value}{y:DataW H × List MemPlace}(ht:P.underlying t=some .string)(h:DataW.trod enc P w base sp held fuel t [v]=some y):∃ s:ByteArray,v=.string s∧s.size≤9223372036854775807:=by
 obtain ⟨s,h1,_,hs⟩:=DataW.trod_string ht h;exact ⟨s,by simpa using h1,hs⟩
end
theorem in_adc {H:Type}{enc:TypeId × Value→H}{w:World}{base:Nat}{sp:Nat→Bool}{held:Bool}{r:Reach}{b0:Nat}{v:Value}{d:DataW H}{p:List MemPlace}(hval:Value.okWide Tryz.prog w r b0 24 v)(h:DataW.Trod enc Tryz.prog w base sp held 24 v d p):
  ∃ (b s z:Int) (g o:ByteArray),v=adcV b s z g o∧g.size≤9223372036854775807∧o.size≤9223372036854775807:=by
 obtain ⟨v0,v1,v2,v3,v4,y0,y1,y2,y3,y4,n,rfl,h0,h1,h2,h3,h4⟩:=open_agg5 Tryz.underlying24 (by kernel_rfl) (by kernel_rfl) hval h;obtain ⟨b,rfl,_⟩:=trod_int' Tryz.underlying3 h0;obtain ⟨s,rfl,_⟩:=trod_int' Tryz.underlying3 h1;obtain ⟨z,rfl,_⟩:=trod_int' Tryz.underlying3 h2;obtain ⟨g,rfl,hg⟩:=trod_str' Tryz.underlying22 h3;obtain ⟨o,rfl,ho⟩:=trod_str' Tryz.underlying22 h4;exact ⟨b,s,z,g,o,rfl,hg,ho⟩
end Go.Proofs.YtbkcjmojgglbkaaGreatDoor
namespace Go.Proofs.YtbkcjmojgglbkaaGreatDoor.Flo
set_option maxRecDepth 100000
set_option maxHeartbeats 8000000
open Ieee
theorem gap_eq (a:Nat):1 <<< a=2^a:=by rw[Nat.shiftLeft_eq,Nat.one_mul]
theorem cut_scale (neg:Bool){m:Nat}(d k:Nat)(hm:m≠0):Toward.even.cut neg (m*2^k) (d+k)=Toward.even.cut neg m d:=by
 unfold Toward.cut;simp only;rw[log2_mul_pow hm,gap_eq,gap_eq]
 have e:min (d+k) (m.log2+k+2)=min d (m.log2+2)+k:=by omega
 rw[e];generalize min d (m.log2+2)=g;have hk:=Nat.two_pow_pos k;rw[Nat.pow_add,Nat.mul_div_mul_right _ _ hk,Nat.mul_mod_mul_right];congr 2
 have e1:decide (2^g*2^k < 2*(m % 2^g*2^k))=decide (2^g < 2*(m % 2^g)):=by
  rw[←Nat.mul_assoc];exact decide_eq_decide.2 (Nat.mul_lt_mul_right hk)
 have e2:(2^g*2^k==2*(m % 2^g*2^k))=(2^g==2*(m % 2^g)):=by
  rw[←Nat.mul_assoc,Bool.eq_iff_iff,beq_iff_eq,beq_iff_eq];exact Nat.mul_left_inj (by omega)
 rw[e1,e2]
theorem cut_whole (neg:Bool){m:Nat}(d k:Nat)(hm:m≠0)(h:d≤k):Toward.even.cut neg (m*2^k) d=m*2^(k - d):=by
 have e:m*2^k=m*2^(k - d)*2^d:=by rw[Nat.mul_assoc,←Nat.pow_add,Nat.sub_add_cancel h]
 have h0:m*2^(k - d)≠0:=Nat.mul_ne_zero hm (Nat.ne_of_gt (Nat.two_pow_pos _));have:=cut_scale neg (m:=m*2^(k - d)) 0 d h0;rw[Nat.zero_add,cut_zero,←e] at this;exact this
theorem nearest_more (f:Format)(neg:Bool){m:Nat}{p:Int}(k:Nat)(hm:m≠0):f.nearest neg (m*2^k) (p - k)=f.nearest neg m p:=by
 unfold Format.nearest;have hmk:m*2^k≠0:=Nat.mul_ne_zero hm (Nat.ne_of_gt (Nat.two_pow_pos _));rw[if_neg hmk,if_neg hm];simp only;rw[log2_mul_pow hm]
 have e1:p - (k:Int)+((m.log2+k:Nat):Int) - f.fractionBits=p+m.log2 - f.fractionBits:=by omega
 rw[e1];generalize max (p+(m.log2:Int) - f.fractionBits) f.leastPlace=L;congr 3;rcases Int.lt_or_le p L with h | h
 ·have e2:(p - (k:Int) - L).toNat=0:=by omega
  have e3:(p - L).toNat=0:=by omega
  have e4:(L - (p - (k:Int))).toNat=(L - p).toNat+k:=by omega
  rw[e2,e3,e4,Nat.shiftLeft_zero,Nat.shiftLeft_zero,cut_scale neg _ _ hm]
 ·have e3:(L - p).toNat=0:=by omega
  rw[e3,cut_zero];rcases Int.lt_or_le (p - k) L with h2 | h2
  ·have e2:(p - (k:Int) - L).toNat=0:=by omega
   have e4:(L - (p - (k:Int))).toNat≤k:=by omega
   rw[e2,Nat.shiftLeft_zero,cut_whole neg _ _ hm e4,Nat.shiftLeft_eq];congr 2;omega
  ·have e4:(L - (p - (k:Int))).toNat=0:=by omega
   rw[e4,cut_zero,Nat.shiftLeft_eq,Nat.shiftLeft_eq,Nat.mul_assoc,←Nat.pow_add];congr 2;omega
theorem nearest_rung (neg:Bool){m r:Nat}{p:Int}(hm:m≠0)(hr:r < 2139095040)(h:m*2^(p+149).toNat=V single r*2^(-149 - p).toNat):single.nearest neg m p=single.word neg r:=by
 have hv:V single r≠0:=by
  intro h0;rw[h0,Nat.zero_mul] at h;exact absurd h (Nat.mul_ne_zero hm (Nat.ne_of_gt (Nat.two_pow_pos _)))
 have key:=nearest_V single neg (r:=r) (by rw[sinf];exact hr);rw[slp] at key;rcases Int.lt_or_le p (-149) with h2 | h2
 ·have e0:(p+149).toNat=0:=by omega
  rw[e0,Nat.pow_zero,Nat.mul_one]at h;have:=nearest_more single neg (p:= -149) (-149 - p).toNat hv;rw[←h,show (-149:Int) - ((-149 - p).toNat:Int)=p by omega,key] at this;exact this
 ·have e0:(-149 - p).toNat=0:=by omega
  rw[e0,Nat.pow_zero,Nat.mul_one]at h;have:=nearest_more single neg (p:=p) (p+149).toNat hm;rw[h,show p - ((p+149).toNat:Int)= -149 by omega,key] at this;exact this.symm
theorem sread {x:Nat}(h:x < 2139095040):∃ (m k:Nat),single.read x=.number false m (-149+(k:Int))∧m*2^k=V single x:=by
 have hr:rung single x=x:=by unfold rung;rw[ssw];omega
 have hs:sgn single x=false:=by unfold sgn;rw[ssw];simp;omega
 obtain ⟨m,k,h1,h2⟩:=read_fin single (x:=x) (by unfold Fin;rw[hr,sinf];exact h);rw[hs,slp] at h1;rw[hr] at h2;exact ⟨m,k,h1,h2⟩
theorem V_up {x:Nat}(h:8388608≤x):V single (x+8388608)=2*V single x:=by
 unfold V;rw[sbin,if_neg (by omega),if_neg (by omega)]
 have e1:(x+8388608) % 8388608=x % 8388608:=by omega
 have e2:(x+8388608) / 8388608 - 1=(x / 8388608 - 1)+1:=by omega
 rw[e1,e2,Nat.pow_succ];generalize 2^(x / 8388608 - 1)=P;generalize 8388608+x % 8388608=Q;rw[←Nat.mul_assoc];omega
theorem V_low {x:Nat}(h:x < 16777216):V single x=x:=by
 unfold V;rw[sbin];by_cases h1:x < 8388608
 ·rw[if_pos h1]
 ·rw[if_neg h1]
  have e2:x / 8388608 - 1=0:=by omega
  rw[e2,Nat.pow_zero,Nat.mul_one];omega
def dbl (x:Nat):Nat:=if x < 8388608 then 2*x else x+8388608
theorem V_dbl (x:Nat):V single (dbl x)=2*V single x:=by
 unfold dbl;by_cases h:x < 8388608
 ·rw[if_pos h,V_low (by omega),V_low (by omega)]
 ·rw[if_neg h,V_up (by omega)]
theorem sdouble {x:Nat}(h0:x≠0)(h:x < 2130706432):single.mul x 1073741824=some (dbl x):=by
 obtain ⟨m,k,h1,h2⟩:=sread (x:=x) (by omega)
 have h3:single.read 1073741824=.number false 8388608 (-22):=by decide
 have hm:m≠0:=by
  intro hm;rw[hm,Nat.zero_mul] at h2;have:=V_lt single (r:=0) (r':=x) (by omega);rw[V_zero] at this;omega
 unfold Format.mul;rw[h1,h3];show some (single.nearest (false ^^ false) (m*8388608) (-149+(k:Int)+ -22))=_;rw[Bool.xor_false];congr 1;have:=nearest_rung false (m:=m*8388608) (r:=dbl x) (p:= -149+(k:Int)+ -22) (Nat.mul_ne_zero hm (by decide)) (by unfold dbl;split <;> omega);rw[V_dbl,←h2] at this;rw[this]
 ·rfl
 ·have e8:(8388608:Nat)=2^23:=by decide
  rw[e8,Nat.mul_assoc,←Nat.pow_add,show 2*(m*2^k)=m*2^(k+1) by rw[Nat.pow_succ];rw[←Nat.mul_assoc m];omega,Nat.mul_assoc,←Nat.pow_add];congr 2;omega
theorem shalve {x y:Nat}(hxy:x=y+8388608)(hlo:16777216≤x)(h:x < 2139095040):single.div x 1073741824=some y:=by
 have h3:single.read 1073741824=.number false 8388608 (-22):=by decide
 have hV:V single x=2*V single y:=by
  rw[hxy];exact V_up (x:=y) (by omega)
 have h1:single.read x=.number false (8388608+x % 8388608) (-149+((x / 8388608 - 1:Nat):Int)):=by
  unfold Format.read;simp only;rw[ssw,sbin,sinf,slp]
  have e1:x / 2147483648 % 2=0:=by omega
  have e2:x % 2147483648=x:=by omega
  rw[e1,e2,if_neg (by omega),if_pos h];rfl
 have h2:(8388608+x % 8388608)*2^(x / 8388608 - 1)=V single x:=by
  unfold V;rw[sbin,if_neg (by omega)]
 unfold Format.div;rw[h1,h3];obtain ⟨m,hme⟩:∃ m,8388608+x % 8388608=m:=⟨_,rfl⟩;obtain ⟨k,hk⟩:∃ k,x / 8388608 - 1=k:=⟨_,rfl⟩
 have hml:8388608≤m:=by omega
 have hmh:m < 16777216:=by omega
 rw[hme,hk]at h2⊢
 have hm0:m≠0:=by omega
 have hM:m.log2=23:=by
  have a1:=(Nat.le_log2 hm0 (k:=23)).2 (by omega);have a2:=log2_small hm0 hmh;omega
 have e0:(8388608:Nat).log2=23:=by decide
 have e1:m <<< (single.fractionBits+2+(8388608:Nat).log2 - m.log2)=8388608*(4*m):=by
  rw[hM,e0,sfb,Nat.shiftLeft_eq];show m*2^25=_;omega
 have e2:8388608*(4*m) / 8388608=4*m:=Nat.mul_div_cancel_left _ (by decide);have e3:8388608*(4*m) % 8388608=0:=Nat.mul_mod_right _ _;unfold Datum.quotient;simp only[show ¬(8388608:Nat)=0 by decide,if_false,Option.map_some];rw[e1,e2,e3,hM,e0,sfb];show some (single.nearest (false ^^ false) (2*(4*m)+0) _)=_;rw[Bool.xor_false];refine congrArg some ?_;have:=nearest_rung false (m:=2*(4*m)+0) (r:=y) (p:= -149+(k:Int) - -22 - ((23+2+23 - 23:Nat):Int) - 1) (by omega) (by omega);rw[this]
 ·rfl
 ·have hk1:1≤k:=by omega
  obtain ⟨j,rfl⟩:∃ j,k=j+1:=⟨k - 1,by omega⟩
  have hv:V single y=m*2^j:=by
   rw[Nat.pow_succ,←Nat.mul_assoc]at h2;omega
  have e8:2*(4*m)+0=m*2^3:=by omega
  have e9:3+(-149+((j+1:Nat):Int) - -22 - ((23+2+23 - 23:Nat):Int) - 1+149).toNat=j+(-149 - (-149+((j+1:Nat):Int) - -22 - ((23+2+23 - 23:Nat):Int) - 1)).toNat:=by omega
  rw[hv,e8,Nat.mul_assoc,←Nat.pow_add,Nat.mul_assoc,←Nat.pow_add,e9]
theorem one_unit:V single 1266679808=16777216*2^149:=by decide +kernel
theorem inf_lt {x:Nat}(h:V single x < 16777216*2^149):x < 1266679808:=by
 rcases Nat.lt_or_ge x 1266679808 with h1 | h1
 ·exact h1
 ·have:=V_le single h1;rw[one_unit] at this;omega
theorem zcut (neg:Bool)(m d:Nat):Toward.zero.cut neg m d=m / 2^d:=by
 unfold Toward.cut;simp only[Bool.toNat_false,Nat.add_zero];rw[gap_eq];rcases Nat.le_total d (m.log2+2) with h | h
 ·rw[Nat.min_eq_left h]
 ·rw[Nat.min_eq_right h];have h1:m < 2^(m.log2+1):=Nat.lt_log2_self;have h2:2^(m.log2+1)≤2^(m.log2+2):=Nat.pow_le_pow_right (by decide) (by omega);have h3:2^(m.log2+2)≤2^d:=Nat.pow_le_pow_right (by decide) h;rw[Nat.div_eq_of_lt (by omega),Nat.div_eq_of_lt (by omega)]
theorem stoInt {x:Nat}(h:x < 1266679808):floatToIntVal .f32 x .i64=some ((V single x / 2^149:Nat):Int):=by
 obtain ⟨m,k,h1,h2⟩:=sread (x:=x) (by omega)
 have hv:V single x < 16777216*2^149:=by
  rw[←one_unit];exact V_lt single h
 have hlt:V single x / 2^149 < 16777216:=Nat.div_lt_of_lt_mul (by rw[Nat.mul_comm];exact hv)
 have e:(FloatKind.f32.decode x).toInt .zero=some ((V single x / 2^149:Nat):Int):=by
  show (single.read x).toInt .zero=_;rw[h1];show some (Ieee.signed false (Toward.zero.cut false (m <<< (-149+(k:Int)).toNat) (-(-149+(k:Int))).toNat) 0)=_;rw[zcut,signed_val,if_neg (by decide),Nat.pow_zero,Nat.mul_one,Nat.shiftLeft_eq,←h2];congr 2;rcases Nat.le_total k 149 with h3 | h3
  ·have e1:(-149+(k:Int)).toNat=0:=by omega
   have e2:(-(-149+(k:Int))).toNat=149 - k:=by omega
   rw[e1,e2,Nat.pow_zero,Nat.mul_one]
   have e3:2^149=2^(149 - k)*2^k:=by rw[←Nat.pow_add];congr 1;omega
   rw[e3,Nat.mul_div_mul_right _ _ (Nat.two_pow_pos k)]
  ·have e1:(-149+(k:Int)).toNat=k - 149:=by omega
   have e2:(-(-149+(k:Int))).toNat=0:=by omega
   rw[e1,e2,Nat.pow_zero,Nat.div_one]
   have e3:2^k=2^(k - 149)*2^149:=by rw[←Nat.pow_add];congr 1;omega
   rw[e3,←Nat.mul_assoc,Nat.mul_div_cancel _ (Nat.two_pow_pos 149)]
 obtain ⟨y,hy⟩:∃ y,V single x / 2^149=y:=⟨_,rfl⟩;rw[hy] at e hlt⊢;unfold floatToIntVal;rw[e]
 have h5:IntKind.i64.min≤(y:Int)∧(y:Int)≤IntKind.i64.max:=by
  have a:IntKind.i64.min= -9223372036854775808:=by decide
  have b:IntKind.i64.max=9223372036854775807:=by decide
  rw[a,b];omega
 simp only;rw[if_pos h5]
theorem sofInt {n:Nat}(h:n < 16777216):∃ r,r < 1266679808∧floatOfInt .f32 (n:Int)=r∧V single r=n*2^149:=by
 have e:floatOfInt .f32 (n:Int)=vol (n:Int) 0:=by
  show single.nearest (decide ((n:Int) < 0)) ((n:Int)).natAbs 0=_;rfl
 obtain ⟨h1,h2⟩:=vol_val (d:=(n:Int)) (s:=0) (by omega) (by omega) (by omega);rw[e];by_cases h0:n=0
 ·subst h0;refine ⟨0,by omega,?_,by rw[V_zero,Nat.zero_mul]⟩;unfold vol Format.nearest;rw[if_pos (by rfl)];rfl
 ·have hsg:vol (n:Int) 0=single.word false (erung single n 0):=by
   unfold vol;rw[decide_eq_false (by omega),Int.natAbs_natCast];exact (snearest false h0 h (by omega) (by omega)).1
  have hv:V single (erung single n 0)=n*2^149:=by
   have hl:=log2_small h0 h;rw[V_erung single h0 (by rw[sfb];omega) (by rw[slp,sfb];omega),sfb,slp,Nat.mul_assoc,←Nat.pow_add];congr 2;omega
  refine ⟨erung single n 0,inf_lt ?_,hsg,hv⟩;rw[hv];exact Nat.mul_lt_mul_of_pos_right h (Nat.two_pow_pos _)
end Go.Proofs.YtbkcjmojgglbkaaGreatDoor.Flo
