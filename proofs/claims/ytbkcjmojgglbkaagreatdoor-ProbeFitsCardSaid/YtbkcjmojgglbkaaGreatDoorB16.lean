/- Part B16. -/
import Derived.Test.YtbkcjmojgglbkaaGreatDoorB15
namespace Go.Proofs.YtbkcjmojgglbkaaGreatDoor
open Go.RowKit Big
open Go.Lib (hid)
set_option maxRecDepth 100000
set_option maxHeartbeats 8000000
theorem ten_le (k a b:Nat)(ha:a=6*k)(hb:b=20*k):(10:Nat)^a≤2^b:=by
 subst ha hb;rw[Nat.pow_mul,Nat.pow_mul];exact Nat.pow_le_pow_left (by decide) k
theorem Fits.fb {q:Rat}(h:Fits q):FB 2000 q:=by
 have h1:=Fits.iff.1 h;have h2:(10:Nat)^600≤2^2000:=ten_le 100 600 2000 rfl rfl
 have h3:∀ M:Nat,q.den < M→((q.den:Int)).natAbs < M:=fun M h=>by simpa using h
 exact ⟨Nat.lt_of_lt_of_le h1.1 h2,Nat.lt_of_lt_of_le (h3 _ h1.2) h2⟩
theorem true1_calls (va:Value) (x:Rat) (k:Nat) (B:Nat) (t:TypeId) (b s z:Int) (g o:ByteArray) (qg qo:Rat) (w:World) (he:Env w) (hx:IsFrac w va x) (bx:FB k x) (hk:k≤1000) (hb:Box w B t #[.int .i64 b,.int .i64 s,.int .i64 z,.string g,.string o])
  (hg:g.data.toList=ratText qg) (fg:FB 2000 qg) (gl:g.size≤100000) (ho:o.data.toList=ratText qo) (fo:FB 2000 qo) (ol:o.size≤100000):
  Calls Tryz.prog 89 #[va,.pointer (some ⟨B,0,none⟩)] w (FracPost w (x*qg+qo)):=by
 obtain ⟨sa,aa,la,ca,ta,ba,ma,na,rfl⟩:=hx.shape;have hB:=hb.lt;have fm:=bx.mul fg;obtain ⟨m,hm⟩:∃ m,x*qg=m:=⟨_,rfl⟩;obtain ⟨r,hr⟩:∃ r,m+qo=r:=⟨_,rfl⟩;rw[hm] at fm⊢;rw[hr];have HE:=hid he;have HX:=hid hx;have BX:=hid bx;have HK:=hid hk;have HB:=hid hb;have HG:=hid hg;have FG:=hid fg;have GL:=hid gl;have HO:=hid ho;have FO:=hid fo;have OL:=hid ol;have HM:=hid hm;have HR:=hid hr;have FM:=hid fm;clear he hx bx hk hb hg fg gl ho fo ol hm hr fm;go_enter Tryz.func89,Tryz.ntmps89;go_wp2_with fail;obtain ⟨BC,BP,HN⟩:=lay2 w 122 #[.int .i64 sa,.slice aa la ca,.int .i64 ta,.slice ba ma na] 122 #[.int .i64 0,.slice none 0 0,.int .i64 0,.slice none 0 0];have BA_:=HB.out.new HN.out;clear HB;have BA:=hid BA_;clear BA_;obtain ⟨⟨pa0,pa1,pa2,pa3,pa4⟩,pa5⟩:=BA.out.five;obtain ⟨⟨g0,g1,g2,g3⟩,g4,g5,g6,g7,g8⟩:=BC.out.four;clear pa0 pa1 pa2 pa3 pa4 pa5;clear g0 g1 g2 g3 g4 g5 g6 g7 g8;refine wp_region_T 9 (fun W=>(W.cell? ⟨B,0,none⟩=some (.int .i64 b)∧W.cell? ⟨B,1,none⟩=some (.int .i64 s)∧W.cell? ⟨B,2,none⟩=some (.int .i64 z)∧W.cell? ⟨B,3,none⟩=some (.string g)∧W.cell? ⟨B,4,none⟩=some (.string o))∧(W.cell? ⟨w.heap.size,0,none⟩=some (.int .i64 sa)∧W.cell? ⟨w.heap.size,1,none⟩=some (.slice aa la ca)∧W.cell? ⟨w.heap.size,2,none⟩=some (.int .i64 ta)∧W.cell? ⟨w.heap.size,3,none⟩=some (.slice ba ma na))) 10 #[false,false,false,false,false,false,false,false,false,false] rfl (by kernel_rfl) (by kernel_rfl) ?_;refine tk 0 (by exact ⟨cW5 BA,cW4 BC⟩) ?_
 try simp only[PT]
 refine tk 1 (by exact ⟨cW5 BA,cW4 BC⟩) ?_
 try simp only[PT]
 refine tk 2 (by exact ⟨cW5 BA,cW4 BC⟩) ?_
 try simp only[PT]
 refine tk 5 (by exact ⟨cW5 BA,cW4 BC⟩) ?_
 try simp only[PT]
 refine tk 6 (by exact ⟨cW5 BA,cW4 BC⟩) ?_
 try simp only[PT]
 refine tk1 3 fun K hK=>?_;go_simp;refine (from_calls g qg _ (HE.out.new HN.out.drew) HG.out (by have:=GL.out;omega)).mono ?_;rintro e w1 ⟨v1,rfl,hn,hf⟩;have hn:=hn.undrew;have HF1:=hid hf;clear hf;replace BA:=bW BA hn;replace BC:=bW BC hn;replace BP:=bW BP hn;replace HN:=tW HN hn;clear hn;refine hK.out _ _ (fun _=>⟨cW5 BA,cW4 BC⟩) ?_;clear hK K
 try simp only[PT]
 refine tk1 4 fun K hK=>?_;go_simp;refine (fmul_calls _ _ x qg k 2000 _ (HX.out.new HN.out) HF1.out BX.out FG.out (by have:=HK.out;omega)).mono ?_;rintro e w2 ⟨v2,rfl,hn,hf⟩;rw[HM.out] at hf;clear HF1;have HF2:=hid hf;clear hf;replace BA:=bW BA hn;replace BC:=bW BC hn;replace BP:=bW BP hn;replace HN:=tW HN hn;clear hn;refine hK.out _ _ (fun _=>⟨cW5 BA,cW4 BC⟩) ?_;clear hK K
 try simp only[PT]
 refine tk1 7 fun K hK=>?_;go_simp;refine (from_calls o qo _ (HE.out.new HN.out) HO.out (by have:=OL.out;omega)).mono ?_;rintro e w3 ⟨v3,rfl,hn,hf⟩;have HF3:=hid hf;clear hf;replace HF2:=hid (HF2.out.new hn);replace BA:=bW BA hn;replace BC:=bW BC hn;replace BP:=bW BP hn;replace HN:=tW HN hn;clear hn;refine hK.out _ _ (fun _=>⟨cW5 BA,cW4 BC⟩) ?_;clear hK K
 try simp only[PT]
 refine tk1 8 fun K hK=>?_;go_simp;refine (fadd_calls _ _ m qo (k+2000) 2000 _ HF2.out HF3.out FM.out FO.out (by have:=HK.out;omega)).mono ?_;rintro e w4 ⟨v4,rfl,hn,hf⟩;rw[HR.out] at hf;clear HF2 HF3;obtain ⟨s9,a9,l9,k9,t9,b9,m9,n9,rfl⟩:=hf.shape;have HF:=hid hf;clear hf;replace BA:=bW BA hn;replace BC:=bW BC hn;replace BP:=bW BP hn;replace HN:=tW HN hn;clear hn;refine hK.out _ _ (fun _=>⟨cW5 BA,cW4 BC⟩) ?_;clear hK K
 try simp only[PT]
 refine tlW ?_;obtain ⟨⟨pa0,pa1,pa2,pa3,pa4⟩,pa5⟩:=BA.out.five;obtain ⟨⟨g0,g1,g2,g3⟩,g4,g5,g6,g7,g8⟩:=BC.out.four;obtain ⟨⟨p0,p1,p2,p3⟩,p4,p5,p6,p7,p8⟩:=BP.out.four;go_wp2_with fail;refine bodyPost_ret (v:=.agg #[.int .i64 s9,.slice a9 l9 k9,.int .i64 t9,.slice b9 m9 n9]) (by simp[results,Tryz.results89,go_sem,p0,p1,p2,p3]) rfl ?_;exact frac_ret HN.out BP.out (by omega) HF.out.parts.1 HF.out.parts.2
theorem true_mid (adc:Value) (b s z:Int) (g o:ByteArray) (code:Int) (x y qg qo:Rat) (bx:FB 1000 x) (by':FB 1000 y) (sx:SmF (x*qg+qo)) (sy:SmF (y*qg+qo)) (w:World) (he:Env w) (hadc:adc=.agg #[.int .i64 b,.int .i64 s,.int .i64 z,.string g,.string o])
  (hg:g.data.toList=ratText qg) (fg:FB 2000 qg) (gl:g.size≤100000) (ho:o.data.toList=ratText qo) (fo:FB 2000 qo) (ol:o.size≤100000)
  (hen:∀ W,Env W→Calls Tryz.prog 88 #[adc,.int .i64 code] W (EndsPost W x y 0)):
  Calls Tryz.prog 22 #[adc,.int .i64 code] w (SpanPost w (x*qg+qo) (y*qg+qo) 0):=by
 subst hadc;have hsp:=fun (W:World) va vb h1 h2 hW=>span_calls va vb (x*qg+qo) (y*qg+qo) W h1 h2 sx sy hW;unfold SpanPost spanV at hsp⊢;obtain ⟨X,hX⟩:∃ X,rtext (x*qg+qo)=X:=⟨_,rfl⟩;obtain ⟨Y,hY⟩:∃ Y,rtext (y*qg+qo)=Y:=⟨_,rfl⟩;rw[hX,hY] at hsp⊢;clear hX hY;have hc:=fun va q W B (hW:Env W) (h1:IsFrac W va q) (h2:FB 1000 q) hb=>true1_calls va q 1000 B 32 b s z g o qg qo W hW h1 h2 (Nat.le_refl _) hb hg fg gl ho fo ol;have HEN:=hid hen;have HE:=hid he;have HSP:=hid hsp;have HC:=hid hc;have BX:=hid bx;have BY:=hid by';clear hen he hsp hc bx by';clear sx sy hg fg gl ho fo ol;go_enter Tryz.func22,Tryz.ntmps22;go_wp2_with fail;obtain ⟨BA,BP,HN⟩:=lay2 w 32 #[.int .i64 b,.int .i64 s,.int .i64 z,.string g,.string o] 28 #[.string ⟨#[]⟩,.string ⟨#[]⟩];refine (HEN.out _ (HE.out.new HN.out)).mono ?_;rintro e w1 ⟨v1,v2,rfl,hn,hf,hf2⟩;obtain ⟨s5,a5,l5,k5,t5,b5,m5,n5,rfl⟩:=hf.shape;obtain ⟨s6,a6,l6,k6,t6,b6,m6,n6,rfl⟩:=hf2.shape;have HF1:=hid hf;have HF2:=hid hf2;clear hf hf2;replace BA:=bW BA hn;replace BP:=bW BP hn;replace HN:=tW HN hn;clear hn;go_wp2_with fail;have HN0:=HN;clear HN;obtain ⟨BG,BH,HN⟩:=lay2 w1 122 #[.int .i64 s5,.slice a5 l5 k5,.int .i64 t5,.slice b5 m5 n5] 122 #[.int .i64 s6,.slice a6 l6 k6,.int .i64 t6,.slice b6 m6 n6];replace BA:=hid (BA.out.new HN.out);replace BP:=hid (BP.out.new HN.out);replace HF1:=hid (HF1.out.new HN.out);replace HF2:=hid (HF2.out.new HN.out);have HN_:=HN0.out.trans HN.out;clear HN HN0;have HN:=hid HN_;clear HN_;obtain ⟨⟨g0,g1,g2,g3⟩,g4,g5,g6,g7,g8⟩:=BG.out.four;obtain ⟨⟨h0,h1,h2,h3⟩,h4,h5,h6,h7,h8⟩:=BH.out.four;clear g0 g1 g2 g3 g4 g5 g6 g7 g8;clear h0 h1 h2 h3 h4 h5 h6 h7 h8;refine wp_region_T 9 (fun W=>(W.cell? ⟨w1.heap.size,0,none⟩=some (.int .i64 s5)∧W.cell? ⟨w1.heap.size,1,none⟩=some (.slice a5 l5 k5)∧W.cell? ⟨w1.heap.size,2,none⟩=some (.int .i64 t5)∧W.cell? ⟨w1.heap.size,3,none⟩=some (.slice b5 m5 n5))∧(W.cell? ⟨w1.heap.size+1,0,none⟩=some (.int .i64 s6)∧W.cell? ⟨w1.heap.size+1,1,none⟩=some (.slice a6 l6 k6)∧W.cell? ⟨w1.heap.size+1,2,none⟩=some (.int .i64 t6)∧W.cell? ⟨w1.heap.size+1,3,none⟩=some (.slice b6 m6 n6))) 11 #[false,false,false,false,false,false,false,false,false,false,false] rfl (by kernel_rfl) (by kernel_rfl) ?_;refine tk 0 (by exact ⟨cW4 BG,cW4 BH⟩) ?_
 try simp only[PT]
 refine tk 1 (by exact ⟨cW4 BG,cW4 BH⟩) ?_
 try simp only[PT]
 refine tk 3 (by exact ⟨cW4 BG,cW4 BH⟩) ?_
 try simp only[PT]
 refine tk 4 (by exact ⟨cW4 BG,cW4 BH⟩) ?_
 try simp only[PT]
 refine tk1 2 fun K hK=>?_;go_simp;refine (HC.out _ x _ _ (HE.out.new HN.out.drew) (HF1.out.new (New.refl _).drew) BX.out (BA.out.new (New.refl _).drew)).mono ?_;rintro e w2 ⟨v3,rfl,hn,hf⟩;have hn:=hn.undrew;clear HF1;have HF3:=hid hf;clear hf;replace HF2:=hid (HF2.out.new hn);replace BA:=bW BA hn;replace BP:=bW BP hn;replace BG:=bW BG hn;replace BH:=bW BH hn;replace HN:=tW HN hn;clear hn;refine hK.out _ _ (fun _=>⟨cW4 BG,cW4 BH⟩) ?_;clear hK K
 try simp only[PT]
 refine tk1 5 fun K hK=>?_;go_simp;refine (HC.out _ y _ _ (HE.out.new HN.out) HF2.out BY.out BA.out).mono ?_;rintro e w3 ⟨v4,rfl,hn,hf⟩;clear HF2;have HF4:=hid hf;clear hf;replace HF3:=hid (HF3.out.new hn);replace BA:=bW BA hn;replace BP:=bW BP hn;replace BG:=bW BG hn;replace BH:=bW BH hn;replace HN:=tW HN hn;clear hn;refine hK.out _ _ (fun _=>⟨cW4 BG,cW4 BH⟩) ?_;clear hK K
 try simp only[PT]
 refine tk1 6 fun K hK=>?_;go_simp;refine (HSP.out _ _ _ HF3.out HF4.out (HE.out.new HN.out)).mono ?_;rintro e w4 ⟨rfl,hn⟩;clear HF3 HF4;replace BA:=bW BA hn;replace BP:=bW BP hn;replace BG:=bW BG hn;replace BH:=bW BH hn;replace HN:=tW HN hn;clear hn;refine hK.out _ _ (fun _=>⟨cW4 BG,cW4 BH⟩) ?_;clear hK K
 try simp only[PT]
 refine tk 7 (by exact ⟨cW4 BG,cW4 BH⟩) ?_
 try simp only[PT]
 refine tk 8 (by exact ⟨cW4 BG,cW4 BH⟩) ?_
 try simp only[PT]
 refine tlW ?_;obtain ⟨⟨g0,g1,g2,g3⟩,g4,g5,g6,g7,g8⟩:=BG.out.four;obtain ⟨⟨h0,h1,h2,h3⟩,h4,h5,h6,h7,h8⟩:=BH.out.four;obtain ⟨p0,p1,p2,p3,p4⟩:=BP.out.two;go_wp2_with fail;refine bodyPost_ret (v:=.tuple #[.agg #[.string X,.string Y],.int .i64 0]) (by simp[results,Tryz.results22,go_sem,p0,p1]) rfl ?_;exact ⟨rfl,HN.out.putAt BP.out (by omega) _ _⟩
end Go.Proofs.YtbkcjmojgglbkaaGreatDoor
