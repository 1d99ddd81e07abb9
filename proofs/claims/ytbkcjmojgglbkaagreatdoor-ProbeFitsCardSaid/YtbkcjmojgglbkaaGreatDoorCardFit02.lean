/- Part CardFit02. -/
import Derived.Test.YtbkcjmojgglbkaaGreatDoorCardFit01
namespace Go.Proofs.YtbkcjmojgglbkaaGreatDoor
open Go.RowKit Big
open Go.Lib (hid)
set_option maxRecDepth 100000
set_option maxHeartbeats 8000000
theorem span_big (va vb:Value)(x y:Rat)(w:World)(hx:IsFrac w va x)(hy:IsFrac w vb y)(sx:FB 1800 x)(sy:FB 1800 y)(he:Env w):Calls Tryz.prog 64 #[va,vb] w (SpanPost w x y 0):=by
 obtain ⟨sa,aa,la,ca,ta,ba,ma,na,rfl⟩:=hx.shape;obtain ⟨sb,ab,lb,cb,tb,bb,mb,nb,rfl⟩:=hy.shape;unfold SpanPost spanV rtext;have htx:=fun (W:World) v h hW=>text_calls v x W h (sx.mono (by omega)) hW;have hty:=fun (W:World) v h hW=>text_calls v y W h (sy.mono (by omega)) hW;obtain ⟨X,hX⟩:∃ X:ByteArray,⟨(ratText x).toArray⟩=X:=⟨_,rfl⟩;obtain ⟨Y,hY⟩:∃ Y:ByteArray,⟨(ratText y).toArray⟩=Y:=⟨_,rfl⟩;simp only[hX] at htx;simp only[hY] at hty;rw[hX,hY];have HX:=hid hx;have HY:=hid hy;have SX:=hid sx;have SY:=hid sy;have HE:=hid he;have HTX:=hid htx;have HTY:=hid hty;have HXX:=hid hX;have HYY:=hid hY;clear hx hy sx sy he htx hty hX hY;go_enter Tryz.func64,Tryz.ntmps64;go_wp2_with fail;obtain ⟨BA,BB,BP,HN⟩:=lay3 w 122 #[.int .i64 sa,.slice aa la ca,.int .i64 ta,.slice ba ma na] 122 #[.int .i64 sb,.slice ab lb cb,.int .i64 tb,.slice bb mb nb] 28 #[.string ⟨#[]⟩,.string ⟨#[]⟩];refine (large_calls _ x _ (HX.out.new HN.out) SX.out).mono ?_;rintro e w1 ⟨rfl,hn⟩;replace BA:=bW BA hn;replace BB:=bW BB hn;replace BP:=bW BP hn;replace HN:=tW HN hn;clear hn;obtain ⟨⟨pa0,pa1,pa2,pa3⟩,pa4,pa5,pa6,pa7,pa8⟩:=BA.out.four;obtain ⟨⟨pb0,pb1,pb2,pb3⟩,pb4,pb5,pb6,pb7,pb8⟩:=BB.out.four;go_wp2_with fail;refine (large_calls _ y _ (HY.out.new HN.out) SY.out).mono ?_;rintro e w2 ⟨rfl,hn⟩;clear pa0 pa1 pa2 pa3 pa4 pa5 pa6 pa7 pa8 pb0 pb1 pb2 pb3 pb4 pb5 pb6 pb7 pb8;replace BA:=bW BA hn;replace BB:=bW BB hn;replace BP:=bW BP hn;replace HN:=tW HN hn;clear hn;obtain ⟨⟨pa0,pa1,pa2,pa3⟩,pa4,pa5,pa6,pa7,pa8⟩:=BA.out.four;obtain ⟨⟨pb0,pb1,pb2,pb3⟩,pb4,pb5,pb6,pb7,pb8⟩:=BB.out.four;go_wp2_with fail;clear pa0 pa1 pa2 pa3 pa4 pa5 pa6 pa7 pa8;clear pb0 pb1 pb2 pb3 pb4 pb5 pb6 pb7 pb8;refine wp_region_T 5 (fun W=>(W.cell? ⟨w.heap.size,0,none⟩=some (.int .i64 sa)∧W.cell? ⟨w.heap.size,1,none⟩=some (.slice aa la ca)∧W.cell? ⟨w.heap.size,2,none⟩=some (.int .i64 ta)∧W.cell? ⟨w.heap.size,3,none⟩=some (.slice ba ma na))∧(W.cell? ⟨w.heap.size+1,0,none⟩=some (.int .i64 sb)∧W.cell? ⟨w.heap.size+1,1,none⟩=some (.slice ab lb cb)∧W.cell? ⟨w.heap.size+1,2,none⟩=some (.int .i64 tb)∧W.cell? ⟨w.heap.size+1,3,none⟩=some (.slice bb mb nb))) 7 #[false,false,false,false,false,false,false] rfl (by kernel_rfl) (by kernel_rfl) ?_;refine tk 0 (by exact ⟨cW4 BA,cW4 BB⟩) ?_
 try simp only[PT]
 refine tk 2 (by exact ⟨cW4 BA,cW4 BB⟩) ?_
 try simp only[PT]
 refine tk1 1 fun K hK=>?_;go_simp;refine (HTX.out _ _ (HX.out.new HN.out.drew) (HE.out.new HN.out.drew)).mono ?_;rintro e w3 ⟨rfl,hn⟩;have hn:=hn.undrew;replace BA:=bW BA hn;replace BB:=bW BB hn;replace BP:=bW BP hn;replace HN:=tW HN hn;clear hn;refine hK.out _ _ (fun _=>⟨cW4 BA,cW4 BB⟩) ?_;clear hK K
 try simp only[PT]
 refine tk1 3 fun K hK=>?_;go_simp;refine (HTY.out _ _ (HY.out.new HN.out) (HE.out.new HN.out)).mono ?_;rintro e w4 ⟨rfl,hn⟩;replace BA:=bW BA hn;replace BB:=bW BB hn;replace BP:=bW BP hn;replace HN:=tW HN hn;clear hn;refine hK.out _ _ (fun _=>⟨cW4 BA,cW4 BB⟩) ?_;clear hK K
 try simp only[PT]
 refine tk 4 (by exact ⟨cW4 BA,cW4 BB⟩) ?_
 try simp only[PT]
 refine tlW ?_;obtain ⟨⟨pa0,pa1,pa2,pa3⟩,pa4,pa5,pa6,pa7,pa8⟩:=BA.out.four;obtain ⟨⟨pb0,pb1,pb2,pb3⟩,pb4,pb5,pb6,pb7,pb8⟩:=BB.out.four;obtain ⟨p0,p1,p2,p3,p4⟩:=BP.out.two;go_wp2_with fail;refine bodyPost_ret (v:=.tuple #[.agg #[.string X,.string Y],.int .i64 0]) (by simp[results,Tryz.results64,go_sem,p0,p1]) rfl ?_;exact ⟨rfl,HN.out.putAt BP.out (by omega) _ _⟩
theorem true_big (adc:Value) (b s z:Int) (g o:ByteArray) (code:Int) (x y qg qo:Rat) (bx:FB 1000 x) (by':FB 1000 y) (sx:FB 1800 (x*qg+qo)) (sy:FB 1800 (y*qg+qo)) (w:World) (he:Env w) (hadc:adc=.agg #[.int .i64 b,.int .i64 s,.int .i64 z,.string g,.string o])
  (hg:g.data.toList=ratText qg) (fg:FB 2000 qg) (gl:g.size≤100000) (ho:o.data.toList=ratText qo) (fo:FB 2000 qo) (ol:o.size≤100000)
  (hen:∀ W,Env W→Calls Tryz.prog 88 #[adc,.int .i64 code] W (EndsPost W x y 0)):
  Calls Tryz.prog 22 #[adc,.int .i64 code] w (SpanPost w (x*qg+qo) (y*qg+qo) 0):=by
 subst hadc;have hsp:=fun (W:World) va vb h1 h2 hW=>span_big va vb (x*qg+qo) (y*qg+qo) W h1 h2 sx sy hW;unfold SpanPost spanV at hsp⊢;obtain ⟨X,hX⟩:∃ X,rtext (x*qg+qo)=X:=⟨_,rfl⟩;obtain ⟨Y,hY⟩:∃ Y,rtext (y*qg+qo)=Y:=⟨_,rfl⟩;rw[hX,hY] at hsp⊢;clear hX hY;have hc:=fun va q W B (hW:Env W) (h1:IsFrac W va q) (h2:FB 1000 q) hb=>true1_calls va q 1000 B 32 b s z g o qg qo W hW h1 h2 (Nat.le_refl _) hb hg fg gl ho fo ol;have HEN:=hid hen;have HE:=hid he;have HSP:=hid hsp;have HC:=hid hc;have BX:=hid bx;have BY:=hid by';clear hen he hsp hc bx by';clear sx sy hg fg gl ho fo ol;go_enter Tryz.func22,Tryz.ntmps22;go_wp2_with fail;obtain ⟨BA,BP,HN⟩:=lay2 w 32 #[.int .i64 b,.int .i64 s,.int .i64 z,.string g,.string o] 28 #[.string ⟨#[]⟩,.string ⟨#[]⟩];refine (HEN.out _ (HE.out.new HN.out)).mono ?_;rintro e w1 ⟨v1,v2,rfl,hn,hf,hf2⟩;obtain ⟨s5,a5,l5,k5,t5,b5,m5,n5,rfl⟩:=hf.shape;obtain ⟨s6,a6,l6,k6,t6,b6,m6,n6,rfl⟩:=hf2.shape;have HF1:=hid hf;have HF2:=hid hf2;clear hf hf2;replace BA:=bW BA hn;replace BP:=bW BP hn;replace HN:=tW HN hn;clear hn;go_wp2_with fail;have HN0:=HN;clear HN;obtain ⟨BG,BH,HN⟩:=lay2 w1 122 #[.int .i64 s5,.slice a5 l5 k5,.int .i64 t5,.slice b5 m5 n5] 122 #[.int .i64 s6,.slice a6 l6 k6,.int .i64 t6,.slice b6 m6 n6];replace BA:=hid (BA.out.new HN.out);replace BP:=hid (BP.out.new HN.out);replace HF1:=hid (HF1.out.new HN.out);replace HF2:=hid (HF2.out.new HN.out);have HN_:=HN0.out.trans HN.out;clear HN HN0;have HN:=hid HN_;clear HN_;obtain ⟨⟨g0,g1,g2,g3⟩,g4,g5,g6,g7,g8⟩:=BG.out.four;obtain ⟨⟨h0,h1,h2,h3⟩,h4,h5,h6,h7,h8⟩:=BH.out.four;clear g0 g1 g2 g3 g4 g5 g6 g7 g8;clear h0 h1 h2 h3 h4 h5 h6 h7 h8;refine wp_region_T 9 (fun W=>(W.cell? ⟨w1.heap.size,0,none⟩=some (.int .i64 s5)∧W.cell? ⟨w1.heap.size,1,none⟩=some (.slice a5 l5 k5)∧W.cell? ⟨w1.heap.size,2,none⟩=some (.int .i64 t5)∧W.cell? ⟨w1.heap.size,3,none⟩=some (.slice b5 m5 n5))∧(W.cell? ⟨w1.heap.size+1,0,none⟩=some (.int .i64 s6)∧W.cell? ⟨w1.heap.size+1,1,none⟩=some (.slice a6 l6 k6)∧W.cell? ⟨w1.heap.size+1,2,none⟩=some (.int .i64 t6)∧W.cell? ⟨w1.heap.size+1,3,none⟩=some (.slice b6 m6 n6))) 11 #[false,false,false,false,false,false,false,false,false,false,false] rfl (by kernel_rfl) (by kernel_rfl) ?_;refine tk 0 (by exact ⟨cW4 BG,cW4 BH⟩) ?_
 try simp only[PT]
 refine tk 1 (by exact ⟨cW4 BG,cW4 BH⟩) ?_
 try simp only[PT]
 refine tk 3 (by exact ⟨cW4 BG,cW4 BH⟩) ?_
 try simp only[PT]
 refine tk 4 (by exact ⟨cW4 BG,cW4 BH⟩) ?_
 try simp only[PT]
 refine tk1 2 fun K hK=>?_;go_simp;refine (HC.out _ x _ _ (HE.out.new HN.out.drew) (HF1.out.new (New.refl _).drew) BX.out (BA.out.new (New.refl _).drew)).mono ?_;rintro e w2 ⟨v3,rfl,hn,hf⟩;have hn:=hn.undrew;clear HF1;have HF3:=hid hf;clear hf;replace HF2:=hid (HF2.out.new hn);replace BA:=bW BA hn;replace BP:=bW BP hn;replace BG:=bW BG hn;replace BH:=bW BH hn;replace HN:=tW HN hn;clear hn;refine hK.out _ _ (fun _=>⟨cW4 BG,cW4 BH⟩) ?_;clear hK K
 try simp only[PT]
 refine tk1 5 fun K hK=>?_;go_simp;refine (HC.out _ y _ _ (HE.out.new HN.out) HF2.out BY.out BA.out).mono ?_;rintro e w3 ⟨v4,rfl,hn,hf⟩;clear HF2;have HF4:=hid hf;clear hf;replace HF3:=hid (HF3.out.new hn);replace BA:=bW BA hn;replace BP:=bW BP hn;replace BG:=bW BG hn;replace BH:=bW BH hn;replace HN:=tW HN hn;clear hn;refine hK.out _ _ (fun _=>⟨cW4 BG,cW4 BH⟩) ?_;clear hK K
 try simp only[PT]
 refine tk1 6 fun K hK=>?_;go_simp;refine (HSP.out _ _ _ HF3.out HF4.out (HE.out.new HN.out)).mono ?_;rintro e w4 ⟨rfl,hn⟩;clear HF3 HF4;replace BA:=bW BA hn;replace BP:=bW BP hn;replace BG:=bW BG hn;replace BH:=bW BH hn;replace HN:=tW HN hn;clear hn;refine hK.out _ _ (fun _=>⟨cW4 BG,cW4 BH⟩) ?_;clear hK K
 try simp only[PT]
 refine tk 7 (by exact ⟨cW4 BG,cW4 BH⟩) ?_
 try simp only[PT]
 refine tk 8 (by exact ⟨cW4 BG,cW4 BH⟩) ?_
 try simp only[PT]
 refine tlW ?_;obtain ⟨⟨g0,g1,g2,g3⟩,g4,g5,g6,g7,g8⟩:=BG.out.four;obtain ⟨⟨h0,h1,h2,h3⟩,h4,h5,h6,h7,h8⟩:=BH.out.four;obtain ⟨p0,p1,p2,p3,p4⟩:=BP.out.two;go_wp2_with fail;refine bodyPost_ret (v:=.tuple #[.agg #[.string X,.string Y],.int .i64 0]) (by simp[results,Tryz.results22,go_sem,p0,p1]) rfl ?_;exact ⟨rfl,HN.out.putAt BP.out (by omega) _ _⟩
abbrev adcF (b s z:Int)(g o:ByteArray):Value:=.agg #[.int .i64 b,.int .i64 s,.int .i64 z,.string g,.string o]
abbrev mkF (c:Int)(t:ByteArray):Value:=.agg #[.int .i64 c,.string t]
abbrev BackF (w:World)(v:Value)(e:Ending)(w':World):Prop:=e=.returned v∧New w w'
def FitEl (EV:World→Prop)(b s z:Int)(g o tg tof:ByteArray)(c:Int)(t:ByteArray):Prop:=
 (∀ W,EV W→Calls Tryz.prog 22 #[adcF b s z tg tof,.int .i64 c] W (BackF W (.tuple #[.agg #[.string ⟨#[]⟩,.string ⟨#[]⟩],.int .i64 15])))∨
 ∃ L H S D U:ByteArray,(∀ W,EV W→Calls Tryz.prog 22 #[adcF b s z tg tof,.int .i64 c] W (BackF W (.tuple #[.agg #[.string L,.string H],.int .i64 0])))∧
  (∀ W,Calls Tryz.prog 44 #[.agg #[.string L,.string H]] W (BackF W (.int .i64 0)))∧
  (∀ W,Calls Tryz.prog 54 #[.string L,.string H] W (BackF W (.string S)))∧
  (∀ W,Calls Tryz.prog 45 #[.string S] W (BackF W (.string t)))∧
  (∀ W,Calls Tryz.prog 52 #[.string H,.string L] W (BackF W (.string D)))∧
  (∀ W,Calls Tryz.prog 46 #[adcF b s z g o] W (BackF W (.string U)))∧
  (∀ W,Calls Tryz.prog 55 #[.string tg,.string U] W (BackF W (.string D)))∧
  (0≤c∧c≤4095)∧
  ((∀ W,EV W→Calls Tryz.prog 22 #[adcF b s z tg tof,.int .i64 (c+1)] W (BackF W (.tuple #[.agg #[.string ⟨#[]⟩,.string ⟨#[]⟩],.int .i64 15])))∨
   ∃ H2:ByteArray,∀ W,EV W→Calls Tryz.prog 22 #[adcF b s z tg tof,.int .i64 (c+1)] W (BackF W (.tuple #[.agg #[.string H,.string H2],.int .i64 0])))
def FitAll (EV:World→Prop)(b s z c1 c2:Int)(g o t1 t2:ByteArray):Prop:=
 (∃ n:Int,(n=3∨n=9)∧∀ W,EV W→Calls Tryz.prog 40 #[adcF b s z g o,mkF c1 t1,mkF c2 t2] W (BackF W (.tuple #[.agg #[.int .i64 0,.int .i64 0,.int .i64 0,.string ⟨#[]⟩,.string ⟨#[]⟩],.int .i64 n])))∨
 ∃ tg tof:ByteArray,(∀ W,EV W→Calls Tryz.prog 40 #[adcF b s z g o,mkF c1 t1,mkF c2 t2] W (BackF W (.tuple #[adcF b s z tg tof,.int .i64 0])))∧
  (∀ W,Calls Tryz.prog 14 #[adcF b s z tg tof] W (BackF W (.int .i64 0)))∧FitEl EV b s z g o tg tof c1 t1∧FitEl EV b s z g o tg tof c2 t2
end Go.Proofs.YtbkcjmojgglbkaaGreatDoor
