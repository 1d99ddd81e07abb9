/- Part A21. -/
import Derived.Test.YtnjonlnemagomaaGreatDoorA20
namespace Go.Proofs.YtnjonlnemagomaaGreatDoor
open Go.RowKit Big
open Go.Lib (hid)
set_option maxRecDepth 100000
set_option maxHeartbeats 8000000
structure FVal where
 s:Int
 a:Option Addr
 l:Nat
 c:Nat
 t:Int
 d:Option Addr
 m:Nat
 k:Nat
abbrev FVal.cells (v:FVal):List Value:=[.int .i64 v.s,.slice v.a v.l v.c,.int .i64 v.t,.slice v.d v.m v.k]
abbrev FVal.val (v:FVal):Value:=.agg #[.int .i64 v.s,.slice v.a v.l v.c,.int .i64 v.t,.slice v.d v.m v.k]
def Fr4 (w:World)(g:Nat)(f0 f1 f2 f3:FVal):Prop:=∀ j u,(f0.cells ++ f1.cells ++ f2.cells ++ f3.cells)[j]?=some u→w.cell? ⟨g,j,none⟩=some u
theorem Fr4.new {w w':World}{g:Nat}{f0 f1 f2 f3:FVal}(h:Fr4 w g f0 f1 f2 f3)(hn:New w w'):Fr4 w' g f0 f1 f2 f3:=fun j u hu=>hn.cell (h j u hu)
def minR (x y:Rat):Rat:=if y < x then y else x
def maxR (x y:Rat):Rat:=if x < y then y else x
theorem Box.other4w {w:World}{B B':Nat}{t:TypeId}{cs:Array Value}(h:Box w B t cs)(hp:B'≠B)(u u' v v':Value):Box ((((w.setCell ⟨B',0,none⟩ u).setCell ⟨B',1,none⟩ u').setCell ⟨B',2,none⟩ v).setCell ⟨B',3,none⟩ v') B t cs:=
 (((h.other (p:=⟨B',0,none⟩) hp u).other (p:=⟨B',1,none⟩) hp u').other (p:=⟨B',2,none⟩) hp v).other (p:=⟨B',3,none⟩) hp v'
def MinRel (w wr:World)(M:Nat)(q:Rat):Prop:=New w wr∧Box wr w.heap.size 115 #[.int .i64 0,.slice none 0 0,.int .i64 0,.slice none 0 0]∧∃ f:FVal,Box wr M 115 #[.int .i64 f.s,.slice f.a f.l f.c,.int .i64 f.t,.slice f.d f.m f.k]∧IsFrac wr f.val q
theorem minFunc_four (g cap:Nat)(f0 f1 f2 f3:FVal)(q0 q1 q2 q3:Rat)(kb:Nat)(w:World)(hF:Fr4 w g f0 f1 f2 f3)(h0:IsFrac w f0.val q0)(h1:IsFrac w f1.val q1)(h2:IsFrac w f2.val q2)(h3:IsFrac w f3.val q3)(b0:FB kb q0)(b1:FB kb q1)(b2:FB kb q2)(b3:FB kb q3)(hk:kb≤20000000):
  Calls Tryz.prog 201 #[.slice (some ⟨g,0,none⟩) 4 cap,.func (.func 90) #[] #[]] w (FracPost w (minR (minR (minR q0 q1) q2) q3)):=by
 have hcm:=fun va vb p q W h1 h2 bp bq=>fcmp_calls va vb p q kb kb W h1 h2 bp bq (by omega);unfold SignPost at hcm;obtain ⟨m1,hm1⟩:∃ x,minR q0 q1=x:=⟨_,rfl⟩;obtain ⟨m2,hm2⟩:∃ x,minR m1 q2=x:=⟨_,rfl⟩;obtain ⟨m3,hm3⟩:∃ x,minR m2 q3=x:=⟨_,rfl⟩
 have key:∀ {x y z:Rat},minR x y=z→FB kb x→FB kb y→FB kb z:=fun {x y z} e hx hy=>by
  rw[←e];unfold minR;split
  ·exact hy
  ·exact hx
 have d1:=key hm1 b0 b1;have d2:=key hm2 d1 b2;rw[hm1,hm2,hm3];clear key hk;have HF:=hid hF;have H0:=hid h0;have H1:=hid h1;have H2:=hid h2;have H3:=hid h3;have B0:=hid b0;have B1:=hid b1;have B2:=hid b2;have B3:=hid b3;have D1:=hid d1;have D2:=hid d2;have HCM:=hid hcm;have HM1:=hid hm1;have HM2:=hid hm2;have HM3:=hid hm3;clear hF h0 h1 h2 h3 b0 b1 b2 b3 d1 d2 hcm hm1 hm2 hm3;go_enter Tryz.func201,Tryz.ntmps201;go_upto_region 1 with (fail);obtain ⟨BP,HN⟩:=lay1 w 115 #[.int .i64 0,.slice none 0 0,.int .i64 0,.slice none 0 0];obtain ⟨w8,hw8⟩:∃ u,w.alloc (.cells #[.int .i64 0,.slice none 0 0,.int .i64 0,.slice none 0 0] 115)=u:=⟨_,rfl⟩;rw[hw8] at BP HN⊢;clear hw8;have c0:=HN.out.cell (HF.out 0 _ rfl);have c1:=HN.out.cell (HF.out 1 _ rfl);have c2:=HN.out.cell (HF.out 2 _ rfl);have c3:=HN.out.cell (HF.out 3 _ rfl);go_upto_region 4 with (fail);clear c0 c1 c2 c3;have LM:=hid HN.out.size;have LM2:=hid BP.out.lt;have HN0:=HN;clear HN;obtain ⟨BM,HN⟩:=lay1 w8 115 #[.int .i64 f0.s,.slice f0.a f0.l f0.c,.int .i64 f0.t,.slice f0.d f0.m f0.k];replace BP:=hid (BP.out.new HN.out);have HN_:=HN0.out.trans HN.out;clear HN HN0;have HN:=hid HN_;clear HN_;obtain ⟨M,hM⟩:∃ u,w8.heap.size=u:=⟨_,rfl⟩;rw[hM] at BM LM LM2⊢;clear hM;have hst:MinRel w _ M q0:=⟨HN.out,BP.out,f0,BM.out,H0.out.new HN.out⟩;clear BM BP HN;have HS:=hid hst;clear hst;go_wp2_with fail;go_loopw [6] (fun i wr=>∃ k:Nat,i=.int .i64 (k:Int)∧Hid ((k=1∧MinRel w wr M q0)∨(k=2∧MinRel w wr M m1)∨(k=3∧MinRel w wr M m2)∨(k=4∧MinRel w wr M m3))) (fun i _=>4 - (RowKit.intOf i).toNat)
 case atStart=>exact ⟨1,rfl,hid (.inl ⟨rfl,HS.out⟩)⟩
 case round=>
  clear HS;obtain ⟨k,rfl,HR⟩:=hrel;rcases HR.out with ⟨rfl,hN,hB,f,hM,hf⟩ | ⟨rfl,hN,hB,f,hM,hf⟩ | ⟨rfl,hN,hB,f,hM,hf⟩ | ⟨rfl,hN,hB,f,hM,hf⟩
  ·skip
   clear HR;have HN:=hid hN;have BP:=hid hB;have BM:=hid hM;have HFX:=hid hf;clear hN hB hM hf;have ER:=hid (H1.out.new HN.out);have e0:=HN.out.cell (HF.out 4 _ rfl);have e1:=HN.out.cell (HF.out 5 _ rfl);have e2:=HN.out.cell (HF.out 6 _ rfl);have e3:=HN.out.cell (HF.out 7 _ rfl);obtain ⟨t,ht⟩:∃ t,(crossed q1 q0).sign=t:=⟨_,rfl⟩
   have htl:(t < 0) ↔ q1 < q0:=by rw[←ht];exact crossed_neg
   have HT:=hid ht;clear ht;by_cases hl:q1 < q0
   ·have hti:=htl.2 hl;have htb:decide (t < 0)=true:=decide_eq_true hti
    have hy:m1=q1:=by have:=HM1.out;unfold minR at this;rw[if_pos hl] at this;exact this.symm
    clear htl hl;have HY:=hid hy;clear hy;go_upto_region 7 with (fail);obtain ⟨⟨pm0,pm1,pm2,pm3⟩,pm4,pm5,pm6,pm7,pm8⟩:=BM.out.four;refine wp_region_T 7 (fun W=>W.cell? ⟨g,4,none⟩=some (.int .i64 f1.s)∧W.cell? ⟨g,5,none⟩=some (.slice f1.a f1.l f1.c)∧W.cell? ⟨g,6,none⟩=some (.int .i64 f1.t)∧W.cell? ⟨g,7,none⟩=some (.slice f1.d f1.m f1.k)∧W.cell? ⟨M,0,none⟩=some (.int .i64 f.s)∧W.cell? ⟨M,1,none⟩=some (.slice f.a f.l f.c)∧W.cell? ⟨M,2,none⟩=some (.int .i64 f.t)∧W.cell? ⟨M,3,none⟩=some (.slice f.d f.m f.k)) 8 #[false,false,false,false,false,false,false,false] rfl (by kernel_rfl) (by kernel_rfl) ?_;refine tk 0 (by exact ⟨e0,e1,e2,e3,pm0,pm1,pm2,pm3⟩) ?_
    try simp only[PT]
    refine tk 1 (by exact ⟨e0,e1,e2,e3,pm0,pm1,pm2,pm3⟩) ?_
    try simp only[PT]
    refine tk 2 (by exact ⟨e0,e1,e2,e3,pm0,pm1,pm2,pm3⟩) ?_
    try simp only[PT]
    refine tk 3 (by exact ⟨e0,e1,e2,e3,pm0,pm1,pm2,pm3⟩) ?_
    try simp only[PT]
    refine tk 4 (by exact ⟨e0,e1,e2,e3,pm0,pm1,pm2,pm3⟩) ?_
    try simp only[PT]
    refine tk 5 (by exact ⟨e0,e1,e2,e3,pm0,pm1,pm2,pm3⟩) ?_
    try simp only[PT]
    refine wpT_one 6 rfl (by kernel_rfl) (fun K hK=>?_);go_simp;refine (HCM.out _ _ q1 q0 _ (ER.out.new (New.refl _).drew) (HFX.out.new (New.refl _).drew) B1.out B0.out).mono ?_;rintro e w5 ⟨rfl,hn⟩;rw[HT.out];have hn:=hn.undrew;replace e0:=hn.cell e0;replace e1:=hn.cell e1;replace e2:=hn.cell e2;replace e3:=hn.cell e3;clear pm0 pm1 pm2 pm3 pm4 pm5 pm6 pm7 pm8;replace BP:=hid (BP.out.new hn);replace BM:=hid (BM.out.new hn);replace ER:=hid (ER.out.new hn);replace HN:=hid (HN.out.trans hn);clear hn;obtain ⟨⟨pm0,pm1,pm2,pm3⟩,pm4,pm5,pm6,pm7,pm8⟩:=BM.out.four;refine hK.out _ _ (fun _=>?_) ?_
    ·exact ⟨e0,e1,e2,e3,pm0,pm1,pm2,pm3⟩
    clear hK K
    try simp only[PT]
    refine wpT_tail rfl (by kernel_rfl) ?_;simp only[List.drop_succ_cons,List.drop_zero];go_wp2_with fail;clear pm0 pm1 pm2 pm3 pm4 pm5 pm6 pm7 pm8;go_roundw
    case rel=>exact ⟨2,by go_num,hid (.inr <| .inl ⟨rfl,HN.out.put4 LM.out _ _ _ _,BP.out.other4w (Nat.ne_of_gt LM2.out) _ _ _ _,f1,BM.out.put4 _ _ _ _,by rw[HY.out];exact ER.out.put4 BM.out _ _ _ _ _ _ _ _⟩)⟩
    case measure=>simp[RowKit.intOf]
   ·have hti:¬(t < 0):=fun h=>hl (htl.1 h);have htb:decide (t < 0)=false:=decide_eq_false hti
    have hy:m1=q0:=by have:=HM1.out;unfold minR at this;rw[if_neg hl] at this;exact this.symm
    clear htl hl;have HY:=hid hy;clear hy;go_upto_region 7 with (fail);obtain ⟨⟨pm0,pm1,pm2,pm3⟩,pm4,pm5,pm6,pm7,pm8⟩:=BM.out.four;refine wp_region_T 7 (fun W=>W.cell? ⟨g,4,none⟩=some (.int .i64 f1.s)∧W.cell? ⟨g,5,none⟩=some (.slice f1.a f1.l f1.c)∧W.cell? ⟨g,6,none⟩=some (.int .i64 f1.t)∧W.cell? ⟨g,7,none⟩=some (.slice f1.d f1.m f1.k)∧W.cell? ⟨M,0,none⟩=some (.int .i64 f.s)∧W.cell? ⟨M,1,none⟩=some (.slice f.a f.l f.c)∧W.cell? ⟨M,2,none⟩=some (.int .i64 f.t)∧W.cell? ⟨M,3,none⟩=some (.slice f.d f.m f.k)) 8 #[false,false,false,false,false,false,false,false] rfl (by kernel_rfl) (by kernel_rfl) ?_;refine tk 0 (by exact ⟨e0,e1,e2,e3,pm0,pm1,pm2,pm3⟩) ?_
    try simp only[PT]
    refine tk 1 (by exact ⟨e0,e1,e2,e3,pm0,pm1,pm2,pm3⟩) ?_
    try simp only[PT]
    refine tk 2 (by exact ⟨e0,e1,e2,e3,pm0,pm1,pm2,pm3⟩) ?_
    try simp only[PT]
    refine tk 3 (by exact ⟨e0,e1,e2,e3,pm0,pm1,pm2,pm3⟩) ?_
    try simp only[PT]
    refine tk 4 (by exact ⟨e0,e1,e2,e3,pm0,pm1,pm2,pm3⟩) ?_
    try simp only[PT]
    refine tk 5 (by exact ⟨e0,e1,e2,e3,pm0,pm1,pm2,pm3⟩) ?_
    try simp only[PT]
    refine wpT_one 6 rfl (by kernel_rfl) (fun K hK=>?_);go_simp;refine (HCM.out _ _ q1 q0 _ (ER.out.new (New.refl _).drew) (HFX.out.new (New.refl _).drew) B1.out B0.out).mono ?_;rintro e w5 ⟨rfl,hn⟩;rw[HT.out];have hn:=hn.undrew;replace e0:=hn.cell e0;replace e1:=hn.cell e1;replace e2:=hn.cell e2;replace e3:=hn.cell e3;clear pm0 pm1 pm2 pm3 pm4 pm5 pm6 pm7 pm8;replace BP:=hid (BP.out.new hn);replace BM:=hid (BM.out.new hn);replace HFX:=hid (HFX.out.new hn);replace HN:=hid (HN.out.trans hn);clear hn;obtain ⟨⟨pm0,pm1,pm2,pm3⟩,pm4,pm5,pm6,pm7,pm8⟩:=BM.out.four;refine hK.out _ _ (fun _=>?_) ?_
    ·exact ⟨e0,e1,e2,e3,pm0,pm1,pm2,pm3⟩
    clear hK K
    try simp only[PT]
    refine wpT_tail rfl (by kernel_rfl) ?_;simp only[List.drop_succ_cons,List.drop_zero];clear pm0 pm1 pm2 pm3 pm4 pm5 pm6 pm7 pm8;clear e0 e1 e2 e3;go_wp2_with fail;go_roundw
    case rel=>exact ⟨2,by go_num,hid (.inr <| .inl ⟨rfl,HN.out,BP.out,f,BM.out,by rw[HY.out];exact HFX.out⟩)⟩
    case measure=>simp[RowKit.intOf]
  ·skip
   clear HR;have HN:=hid hN;have BP:=hid hB;have BM:=hid hM;have HFX:=hid hf;clear hN hB hM hf;have ER:=hid (H2.out.new HN.out);have e0:=HN.out.cell (HF.out 8 _ rfl);have e1:=HN.out.cell (HF.out 9 _ rfl);have e2:=HN.out.cell (HF.out 10 _ rfl);have e3:=HN.out.cell (HF.out 11 _ rfl);obtain ⟨t,ht⟩:∃ t,(crossed q2 m1).sign=t:=⟨_,rfl⟩
   have htl:(t < 0) ↔ q2 < m1:=by rw[←ht];exact crossed_neg
   have HT:=hid ht;clear ht;by_cases hl:q2 < m1
   ·have hti:=htl.2 hl;have htb:decide (t < 0)=true:=decide_eq_true hti
    have hy:m2=q2:=by have:=HM2.out;unfold minR at this;rw[if_pos hl] at this;exact this.symm
    clear htl hl;have HY:=hid hy;clear hy;go_upto_region 7 with (fail);obtain ⟨⟨pm0,pm1,pm2,pm3⟩,pm4,pm5,pm6,pm7,pm8⟩:=BM.out.four;refine wp_region_T 7 (fun W=>W.cell? ⟨g,8,none⟩=some (.int .i64 f2.s)∧W.cell? ⟨g,9,none⟩=some (.slice f2.a f2.l f2.c)∧W.cell? ⟨g,10,none⟩=some (.int .i64 f2.t)∧W.cell? ⟨g,11,none⟩=some (.slice f2.d f2.m f2.k)∧W.cell? ⟨M,0,none⟩=some (.int .i64 f.s)∧W.cell? ⟨M,1,none⟩=some (.slice f.a f.l f.c)∧W.cell? ⟨M,2,none⟩=some (.int .i64 f.t)∧W.cell? ⟨M,3,none⟩=some (.slice f.d f.m f.k)) 8 #[false,false,false,false,false,false,false,false] rfl (by kernel_rfl) (by kernel_rfl) ?_;refine tk 0 (by exact ⟨e0,e1,e2,e3,pm0,pm1,pm2,pm3⟩) ?_
    try simp only[PT]
    refine tk 1 (by exact ⟨e0,e1,e2,e3,pm0,pm1,pm2,pm3⟩) ?_
    try simp only[PT]
    refine tk 2 (by exact ⟨e0,e1,e2,e3,pm0,pm1,pm2,pm3⟩) ?_
    try simp only[PT]
    refine tk 3 (by exact ⟨e0,e1,e2,e3,pm0,pm1,pm2,pm3⟩) ?_
    try simp only[PT]
    refine tk 4 (by exact ⟨e0,e1,e2,e3,pm0,pm1,pm2,pm3⟩) ?_
    try simp only[PT]
    refine tk 5 (by exact ⟨e0,e1,e2,e3,pm0,pm1,pm2,pm3⟩) ?_
    try simp only[PT]
    refine wpT_one 6 rfl (by kernel_rfl) (fun K hK=>?_);go_simp;refine (HCM.out _ _ q2 m1 _ (ER.out.new (New.refl _).drew) (HFX.out.new (New.refl _).drew) B2.out D1.out).mono ?_;rintro e w5 ⟨rfl,hn⟩;rw[HT.out];have hn:=hn.undrew;replace e0:=hn.cell e0;replace e1:=hn.cell e1;replace e2:=hn.cell e2;replace e3:=hn.cell e3;clear pm0 pm1 pm2 pm3 pm4 pm5 pm6 pm7 pm8;replace BP:=hid (BP.out.new hn);replace BM:=hid (BM.out.new hn);replace ER:=hid (ER.out.new hn);replace HN:=hid (HN.out.trans hn);clear hn;obtain ⟨⟨pm0,pm1,pm2,pm3⟩,pm4,pm5,pm6,pm7,pm8⟩:=BM.out.four;refine hK.out _ _ (fun _=>?_) ?_
    ·exact ⟨e0,e1,e2,e3,pm0,pm1,pm2,pm3⟩
    clear hK K
    try simp only[PT]
    refine wpT_tail rfl (by kernel_rfl) ?_;simp only[List.drop_succ_cons,List.drop_zero];go_wp2_with fail;clear pm0 pm1 pm2 pm3 pm4 pm5 pm6 pm7 pm8;go_roundw
    case rel=>exact ⟨3,by go_num,hid (.inr <| .inr <| .inl ⟨rfl,HN.out.put4 LM.out _ _ _ _,BP.out.other4w (Nat.ne_of_gt LM2.out) _ _ _ _,f2,BM.out.put4 _ _ _ _,by rw[HY.out];exact ER.out.put4 BM.out _ _ _ _ _ _ _ _⟩)⟩
    case measure=>simp[RowKit.intOf]
   ·have hti:¬(t < 0):=fun h=>hl (htl.1 h);have htb:decide (t < 0)=false:=decide_eq_false hti
    have hy:m2=m1:=by have:=HM2.out;unfold minR at this;rw[if_neg hl] at this;exact this.symm
    clear htl hl;have HY:=hid hy;clear hy;go_upto_region 7 with (fail);obtain ⟨⟨pm0,pm1,pm2,pm3⟩,pm4,pm5,pm6,pm7,pm8⟩:=BM.out.four;refine wp_region_T 7 (fun W=>W.cell? ⟨g,8,none⟩=some (.int .i64 f2.s)∧W.cell? ⟨g,9,none⟩=some (.slice f2.a f2.l f2.c)∧W.cell? ⟨g,10,none⟩=some (.int .i64 f2.t)∧W.cell? ⟨g,11,none⟩=some (.slice f2.d f2.m f2.k)∧W.cell? ⟨M,0,none⟩=some (.int .i64 f.s)∧W.cell? ⟨M,1,none⟩=some (.slice f.a f.l f.c)∧W.cell? ⟨M,2,none⟩=some (.int .i64 f.t)∧W.cell? ⟨M,3,none⟩=some (.slice f.d f.m f.k)) 8 #[false,false,false,false,false,false,false,false] rfl (by kernel_rfl) (by kernel_rfl) ?_;refine tk 0 (by exact ⟨e0,e1,e2,e3,pm0,pm1,pm2,pm3⟩) ?_
    try simp only[PT]
    refine tk 1 (by exact ⟨e0,e1,e2,e3,pm0,pm1,pm2,pm3⟩) ?_
    try simp only[PT]
    refine tk 2 (by exact ⟨e0,e1,e2,e3,pm0,pm1,pm2,pm3⟩) ?_
    try simp only[PT]
    refine tk 3 (by exact ⟨e0,e1,e2,e3,pm0,pm1,pm2,pm3⟩) ?_
    try simp only[PT]
    refine tk 4 (by exact ⟨e0,e1,e2,e3,pm0,pm1,pm2,pm3⟩) ?_
    try simp only[PT]
    refine tk 5 (by exact ⟨e0,e1,e2,e3,pm0,pm1,pm2,pm3⟩) ?_
    try simp only[PT]
    refine wpT_one 6 rfl (by kernel_rfl) (fun K hK=>?_);go_simp;refine (HCM.out _ _ q2 m1 _ (ER.out.new (New.refl _).drew) (HFX.out.new (New.refl _).drew) B2.out D1.out).mono ?_;rintro e w5 ⟨rfl,hn⟩;rw[HT.out];have hn:=hn.undrew;replace e0:=hn.cell e0;replace e1:=hn.cell e1;replace e2:=hn.cell e2;replace e3:=hn.cell e3;clear pm0 pm1 pm2 pm3 pm4 pm5 pm6 pm7 pm8;replace BP:=hid (BP.out.new hn);replace BM:=hid (BM.out.new hn);replace HFX:=hid (HFX.out.new hn);replace HN:=hid (HN.out.trans hn);clear hn;obtain ⟨⟨pm0,pm1,pm2,pm3⟩,pm4,pm5,pm6,pm7,pm8⟩:=BM.out.four;refine hK.out _ _ (fun _=>?_) ?_
    ·exact ⟨e0,e1,e2,e3,pm0,pm1,pm2,pm3⟩
    clear hK K
    try simp only[PT]
    refine wpT_tail rfl (by kernel_rfl) ?_;simp only[List.drop_succ_cons,List.drop_zero];clear pm0 pm1 pm2 pm3 pm4 pm5 pm6 pm7 pm8;clear e0 e1 e2 e3;go_wp2_with fail;go_roundw
    case rel=>exact ⟨3,by go_num,hid (.inr <| .inr <| .inl ⟨rfl,HN.out,BP.out,f,BM.out,by rw[HY.out];exact HFX.out⟩)⟩
    case measure=>simp[RowKit.intOf]
  ·skip
   clear HR;have HN:=hid hN;have BP:=hid hB;have BM:=hid hM;have HFX:=hid hf;clear hN hB hM hf;have ER:=hid (H3.out.new HN.out);have e0:=HN.out.cell (HF.out 12 _ rfl);have e1:=HN.out.cell (HF.out 13 _ rfl);have e2:=HN.out.cell (HF.out 14 _ rfl);have e3:=HN.out.cell (HF.out 15 _ rfl);obtain ⟨t,ht⟩:∃ t,(crossed q3 m2).sign=t:=⟨_,rfl⟩
   have htl:(t < 0) ↔ q3 < m2:=by rw[←ht];exact crossed_neg
   have HT:=hid ht;clear ht;by_cases hl:q3 < m2
   ·have hti:=htl.2 hl;have htb:decide (t < 0)=true:=decide_eq_true hti
    have hy:m3=q3:=by have:=HM3.out;unfold minR at this;rw[if_pos hl] at this;exact this.symm
    clear htl hl;have HY:=hid hy;clear hy;go_upto_region 7 with (fail);obtain ⟨⟨pm0,pm1,pm2,pm3⟩,pm4,pm5,pm6,pm7,pm8⟩:=BM.out.four;refine wp_region_T 7 (fun W=>W.cell? ⟨g,12,none⟩=some (.int .i64 f3.s)∧W.cell? ⟨g,13,none⟩=some (.slice f3.a f3.l f3.c)∧W.cell? ⟨g,14,none⟩=some (.int .i64 f3.t)∧W.cell? ⟨g,15,none⟩=some (.slice f3.d f3.m f3.k)∧W.cell? ⟨M,0,none⟩=some (.int .i64 f.s)∧W.cell? ⟨M,1,none⟩=some (.slice f.a f.l f.c)∧W.cell? ⟨M,2,none⟩=some (.int .i64 f.t)∧W.cell? ⟨M,3,none⟩=some (.slice f.d f.m f.k)) 8 #[false,false,false,false,false,false,false,false] rfl (by kernel_rfl) (by kernel_rfl) ?_;refine tk 0 (by exact ⟨e0,e1,e2,e3,pm0,pm1,pm2,pm3⟩) ?_
    try simp only[PT]
    refine tk 1 (by exact ⟨e0,e1,e2,e3,pm0,pm1,pm2,pm3⟩) ?_
    try simp only[PT]
    refine tk 2 (by exact ⟨e0,e1,e2,e3,pm0,pm1,pm2,pm3⟩) ?_
    try simp only[PT]
    refine tk 3 (by exact ⟨e0,e1,e2,e3,pm0,pm1,pm2,pm3⟩) ?_
    try simp only[PT]
    refine tk 4 (by exact ⟨e0,e1,e2,e3,pm0,pm1,pm2,pm3⟩) ?_
    try simp only[PT]
    refine tk 5 (by exact ⟨e0,e1,e2,e3,pm0,pm1,pm2,pm3⟩) ?_
    try simp only[PT]
    refine wpT_one 6 rfl (by kernel_rfl) (fun K hK=>?_);go_simp;refine (HCM.out _ _ q3 m2 _ (ER.out.new (New.refl _).drew) (HFX.out.new (New.refl _).drew) B3.out D2.out).mono ?_;rintro e w5 ⟨rfl,hn⟩;rw[HT.out];have hn:=hn.undrew;replace e0:=hn.cell e0;replace e1:=hn.cell e1;replace e2:=hn.cell e2;replace e3:=hn.cell e3;clear pm0 pm1 pm2 pm3 pm4 pm5 pm6 pm7 pm8;replace BP:=hid (BP.out.new hn);replace BM:=hid (BM.out.new hn);replace ER:=hid (ER.out.new hn);replace HN:=hid (HN.out.trans hn);clear hn;obtain ⟨⟨pm0,pm1,pm2,pm3⟩,pm4,pm5,pm6,pm7,pm8⟩:=BM.out.four;refine hK.out _ _ (fun _=>?_) ?_
    ·exact ⟨e0,e1,e2,e3,pm0,pm1,pm2,pm3⟩
    clear hK K
    try simp only[PT]
    refine wpT_tail rfl (by kernel_rfl) ?_;simp only[List.drop_succ_cons,List.drop_zero];go_wp2_with fail;clear pm0 pm1 pm2 pm3 pm4 pm5 pm6 pm7 pm8;go_roundw
    case rel=>exact ⟨4,by go_num,hid (.inr <| .inr <| .inr ⟨rfl,HN.out.put4 LM.out _ _ _ _,BP.out.other4w (Nat.ne_of_gt LM2.out) _ _ _ _,f3,BM.out.put4 _ _ _ _,by rw[HY.out];exact ER.out.put4 BM.out _ _ _ _ _ _ _ _⟩)⟩
    case measure=>simp[RowKit.intOf]
   ·have hti:¬(t < 0):=fun h=>hl (htl.1 h);have htb:decide (t < 0)=false:=decide_eq_false hti
    have hy:m3=m2:=by have:=HM3.out;unfold minR at this;rw[if_neg hl] at this;exact this.symm
    clear htl hl;have HY:=hid hy;clear hy;go_upto_region 7 with (fail);obtain ⟨⟨pm0,pm1,pm2,pm3⟩,pm4,pm5,pm6,pm7,pm8⟩:=BM.out.four;refine wp_region_T 7 (fun W=>W.cell? ⟨g,12,none⟩=some (.int .i64 f3.s)∧W.cell? ⟨g,13,none⟩=some (.slice f3.a f3.l f3.c)∧W.cell? ⟨g,14,none⟩=some (.int .i64 f3.t)∧W.cell? ⟨g,15,none⟩=some (.slice f3.d f3.m f3.k)∧W.cell? ⟨M,0,none⟩=some (.int .i64 f.s)∧W.cell? ⟨M,1,none⟩=some (.slice f.a f.l f.c)∧W.cell? ⟨M,2,none⟩=some (.int .i64 f.t)∧W.cell? ⟨M,3,none⟩=some (.slice f.d f.m f.k)) 8 #[false,false,false,false,false,false,false,false] rfl (by kernel_rfl) (by kernel_rfl) ?_;refine tk 0 (by exact ⟨e0,e1,e2,e3,pm0,pm1,pm2,pm3⟩) ?_
    try simp only[PT]
    refine tk 1 (by exact ⟨e0,e1,e2,e3,pm0,pm1,pm2,pm3⟩) ?_
    try simp only[PT]
    refine tk 2 (by exact ⟨e0,e1,e2,e3,pm0,pm1,pm2,pm3⟩) ?_
    try simp only[PT]
    refine tk 3 (by exact ⟨e0,e1,e2,e3,pm0,pm1,pm2,pm3⟩) ?_
    try simp only[PT]
    refine tk 4 (by exact ⟨e0,e1,e2,e3,pm0,pm1,pm2,pm3⟩) ?_
    try simp only[PT]
    refine tk 5 (by exact ⟨e0,e1,e2,e3,pm0,pm1,pm2,pm3⟩) ?_
    try simp only[PT]
    refine wpT_one 6 rfl (by kernel_rfl) (fun K hK=>?_);go_simp;refine (HCM.out _ _ q3 m2 _ (ER.out.new (New.refl _).drew) (HFX.out.new (New.refl _).drew) B3.out D2.out).mono ?_;rintro e w5 ⟨rfl,hn⟩;rw[HT.out];have hn:=hn.undrew;replace e0:=hn.cell e0;replace e1:=hn.cell e1;replace e2:=hn.cell e2;replace e3:=hn.cell e3;clear pm0 pm1 pm2 pm3 pm4 pm5 pm6 pm7 pm8;replace BP:=hid (BP.out.new hn);replace BM:=hid (BM.out.new hn);replace HFX:=hid (HFX.out.new hn);replace HN:=hid (HN.out.trans hn);clear hn;obtain ⟨⟨pm0,pm1,pm2,pm3⟩,pm4,pm5,pm6,pm7,pm8⟩:=BM.out.four;refine hK.out _ _ (fun _=>?_) ?_
    ·exact ⟨e0,e1,e2,e3,pm0,pm1,pm2,pm3⟩
    clear hK K
    try simp only[PT]
    refine wpT_tail rfl (by kernel_rfl) ?_;simp only[List.drop_succ_cons,List.drop_zero];clear pm0 pm1 pm2 pm3 pm4 pm5 pm6 pm7 pm8;clear e0 e1 e2 e3;go_wp2_with fail;go_roundw
    case rel=>exact ⟨4,by go_num,hid (.inr <| .inr <| .inr ⟨rfl,HN.out,BP.out,f,BM.out,by rw[HY.out];exact HFX.out⟩)⟩
    case measure=>simp[RowKit.intOf]
  ·clear HR;have HN:=hid hN;have BP:=hid hB;have BM:=hid hM;have HFX:=hid hf;clear hN hB hM hf;obtain ⟨⟨pm0,pm1,pm2,pm3⟩,pm4,pm5,pm6,pm7,pm8⟩:=BM.out.four;obtain ⟨⟨p0,p1,p2,p3⟩,p4,p5,p6,p7,p8⟩:=BP.out.four;go_wp2_with fail;refine bodyPost_ret (v:=f.val) (by simp[results,Tryz.results201,go_sem,p0,p1,p2,p3]) rfl ?_;exact ⟨_,rfl,HN.out.put4 (Nat.le_refl _) _ _ _ _,HFX.out.put4 BP.out _ _ _ _ _ _ _ _⟩
theorem maxFunc_four (g cap:Nat)(f0 f1 f2 f3:FVal)(q0 q1 q2 q3:Rat)(kb:Nat)(w:World)(hF:Fr4 w g f0 f1 f2 f3)(h0:IsFrac w f0.val q0)(h1:IsFrac w f1.val q1)(h2:IsFrac w f2.val q2)(h3:IsFrac w f3.val q3)(b0:FB kb q0)(b1:FB kb q1)(b2:FB kb q2)(b3:FB kb q3)(hk:kb≤20000000):
  Calls Tryz.prog 202 #[.slice (some ⟨g,0,none⟩) 4 cap,.func (.func 90) #[] #[]] w (FracPost w (maxR (maxR (maxR q0 q1) q2) q3)):=by
 have hcm:=fun va vb p q W h1 h2 bp bq=>fcmp_calls va vb p q kb kb W h1 h2 bp bq (by omega);unfold SignPost at hcm;obtain ⟨m1,hm1⟩:∃ x,maxR q0 q1=x:=⟨_,rfl⟩;obtain ⟨m2,hm2⟩:∃ x,maxR m1 q2=x:=⟨_,rfl⟩;obtain ⟨m3,hm3⟩:∃ x,maxR m2 q3=x:=⟨_,rfl⟩
 have key:∀ {x y z:Rat},maxR x y=z→FB kb x→FB kb y→FB kb z:=fun {x y z} e hx hy=>by
  rw[←e];unfold maxR;split
  ·exact hy
  ·exact hx
 have d1:=key hm1 b0 b1;have d2:=key hm2 d1 b2;rw[hm1,hm2,hm3];clear key hk;have HF:=hid hF;have H0:=hid h0;have H1:=hid h1;have H2:=hid h2;have H3:=hid h3;have B0:=hid b0;have B1:=hid b1;have B2:=hid b2;have B3:=hid b3;have D1:=hid d1;have D2:=hid d2;have HCM:=hid hcm;have HM1:=hid hm1;have HM2:=hid hm2;have HM3:=hid hm3;clear hF h0 h1 h2 h3 b0 b1 b2 b3 d1 d2 hcm hm1 hm2 hm3;go_enter Tryz.func202,Tryz.ntmps202;go_upto_region 1 with (fail);obtain ⟨BP,HN⟩:=lay1 w 115 #[.int .i64 0,.slice none 0 0,.int .i64 0,.slice none 0 0];obtain ⟨w8,hw8⟩:∃ u,w.alloc (.cells #[.int .i64 0,.slice none 0 0,.int .i64 0,.slice none 0 0] 115)=u:=⟨_,rfl⟩;rw[hw8] at BP HN⊢;clear hw8;have c0:=HN.out.cell (HF.out 0 _ rfl);have c1:=HN.out.cell (HF.out 1 _ rfl);have c2:=HN.out.cell (HF.out 2 _ rfl);have c3:=HN.out.cell (HF.out 3 _ rfl);go_upto_region 4 with (fail);clear c0 c1 c2 c3;have LM:=hid HN.out.size;have LM2:=hid BP.out.lt;have HN0:=HN;clear HN;obtain ⟨BM,HN⟩:=lay1 w8 115 #[.int .i64 f0.s,.slice f0.a f0.l f0.c,.int .i64 f0.t,.slice f0.d f0.m f0.k];replace BP:=hid (BP.out.new HN.out);have HN_:=HN0.out.trans HN.out;clear HN HN0;have HN:=hid HN_;clear HN_;obtain ⟨M,hM⟩:∃ u,w8.heap.size=u:=⟨_,rfl⟩;rw[hM] at BM LM LM2⊢;clear hM;have hst:MinRel w _ M q0:=⟨HN.out,BP.out,f0,BM.out,H0.out.new HN.out⟩;clear BM BP HN;have HS:=hid hst;clear hst;go_wp2_with fail;go_loopw [6] (fun i wr=>∃ k:Nat,i=.int .i64 (k:Int)∧Hid ((k=1∧MinRel w wr M q0)∨(k=2∧MinRel w wr M m1)∨(k=3∧MinRel w wr M m2)∨(k=4∧MinRel w wr M m3))) (fun i _=>4 - (RowKit.intOf i).toNat)
 case atStart=>exact ⟨1,rfl,hid (.inl ⟨rfl,HS.out⟩)⟩
 case round=>
  clear HS;obtain ⟨k,rfl,HR⟩:=hrel;rcases HR.out with ⟨rfl,hN,hB,f,hM,hf⟩ | ⟨rfl,hN,hB,f,hM,hf⟩ | ⟨rfl,hN,hB,f,hM,hf⟩ | ⟨rfl,hN,hB,f,hM,hf⟩
  ·skip
   clear HR;have HN:=hid hN;have BP:=hid hB;have BM:=hid hM;have HFX:=hid hf;clear hN hB hM hf;have ER:=hid (H1.out.new HN.out);have e0:=HN.out.cell (HF.out 4 _ rfl);have e1:=HN.out.cell (HF.out 5 _ rfl);have e2:=HN.out.cell (HF.out 6 _ rfl);have e3:=HN.out.cell (HF.out 7 _ rfl);obtain ⟨t,ht⟩:∃ t,(crossed q1 q0).sign=t:=⟨_,rfl⟩
   have htl:(0 < t) ↔ q0 < q1:=by rw[←ht];exact crossed_pos
   have HT:=hid ht;clear ht;by_cases hl:q0 < q1
   ·have hti:=htl.2 hl;have htb:decide (0 < t)=true:=decide_eq_true hti
    have hy:m1=q1:=by have:=HM1.out;unfold maxR at this;rw[if_pos hl] at this;exact this.symm
    clear htl hl;have HY:=hid hy;clear hy;go_upto_region 7 with (fail);obtain ⟨⟨pm0,pm1,pm2,pm3⟩,pm4,pm5,pm6,pm7,pm8⟩:=BM.out.four;refine wp_region_T 7 (fun W=>W.cell? ⟨g,4,none⟩=some (.int .i64 f1.s)∧W.cell? ⟨g,5,none⟩=some (.slice f1.a f1.l f1.c)∧W.cell? ⟨g,6,none⟩=some (.int .i64 f1.t)∧W.cell? ⟨g,7,none⟩=some (.slice f1.d f1.m f1.k)∧W.cell? ⟨M,0,none⟩=some (.int .i64 f.s)∧W.cell? ⟨M,1,none⟩=some (.slice f.a f.l f.c)∧W.cell? ⟨M,2,none⟩=some (.int .i64 f.t)∧W.cell? ⟨M,3,none⟩=some (.slice f.d f.m f.k)) 8 #[false,false,false,false,false,false,false,false] rfl (by kernel_rfl) (by kernel_rfl) ?_;refine tk 0 (by exact ⟨e0,e1,e2,e3,pm0,pm1,pm2,pm3⟩) ?_
    try simp only[PT]
    refine tk 1 (by exact ⟨e0,e1,e2,e3,pm0,pm1,pm2,pm3⟩) ?_
    try simp only[PT]
    refine tk 2 (by exact ⟨e0,e1,e2,e3,pm0,pm1,pm2,pm3⟩) ?_
    try simp only[PT]
    refine tk 3 (by exact ⟨e0,e1,e2,e3,pm0,pm1,pm2,pm3⟩) ?_
    try simp only[PT]
    refine tk 4 (by exact ⟨e0,e1,e2,e3,pm0,pm1,pm2,pm3⟩) ?_
    try simp only[PT]
    refine tk 5 (by exact ⟨e0,e1,e2,e3,pm0,pm1,pm2,pm3⟩) ?_
    try simp only[PT]
    refine wpT_one 6 rfl (by kernel_rfl) (fun K hK=>?_);go_simp;refine (HCM.out _ _ q1 q0 _ (ER.out.new (New.refl _).drew) (HFX.out.new (New.refl _).drew) B1.out B0.out).mono ?_;rintro e w5 ⟨rfl,hn⟩;rw[HT.out];have hn:=hn.undrew;replace e0:=hn.cell e0;replace e1:=hn.cell e1;replace e2:=hn.cell e2;replace e3:=hn.cell e3;clear pm0 pm1 pm2 pm3 pm4 pm5 pm6 pm7 pm8;replace BP:=hid (BP.out.new hn);replace BM:=hid (BM.out.new hn);replace ER:=hid (ER.out.new hn);replace HN:=hid (HN.out.trans hn);clear hn;obtain ⟨⟨pm0,pm1,pm2,pm3⟩,pm4,pm5,pm6,pm7,pm8⟩:=BM.out.four;refine hK.out _ _ (fun _=>?_) ?_
    ·exact ⟨e0,e1,e2,e3,pm0,pm1,pm2,pm3⟩
    clear hK K
    try simp only[PT]
    refine wpT_tail rfl (by kernel_rfl) ?_;simp only[List.drop_succ_cons,List.drop_zero];go_wp2_with fail;clear pm0 pm1 pm2 pm3 pm4 pm5 pm6 pm7 pm8;go_roundw
    case rel=>exact ⟨2,by go_num,hid (.inr <| .inl ⟨rfl,HN.out.put4 LM.out _ _ _ _,BP.out.other4w (Nat.ne_of_gt LM2.out) _ _ _ _,f1,BM.out.put4 _ _ _ _,by rw[HY.out];exact ER.out.put4 BM.out _ _ _ _ _ _ _ _⟩)⟩
    case measure=>simp[RowKit.intOf]
   ·have hti:¬(0 < t):=fun h=>hl (htl.1 h);have htb:decide (0 < t)=false:=decide_eq_false hti
    have hy:m1=q0:=by have:=HM1.out;unfold maxR at this;rw[if_neg hl] at this;exact this.symm
    clear htl hl;have HY:=hid hy;clear hy;go_upto_region 7 with (fail);obtain ⟨⟨pm0,pm1,pm2,pm3⟩,pm4,pm5,pm6,pm7,pm8⟩:=BM.out.four;refine wp_region_T 7 (fun W=>W.cell? ⟨g,4,none⟩=some (.int .i64 f1.s)∧W.cell? ⟨g,5,none⟩=some (.slice f1.a f1.l f1.c)∧W.cell? ⟨g,6,none⟩=some (.int .i64 f1.t)∧W.cell? ⟨g,7,none⟩=some (.slice f1.d f1.m f1.k)∧W.cell? ⟨M,0,none⟩=some (.int .i64 f.s)∧W.cell? ⟨M,1,none⟩=some (.slice f.a f.l f.c)∧W.cell? ⟨M,2,none⟩=some (.int .i64 f.t)∧W.cell? ⟨M,3,none⟩=some (.slice f.d f.m f.k)) 8 #[false,false,false,false,false,false,false,false] rfl (by kernel_rfl) (by kernel_rfl) ?_;refine tk 0 (by exact ⟨e0,e1,e2,e3,pm0,pm1,pm2,pm3⟩) ?_
    try simp only[PT]
    refine tk 1 (by exact ⟨e0,e1,e2,e3,pm0,pm1,pm2,pm3⟩) ?_
    try simp only[PT]
    refine tk 2 (by exact ⟨e0,e1,e2,e3,pm0,pm1,pm2,pm3⟩) ?_
    try simp only[PT]
    refine tk 3 (by exact ⟨e0,e1,e2,e3,pm0,pm1,pm2,pm3⟩) ?_
    try simp only[PT]
    refine tk 4 (by exact ⟨e0,e1,e2,e3,pm0,pm1,pm2,pm3⟩) ?_
    try simp only[PT]
    refine tk 5 (by exact ⟨e0,e1,e2,e3,pm0,pm1,pm2,pm3⟩) ?_
    try simp only[PT]
    refine wpT_one 6 rfl (by kernel_rfl) (fun K hK=>?_);go_simp;refine (HCM.out _ _ q1 q0 _ (ER.out.new (New.refl _).drew) (HFX.out.new (New.refl _).drew) B1.out B0.out).mono ?_;rintro e w5 ⟨rfl,hn⟩;rw[HT.out];have hn:=hn.undrew;replace e0:=hn.cell e0;replace e1:=hn.cell e1;replace e2:=hn.cell e2;replace e3:=hn.cell e3;clear pm0 pm1 pm2 pm3 pm4 pm5 pm6 pm7 pm8;replace BP:=hid (BP.out.new hn);replace BM:=hid (BM.out.new hn);replace HFX:=hid (HFX.out.new hn);replace HN:=hid (HN.out.trans hn);clear hn;obtain ⟨⟨pm0,pm1,pm2,pm3⟩,pm4,pm5,pm6,pm7,pm8⟩:=BM.out.four;refine hK.out _ _ (fun _=>?_) ?_
    ·exact ⟨e0,e1,e2,e3,pm0,pm1,pm2,pm3⟩
    clear hK K
    try simp only[PT]
    refine wpT_tail rfl (by kernel_rfl) ?_;simp only[List.drop_succ_cons,List.drop_zero];clear pm0 pm1 pm2 pm3 pm4 pm5 pm6 pm7 pm8;clear e0 e1 e2 e3;go_wp2_with fail;go_roundw
    case rel=>exact ⟨2,by go_num,hid (.inr <| .inl ⟨rfl,HN.out,BP.out,f,BM.out,by rw[HY.out];exact HFX.out⟩)⟩
    case measure=>simp[RowKit.intOf]
  ·skip
   clear HR;have HN:=hid hN;have BP:=hid hB;have BM:=hid hM;have HFX:=hid hf;clear hN hB hM hf;have ER:=hid (H2.out.new HN.out);have e0:=HN.out.cell (HF.out 8 _ rfl);have e1:=HN.out.cell (HF.out 9 _ rfl);have e2:=HN.out.cell (HF.out 10 _ rfl);have e3:=HN.out.cell (HF.out 11 _ rfl);obtain ⟨t,ht⟩:∃ t,(crossed q2 m1).sign=t:=⟨_,rfl⟩
   have htl:(0 < t) ↔ m1 < q2:=by rw[←ht];exact crossed_pos
   have HT:=hid ht;clear ht;by_cases hl:m1 < q2
   ·have hti:=htl.2 hl;have htb:decide (0 < t)=true:=decide_eq_true hti
    have hy:m2=q2:=by have:=HM2.out;unfold maxR at this;rw[if_pos hl] at this;exact this.symm
    clear htl hl;have HY:=hid hy;clear hy;go_upto_region 7 with (fail);obtain ⟨⟨pm0,pm1,pm2,pm3⟩,pm4,pm5,pm6,pm7,pm8⟩:=BM.out.four;refine wp_region_T 7 (fun W=>W.cell? ⟨g,8,none⟩=some (.int .i64 f2.s)∧W.cell? ⟨g,9,none⟩=some (.slice f2.a f2.l f2.c)∧W.cell? ⟨g,10,none⟩=some (.int .i64 f2.t)∧W.cell? ⟨g,11,none⟩=some (.slice f2.d f2.m f2.k)∧W.cell? ⟨M,0,none⟩=some (.int .i64 f.s)∧W.cell? ⟨M,1,none⟩=some (.slice f.a f.l f.c)∧W.cell? ⟨M,2,none⟩=some (.int .i64 f.t)∧W.cell? ⟨M,3,none⟩=some (.slice f.d f.m f.k)) 8 #[false,false,false,false,false,false,false,false] rfl (by kernel_rfl) (by kernel_rfl) ?_;refine tk 0 (by exact ⟨e0,e1,e2,e3,pm0,pm1,pm2,pm3⟩) ?_
    try simp only[PT]
    refine tk 1 (by exact ⟨e0,e1,e2,e3,pm0,pm1,pm2,pm3⟩) ?_
    try simp only[PT]
    refine tk 2 (by exact ⟨e0,e1,e2,e3,pm0,pm1,pm2,pm3⟩) ?_
    try simp only[PT]
    refine tk 3 (by exact ⟨e0,e1,e2,e3,pm0,pm1,pm2,pm3⟩) ?_
    try simp only[PT]
    refine tk 4 (by exact ⟨e0,e1,e2,e3,pm0,pm1,pm2,pm3⟩) ?_
    try simp only[PT]
    refine tk 5 (by exact ⟨e0,e1,e2,e3,pm0,pm1,pm2,pm3⟩) ?_
    try simp only[PT]
    refine wpT_one 6 rfl (by kernel_rfl) (fun K hK=>?_);go_simp;refine (HCM.out _ _ q2 m1 _ (ER.out.new (New.refl _).drew) (HFX.out.new (New.refl _).drew) B2.out D1.out).mono ?_;rintro e w5 ⟨rfl,hn⟩;rw[HT.out];have hn:=hn.undrew;replace e0:=hn.cell e0;replace e1:=hn.cell e1;replace e2:=hn.cell e2;replace e3:=hn.cell e3;clear pm0 pm1 pm2 pm3 pm4 pm5 pm6 pm7 pm8;replace BP:=hid (BP.out.new hn);replace BM:=hid (BM.out.new hn);replace ER:=hid (ER.out.new hn);replace HN:=hid (HN.out.trans hn);clear hn;obtain ⟨⟨pm0,pm1,pm2,pm3⟩,pm4,pm5,pm6,pm7,pm8⟩:=BM.out.four;refine hK.out _ _ (fun _=>?_) ?_
    ·exact ⟨e0,e1,e2,e3,pm0,pm1,pm2,pm3⟩
    clear hK K
    try simp only[PT]
    refine wpT_tail rfl (by kernel_rfl) ?_;simp only[List.drop_succ_cons,List.drop_zero];go_wp2_with fail;clear pm0 pm1 pm2 pm3 pm4 pm5 pm6 pm7 pm8;go_roundw
    case rel=>exact ⟨3,by go_num,hid (.inr <| .inr <| .inl ⟨rfl,HN.out.put4 LM.out _ _ _ _,BP.out.other4w (Nat.ne_of_gt LM2.out) _ _ _ _,f2,BM.out.put4 _ _ _ _,by rw[HY.out];exact ER.out.put4 BM.out _ _ _ _ _ _ _ _⟩)⟩
    case measure=>simp[RowKit.intOf]
   ·have hti:¬(0 < t):=fun h=>hl (htl.1 h);have htb:decide (0 < t)=false:=decide_eq_false hti
    have hy:m2=m1:=by have:=HM2.out;unfold maxR at this;rw[if_neg hl] at this;exact this.symm
    clear htl hl;have HY:=hid hy;clear hy;go_upto_region 7 with (fail);obtain ⟨⟨pm0,pm1,pm2,pm3⟩,pm4,pm5,pm6,pm7,pm8⟩:=BM.out.four;refine wp_region_T 7 (fun W=>W.cell? ⟨g,8,none⟩=some (.int .i64 f2.s)∧W.cell? ⟨g,9,none⟩=some (.slice f2.a f2.l f2.c)∧W.cell? ⟨g,10,none⟩=some (.int .i64 f2.t)∧W.cell? ⟨g,11,none⟩=some (.slice f2.d f2.m f2.k)∧W.cell? ⟨M,0,none⟩=some (.int .i64 f.s)∧W.cell? ⟨M,1,none⟩=some (.slice f.a f.l f.c)∧W.cell? ⟨M,2,none⟩=some (.int .i64 f.t)∧W.cell? ⟨M,3,none⟩=some (.slice f.d f.m f.k)) 8 #[false,false,false,false,false,false,false,false] rfl (by kernel_rfl) (by kernel_rfl) ?_;refine tk 0 (by exact ⟨e0,e1,e2,e3,pm0,pm1,pm2,pm3⟩) ?_
    try simp only[PT]
    refine tk 1 (by exact ⟨e0,e1,e2,e3,pm0,pm1,pm2,pm3⟩) ?_
    try simp only[PT]
    refine tk 2 (by exact ⟨e0,e1,e2,e3,pm0,pm1,pm2,pm3⟩) ?_
    try simp only[PT]
    refine tk 3 (by exact ⟨e0,e1,e2,e3,pm0,pm1,pm2,pm3⟩) ?_
    try simp only[PT]
    refine tk 4 (by exact ⟨e0,e1,e2,e3,pm0,pm1,pm2,pm3⟩) ?_
    try simp only[PT]
    refine tk 5 (by exact ⟨e0,e1,e2,e3,pm0,pm1,pm2,pm3⟩) ?_
    try simp only[PT]
    refine wpT_one 6 rfl (by kernel_rfl) (fun K hK=>?_);go_simp;refine (HCM.out _ _ q2 m1 _ (ER.out.new (New.refl _).drew) (HFX.out.new (New.refl _).drew) B2.out D1.out).mono ?_;rintro e w5 ⟨rfl,hn⟩;rw[HT.out];have hn:=hn.undrew;replace e0:=hn.cell e0;replace e1:=hn.cell e1;replace e2:=hn.cell e2;replace e3:=hn.cell e3;clear pm0 pm1 pm2 pm3 pm4 pm5 pm6 pm7 pm8;replace BP:=hid (BP.out.new hn);replace BM:=hid (BM.out.new hn);replace HFX:=hid (HFX.out.new hn);replace HN:=hid (HN.out.trans hn);clear hn;obtain ⟨⟨pm0,pm1,pm2,pm3⟩,pm4,pm5,pm6,pm7,pm8⟩:=BM.out.four;refine hK.out _ _ (fun _=>?_) ?_
    ·exact ⟨e0,e1,e2,e3,pm0,pm1,pm2,pm3⟩
    clear hK K
    try simp only[PT]
    refine wpT_tail rfl (by kernel_rfl) ?_;simp only[List.drop_succ_cons,List.drop_zero];clear pm0 pm1 pm2 pm3 pm4 pm5 pm6 pm7 pm8;clear e0 e1 e2 e3;go_wp2_with fail;go_roundw
    case rel=>exact ⟨3,by go_num,hid (.inr <| .inr <| .inl ⟨rfl,HN.out,BP.out,f,BM.out,by rw[HY.out];exact HFX.out⟩)⟩
    case measure=>simp[RowKit.intOf]
  ·skip
   clear HR;have HN:=hid hN;have BP:=hid hB;have BM:=hid hM;have HFX:=hid hf;clear hN hB hM hf;have ER:=hid (H3.out.new HN.out);have e0:=HN.out.cell (HF.out 12 _ rfl);have e1:=HN.out.cell (HF.out 13 _ rfl);have e2:=HN.out.cell (HF.out 14 _ rfl);have e3:=HN.out.cell (HF.out 15 _ rfl);obtain ⟨t,ht⟩:∃ t,(crossed q3 m2).sign=t:=⟨_,rfl⟩
   have htl:(0 < t) ↔ m2 < q3:=by rw[←ht];exact crossed_pos
   have HT:=hid ht;clear ht;by_cases hl:m2 < q3
   ·have hti:=htl.2 hl;have htb:decide (0 < t)=true:=decide_eq_true hti
    have hy:m3=q3:=by have:=HM3.out;unfold maxR at this;rw[if_pos hl] at this;exact this.symm
    clear htl hl;have HY:=hid hy;clear hy;go_upto_region 7 with (fail);obtain ⟨⟨pm0,pm1,pm2,pm3⟩,pm4,pm5,pm6,pm7,pm8⟩:=BM.out.four;refine wp_region_T 7 (fun W=>W.cell? ⟨g,12,none⟩=some (.int .i64 f3.s)∧W.cell? ⟨g,13,none⟩=some (.slice f3.a f3.l f3.c)∧W.cell? ⟨g,14,none⟩=some (.int .i64 f3.t)∧W.cell? ⟨g,15,none⟩=some (.slice f3.d f3.m f3.k)∧W.cell? ⟨M,0,none⟩=some (.int .i64 f.s)∧W.cell? ⟨M,1,none⟩=some (.slice f.a f.l f.c)∧W.cell? ⟨M,2,none⟩=some (.int .i64 f.t)∧W.cell? ⟨M,3,none⟩=some (.slice f.d f.m f.k)) 8 #[false,false,false,false,false,false,false,false] rfl (by kernel_rfl) (by kernel_rfl) ?_;refine tk 0 (by exact ⟨e0,e1,e2,e3,pm0,pm1,pm2,pm3⟩) ?_
    try simp only[PT]
    refine tk 1 (by exact ⟨e0,e1,e2,e3,pm0,pm1,pm2,pm3⟩) ?_
    try simp only[PT]
    refine tk 2 (by exact ⟨e0,e1,e2,e3,pm0,pm1,pm2,pm3⟩) ?_
    try simp only[PT]
    refine tk 3 (by exact ⟨e0,e1,e2,e3,pm0,pm1,pm2,pm3⟩) ?_
    try simp only[PT]
    refine tk 4 (by exact ⟨e0,e1,e2,e3,pm0,pm1,pm2,pm3⟩) ?_
    try simp only[PT]
    refine tk 5 (by exact ⟨e0,e1,e2,e3,pm0,pm1,pm2,pm3⟩) ?_
    try simp only[PT]
    refine wpT_one 6 rfl (by kernel_rfl) (fun K hK=>?_);go_simp;refine (HCM.out _ _ q3 m2 _ (ER.out.new (New.refl _).drew) (HFX.out.new (New.refl _).drew) B3.out D2.out).mono ?_;rintro e w5 ⟨rfl,hn⟩;rw[HT.out];have hn:=hn.undrew;replace e0:=hn.cell e0;replace e1:=hn.cell e1;replace e2:=hn.cell e2;replace e3:=hn.cell e3;clear pm0 pm1 pm2 pm3 pm4 pm5 pm6 pm7 pm8;replace BP:=hid (BP.out.new hn);replace BM:=hid (BM.out.new hn);replace ER:=hid (ER.out.new hn);replace HN:=hid (HN.out.trans hn);clear hn;obtain ⟨⟨pm0,pm1,pm2,pm3⟩,pm4,pm5,pm6,pm7,pm8⟩:=BM.out.four;refine hK.out _ _ (fun _=>?_) ?_
    ·exact ⟨e0,e1,e2,e3,pm0,pm1,pm2,pm3⟩
    clear hK K
    try simp only[PT]
    refine wpT_tail rfl (by kernel_rfl) ?_;simp only[List.drop_succ_cons,List.drop_zero];go_wp2_with fail;clear pm0 pm1 pm2 pm3 pm4 pm5 pm6 pm7 pm8;go_roundw
    case rel=>exact ⟨4,by go_num,hid (.inr <| .inr <| .inr ⟨rfl,HN.out.put4 LM.out _ _ _ _,BP.out.other4w (Nat.ne_of_gt LM2.out) _ _ _ _,f3,BM.out.put4 _ _ _ _,by rw[HY.out];exact ER.out.put4 BM.out _ _ _ _ _ _ _ _⟩)⟩
    case measure=>simp[RowKit.intOf]
   ·have hti:¬(0 < t):=fun h=>hl (htl.1 h);have htb:decide (0 < t)=false:=decide_eq_false hti
    have hy:m3=m2:=by have:=HM3.out;unfold maxR at this;rw[if_neg hl] at this;exact this.symm
    clear htl hl;have HY:=hid hy;clear hy;go_upto_region 7 with (fail);obtain ⟨⟨pm0,pm1,pm2,pm3⟩,pm4,pm5,pm6,pm7,pm8⟩:=BM.out.four;refine wp_region_T 7 (fun W=>W.cell? ⟨g,12,none⟩=some (.int .i64 f3.s)∧W.cell? ⟨g,13,none⟩=some (.slice f3.a f3.l f3.c)∧W.cell? ⟨g,14,none⟩=some (.int .i64 f3.t)∧W.cell? ⟨g,15,none⟩=some (.slice f3.d f3.m f3.k)∧W.cell? ⟨M,0,none⟩=some (.int .i64 f.s)∧W.cell? ⟨M,1,none⟩=some (.slice f.a f.l f.c)∧W.cell? ⟨M,2,none⟩=some (.int .i64 f.t)∧W.cell? ⟨M,3,none⟩=some (.slice f.d f.m f.k)) 8 #[false,false,false,false,false,false,false,false] rfl (by kernel_rfl) (by kernel_rfl) ?_;refine tk 0 (by exact ⟨e0,e1,e2,e3,pm0,pm1,pm2,pm3⟩) ?_
    try simp only[PT]
    refine tk 1 (by exact ⟨e0,e1,e2,e3,pm0,pm1,pm2,pm3⟩) ?_
    try simp only[PT]
    refine tk 2 (by exact ⟨e0,e1,e2,e3,pm0,pm1,pm2,pm3⟩) ?_
    try simp only[PT]
    refine tk 3 (by exact ⟨e0,e1,e2,e3,pm0,pm1,pm2,pm3⟩) ?_
    try simp only[PT]
    refine tk 4 (by exact ⟨e0,e1,e2,e3,pm0,pm1,pm2,pm3⟩) ?_
    try simp only[PT]
    refine tk 5 (by exact ⟨e0,e1,e2,e3,pm0,pm1,pm2,pm3⟩) ?_
    try simp only[PT]
    refine wpT_one 6 rfl (by kernel_rfl) (fun K hK=>?_);go_simp;refine (HCM.out _ _ q3 m2 _ (ER.out.new (New.refl _).drew) (HFX.out.new (New.refl _).drew) B3.out D2.out).mono ?_;rintro e w5 ⟨rfl,hn⟩;rw[HT.out];have hn:=hn.undrew;replace e0:=hn.cell e0;replace e1:=hn.cell e1;replace e2:=hn.cell e2;replace e3:=hn.cell e3;clear pm0 pm1 pm2 pm3 pm4 pm5 pm6 pm7 pm8;replace BP:=hid (BP.out.new hn);replace BM:=hid (BM.out.new hn);replace HFX:=hid (HFX.out.new hn);replace HN:=hid (HN.out.trans hn);clear hn;obtain ⟨⟨pm0,pm1,pm2,pm3⟩,pm4,pm5,pm6,pm7,pm8⟩:=BM.out.four;refine hK.out _ _ (fun _=>?_) ?_
    ·exact ⟨e0,e1,e2,e3,pm0,pm1,pm2,pm3⟩
    clear hK K
    try simp only[PT]
    refine wpT_tail rfl (by kernel_rfl) ?_;simp only[List.drop_succ_cons,List.drop_zero];clear pm0 pm1 pm2 pm3 pm4 pm5 pm6 pm7 pm8;clear e0 e1 e2 e3;go_wp2_with fail;go_roundw
    case rel=>exact ⟨4,by go_num,hid (.inr <| .inr <| .inr ⟨rfl,HN.out,BP.out,f,BM.out,by rw[HY.out];exact HFX.out⟩)⟩
    case measure=>simp[RowKit.intOf]
  ·clear HR;have HN:=hid hN;have BP:=hid hB;have BM:=hid hM;have HFX:=hid hf;clear hN hB hM hf;obtain ⟨⟨pm0,pm1,pm2,pm3⟩,pm4,pm5,pm6,pm7,pm8⟩:=BM.out.four;obtain ⟨⟨p0,p1,p2,p3⟩,p4,p5,p6,p7,p8⟩:=BP.out.four;go_wp2_with fail;refine bodyPost_ret (v:=f.val) (by simp[results,Tryz.results202,go_sem,p0,p1,p2,p3]) rfl ?_;exact ⟨_,rfl,HN.out.put4 (Nat.le_refl _) _ _ _ _,HFX.out.put4 BP.out _ _ _ _ _ _ _ _⟩
end Go.Proofs.YtnjonlnemagomaaGreatDoor
