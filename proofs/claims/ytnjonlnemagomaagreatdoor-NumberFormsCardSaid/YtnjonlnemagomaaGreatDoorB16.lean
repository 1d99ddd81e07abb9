/- Part B16. -/
import Derived.Test.YtnjonlnemagomaaGreatDoorB15
namespace Go.Proofs.YtnjonlnemagomaaGreatDoor
open Go.RowKit Big
open Go.Lib (hid)
set_option maxRecDepth 100000
set_option maxHeartbeats 8000000
theorem Box.otheri {w:World}{B B':Nat}{t:TypeId}{cs:Array Value}(h:Box w B t cs)(hp:B'≠B)(u u':Value):Box ((w.setCell ⟨B',0,none⟩ u).setCell ⟨B',1,none⟩ u') B t cs:=
 (h.other (p:=⟨B',0,none⟩) hp u).other (p:=⟨B',1,none⟩) hp u'
theorem Box.otherf {w:World}{B B':Nat}{t:TypeId}{cs:Array Value}(h:Box w B t cs)(hp:B'≠B)(u u' v v':Value):Box ((((w.setCell ⟨B',0,none⟩ u).setCell ⟨B',1,none⟩ u').setCell ⟨B',2,none⟩ v).setCell ⟨B',3,none⟩ v') B t cs:=
 (((h.other (p:=⟨B',0,none⟩) hp u).other (p:=⟨B',1,none⟩) hp u').other (p:=⟨B',2,none⟩) hp v).other (p:=⟨B',3,none⟩) hp v'
theorem y2x {w w6:World} {x y:Int} {B C:Nat} {t t':TypeId} {s:Int} {a:Option Addr} {l c:Nat} {r:Int} {d:Option Addr} {i j:Nat} {n:Int} {b:Option Addr} {m k:Nat} {p:Int} {e:Option Addr} {f g:Nat} (hN:New w w6)
  (bp:Box w6 B t #[.int .i64 s,.slice a l c]) (bq:Box w6 C t' #[.int .i64 r,.slice d i j]) (hB:w.heap.size<=B) (hC:w.heap.size<=C) (hne:B≠C)
  (h1:y06 w6 (.agg #[.int .i64 n,.slice b m k]) x) (h2:y06 w6 (.agg #[.int .i64 p,.slice e f g]) y):
  ∀ W,W=((((w6.setCell ⟨B,0,none⟩ (.int .i64 n)).setCell ⟨B,1,none⟩ (.slice b m k)).setCell ⟨C,0,none⟩ (.int .i64 p)).setCell ⟨C,1,none⟩ (.slice e f g))->
  New w W/\Box W B t #[.int .i64 n,.slice b m k]/\Box W C t' #[.int .i64 p,.slice e f g]/\y06 W (.agg #[.int .i64 n,.slice b m k]) x/\y06 W (.agg #[.int .i64 p,.slice e f g]) y:=by
 rintro W rfl;exact ⟨(hN.put2 hB _ _).put2 hC _ _,(bp.put2 _ _).otheri (Ne.symm hne) _ _,(bq.otheri hne _ _).put2 _ _,(h1.put2 bp _ _ _ _).put2 (bq.otheri hne _ _) _ _ _ _,(h2.put2 bp _ _ _ _).put2 (bq.otheri hne _ _) _ _ _ _⟩
def ypb (w:World)(n d:Int)(t:Bool)(e:Ending)(w':World):Prop:=∃ (s:Int) (a:Option Addr) (l c:Nat) (s':Int) (a':Option Addr) (l' c':Nat),
 e=.returned (.tuple #[.agg #[.int .i64 s,.slice a l c,.int .i64 s',.slice a' l' c'],.bool t])/\New w w'/\y06 w' (.agg #[.int .i64 s,.slice a l c]) n/\y06 w' (.agg #[.int .i64 s',.slice a' l' c']) d
theorem yfq (va:Value)(q:Rat)(n d:Int)(k:Nat)(w:World)(hx:y07 w va q)(h0:0<=q.num)(hn:IsRt q.num n)(hd:IsRt q.den d)(hb:FB k q)(hk:k<=50000):Calls Tryz.prog 113 #[va] w (ypb w n d (decide (n*n=q.num) && decide (d*d=q.den))):=by
 obtain ⟨s,a,l,c,s',a',l',c',rfl,h1,h2⟩:=hx;obtain ⟨t,ht,ht0⟩:∃ t,q.num.sign=t/\¬t < 0:=⟨_,rfl,fun h=>by have:=Int.sign_neg_iff.1 h;omega⟩;have htb:decide (t < 0)=false:=decide_eq_false ht0;have hsg:=fun W va hx=>y2m va q W hx;simp only[ht] at hsg;have hq1:=fun W va h=>y6v va q.num n k W h hn hb.num (by omega);have hq2:=fun W va h=>y6v va (q.den:Int) d k W h hd hb.den (by omega)
 have rb:∀ {x r:Int},IsRt x r->BdK k x->BdK k r:=fun {x r} h hb=>by
  have h1:=h.2.1
  have h3:r.natAbs<=x.natAbs:=by
   have h4:r<=r*r:=by
    rcases Int.lt_or_le r 1 with h5 | h5
    ·have:r=0:=by have:=h.1;omega
     subst this;omega
    ·have:=Int.mul_le_mul_of_nonneg_right h5 (Int.le_trans (by omega) h5);omega
   have:=h.1;omega
  unfold BdK at *;omega
 have bn:=rb hn hb.num;have bd:=rb hd hb.den;have hm1:=fun W va vb h1 h2=>y0u va vb n n W h1 h2 (bn.bd (by omega)) (bn.bd (by omega));have hm2:=fun W va vb h1 h2=>y0u va vb d d W h1 h2 (bd.bd (by omega)) (bd.bd (by omega));have hc1:=fun W va vb h1 h2=>y3x va vb (n*n) q.num W h1 h2 ((bn.mul bn).bd (by omega)) (hb.num.bd (by omega));have hc2:=fun W va vb h1 h2=>y3x va vb (d*d) (q.den:Int) W h1 h2 ((bd.mul bd).bd (by omega)) (hb.den.bd (by omega));unfold y1t at hc1 hc2;obtain ⟨u1,hu1⟩:∃ u,(n*n - q.num).sign=u:=⟨_,rfl⟩;obtain ⟨u2,hu2⟩:∃ u,(d*d - (q.den:Int)).sign=u:=⟨_,rfl⟩;simp only[hu1] at hc1;simp only[hu2] at hc2
 have hz:∀ {x y u:Int},(x - y).sign=u->(u==0)=decide (x=y):=fun {x y u} h=>by
  by_cases e:x=y
  ·rw[decide_eq_true e]
   have:u=0:=by rw[<-h,e,Int.sub_self];rfl
   rw[this];rfl
  ·rw[decide_eq_false e];exact beq_false_of_ne fun h2=>e (by have:=Int.sign_eq_zero_iff_zero.1 (h.trans h2);omega)
 obtain ⟨b1,hb1⟩:∃ b,decide (n*n=q.num)=b:=⟨_,rfl⟩;obtain ⟨b2,hb2⟩:∃ b,decide (d*d=(q.den:Int))=b:=⟨_,rfl⟩;have hz1:=(hz hu1).trans hb1;have hz2:=(hz hu2).trans hb2;rw[hb1,hb2];clear hu1 hu2 hb1 hb2 hz rb bn bd hn hd hb ht h0;have H1:=hid h1;have H2:=hid h2;have HSG:=hid hsg;have HQ1:=hid hq1;have HQ2:=hid hq2;have HM1:=hid hm1;have HM2:=hid hm2;have HC1:=hid hc1;have HC2:=hid hc2;have HZ1:=hid hz1;have HZ2:=hid hz2;clear h1 h2 hsg hq1 hq2 hm1 hm2 hc1 hc2 hz1 hz2;go_enter Tryz.func113,Tryz.ntmps113;go_upto_region 1 with (fail);obtain ⟨BA,BP,HN⟩:=lay2 w 115 #[.int .i64 s,.slice a l c,.int .i64 s',.slice a' l' c'] 115 #[.int .i64 0,.slice none 0 0,.int .i64 0,.slice none 0 0];obtain ⟨⟨pa0,pa1,pa2,pa3⟩,pa4,pa5,pa6,pa7,pa8⟩:=BA.out.four;go_wp2_with fail;refine (HSG.out _ _ ⟨_,_,_,_,_,_,_,_,rfl,H1.out.new HN.out,H2.out.new HN.out⟩).mono ?_;rintro e w1 ⟨rfl,hn⟩;clear pa0 pa1 pa2 pa3 pa4 pa5 pa6 pa7 pa8;replace BA:=bW BA hn;replace BP:=bW BP hn;replace HN:=tW HN hn;clear hn;have HX1:=hid (H1.out.new HN.out);have HX2:=hid (H2.out.new HN.out);have BPL:=hid BP.out.lt;go_upto_region 3 with (fail);have HN1:=HN;clear HN
 go_cut [4,5] (fun x y wx=>∃ (L M:Nat),x=.pointer (some ⟨L,0,none⟩)/\y=.pointer (some ⟨M,0,none⟩)/\New w1 wx/\w1.heap.size<=L/\w1.heap.size<=M/\yjh wx L n/\yjh wx M d)
 case first=>
  have HN:=hid (New.refl w1);obtain ⟨⟨pa0,pa1,pa2,pa3⟩,pa4,pa5,pa6,pa7,pa8⟩:=BA.out.four;refine y00 8 (fun W=>W.cell? ⟨w.heap.size,0,none⟩=some (.int .i64 s)/\W.cell? ⟨w.heap.size,1,none⟩=some (.slice a l c)/\W.cell? ⟨w.heap.size,2,none⟩=some (.int .i64 s')/\W.cell? ⟨w.heap.size,3,none⟩=some (.slice a' l' c')) 10 #[false,false,false,false,false,false,false,false,false,false] rfl (by kernel_rfl) (by kernel_rfl) ?_;clear pa0 pa1 pa2 pa3 pa4 pa5 pa6 pa7 pa8;replace BA:=hid (BA.out.new (New.refl w1).drew);replace HX1:=hid (HX1.out.new (New.refl w1).drew);replace HX2:=hid (HX2.out.new (New.refl w1).drew);replace HN:=hid (HN.out.drew);obtain ⟨wdr,hwd⟩:∃ x,w1.drew=x:=⟨_,rfl⟩;rw[hwd] at HN BA HX1 HX2⊢;clear hwd;refine tk 0 (by exact cW4 BA) ?_
  try simp only[PT]
  refine tk 1 (by exact cW4 BA) ?_
  try simp only[PT]
  refine tk 3 (by exact cW4 BA) ?_
  try simp only[PT]
  refine tk 4 (by exact cW4 BA) ?_
  try simp only[PT]
  refine y51 2 6 7 rfl rfl rfl (by kernel_rfl) (fun K hK=>?_) (fun K hK=>?_) (fun K hK=>?_)
  ·skip
   go_simp;refine (HQ1.out _ _ HX1.out).mono ?_;rintro e w9 ⟨v9,rfl,hn,hi⟩;obtain ⟨s9,a9,l9,k9,rfl⟩:=hi.shape;have HI9:=hid hi;clear hi;replace BA:=bW BA hn;replace HX1:=hid (HX1.out.new hn);replace HX2:=hid (HX2.out.new hn);replace HN:=tW HN hn;clear hn;refine hK.out _ _ (fun _=>cW4 BA) ?_;clear hK K
   try simp only[PT]
   refine y51 5 6 7 rfl rfl rfl (by kernel_rfl) (fun K hK=>?_) (fun K hK=>?_) (fun K hK=>?_)
   ·skip
    go_simp;refine (HQ2.out _ _ HX2.out).mono ?_;rintro e w10 ⟨v10,rfl,hn,hi⟩;obtain ⟨s8,a8,l8,k8,rfl⟩:=hi.shape;have HI10:=hid hi;clear hi;replace BA:=bW BA hn;replace HX1:=hid (HX1.out.new hn);replace HX2:=hid (HX2.out.new hn);replace HI9:=hid (HI9.out.new hn);replace HN:=tW HN hn;clear hn;refine hK.out _ _ (fun _=>cW4 BA) ?_;clear hK K
    try simp only[PT]
    refine y0h 6 7 rfl rfl (by kernel_rfl) (fun K hK=>?_) (fun K hK=>?_)
    ·skip
     go_simp;have LBL:=hid (HN.out.size);obtain ⟨wa1,hwa,BL_,hn⟩:=y0j w10 113 #[.int .i64 0,.slice none 0 0];rw[hwa];clear hwa;have BL:=hid BL_;clear BL_;replace BA:=bW BA hn;replace HX1:=hid (HX1.out.new hn);replace HX2:=hid (HX2.out.new hn);replace HI9:=hid (HI9.out.new hn);replace HI10:=hid (HI10.out.new hn);replace HN:=tW HN hn;clear hn;refine hK.out _ _ (fun _=>cW4 BA) ?_;clear hK K
     try simp only[PT]
     refine tk1 7 fun K hK=>?_;go_simp;have LBH:=hid (HN.out.size);have NEL:=hid (Nat.ne_of_lt BL.out.lt);obtain ⟨wa2,hwa,BH_,hn⟩:=y0j wa1 113 #[.int .i64 0,.slice none 0 0];rw[hwa];clear hwa;have BH:=hid BH_;clear BH_;replace BA:=bW BA hn;replace HX1:=hid (HX1.out.new hn);replace HX2:=hid (HX2.out.new hn);replace HI9:=hid (HI9.out.new hn);replace HI10:=hid (HI10.out.new hn);replace BL:=bW BL hn;replace HN:=tW HN hn;clear hn;refine hK.out _ _ (fun _=>cW4 BA) ?_;clear hK K
     try simp only[PT]
     refine tlW ?_;obtain ⟨⟨pa0,pa1,pa2,pa3⟩,pa4,pa5,pa6,pa7,pa8⟩:=BA.out.four;obtain ⟨ub0,ub1,ub2,ub3,ub4⟩:=BL.out.two;obtain ⟨v0,v1,v2,v3,v4⟩:=BH.out.two;have hne:=NEL.out;have hne':=NEL.out.symm;go_wp2_with fail
     go_meet
     obtain ⟨r1,r2,r3,r4,r5⟩:=y2x HN.out BL.out BH.out LBL.out LBH.out NEL.out HI9.out HI10.out _ rfl;exact ⟨_,_,rfl,rfl,r1,LBL.out,LBH.out,⟨_,_,_,_,r2,r4⟩,⟨_,_,_,_,r3,r5⟩⟩
    ·skip
     go_simp;have LBH:=hid (HN.out.size);obtain ⟨wa1,hwa,BH_,hn⟩:=y0j w10 113 #[.int .i64 0,.slice none 0 0];rw[hwa];clear hwa;have BH:=hid BH_;clear BH_;replace BA:=bW BA hn;replace HX1:=hid (HX1.out.new hn);replace HX2:=hid (HX2.out.new hn);replace HI9:=hid (HI9.out.new hn);replace HI10:=hid (HI10.out.new hn);replace HN:=tW HN hn;clear hn;refine hK.out _ _ (fun _=>cW4 BA) ?_;clear hK K
     try simp only[PT]
     refine tk1 6 fun K hK=>?_;go_simp;have LBL:=hid (HN.out.size);have NEL:=hid (Nat.ne_of_gt BH.out.lt);obtain ⟨wa2,hwa,BL_,hn⟩:=y0j wa1 113 #[.int .i64 0,.slice none 0 0];rw[hwa];clear hwa;have BL:=hid BL_;clear BL_;replace BA:=bW BA hn;replace HX1:=hid (HX1.out.new hn);replace HX2:=hid (HX2.out.new hn);replace HI9:=hid (HI9.out.new hn);replace HI10:=hid (HI10.out.new hn);replace BH:=bW BH hn;replace HN:=tW HN hn;clear hn;refine hK.out _ _ (fun _=>cW4 BA) ?_;clear hK K
     try simp only[PT]
     refine tlW ?_;obtain ⟨⟨pa0,pa1,pa2,pa3⟩,pa4,pa5,pa6,pa7,pa8⟩:=BA.out.four;obtain ⟨ub0,ub1,ub2,ub3,ub4⟩:=BL.out.two;obtain ⟨v0,v1,v2,v3,v4⟩:=BH.out.two;have hne:=NEL.out;have hne':=NEL.out.symm;go_wp2_with fail
     go_meet
     obtain ⟨r1,r2,r3,r4,r5⟩:=y2x HN.out BL.out BH.out LBL.out LBH.out NEL.out HI9.out HI10.out _ rfl;exact ⟨_,_,rfl,rfl,r1,LBL.out,LBH.out,⟨_,_,_,_,r2,r4⟩,⟨_,_,_,_,r3,r5⟩⟩
   ·skip
    go_simp;have LBL:=hid (HN.out.size);obtain ⟨wa1,hwa,BL_,hn⟩:=y0j w9 113 #[.int .i64 0,.slice none 0 0];rw[hwa];clear hwa;have BL:=hid BL_;clear BL_;replace BA:=bW BA hn;replace HX1:=hid (HX1.out.new hn);replace HX2:=hid (HX2.out.new hn);replace HI9:=hid (HI9.out.new hn);replace HN:=tW HN hn;clear hn;refine hK.out _ _ (fun _=>cW4 BA) ?_;clear hK K
    try simp only[PT]
    refine y0h 5 7 rfl rfl (by kernel_rfl) (fun K hK=>?_) (fun K hK=>?_)
    ·skip
     go_simp;refine (HQ2.out _ _ HX2.out).mono ?_;rintro e w10 ⟨v10,rfl,hn,hi⟩;obtain ⟨s8,a8,l8,k8,rfl⟩:=hi.shape;have HI10:=hid hi;clear hi;replace BA:=bW BA hn;replace HX1:=hid (HX1.out.new hn);replace HX2:=hid (HX2.out.new hn);replace HI9:=hid (HI9.out.new hn);replace BL:=bW BL hn;replace HN:=tW HN hn;clear hn;refine hK.out _ _ (fun _=>cW4 BA) ?_;clear hK K
     try simp only[PT]
     refine tk1 7 fun K hK=>?_;go_simp;have LBH:=hid (HN.out.size);have NEL:=hid (Nat.ne_of_lt BL.out.lt);obtain ⟨wa2,hwa,BH_,hn⟩:=y0j w10 113 #[.int .i64 0,.slice none 0 0];rw[hwa];clear hwa;have BH:=hid BH_;clear BH_;replace BA:=bW BA hn;replace HX1:=hid (HX1.out.new hn);replace HX2:=hid (HX2.out.new hn);replace HI9:=hid (HI9.out.new hn);replace BL:=bW BL hn;replace HI10:=hid (HI10.out.new hn);replace HN:=tW HN hn;clear hn;refine hK.out _ _ (fun _=>cW4 BA) ?_;clear hK K
     try simp only[PT]
     refine tlW ?_;obtain ⟨⟨pa0,pa1,pa2,pa3⟩,pa4,pa5,pa6,pa7,pa8⟩:=BA.out.four;obtain ⟨ub0,ub1,ub2,ub3,ub4⟩:=BL.out.two;obtain ⟨v0,v1,v2,v3,v4⟩:=BH.out.two;have hne:=NEL.out;have hne':=NEL.out.symm;go_wp2_with fail
     go_meet
     obtain ⟨r1,r2,r3,r4,r5⟩:=y2x HN.out BL.out BH.out LBL.out LBH.out NEL.out HI9.out HI10.out _ rfl;exact ⟨_,_,rfl,rfl,r1,LBL.out,LBH.out,⟨_,_,_,_,r2,r4⟩,⟨_,_,_,_,r3,r5⟩⟩
    ·skip
     go_simp;have LBH:=hid (HN.out.size);have NEL:=hid (Nat.ne_of_lt BL.out.lt);obtain ⟨wa2,hwa,BH_,hn⟩:=y0j wa1 113 #[.int .i64 0,.slice none 0 0];rw[hwa];clear hwa;have BH:=hid BH_;clear BH_;replace BA:=bW BA hn;replace HX1:=hid (HX1.out.new hn);replace HX2:=hid (HX2.out.new hn);replace HI9:=hid (HI9.out.new hn);replace BL:=bW BL hn;replace HN:=tW HN hn;clear hn;refine hK.out _ _ (fun _=>cW4 BA) ?_;clear hK K
     try simp only[PT]
     refine tk1 5 fun K hK=>?_;go_simp;refine (HQ2.out _ _ HX2.out).mono ?_;rintro e w10 ⟨v10,rfl,hn,hi⟩;obtain ⟨s8,a8,l8,k8,rfl⟩:=hi.shape;have HI10:=hid hi;clear hi;replace BA:=bW BA hn;replace HX1:=hid (HX1.out.new hn);replace HX2:=hid (HX2.out.new hn);replace HI9:=hid (HI9.out.new hn);replace BL:=bW BL hn;replace BH:=bW BH hn;replace HN:=tW HN hn;clear hn;refine hK.out _ _ (fun _=>cW4 BA) ?_;clear hK K
     try simp only[PT]
     refine tlW ?_;obtain ⟨⟨pa0,pa1,pa2,pa3⟩,pa4,pa5,pa6,pa7,pa8⟩:=BA.out.four;obtain ⟨ub0,ub1,ub2,ub3,ub4⟩:=BL.out.two;obtain ⟨v0,v1,v2,v3,v4⟩:=BH.out.two;have hne:=NEL.out;have hne':=NEL.out.symm;go_wp2_with fail
     go_meet
     obtain ⟨r1,r2,r3,r4,r5⟩:=y2x HN.out BL.out BH.out LBL.out LBH.out NEL.out HI9.out HI10.out _ rfl;exact ⟨_,_,rfl,rfl,r1,LBL.out,LBH.out,⟨_,_,_,_,r2,r4⟩,⟨_,_,_,_,r3,r5⟩⟩
   ·skip
    go_simp;have LBH:=hid (HN.out.size);obtain ⟨wa1,hwa,BH_,hn⟩:=y0j w9 113 #[.int .i64 0,.slice none 0 0];rw[hwa];clear hwa;have BH:=hid BH_;clear BH_;replace BA:=bW BA hn;replace HX1:=hid (HX1.out.new hn);replace HX2:=hid (HX2.out.new hn);replace HI9:=hid (HI9.out.new hn);replace HN:=tW HN hn;clear hn;refine hK.out _ _ (fun _=>cW4 BA) ?_;clear hK K
    try simp only[PT]
    refine y0h 5 6 rfl rfl (by kernel_rfl) (fun K hK=>?_) (fun K hK=>?_)
    ·skip
     go_simp;refine (HQ2.out _ _ HX2.out).mono ?_;rintro e w10 ⟨v10,rfl,hn,hi⟩;obtain ⟨s8,a8,l8,k8,rfl⟩:=hi.shape;have HI10:=hid hi;clear hi;replace BA:=bW BA hn;replace HX1:=hid (HX1.out.new hn);replace HX2:=hid (HX2.out.new hn);replace HI9:=hid (HI9.out.new hn);replace BH:=bW BH hn;replace HN:=tW HN hn;clear hn;refine hK.out _ _ (fun _=>cW4 BA) ?_;clear hK K
     try simp only[PT]
     refine tk1 6 fun K hK=>?_;go_simp;have LBL:=hid (HN.out.size);have NEL:=hid (Nat.ne_of_gt BH.out.lt);obtain ⟨wa2,hwa,BL_,hn⟩:=y0j w10 113 #[.int .i64 0,.slice none 0 0];rw[hwa];clear hwa;have BL:=hid BL_;clear BL_;replace BA:=bW BA hn;replace HX1:=hid (HX1.out.new hn);replace HX2:=hid (HX2.out.new hn);replace HI9:=hid (HI9.out.new hn);replace BH:=bW BH hn;replace HI10:=hid (HI10.out.new hn);replace HN:=tW HN hn;clear hn;refine hK.out _ _ (fun _=>cW4 BA) ?_;clear hK K
     try simp only[PT]
     refine tlW ?_;obtain ⟨⟨pa0,pa1,pa2,pa3⟩,pa4,pa5,pa6,pa7,pa8⟩:=BA.out.four;obtain ⟨ub0,ub1,ub2,ub3,ub4⟩:=BL.out.two;obtain ⟨v0,v1,v2,v3,v4⟩:=BH.out.two;have hne:=NEL.out;have hne':=NEL.out.symm;go_wp2_with fail
     go_meet
     obtain ⟨r1,r2,r3,r4,r5⟩:=y2x HN.out BL.out BH.out LBL.out LBH.out NEL.out HI9.out HI10.out _ rfl;exact ⟨_,_,rfl,rfl,r1,LBL.out,LBH.out,⟨_,_,_,_,r2,r4⟩,⟨_,_,_,_,r3,r5⟩⟩
    ·skip
     go_simp;have LBL:=hid (HN.out.size);have NEL:=hid (Nat.ne_of_gt BH.out.lt);obtain ⟨wa2,hwa,BL_,hn⟩:=y0j wa1 113 #[.int .i64 0,.slice none 0 0];rw[hwa];clear hwa;have BL:=hid BL_;clear BL_;replace BA:=bW BA hn;replace HX1:=hid (HX1.out.new hn);replace HX2:=hid (HX2.out.new hn);replace HI9:=hid (HI9.out.new hn);replace BH:=bW BH hn;replace HN:=tW HN hn;clear hn;refine hK.out _ _ (fun _=>cW4 BA) ?_;clear hK K
     try simp only[PT]
     refine tk1 5 fun K hK=>?_;go_simp;refine (HQ2.out _ _ HX2.out).mono ?_;rintro e w10 ⟨v10,rfl,hn,hi⟩;obtain ⟨s8,a8,l8,k8,rfl⟩:=hi.shape;have HI10:=hid hi;clear hi;replace BA:=bW BA hn;replace HX1:=hid (HX1.out.new hn);replace HX2:=hid (HX2.out.new hn);replace HI9:=hid (HI9.out.new hn);replace BH:=bW BH hn;replace BL:=bW BL hn;replace HN:=tW HN hn;clear hn;refine hK.out _ _ (fun _=>cW4 BA) ?_;clear hK K
     try simp only[PT]
     refine tlW ?_;obtain ⟨⟨pa0,pa1,pa2,pa3⟩,pa4,pa5,pa6,pa7,pa8⟩:=BA.out.four;obtain ⟨ub0,ub1,ub2,ub3,ub4⟩:=BL.out.two;obtain ⟨v0,v1,v2,v3,v4⟩:=BH.out.two;have hne:=NEL.out;have hne':=NEL.out.symm;go_wp2_with fail
     go_meet
     obtain ⟨r1,r2,r3,r4,r5⟩:=y2x HN.out BL.out BH.out LBL.out LBH.out NEL.out HI9.out HI10.out _ rfl;exact ⟨_,_,rfl,rfl,r1,LBL.out,LBH.out,⟨_,_,_,_,r2,r4⟩,⟨_,_,_,_,r3,r5⟩⟩
  ·skip
   go_simp;have LBL:=hid (HN.out.size);obtain ⟨wa1,hwa,BL_,hn⟩:=y0j wdr 113 #[.int .i64 0,.slice none 0 0];rw[hwa];clear hwa;have BL:=hid BL_;clear BL_;replace BA:=bW BA hn;replace HX1:=hid (HX1.out.new hn);replace HX2:=hid (HX2.out.new hn);replace HN:=tW HN hn;clear hn;refine hK.out _ _ (fun _=>cW4 BA) ?_;clear hK K
   try simp only[PT]
   refine y0h 2 7 rfl rfl (by kernel_rfl) (fun K hK=>?_) (fun K hK=>?_)
   ·skip
    go_simp;refine (HQ1.out _ _ HX1.out).mono ?_;rintro e w9 ⟨v9,rfl,hn,hi⟩;obtain ⟨s9,a9,l9,k9,rfl⟩:=hi.shape;have HI9:=hid hi;clear hi;replace BA:=bW BA hn;replace HX1:=hid (HX1.out.new hn);replace HX2:=hid (HX2.out.new hn);replace BL:=bW BL hn;replace HN:=tW HN hn;clear hn;refine hK.out _ _ (fun _=>cW4 BA) ?_;clear hK K
    try simp only[PT]
    refine y0h 5 7 rfl rfl (by kernel_rfl) (fun K hK=>?_) (fun K hK=>?_)
    ·skip
     go_simp;refine (HQ2.out _ _ HX2.out).mono ?_;rintro e w10 ⟨v10,rfl,hn,hi⟩;obtain ⟨s8,a8,l8,k8,rfl⟩:=hi.shape;have HI10:=hid hi;clear hi;replace BA:=bW BA hn;replace HX1:=hid (HX1.out.new hn);replace HX2:=hid (HX2.out.new hn);replace BL:=bW BL hn;replace HI9:=hid (HI9.out.new hn);replace HN:=tW HN hn;clear hn;refine hK.out _ _ (fun _=>cW4 BA) ?_;clear hK K
     try simp only[PT]
     refine tk1 7 fun K hK=>?_;go_simp;have LBH:=hid (HN.out.size);have NEL:=hid (Nat.ne_of_lt BL.out.lt);obtain ⟨wa2,hwa,BH_,hn⟩:=y0j w10 113 #[.int .i64 0,.slice none 0 0];rw[hwa];clear hwa;have BH:=hid BH_;clear BH_;replace BA:=bW BA hn;replace HX1:=hid (HX1.out.new hn);replace HX2:=hid (HX2.out.new hn);replace BL:=bW BL hn;replace HI9:=hid (HI9.out.new hn);replace HI10:=hid (HI10.out.new hn);replace HN:=tW HN hn;clear hn;refine hK.out _ _ (fun _=>cW4 BA) ?_;clear hK K
     try simp only[PT]
     refine tlW ?_;obtain ⟨⟨pa0,pa1,pa2,pa3⟩,pa4,pa5,pa6,pa7,pa8⟩:=BA.out.four;obtain ⟨ub0,ub1,ub2,ub3,ub4⟩:=BL.out.two;obtain ⟨v0,v1,v2,v3,v4⟩:=BH.out.two;have hne:=NEL.out;have hne':=NEL.out.symm;go_wp2_with fail
     go_meet
     obtain ⟨r1,r2,r3,r4,r5⟩:=y2x HN.out BL.out BH.out LBL.out LBH.out NEL.out HI9.out HI10.out _ rfl;exact ⟨_,_,rfl,rfl,r1,LBL.out,LBH.out,⟨_,_,_,_,r2,r4⟩,⟨_,_,_,_,r3,r5⟩⟩
    ·skip
     go_simp;have LBH:=hid (HN.out.size);have NEL:=hid (Nat.ne_of_lt BL.out.lt);obtain ⟨wa2,hwa,BH_,hn⟩:=y0j w9 113 #[.int .i64 0,.slice none 0 0];rw[hwa];clear hwa;have BH:=hid BH_;clear BH_;replace BA:=bW BA hn;replace HX1:=hid (HX1.out.new hn);replace HX2:=hid (HX2.out.new hn);replace BL:=bW BL hn;replace HI9:=hid (HI9.out.new hn);replace HN:=tW HN hn;clear hn;refine hK.out _ _ (fun _=>cW4 BA) ?_;clear hK K
     try simp only[PT]
     refine tk1 5 fun K hK=>?_;go_simp;refine (HQ2.out _ _ HX2.out).mono ?_;rintro e w10 ⟨v10,rfl,hn,hi⟩;obtain ⟨s8,a8,l8,k8,rfl⟩:=hi.shape;have HI10:=hid hi;clear hi;replace BA:=bW BA hn;replace HX1:=hid (HX1.out.new hn);replace HX2:=hid (HX2.out.new hn);replace BL:=bW BL hn;replace HI9:=hid (HI9.out.new hn);replace BH:=bW BH hn;replace HN:=tW HN hn;clear hn;refine hK.out _ _ (fun _=>cW4 BA) ?_;clear hK K
     try simp only[PT]
     refine tlW ?_;obtain ⟨⟨pa0,pa1,pa2,pa3⟩,pa4,pa5,pa6,pa7,pa8⟩:=BA.out.four;obtain ⟨ub0,ub1,ub2,ub3,ub4⟩:=BL.out.two;obtain ⟨v0,v1,v2,v3,v4⟩:=BH.out.two;have hne:=NEL.out;have hne':=NEL.out.symm;go_wp2_with fail
     go_meet
     obtain ⟨r1,r2,r3,r4,r5⟩:=y2x HN.out BL.out BH.out LBL.out LBH.out NEL.out HI9.out HI10.out _ rfl;exact ⟨_,_,rfl,rfl,r1,LBL.out,LBH.out,⟨_,_,_,_,r2,r4⟩,⟨_,_,_,_,r3,r5⟩⟩
   ·skip
    go_simp;have LBH:=hid (HN.out.size);have NEL:=hid (Nat.ne_of_lt BL.out.lt);obtain ⟨wa2,hwa,BH_,hn⟩:=y0j wa1 113 #[.int .i64 0,.slice none 0 0];rw[hwa];clear hwa;have BH:=hid BH_;clear BH_;replace BA:=bW BA hn;replace HX1:=hid (HX1.out.new hn);replace HX2:=hid (HX2.out.new hn);replace BL:=bW BL hn;replace HN:=tW HN hn;clear hn;refine hK.out _ _ (fun _=>cW4 BA) ?_;clear hK K
    try simp only[PT]
    refine tk1 2 fun K hK=>?_;go_simp;refine (HQ1.out _ _ HX1.out).mono ?_;rintro e w9 ⟨v9,rfl,hn,hi⟩;obtain ⟨s9,a9,l9,k9,rfl⟩:=hi.shape;have HI9:=hid hi;clear hi;replace BA:=bW BA hn;replace HX1:=hid (HX1.out.new hn);replace HX2:=hid (HX2.out.new hn);replace BL:=bW BL hn;replace BH:=bW BH hn;replace HN:=tW HN hn;clear hn;refine hK.out _ _ (fun _=>cW4 BA) ?_;clear hK K
    try simp only[PT]
    refine tk1 5 fun K hK=>?_;go_simp;refine (HQ2.out _ _ HX2.out).mono ?_;rintro e w10 ⟨v10,rfl,hn,hi⟩;obtain ⟨s8,a8,l8,k8,rfl⟩:=hi.shape;have HI10:=hid hi;clear hi;replace BA:=bW BA hn;replace HX1:=hid (HX1.out.new hn);replace HX2:=hid (HX2.out.new hn);replace BL:=bW BL hn;replace BH:=bW BH hn;replace HI9:=hid (HI9.out.new hn);replace HN:=tW HN hn;clear hn;refine hK.out _ _ (fun _=>cW4 BA) ?_;clear hK K
    try simp only[PT]
    refine tlW ?_;obtain ⟨⟨pa0,pa1,pa2,pa3⟩,pa4,pa5,pa6,pa7,pa8⟩:=BA.out.four;obtain ⟨ub0,ub1,ub2,ub3,ub4⟩:=BL.out.two;obtain ⟨v0,v1,v2,v3,v4⟩:=BH.out.two;have hne:=NEL.out;have hne':=NEL.out.symm;go_wp2_with fail
    go_meet
    obtain ⟨r1,r2,r3,r4,r5⟩:=y2x HN.out BL.out BH.out LBL.out LBH.out NEL.out HI9.out HI10.out _ rfl;exact ⟨_,_,rfl,rfl,r1,LBL.out,LBH.out,⟨_,_,_,_,r2,r4⟩,⟨_,_,_,_,r3,r5⟩⟩
  ·skip
   go_simp;have LBH:=hid (HN.out.size);obtain ⟨wa1,hwa,BH_,hn⟩:=y0j wdr 113 #[.int .i64 0,.slice none 0 0];rw[hwa];clear hwa;have BH:=hid BH_;clear BH_;replace BA:=bW BA hn;replace HX1:=hid (HX1.out.new hn);replace HX2:=hid (HX2.out.new hn);replace HN:=tW HN hn;clear hn;refine hK.out _ _ (fun _=>cW4 BA) ?_;clear hK K
   try simp only[PT]
   refine y0h 2 6 rfl rfl (by kernel_rfl) (fun K hK=>?_) (fun K hK=>?_)
   ·skip
    go_simp;refine (HQ1.out _ _ HX1.out).mono ?_;rintro e w9 ⟨v9,rfl,hn,hi⟩;obtain ⟨s9,a9,l9,k9,rfl⟩:=hi.shape;have HI9:=hid hi;clear hi;replace BA:=bW BA hn;replace HX1:=hid (HX1.out.new hn);replace HX2:=hid (HX2.out.new hn);replace BH:=bW BH hn;replace HN:=tW HN hn;clear hn;refine hK.out _ _ (fun _=>cW4 BA) ?_;clear hK K
    try simp only[PT]
    refine y0h 5 6 rfl rfl (by kernel_rfl) (fun K hK=>?_) (fun K hK=>?_)
    ·skip
     go_simp;refine (HQ2.out _ _ HX2.out).mono ?_;rintro e w10 ⟨v10,rfl,hn,hi⟩;obtain ⟨s8,a8,l8,k8,rfl⟩:=hi.shape;have HI10:=hid hi;clear hi;replace BA:=bW BA hn;replace HX1:=hid (HX1.out.new hn);replace HX2:=hid (HX2.out.new hn);replace BH:=bW BH hn;replace HI9:=hid (HI9.out.new hn);replace HN:=tW HN hn;clear hn;refine hK.out _ _ (fun _=>cW4 BA) ?_;clear hK K
     try simp only[PT]
     refine tk1 6 fun K hK=>?_;go_simp;have LBL:=hid (HN.out.size);have NEL:=hid (Nat.ne_of_gt BH.out.lt);obtain ⟨wa2,hwa,BL_,hn⟩:=y0j w10 113 #[.int .i64 0,.slice none 0 0];rw[hwa];clear hwa;have BL:=hid BL_;clear BL_;replace BA:=bW BA hn;replace HX1:=hid (HX1.out.new hn);replace HX2:=hid (HX2.out.new hn);replace BH:=bW BH hn;replace HI9:=hid (HI9.out.new hn);replace HI10:=hid (HI10.out.new hn);replace HN:=tW HN hn;clear hn;refine hK.out _ _ (fun _=>cW4 BA) ?_;clear hK K
     try simp only[PT]
     refine tlW ?_;obtain ⟨⟨pa0,pa1,pa2,pa3⟩,pa4,pa5,pa6,pa7,pa8⟩:=BA.out.four;obtain ⟨ub0,ub1,ub2,ub3,ub4⟩:=BL.out.two;obtain ⟨v0,v1,v2,v3,v4⟩:=BH.out.two;have hne:=NEL.out;have hne':=NEL.out.symm;go_wp2_with fail
     go_meet
     obtain ⟨r1,r2,r3,r4,r5⟩:=y2x HN.out BL.out BH.out LBL.out LBH.out NEL.out HI9.out HI10.out _ rfl;exact ⟨_,_,rfl,rfl,r1,LBL.out,LBH.out,⟨_,_,_,_,r2,r4⟩,⟨_,_,_,_,r3,r5⟩⟩
    ·skip
     go_simp;have LBL:=hid (HN.out.size);have NEL:=hid (Nat.ne_of_gt BH.out.lt);obtain ⟨wa2,hwa,BL_,hn⟩:=y0j w9 113 #[.int .i64 0,.slice none 0 0];rw[hwa];clear hwa;have BL:=hid BL_;clear BL_;replace BA:=bW BA hn;replace HX1:=hid (HX1.out.new hn);replace HX2:=hid (HX2.out.new hn);replace BH:=bW BH hn;replace HI9:=hid (HI9.out.new hn);replace HN:=tW HN hn;clear hn;refine hK.out _ _ (fun _=>cW4 BA) ?_;clear hK K
     try simp only[PT]
     refine tk1 5 fun K hK=>?_;go_simp;refine (HQ2.out _ _ HX2.out).mono ?_;rintro e w10 ⟨v10,rfl,hn,hi⟩;obtain ⟨s8,a8,l8,k8,rfl⟩:=hi.shape;have HI10:=hid hi;clear hi;replace BA:=bW BA hn;replace HX1:=hid (HX1.out.new hn);replace HX2:=hid (HX2.out.new hn);replace BH:=bW BH hn;replace HI9:=hid (HI9.out.new hn);replace BL:=bW BL hn;replace HN:=tW HN hn;clear hn;refine hK.out _ _ (fun _=>cW4 BA) ?_;clear hK K
     try simp only[PT]
     refine tlW ?_;obtain ⟨⟨pa0,pa1,pa2,pa3⟩,pa4,pa5,pa6,pa7,pa8⟩:=BA.out.four;obtain ⟨ub0,ub1,ub2,ub3,ub4⟩:=BL.out.two;obtain ⟨v0,v1,v2,v3,v4⟩:=BH.out.two;have hne:=NEL.out;have hne':=NEL.out.symm;go_wp2_with fail
     go_meet
     obtain ⟨r1,r2,r3,r4,r5⟩:=y2x HN.out BL.out BH.out LBL.out LBH.out NEL.out HI9.out HI10.out _ rfl;exact ⟨_,_,rfl,rfl,r1,LBL.out,LBH.out,⟨_,_,_,_,r2,r4⟩,⟨_,_,_,_,r3,r5⟩⟩
   ·skip
    go_simp;have LBL:=hid (HN.out.size);have NEL:=hid (Nat.ne_of_gt BH.out.lt);obtain ⟨wa2,hwa,BL_,hn⟩:=y0j wa1 113 #[.int .i64 0,.slice none 0 0];rw[hwa];clear hwa;have BL:=hid BL_;clear BL_;replace BA:=bW BA hn;replace HX1:=hid (HX1.out.new hn);replace HX2:=hid (HX2.out.new hn);replace BH:=bW BH hn;replace HN:=tW HN hn;clear hn;refine hK.out _ _ (fun _=>cW4 BA) ?_;clear hK K
    try simp only[PT]
    refine tk1 2 fun K hK=>?_;go_simp;refine (HQ1.out _ _ HX1.out).mono ?_;rintro e w9 ⟨v9,rfl,hn,hi⟩;obtain ⟨s9,a9,l9,k9,rfl⟩:=hi.shape;have HI9:=hid hi;clear hi;replace BA:=bW BA hn;replace HX1:=hid (HX1.out.new hn);replace HX2:=hid (HX2.out.new hn);replace BH:=bW BH hn;replace BL:=bW BL hn;replace HN:=tW HN hn;clear hn;refine hK.out _ _ (fun _=>cW4 BA) ?_;clear hK K
    try simp only[PT]
    refine tk1 5 fun K hK=>?_;go_simp;refine (HQ2.out _ _ HX2.out).mono ?_;rintro e w10 ⟨v10,rfl,hn,hi⟩;obtain ⟨s8,a8,l8,k8,rfl⟩:=hi.shape;have HI10:=hid hi;clear hi;replace BA:=bW BA hn;replace HX1:=hid (HX1.out.new hn);replace HX2:=hid (HX2.out.new hn);replace BH:=bW BH hn;replace BL:=bW BL hn;replace HI9:=hid (HI9.out.new hn);replace HN:=tW HN hn;clear hn;refine hK.out _ _ (fun _=>cW4 BA) ?_;clear hK K
    try simp only[PT]
    refine tlW ?_;obtain ⟨⟨pa0,pa1,pa2,pa3⟩,pa4,pa5,pa6,pa7,pa8⟩:=BA.out.four;obtain ⟨ub0,ub1,ub2,ub3,ub4⟩:=BL.out.two;obtain ⟨v0,v1,v2,v3,v4⟩:=BH.out.two;have hne:=NEL.out;have hne':=NEL.out.symm;go_wp2_with fail
    go_meet
    obtain ⟨r1,r2,r3,r4,r5⟩:=y2x HN.out BL.out BH.out LBL.out LBH.out NEL.out HI9.out HI10.out _ rfl;exact ⟨_,_,rfl,rfl,r1,LBL.out,LBH.out,⟨_,_,_,_,r2,r4⟩,⟨_,_,_,_,r3,r5⟩⟩
 case rest=>
  obtain ⟨L,M,rfl,rfl,hn,hL,hM,⟨s9,a9,l9,k9,hb9,hi9⟩,⟨s8,a8,l8,k8,hb8,hi8⟩⟩:=hcut;obtain ⟨w2,hw2⟩:∃ x,x=wc:=⟨_,rfl⟩;rw[<-hw2] at hn hb9 hi9 hb8 hi8⊢;clear hw2;replace BA:=bW BA hn;replace BP:=bW BP hn;replace HX1:=hid (HX1.out.new hn);replace HX2:=hid (HX2.out.new hn);have HN:=hid (HN1.out.trans hn);clear HN1 hn;have BL:=hid hb9;have IL:=hid hi9;have BM:=hid hb8;have IM:=hid hi8;clear hb9 hi9 hb8 hi8
  have hBL:w.heap.size+1≠L:=by have:=BPL.out;omega
  have hBM:w.heap.size+1≠M:=by have:=BPL.out;omega
  clear hL hM;have HBL:=hid hBL;have HBM:=hid hBM;clear hBL hBM;go_upto_region 4 with (fail)
  cases b1 with
  | true=>
   obtain ⟨⟨pa0,pa1,pa2,pa3⟩,pa4,pa5,pa6,pa7,pa8⟩:=BA.out.four;obtain ⟨ub0,ub1,ub2,ub3,ub4⟩:=BL.out.two;obtain ⟨yb0,yb1,yb2,yb3,yb4⟩:=BM.out.two;refine y00 20 (fun W=>W.cell? ⟨w.heap.size,0,none⟩=some (.int .i64 s)/\W.cell? ⟨w.heap.size,1,none⟩=some (.slice a l c)/\W.cell? ⟨w.heap.size,2,none⟩=some (.int .i64 s')/\W.cell? ⟨w.heap.size,3,none⟩=some (.slice a' l' c')/\W.cell? ⟨L,0,none⟩=some (.int .i64 s9)/\W.cell? ⟨L,1,none⟩=some (.slice a9 l9 k9)/\W.cell? ⟨M,0,none⟩=some (.int .i64 s8)/\W.cell? ⟨M,1,none⟩=some (.slice a8 l8 k8)) 21 #[false,false,false,false,false,false,false,false,false,false,false,false,false,false,false,false,false,false,false,false,false] rfl (by kernel_rfl) (by kernel_rfl) ?_;refine tk 0 (by exact ⟨pa0,pa1,pa2,pa3,ub0,ub1,yb0,yb1⟩) ?_
   try simp only[PE,PT]
   refine tk 1 (by exact ⟨pa0,pa1,pa2,pa3,ub0,ub1,yb0,yb1⟩) ?_
   try simp only[PE,PT]
   refine tk 2 (by exact ⟨pa0,pa1,pa2,pa3,ub0,ub1,yb0,yb1⟩) ?_
   try simp only[PE,PT]
   refine tk 3 (by exact ⟨pa0,pa1,pa2,pa3,ub0,ub1,yb0,yb1⟩) ?_
   try simp only[PE,PT]
   refine tk 4 (by exact ⟨pa0,pa1,pa2,pa3,ub0,ub1,yb0,yb1⟩) ?_
   try simp only[PE,PT]
   refine tk 6 (by exact ⟨pa0,pa1,pa2,pa3,ub0,ub1,yb0,yb1⟩) ?_
   try simp only[PE,PT]
   refine tk 7 (by exact ⟨pa0,pa1,pa2,pa3,ub0,ub1,yb0,yb1⟩) ?_
   try simp only[PE,PT]
   refine tk1 5 fun K hK=>?_
   try simp only[PE]
   go_simp;refine (HM1.out _ _ _ (IL.out.new (New.refl _).drew) (IL.out.new (New.refl _).drew)).mono ?_;rintro e w3 ⟨v3,rfl,hn,hi⟩;have hn:=hn.undrew;have I3:=hid hi;clear hi;clear pa0 pa1 pa2 pa3 pa4 pa5 pa6 pa7 pa8;clear ub0 ub1 ub2 ub3 ub4 yb0 yb1 yb2 yb3 yb4;replace BA:=bW BA hn;replace BP:=bW BP hn;replace BL:=bW BL hn;replace BM:=bW BM hn;replace IL:=hid (IL.out.new hn);replace IM:=hid (IM.out.new hn);replace HX1:=hid (HX1.out.new hn);replace HX2:=hid (HX2.out.new hn);replace HN:=tW HN hn;clear hn;obtain ⟨⟨pa0,pa1,pa2,pa3⟩,pa4,pa5,pa6,pa7,pa8⟩:=BA.out.four;obtain ⟨ub0,ub1,ub2,ub3,ub4⟩:=BL.out.two;obtain ⟨yb0,yb1,yb2,yb3,yb4⟩:=BM.out.two;refine hK.out _ _ (fun _=>⟨pa0,pa1,pa2,pa3,ub0,ub1,yb0,yb1⟩) ?_;clear hK K
   try simp only[PE,PT]
   refine tk1 8 fun K hK=>?_
   try simp only[PE]
   go_simp;refine (HC1.out _ _ _ I3.out HX1.out).mono ?_;rintro e w4 ⟨rfl,hn⟩;clear I3;clear pa0 pa1 pa2 pa3 pa4 pa5 pa6 pa7 pa8;clear ub0 ub1 ub2 ub3 ub4 yb0 yb1 yb2 yb3 yb4;replace BA:=bW BA hn;replace BP:=bW BP hn;replace BL:=bW BL hn;replace BM:=bW BM hn;replace IL:=hid (IL.out.new hn);replace IM:=hid (IM.out.new hn);replace HX2:=hid (HX2.out.new hn);replace HN:=tW HN hn;clear hn;obtain ⟨⟨pa0,pa1,pa2,pa3⟩,pa4,pa5,pa6,pa7,pa8⟩:=BA.out.four;obtain ⟨ub0,ub1,ub2,ub3,ub4⟩:=BL.out.two;obtain ⟨yb0,yb1,yb2,yb3,yb4⟩:=BM.out.two;refine hK.out _ _ (fun _=>⟨pa0,pa1,pa2,pa3,ub0,ub1,yb0,yb1⟩) ?_;clear hK K
   try simp only[PE,PT]
   refine y0q 9 (v:=?_) rfl (by kernel_rfl) (fun _ _ _ h=>h) (by exact ⟨pa0,pa1,pa2,pa3,ub0,ub1,yb0,yb1⟩) (Or.inl ⟨by first | kernel_rfl | rfl,?_⟩) ?_;rotate_left
   ·(intro W hW;(try dsimp only at hW);(have h:=HZ1.out;go_simp;try simp only[h]);try with_reducible rfl)
   try simp only[PE,PT]
   refine tk 10 (by exact ⟨pa0,pa1,pa2,pa3,ub0,ub1,yb0,yb1⟩) ?_
   try simp only[PE,PT]
   refine tk 11 (by exact ⟨pa0,pa1,pa2,pa3,ub0,ub1,yb0,yb1⟩) ?_
   try simp only[PE,PT]
   refine tk 12 (by exact ⟨pa0,pa1,pa2,pa3,ub0,ub1,yb0,yb1⟩) ?_
   try simp only[PE,PT]
   refine tk 14 (by exact ⟨pa0,pa1,pa2,pa3,ub0,ub1,yb0,yb1⟩) ?_
   try simp only[PE,PT]
   refine tk 15 (by exact ⟨pa0,pa1,pa2,pa3,ub0,ub1,yb0,yb1⟩) ?_
   try simp only[PE,PT]
   refine tk1 13 fun K hK=>?_
   try simp only[PE]
   go_simp;refine (HM2.out _ _ _ IM.out IM.out).mono ?_;rintro e w5 ⟨v5,rfl,hn,hi⟩;have I5:=hid hi;clear hi;clear pa0 pa1 pa2 pa3 pa4 pa5 pa6 pa7 pa8;clear ub0 ub1 ub2 ub3 ub4 yb0 yb1 yb2 yb3 yb4;replace BA:=bW BA hn;replace BP:=bW BP hn;replace BL:=bW BL hn;replace BM:=bW BM hn;replace IL:=hid (IL.out.new hn);replace IM:=hid (IM.out.new hn);replace HX2:=hid (HX2.out.new hn);replace HN:=tW HN hn;clear hn;obtain ⟨⟨pa0,pa1,pa2,pa3⟩,pa4,pa5,pa6,pa7,pa8⟩:=BA.out.four;obtain ⟨ub0,ub1,ub2,ub3,ub4⟩:=BL.out.two;obtain ⟨yb0,yb1,yb2,yb3,yb4⟩:=BM.out.two;refine hK.out _ _ (fun _=>⟨pa0,pa1,pa2,pa3,ub0,ub1,yb0,yb1⟩) ?_;clear hK K
   try simp only[PE,PT]
   refine tk1 16 fun K hK=>?_
   try simp only[PE]
   go_simp;refine (HC2.out _ _ _ I5.out HX2.out).mono ?_;rintro e w6 ⟨rfl,hn⟩;clear I5;clear pa0 pa1 pa2 pa3 pa4 pa5 pa6 pa7 pa8;clear ub0 ub1 ub2 ub3 ub4 yb0 yb1 yb2 yb3 yb4;replace BA:=bW BA hn;replace BP:=bW BP hn;replace BL:=bW BL hn;replace BM:=bW BM hn;replace IL:=hid (IL.out.new hn);replace IM:=hid (IM.out.new hn);replace HN:=tW HN hn;clear hn;obtain ⟨⟨pa0,pa1,pa2,pa3⟩,pa4,pa5,pa6,pa7,pa8⟩:=BA.out.four;obtain ⟨ub0,ub1,ub2,ub3,ub4⟩:=BL.out.two;obtain ⟨yb0,yb1,yb2,yb3,yb4⟩:=BM.out.two;obtain ⟨⟨p0,p1,p2,p3⟩,p4,p5,p6,p7,p8⟩:=BP.out.four;refine hK.out _ _ (fun _=>⟨pa0,pa1,pa2,pa3,ub0,ub1,yb0,yb1⟩) ?_;clear hK K
   try simp only[PE,PT]
   refine y0q 17 (v:=?_) rfl (by kernel_rfl) (fun _ _ _ h=>h) (by exact ⟨pa0,pa1,pa2,pa3,ub0,ub1,yb0,yb1⟩) (Or.inl ⟨by first | kernel_rfl | rfl,?_⟩) ?_;rotate_left
   ·(intro W hW;(try dsimp only at hW);(have h:=HZ2.out;go_simp;try simp only[h]);try with_reducible rfl)
   try simp only[PE,PT]
   refine tk 18 (by exact ⟨pa0,pa1,pa2,pa3,ub0,ub1,yb0,yb1⟩) ?_
   try simp only[PE,PT]
   refine tk1 19 fun K hK=>?_
   try simp only[PE]
   go_simp;clear pa0 pa1 pa2 pa3 pa4 pa5 pa6 pa7 pa8 p0 p1 p2 p3 p4 p5 p6 p7 p8;clear ub0 ub1 ub2 ub3 ub4 yb0 yb1 yb2 yb3 yb4;have BA_:=BA.out.otherf (show w.heap.size+1≠w.heap.size by omega) (.int .i64 s9) (.slice a9 l9 k9) (.int .i64 s8) (.slice a8 l8 k8);have BL_:=BL.out.otherf HBL.out (.int .i64 s9) (.slice a9 l9 k9) (.int .i64 s8) (.slice a8 l8 k8);have BM_:=BM.out.otherf HBM.out (.int .i64 s9) (.slice a9 l9 k9) (.int .i64 s8) (.slice a8 l8 k8);have IL_:=IL.out.put4 BP.out s9 s8 a9 a8 l9 k9 l8 k8;have IM_:=IM.out.put4 BP.out s9 s8 a9 a8 l9 k9 l8 k8;have HN_:=HN.out.put4 (B:=w.heap.size+1) (by omega) (.int .i64 s9) (.slice a9 l9 k9) (.int .i64 s8) (.slice a8 l8 k8);have BP_:=BP.out.put4 (.int .i64 s9) (.slice a9 l9 k9) (.int .i64 s8) (.slice a8 l8 k8);clear BA BL BM IL IM HN BP;have BA:=hid BA_;have BL:=hid BL_;have BM:=hid BM_;have IL:=hid IL_;have IM:=hid IM_;have HN:=hid HN_;have BP:=hid BP_;clear BA_ BL_ BM_ IL_ IM_ HN_ BP_;obtain ⟨⟨pa0,pa1,pa2,pa3⟩,pa4,pa5,pa6,pa7,pa8⟩:=BA.out.four;obtain ⟨ub0,ub1,ub2,ub3,ub4⟩:=BL.out.two;obtain ⟨yb0,yb1,yb2,yb3,yb4⟩:=BM.out.two;refine hK.out _ _ (fun _=>⟨pa0,pa1,pa2,pa3,ub0,ub1,yb0,yb1⟩) ?_;clear hK K
   try simp only[PE,PT]
   refine tlW ?_;clear pa0 pa1 pa2 pa3 pa4 pa5 pa6 pa7 pa8;clear ub0 ub1 ub2 ub3 ub4 yb0 yb1 yb2 yb3 yb4;obtain ⟨⟨p0,p1,p2,p3⟩,p4,p5,p6,p7,p8⟩:=BP.out.four;go_wp2_with fail;refine bodyPost_ret (v:=.tuple #[.agg #[.int .i64 s9,.slice a9 l9 k9,.int .i64 s8,.slice a8 l8 k8],.bool b2]) (by simp[results,Tryz.results113,go_sem,p0,p1,p2,p3]) rfl ?_;exact ⟨_,_,_,_,_,_,_,_,rfl,HN.out,IL.out,IM.out⟩
  | false=>
   obtain ⟨⟨pa0,pa1,pa2,pa3⟩,pa4,pa5,pa6,pa7,pa8⟩:=BA.out.four;obtain ⟨ub0,ub1,ub2,ub3,ub4⟩:=BL.out.two;obtain ⟨yb0,yb1,yb2,yb3,yb4⟩:=BM.out.two;refine y00 20 (fun W=>W.cell? ⟨w.heap.size,0,none⟩=some (.int .i64 s)/\W.cell? ⟨w.heap.size,1,none⟩=some (.slice a l c)/\W.cell? ⟨w.heap.size,2,none⟩=some (.int .i64 s')/\W.cell? ⟨w.heap.size,3,none⟩=some (.slice a' l' c')/\W.cell? ⟨L,0,none⟩=some (.int .i64 s9)/\W.cell? ⟨L,1,none⟩=some (.slice a9 l9 k9)/\W.cell? ⟨M,0,none⟩=some (.int .i64 s8)/\W.cell? ⟨M,1,none⟩=some (.slice a8 l8 k8)) 21 #[false,false,false,false,false,false,false,false,false,false,false,false,false,false,false,false,false,false,false,false,false] rfl (by kernel_rfl) (by kernel_rfl) ?_;refine tk 0 (by exact ⟨pa0,pa1,pa2,pa3,ub0,ub1,yb0,yb1⟩) ?_
   try simp only[PE,PT]
   refine tk 1 (by exact ⟨pa0,pa1,pa2,pa3,ub0,ub1,yb0,yb1⟩) ?_
   try simp only[PE,PT]
   refine tk 2 (by exact ⟨pa0,pa1,pa2,pa3,ub0,ub1,yb0,yb1⟩) ?_
   try simp only[PE,PT]
   refine tk 3 (by exact ⟨pa0,pa1,pa2,pa3,ub0,ub1,yb0,yb1⟩) ?_
   try simp only[PE,PT]
   refine tk 4 (by exact ⟨pa0,pa1,pa2,pa3,ub0,ub1,yb0,yb1⟩) ?_
   try simp only[PE,PT]
   refine tk 6 (by exact ⟨pa0,pa1,pa2,pa3,ub0,ub1,yb0,yb1⟩) ?_
   try simp only[PE,PT]
   refine tk 7 (by exact ⟨pa0,pa1,pa2,pa3,ub0,ub1,yb0,yb1⟩) ?_
   try simp only[PE,PT]
   refine tk1 5 fun K hK=>?_
   try simp only[PE]
   go_simp;refine (HM1.out _ _ _ (IL.out.new (New.refl _).drew) (IL.out.new (New.refl _).drew)).mono ?_;rintro e w3 ⟨v3,rfl,hn,hi⟩;have hn:=hn.undrew;have I3:=hid hi;clear hi;clear pa0 pa1 pa2 pa3 pa4 pa5 pa6 pa7 pa8;clear ub0 ub1 ub2 ub3 ub4 yb0 yb1 yb2 yb3 yb4;replace BA:=bW BA hn;replace BP:=bW BP hn;replace BL:=bW BL hn;replace BM:=bW BM hn;replace IL:=hid (IL.out.new hn);replace IM:=hid (IM.out.new hn);replace HX1:=hid (HX1.out.new hn);replace HN:=tW HN hn;clear hn;obtain ⟨⟨pa0,pa1,pa2,pa3⟩,pa4,pa5,pa6,pa7,pa8⟩:=BA.out.four;obtain ⟨ub0,ub1,ub2,ub3,ub4⟩:=BL.out.two;obtain ⟨yb0,yb1,yb2,yb3,yb4⟩:=BM.out.two;refine hK.out _ _ (fun _=>⟨pa0,pa1,pa2,pa3,ub0,ub1,yb0,yb1⟩) ?_;clear hK K
   try simp only[PE,PT]
   refine tk1 8 fun K hK=>?_
   try simp only[PE]
   go_simp;refine (HC1.out _ _ _ I3.out HX1.out).mono ?_;rintro e w4 ⟨rfl,hn⟩;clear I3;clear pa0 pa1 pa2 pa3 pa4 pa5 pa6 pa7 pa8;clear ub0 ub1 ub2 ub3 ub4 yb0 yb1 yb2 yb3 yb4;replace BA:=bW BA hn;replace BP:=bW BP hn;replace BL:=bW BL hn;replace BM:=bW BM hn;replace IL:=hid (IL.out.new hn);replace IM:=hid (IM.out.new hn);replace HN:=tW HN hn;clear hn;obtain ⟨⟨pa0,pa1,pa2,pa3⟩,pa4,pa5,pa6,pa7,pa8⟩:=BA.out.four;obtain ⟨ub0,ub1,ub2,ub3,ub4⟩:=BL.out.two;obtain ⟨yb0,yb1,yb2,yb3,yb4⟩:=BM.out.two;obtain ⟨⟨p0,p1,p2,p3⟩,p4,p5,p6,p7,p8⟩:=BP.out.four;refine hK.out _ _ (fun _=>⟨pa0,pa1,pa2,pa3,ub0,ub1,yb0,yb1⟩) ?_;clear hK K
   try simp only[PE,PT]
   refine y0q 9 (v:=?_) rfl (by kernel_rfl) (fun _ _ _ h=>h) (by exact ⟨pa0,pa1,pa2,pa3,ub0,ub1,yb0,yb1⟩) (Or.inl ⟨by first | kernel_rfl | rfl,?_⟩) ?_;rotate_left
   ·(intro W hW;(try dsimp only at hW);(have h:=HZ1.out;go_simp;try simp only[h]);try with_reducible rfl)
   try simp only[PE,PT]
   refine tk 10 (by exact ⟨pa0,pa1,pa2,pa3,ub0,ub1,yb0,yb1⟩) ?_
   try simp only[PE,PT]
   refine y0q 11 rfl (by kernel_rfl) (fun _ _ _ h=>h) (by exact ⟨pa0,pa1,pa2,pa3,ub0,ub1,yb0,yb1⟩) (Or.inr ⟨by first | kernel_rfl | rfl,rfl⟩) ?_
   try simp only[PE,PT]
   refine y0q 12 rfl (by kernel_rfl) (fun _ _ _ h=>h) (by exact ⟨pa0,pa1,pa2,pa3,ub0,ub1,yb0,yb1⟩) (Or.inr ⟨by first | kernel_rfl | rfl,rfl⟩) ?_
   try simp only[PE,PT]
   refine y0q 13 rfl (by kernel_rfl) (fun _ _ _ h=>h) (by exact ⟨pa0,pa1,pa2,pa3,ub0,ub1,yb0,yb1⟩) (Or.inr ⟨by first | kernel_rfl | rfl,rfl⟩) ?_
   try simp only[PE,PT]
   refine y0q 14 rfl (by kernel_rfl) (fun _ _ _ h=>h) (by exact ⟨pa0,pa1,pa2,pa3,ub0,ub1,yb0,yb1⟩) (Or.inr ⟨by first | kernel_rfl | rfl,rfl⟩) ?_
   try simp only[PE,PT]
   refine y0q 15 rfl (by kernel_rfl) (fun _ _ _ h=>h) (by exact ⟨pa0,pa1,pa2,pa3,ub0,ub1,yb0,yb1⟩) (Or.inr ⟨by first | kernel_rfl | rfl,rfl⟩) ?_
   try simp only[PE,PT]
   refine y0q 16 rfl (by kernel_rfl) (fun _ _ _ h=>h) (by exact ⟨pa0,pa1,pa2,pa3,ub0,ub1,yb0,yb1⟩) (Or.inr ⟨by first | kernel_rfl | rfl,rfl⟩) ?_
   try simp only[PE,PT]
   refine y0q 17 rfl (by kernel_rfl) (fun _ _ _ h=>h) (by exact ⟨pa0,pa1,pa2,pa3,ub0,ub1,yb0,yb1⟩) (Or.inr ⟨by first | kernel_rfl | rfl,rfl⟩) ?_
   try simp only[PE,PT]
   refine tk 18 (by exact ⟨pa0,pa1,pa2,pa3,ub0,ub1,yb0,yb1⟩) ?_
   try simp only[PE,PT]
   refine tk1 19 fun K hK=>?_
   try simp only[PE]
   go_simp;clear pa0 pa1 pa2 pa3 pa4 pa5 pa6 pa7 pa8 p0 p1 p2 p3 p4 p5 p6 p7 p8;clear ub0 ub1 ub2 ub3 ub4 yb0 yb1 yb2 yb3 yb4;have BA_:=BA.out.otherf (show w.heap.size+1≠w.heap.size by omega) (.int .i64 s9) (.slice a9 l9 k9) (.int .i64 s8) (.slice a8 l8 k8);have BL_:=BL.out.otherf HBL.out (.int .i64 s9) (.slice a9 l9 k9) (.int .i64 s8) (.slice a8 l8 k8);have BM_:=BM.out.otherf HBM.out (.int .i64 s9) (.slice a9 l9 k9) (.int .i64 s8) (.slice a8 l8 k8);have IL_:=IL.out.put4 BP.out s9 s8 a9 a8 l9 k9 l8 k8;have IM_:=IM.out.put4 BP.out s9 s8 a9 a8 l9 k9 l8 k8;have HN_:=HN.out.put4 (B:=w.heap.size+1) (by omega) (.int .i64 s9) (.slice a9 l9 k9) (.int .i64 s8) (.slice a8 l8 k8);have BP_:=BP.out.put4 (.int .i64 s9) (.slice a9 l9 k9) (.int .i64 s8) (.slice a8 l8 k8);clear BA BL BM IL IM HN BP;have BA:=hid BA_;have BL:=hid BL_;have BM:=hid BM_;have IL:=hid IL_;have IM:=hid IM_;have HN:=hid HN_;have BP:=hid BP_;clear BA_ BL_ BM_ IL_ IM_ HN_ BP_;obtain ⟨⟨pa0,pa1,pa2,pa3⟩,pa4,pa5,pa6,pa7,pa8⟩:=BA.out.four;obtain ⟨ub0,ub1,ub2,ub3,ub4⟩:=BL.out.two;obtain ⟨yb0,yb1,yb2,yb3,yb4⟩:=BM.out.two;refine hK.out _ _ (fun _=>⟨pa0,pa1,pa2,pa3,ub0,ub1,yb0,yb1⟩) ?_;clear hK K
   try simp only[PE,PT]
   refine tlW ?_;clear pa0 pa1 pa2 pa3 pa4 pa5 pa6 pa7 pa8;clear ub0 ub1 ub2 ub3 ub4 yb0 yb1 yb2 yb3 yb4;obtain ⟨⟨p0,p1,p2,p3⟩,p4,p5,p6,p7,p8⟩:=BP.out.four;go_wp2_with fail;refine bodyPost_ret (v:=.tuple #[.agg #[.int .i64 s9,.slice a9 l9 k9,.int .i64 s8,.slice a8 l8 k8],.bool false]) (by simp[results,Tryz.results113,go_sem,p0,p1,p2,p3]) rfl ?_;exact ⟨_,_,_,_,_,_,_,_,rfl,HN.out,IL.out,IM.out⟩
end Go.Proofs.YtnjonlnemagomaaGreatDoor
