/- Part B41. -/
import Derived.Test.YtnjonlnemagomaaGreatDoorB13
import Derived.Test.YtnjonlnemagomaaGreatDoorB37
namespace Go.Proofs.YtnjonlnemagomaaGreatDoor
open Go.RowKit Big
open Go.Lib (hid)
set_option maxRecDepth 100000
set_option maxHeartbeats 8000000
theorem ybo {W:World}:(zeroValue 23).run Tryz.prog W=.ok (.string ⟨#[]⟩) W:=by kernel_rfl
theorem yk3 (va:Value)(k:Int)(w:World)(he:Env w)(hx:y07 w va (Rat.divInt 1 6)):Calls Tryz.prog 163 #[va,.int .i64 k] w (y17 w ⟨#[49,47,50]⟩ ⟨#[49,47,50]⟩ 0):=by
 obtain ⟨sa,aa,la,ca,ta,ba,ma,na,rfl⟩:=hx.shape;have fb:FB 10 (Rat.divInt 1 6):=FB.divInt (by unfold BdK;decide +kernel) (by unfold BdK;decide +kernel) (by decide);have hfl:=fun va W h=>y1z va (Rat.divInt 1 6) 10 W h fb (by omega);rw[show (Rat.divInt 1 6).floor=0 by decide +kernel] at hfl;have hwh:=fun va W h=>y26 va 0 W h;have hsu:=fun va vb W h1 h2=>y2c va vb (Rat.divInt 1 6) ((0:Int):Rat) 10 10 W h1 h2 fb (FB.int (by unfold BdK;decide +kernel) (by omega)) (by omega);rw[show Rat.divInt 1 6 - ((0:Int):Rat)=Rat.divInt 1 6 by decide +kernel] at hsu;have htx:=fun va W h hW=>y35 va (Rat.divInt 1 6) W h (fb.mono (by omega)) hW;obtain ⟨X1,hX1,hfs⟩:∃ X1:ByteArray,(⟨(y02 (Rat.divInt 1 6)).toArray⟩:ByteArray)=X1/\y9r X1 y7r 0=some (1,.string ⟨#[49,47,50]⟩):=⟨_,rfl,by kernel_rfl⟩;simp only[hX1] at htx;unfold y17;clear hX1 fb;have HE:=hid he;have HX:=hid hx;have HFL:=hid hfl;have HWH:=hid hwh;have HSU:=hid hsu;have HTX:=hid htx;have HFS:=hid hfs;clear he hx hfl hwh hsu htx hfs;go_enter Tryz.func163,Tryz.ntmps163;go_upto_region 1 with (fail);obtain ⟨BA,BP,HN⟩:=lay2 w 115 #[.int .i64 sa,.slice aa la ca,.int .i64 ta,.slice ba ma na] 53 #[.string ⟨#[]⟩,.string ⟨#[]⟩];replace HX:=hid (HX.out.new HN.out);obtain ⟨w0,hw0⟩:∃ u,(w.alloc (.cells #[.int .i64 sa,.slice aa la ca,.int .i64 ta,.slice ba ma na] 115)).alloc (.cells #[.string ⟨#[]⟩,.string ⟨#[]⟩] 53)=u:=⟨_,rfl⟩;rw[hw0] at BA BP HN HX⊢;clear hw0;obtain ⟨⟨pa0,pa1,pa2,pa3⟩,pa4,pa5,pa6,pa7,pa8⟩:=BA.out.four;clear pa0 pa1 pa2 pa3 pa4 pa5 pa6 pa7 pa8;refine y00 5 (fun W=>W.cell? ⟨w.heap.size,0,none⟩=some (.int .i64 sa)/\W.cell? ⟨w.heap.size,1,none⟩=some (.slice aa la ca)/\W.cell? ⟨w.heap.size,2,none⟩=some (.int .i64 ta)/\W.cell? ⟨w.heap.size,3,none⟩=some (.slice ba ma na)) 6 #[false,false,false,false,false,false] rfl (by kernel_rfl) (by kernel_rfl) ?_;refine tk 0 (by exact cW4 BA) ?_
 try simp only[PT]
 refine tk 1 (by exact cW4 BA) ?_
 try simp only[PT]
 refine tk1 2 fun K hK=>?_;go_simp;refine (HFL.out _ _ (HX.out.new (New.refl _).drew)).mono ?_;rintro e w1 ⟨v1,rfl,hn,hi⟩;have hn:=hn.undrew;have HI1:=hid hi;clear hi;replace BA:=bW BA hn;replace BP:=bW BP hn;replace HX:=hid (HX.out.new hn);replace HN:=tW HN hn;clear hn;refine hK.out _ _ (fun _=>cW4 BA) ?_;clear hK K
 try simp only[PT]
 refine tk1 3 fun K hK=>?_;go_simp;refine (HWH.out _ _ HI1.out).mono ?_;rintro e w2 ⟨v2,rfl,hn,hf⟩;clear HI1;have HF2:=hid hf;clear hf;replace BA:=bW BA hn;replace BP:=bW BP hn;replace HX:=hid (HX.out.new hn);replace HN:=tW HN hn;clear hn;refine hK.out _ _ (fun _=>cW4 BA) ?_;clear hK K
 try simp only[PT]
 refine tk1 4 fun K hK=>?_;go_simp;refine (HSU.out _ _ _ HX.out HF2.out).mono ?_;rintro e w3 ⟨v3,rfl,hn,hf⟩;obtain ⟨s4,a4,l4,k4,t4,d4,m4,n4,rfl⟩:=hf.shape;clear HF2 HX;have HFA:=hid hf;clear hf;replace BA:=bW BA hn;replace BP:=bW BP hn;replace HN:=tW HN hn;clear hn;refine hK.out _ _ (fun _=>cW4 BA) ?_;clear hK K
 try simp only[PT]
 refine tlW ?_;obtain ⟨⟨pa0,pa1,pa2,pa3⟩,pa4,pa5,pa6,pa7,pa8⟩:=BA.out.four;go_upto_region 2 with (fail);clear pa0 pa1 pa2 pa3 pa4 pa5 pa6 pa7 pa8;have N_:=HN.out.put4 (B:=w.heap.size) (Nat.le_refl _) (.int .i64 s4) (.slice a4 l4 k4) (.int .i64 t4) (.slice d4 m4 n4);have A_:=BA.out.put4 (.int .i64 s4) (.slice a4 l4 k4) (.int .i64 t4) (.slice d4 m4 n4);have P_:=BP.out.other4w (B':=w.heap.size) (by omega) (.int .i64 s4) (.slice a4 l4 k4) (.int .i64 t4) (.slice d4 m4 n4);have F_:=HFA.out.put4 BA.out s4 t4 a4 d4 l4 k4 m4 n4;obtain ⟨w4,hw4⟩:∃ u,((((w3.setCell ⟨w.heap.size,0,none⟩ (.int .i64 s4)).setCell ⟨w.heap.size,1,none⟩ (.slice a4 l4 k4)).setCell ⟨w.heap.size,2,none⟩ (.int .i64 t4)).setCell ⟨w.heap.size,3,none⟩ (.slice d4 m4 n4))=u:=⟨_,rfl⟩;rw[hw4] at N_ A_ P_ F_⊢;clear hw4 HN BA BP HFA;have HN:=hid N_;have BA:=hid A_;have BP:=hid P_;have HFA:=hid F_;clear N_ A_ P_ F_;obtain ⟨⟨pa0,pa1,pa2,pa3⟩,pa4,pa5,pa6,pa7,pa8⟩:=BA.out.four;clear pa0 pa1 pa2 pa3 pa4 pa5 pa6 pa7 pa8;refine y00 8 (fun W=>W.cell? ⟨w.heap.size,0,none⟩=some (.int .i64 s4)/\W.cell? ⟨w.heap.size,1,none⟩=some (.slice a4 l4 k4)/\W.cell? ⟨w.heap.size,2,none⟩=some (.int .i64 t4)/\W.cell? ⟨w.heap.size,3,none⟩=some (.slice d4 m4 n4)) 9 #[false,false,false,false,false,false,false,false,false] rfl (by kernel_rfl) (by kernel_rfl) ?_;refine tk 1 (by exact cW4 BA) ?_
 try simp only[PE,PT]
 refine tk1 0 fun K hK=>?_
 try simp only[PE]
 go_simp;refine (y4w _).mono ?_;rintro e w5 ⟨bm,rfl,hn,tm⟩;have hn:=hn.undrew;have TM:=hid tm;clear tm;replace BA:=bW BA hn;replace BP:=bW BP hn;replace HFA:=hid (HFA.out.new hn);replace HN:=tW HN hn;clear hn;refine hK.out _ _ (fun _=>cW4 BA) ?_;clear hK K
 try simp only[PE,PT]
 refine tk1 2 fun K hK=>?_
 try simp only[PE]
 go_simp;refine (HTX.out _ _ HFA.out (HE.out.new HN.out)).mono ?_;rintro e w6 ⟨rfl,hn⟩;replace BA:=bW BA hn;replace BP:=bW BP hn;replace HFA:=hid (HFA.out.new hn);replace TM:=hid (TM.out.new hn);replace HN:=tW HN hn;clear hn;refine hK.out _ _ (fun _=>cW4 BA) ?_;clear hK K
 try simp only[PE,PT]
 refine tk1 3 fun K hK=>?_
 try simp only[PE]
 go_simp;have hlk:=TM.out.look (P:=Tryz.prog) Tryz.underlying212 Tryz.underlying23 ybo X1;rw[HFS.out] at hlk;rw[hlk];go_simp;clear hlk TM;refine hK.out _ _ (fun _=>cW4 BA) ?_;clear hK K
 try simp only[PE,PT]
 refine tk 4 (by exact cW4 BA) ?_
 try simp only[PE,PT]
 refine tk 5 (by exact cW4 BA) ?_
 try simp only[PE,PT]
 refine tk 6 (by exact cW4 BA) ?_
 try simp only[PE,PT]
 refine tk 7 (by exact cW4 BA) ?_
 try simp only[PE,PT]
 refine tlW ?_;obtain ⟨⟨pa0,pa1,pa2,pa3⟩,pa4,pa5,pa6,pa7,pa8⟩:=BA.out.four;clear pa0 pa1 pa2 pa3 pa4 pa5 pa6 pa7 pa8;obtain ⟨p0,p1,p2,p3,p4⟩:=BP.out.two;go_wp2_with fail;refine bodyPost_ret (v:=.tuple #[.agg #[.string ⟨#[49,47,50]⟩,.string ⟨#[49,47,50]⟩],.int .i64 0]) (by simp[results,Tryz.results163,go_sem,p0,p1]) rfl ?_;exact ⟨rfl,HN.out.putAt BP.out (by omega) _ _⟩
theorem y9u (x y:Int)(W:World)(hx:x.natAbs < 2^40)(hy:y.natAbs < 2^40)(h0:y≠0):Calls Tryz.prog 118 #[.agg #[.int .i64 x,.slice none 0 0],.agg #[.int .i64 y,.slice none 0 0]] W (y1h W (Rat.divInt x y)):=
 y12 _ _ x y W (.small rfl (by omega) (by omega)) (.small rfl (by omega) (by omega)) ⟨40,by omega,hx⟩ ⟨40,by omega,hy⟩ h0
theorem yim (va:Value)(w:World)(he:Env w)(hx:y07 w va (Rat.divInt 1 8)):Calls Tryz.prog 163 #[va,.int .i64 3] w (y17 w (rs (Rat.divInt 707 1000)) (rs (Rat.divInt (707+1) 1000)) 0):=by
 obtain ⟨sa,aa,la,ca,ta,ba,ma,na,rfl⟩:=hx.shape;have fb:FB 10 (Rat.divInt 1 8):=FB.divInt (by unfold BdK;decide +kernel) (by unfold BdK;decide +kernel) (by decide);have f2:FB 10 (Rat.divInt 1 2):=FB.divInt (by unfold BdK;decide +kernel) (by unfold BdK;decide +kernel) (by decide);have f4:FB 10 (Rat.divInt 1 4):=FB.divInt (by unfold BdK;decide +kernel) (by unfold BdK;decide +kernel) (by decide);have hfl:=fun va W h=>y1z va (Rat.divInt 1 8) 10 W h fb (by omega);rw[show (Rat.divInt 1 8).floor=0 by decide +kernel] at hfl;have hwh:=fun va W h=>y26 va 0 W h;have hsu:=fun va vb W h1 h2=>y2c va vb (Rat.divInt 1 8) ((0:Int):Rat) 10 10 W h1 h2 fb (FB.int (by unfold BdK;decide +kernel) (by omega)) (by omega);rw[show Rat.divInt 1 8 - ((0:Int):Rat)=Rat.divInt 1 8 by decide +kernel] at hsu;have htx:=fun va W h hW=>y35 va (Rat.divInt 1 8) W h (fb.mono (by omega)) hW;obtain ⟨X1,hX1,hfs⟩:∃ X1:ByteArray,(⟨(y02 (Rat.divInt 1 8)).toArray⟩:ByteArray)=X1/\y9r X1 y7r 0=none:=⟨_,rfl,by kernel_rfl⟩;simp only[hX1] at htx;have hcm1:=fun va vb W h1 h2=>y16 va vb (Rat.divInt 1 8) (Rat.divInt 1 2) 10 10 W h1 h2 fb f2 (by omega);have hcm2:=fun va vb W h1 h2=>y16 va vb (Rat.divInt 1 8) (Rat.divInt 1 4) 10 10 W h1 h2 fb f4 (by omega);unfold y1t at hcm1 hcm2;rw[show (y0v (Rat.divInt 1 8) (Rat.divInt 1 2)).sign= -1 by decide +kernel] at hcm1;rw[show (y0v (Rat.divInt 1 8) (Rat.divInt 1 4)).sign= -1 by decide +kernel] at hcm2;have hten:=fun W=>y7m 3 W (by omega);rw[show (10:Int)^3=1000 by decide,show ((3:Nat):Int)=3 from rfl] at hten;have bd:∀ z:Int,z.natAbs < 2^40->Bd z:=fun z h=>⟨40,by omega,h⟩;have hmk2:=fun W=>y9u 1 2 W (by decide) (by decide) (by decide);have hmk4:=fun W=>y9u 1 4 W (by decide) (by decide) (by decide);have hbe:=fun va W h=>y8r va W h;have s1:∀ W,y06 W (.agg #[.int .i64 1,.slice none 0 0]) 1:=fun W=>.small rfl (by omega) (by omega);have hmA:=fun va vb W h1 h2=>y12 va vb 707 1000 W h1 h2 (bd _ (by decide)) (bd _ (by decide)) (by decide);have hmB:=fun va vb W h1 h2=>y12 va vb (707+1) 1000 W h1 h2 (bd _ (by decide)) (bd _ (by decide)) (by decide);have had1:=fun va W h=>y1r va _ 707 1 W h (s1 W) (bd _ (by decide)) (bd _ (by decide));have fA:FB 1800 (Rat.divInt 707 1000):=FB.mono (j:=40) (FB.divInt (by unfold BdK;decide) (by unfold BdK;decide) (by decide)) (by omega);have fB:FB 1800 (Rat.divInt (707+1) 1000):=FB.mono (j:=40) (FB.divInt (by unfold BdK;decide) (by unfold BdK;decide) (by decide)) (by omega);have hsp:=fun va vb W h1 h2 hW=>y56 va vb (Rat.divInt 707 1000) (Rat.divInt (707+1) 1000) W h1 h2 fA fB hW;obtain ⟨X,hX⟩:∃ X,rs (Rat.divInt 707 1000)=X:=⟨_,rfl⟩;obtain ⟨Y,hY⟩:∃ X,rs (Rat.divInt (707+1) 1000)=X:=⟨_,rfl⟩;obtain ⟨qA,hqA⟩:∃ q,Rat.divInt 707 1000=q:=⟨_,rfl⟩;obtain ⟨qB,hqB⟩:∃ q,Rat.divInt (707+1) 1000=q:=⟨_,rfl⟩;obtain ⟨zB,hzB⟩:∃ z:Int,707+1=z:=⟨_,rfl⟩;rw[hqA] at hX;rw[hqB] at hY;unfold y17 at hsp;simp only[hqA,hqB,hX,hY] at hsp hmA hmB;simp only[hzB] at hmB had1;clear fA fB s1;rw[hqA,hqB,hX,hY];unfold y17;clear hX1 fb f2 f4 hX hY hqA hqB hzB bd;have HE:=hid he;have HX:=hid hx;have HFL:=hid hfl;have HWH:=hid hwh;have HSU:=hid hsu;have HTX:=hid htx;have HFS:=hid hfs;have HCM1:=hid hcm1;have HCM2:=hid hcm2;have HTEN:=hid hten;have HMK2:=hid hmk2;have HMK4:=hid hmk4;have HBE:=hid hbe;have HMA:=hid hmA;have HMB:=hid hmB;have HAD1:=hid had1;have HSP:=hid hsp;clear he hx hfl hwh hsu htx hfs hcm1 hcm2 hten hmk2 hmk4 hbe hmA hmB had1 hsp;go_enter Tryz.func163,Tryz.ntmps163;go_upto_region 1 with (fail);obtain ⟨BA,BP,HN⟩:=lay2 w 115 #[.int .i64 sa,.slice aa la ca,.int .i64 ta,.slice ba ma na] 53 #[.string ⟨#[]⟩,.string ⟨#[]⟩];replace HX:=hid (HX.out.new HN.out);obtain ⟨w0,hw0⟩:∃ u,(w.alloc (.cells #[.int .i64 sa,.slice aa la ca,.int .i64 ta,.slice ba ma na] 115)).alloc (.cells #[.string ⟨#[]⟩,.string ⟨#[]⟩] 53)=u:=⟨_,rfl⟩;rw[hw0] at BA BP HN HX⊢;clear hw0;obtain ⟨⟨pa0,pa1,pa2,pa3⟩,pa4,pa5,pa6,pa7,pa8⟩:=BA.out.four;clear pa0 pa1 pa2 pa3 pa4 pa5 pa6 pa7 pa8;refine y00 5 (fun W=>W.cell? ⟨w.heap.size,0,none⟩=some (.int .i64 sa)/\W.cell? ⟨w.heap.size,1,none⟩=some (.slice aa la ca)/\W.cell? ⟨w.heap.size,2,none⟩=some (.int .i64 ta)/\W.cell? ⟨w.heap.size,3,none⟩=some (.slice ba ma na)) 6 #[false,false,false,false,false,false] rfl (by kernel_rfl) (by kernel_rfl) ?_;refine tk 0 (by exact cW4 BA) ?_
 try simp only[PT]
 refine tk 1 (by exact cW4 BA) ?_
 try simp only[PT]
 refine tk1 2 fun K hK=>?_;go_simp;refine (HFL.out _ _ (HX.out.new (New.refl _).drew)).mono ?_;rintro e w1 ⟨v1,rfl,hn,hi⟩;have hn:=hn.undrew;have HI1:=hid hi;clear hi;replace BA:=bW BA hn;replace BP:=bW BP hn;replace HX:=hid (HX.out.new hn);replace HN:=tW HN hn;clear hn;refine hK.out _ _ (fun _=>cW4 BA) ?_;clear hK K
 try simp only[PT]
 refine tk1 3 fun K hK=>?_;go_simp;refine (HWH.out _ _ HI1.out).mono ?_;rintro e w2 ⟨v2,rfl,hn,hf⟩;clear HI1;have HF2:=hid hf;clear hf;replace BA:=bW BA hn;replace BP:=bW BP hn;replace HX:=hid (HX.out.new hn);replace HN:=tW HN hn;clear hn;refine hK.out _ _ (fun _=>cW4 BA) ?_;clear hK K
 try simp only[PT]
 refine tk1 4 fun K hK=>?_;go_simp;refine (HSU.out _ _ _ HX.out HF2.out).mono ?_;rintro e w3 ⟨v3,rfl,hn,hf⟩;obtain ⟨s4,a4,l4,k4,t4,d4,m4,n4,rfl⟩:=hf.shape;clear HF2 HX;have HFA:=hid hf;clear hf;replace BA:=bW BA hn;replace BP:=bW BP hn;replace HN:=tW HN hn;clear hn;refine hK.out _ _ (fun _=>cW4 BA) ?_;clear hK K
 try simp only[PT]
 refine tlW ?_;obtain ⟨⟨pa0,pa1,pa2,pa3⟩,pa4,pa5,pa6,pa7,pa8⟩:=BA.out.four;go_upto_region 2 with (fail);clear pa0 pa1 pa2 pa3 pa4 pa5 pa6 pa7 pa8;have N_:=HN.out.put4 (B:=w.heap.size) (Nat.le_refl _) (.int .i64 s4) (.slice a4 l4 k4) (.int .i64 t4) (.slice d4 m4 n4);have A_:=BA.out.put4 (.int .i64 s4) (.slice a4 l4 k4) (.int .i64 t4) (.slice d4 m4 n4);have P_:=BP.out.other4w (B':=w.heap.size) (by omega) (.int .i64 s4) (.slice a4 l4 k4) (.int .i64 t4) (.slice d4 m4 n4);have F_:=HFA.out.put4 BA.out s4 t4 a4 d4 l4 k4 m4 n4;obtain ⟨w4,hw4⟩:∃ u,((((w3.setCell ⟨w.heap.size,0,none⟩ (.int .i64 s4)).setCell ⟨w.heap.size,1,none⟩ (.slice a4 l4 k4)).setCell ⟨w.heap.size,2,none⟩ (.int .i64 t4)).setCell ⟨w.heap.size,3,none⟩ (.slice d4 m4 n4))=u:=⟨_,rfl⟩;rw[hw4] at N_ A_ P_ F_⊢;clear hw4 HN BA BP HFA;have HN:=hid N_;have BA:=hid A_;have BP:=hid P_;have HFA:=hid F_;clear N_ A_ P_ F_;obtain ⟨⟨pa0,pa1,pa2,pa3⟩,pa4,pa5,pa6,pa7,pa8⟩:=BA.out.four;clear pa0 pa1 pa2 pa3 pa4 pa5 pa6 pa7 pa8;refine y00 8 (fun W=>W.cell? ⟨w.heap.size,0,none⟩=some (.int .i64 s4)/\W.cell? ⟨w.heap.size,1,none⟩=some (.slice a4 l4 k4)/\W.cell? ⟨w.heap.size,2,none⟩=some (.int .i64 t4)/\W.cell? ⟨w.heap.size,3,none⟩=some (.slice d4 m4 n4)) 9 #[false,false,false,false,false,false,false,false,false] rfl (by kernel_rfl) (by kernel_rfl) ?_;refine tk 1 (by exact cW4 BA) ?_
 try simp only[PE,PT]
 refine tk1 0 fun K hK=>?_
 try simp only[PE]
 go_simp;refine (y4w _).mono ?_;rintro e w5 ⟨bm,rfl,hn,tm⟩;have hn:=hn.undrew;have TM:=hid tm;clear tm;replace BA:=bW BA hn;replace BP:=bW BP hn;replace HFA:=hid (HFA.out.new hn);replace HN:=tW HN hn;clear hn;refine hK.out _ _ (fun _=>cW4 BA) ?_;clear hK K
 try simp only[PE,PT]
 refine tk1 2 fun K hK=>?_
 try simp only[PE]
 go_simp;refine (HTX.out _ _ HFA.out (HE.out.new HN.out)).mono ?_;rintro e w6 ⟨rfl,hn⟩;replace BA:=bW BA hn;replace BP:=bW BP hn;replace HFA:=hid (HFA.out.new hn);replace TM:=hid (TM.out.new hn);replace HN:=tW HN hn;clear hn;refine hK.out _ _ (fun _=>cW4 BA) ?_;clear hK K
 try simp only[PE,PT]
 refine tk1 3 fun K hK=>?_
 try simp only[PE]
 go_simp;have hlk:=TM.out.look (P:=Tryz.prog) Tryz.underlying212 Tryz.underlying23 ybo X1;rw[HFS.out] at hlk;rw[hlk];go_simp;clear hlk TM;refine hK.out _ _ (fun _=>cW4 BA) ?_;clear hK K
 try simp only[PE,PT]
 refine tk 4 (by exact cW4 BA) ?_
 try simp only[PE,PT]
 refine tk 5 (by exact cW4 BA) ?_
 try simp only[PE,PT]
 refine tk 6 (by exact cW4 BA) ?_
 try simp only[PE,PT]
 refine tk 7 (by exact cW4 BA) ?_
 try simp only[PE,PT]
 refine tlW ?_;obtain ⟨⟨pa0,pa1,pa2,pa3⟩,pa4,pa5,pa6,pa7,pa8⟩:=BA.out.four;clear pa0 pa1 pa2 pa3 pa4 pa5 pa6 pa7 pa8;go_upto_region 5 with (fail);go_wp2_with fail;refine (y09 1 _).mono ?_;rintro e w7 ⟨rfl,hn⟩;replace BA:=bW BA hn;replace BP:=bW BP hn;replace HFA:=hid (HFA.out.new hn);replace HN:=tW HN hn;clear hn;go_wp2_with fail;refine (y09 2 _).mono ?_;rintro e w8 ⟨rfl,hn⟩;replace BA:=bW BA hn;replace BP:=bW BP hn;replace HFA:=hid (HFA.out.new hn);replace HN:=tW HN hn;clear hn;go_wp2_with fail;refine (HMK2.out _).mono ?_;rintro e w9 ⟨v9,rfl,hn,hf⟩;obtain ⟨s5,a5,l5,k5,t5,d5,m5,n5,rfl⟩:=hf.shape;have HFH:=hid hf;clear hf;replace BA:=bW BA hn;replace BP:=bW BP hn;replace HFA:=hid (HFA.out.new hn);replace HN:=tW HN hn;clear hn;have lo1:=BP.out.lt;go_upto_region 6 with (fail);have HN0:=HN;clear HN;obtain ⟨BH,HN⟩:=lay1 w9 115 #[.int .i64 s5,.slice a5 l5 k5,.int .i64 t5,.slice d5 m5 n5];replace BA:=hid (BA.out.new HN.out);replace BP:=hid (BP.out.new HN.out);replace HFA:=hid (HFA.out.new HN.out);replace HFH:=hid (HFH.out.new HN.out);have HN_:=HN0.out.trans HN.out;clear HN HN0;have HN:=hid HN_;clear HN_;obtain ⟨wa,hwa⟩:∃ u,w9.alloc (.cells #[.int .i64 s5,.slice a5 l5 k5,.int .i64 t5,.slice d5 m5 n5] 115)=u:=⟨_,rfl⟩;rw[hwa] at BH BA BP HN HFA HFH⊢;clear hwa;obtain ⟨⟨pa0,pa1,pa2,pa3⟩,pa4,pa5,pa6,pa7,pa8⟩:=BA.out.four;obtain ⟨⟨ph0,ph1,ph2,ph3⟩,ph4,ph5,ph6,ph7,ph8⟩:=BH.out.four;go_wp2_with fail;refine (HCM1.out _ _ _ HFA.out HFH.out).mono ?_;rintro e wb ⟨rfl,hn⟩;clear pa0 pa1 pa2 pa3 pa4 pa5 pa6 pa7 pa8 ph0 ph1 ph2 ph3 ph4 ph5 ph6 ph7 ph8;replace BA:=bW BA hn;replace BP:=bW BP hn;replace BH:=bW BH hn;replace HFA:=hid (HFA.out.new hn);replace HFH:=hid (HFH.out.new hn);replace HN:=tW HN hn;clear hn;go_upto_region 8 with (fail);obtain ⟨⟨pa0,pa1,pa2,pa3⟩,pa4,pa5,pa6,pa7,pa8⟩:=BA.out.four;clear pa0 pa1 pa2 pa3 pa4 pa5 pa6 pa7 pa8;refine y00 6 (fun W=>W.cell? ⟨w.heap.size,0,none⟩=some (.int .i64 s4)/\W.cell? ⟨w.heap.size,1,none⟩=some (.slice a4 l4 k4)/\W.cell? ⟨w.heap.size,2,none⟩=some (.int .i64 t4)/\W.cell? ⟨w.heap.size,3,none⟩=some (.slice d4 m4 n4)) 7 #[false,false,false,false,false,false,false] rfl (by kernel_rfl) (by kernel_rfl) ?_;refine tk 0 (by exact cW4 BA) ?_
 try simp only[PT]
 refine tk1 1 fun K hK=>?_;go_simp;refine (y09 1 _).mono ?_;rintro e wc ⟨rfl,hn⟩;have hn:=hn.undrew;replace BA:=bW BA hn;replace BP:=bW BP hn;replace BH:=bW BH hn;replace HFA:=hid (HFA.out.new hn);replace HFH:=hid (HFH.out.new hn);replace HN:=tW HN hn;clear hn;refine hK.out _ _ (fun _=>cW4 BA) ?_;clear hK K
 try simp only[PT]
 refine tk1 2 fun K hK=>?_;go_simp;refine (y09 4 _).mono ?_;rintro e wd ⟨rfl,hn⟩;replace BA:=bW BA hn;replace BP:=bW BP hn;replace BH:=bW BH hn;replace HFA:=hid (HFA.out.new hn);replace HFH:=hid (HFH.out.new hn);replace HN:=tW HN hn;clear hn;refine hK.out _ _ (fun _=>cW4 BA) ?_;clear hK K
 try simp only[PT]
 refine tk1 3 fun K hK=>?_;go_simp;refine (HMK4.out _).mono ?_;rintro e we ⟨ve,rfl,hn,hf⟩;have HFQ:=hid hf;clear hf;replace BA:=bW BA hn;replace BP:=bW BP hn;replace BH:=bW BH hn;replace HFA:=hid (HFA.out.new hn);replace HFH:=hid (HFH.out.new hn);replace HN:=tW HN hn;clear hn;refine hK.out _ _ (fun _=>cW4 BA) ?_;clear hK K
 try simp only[PT]
 refine tk1 4 fun K hK=>?_;go_simp;refine (HCM2.out _ _ _ HFA.out HFQ.out).mono ?_;rintro e wf ⟨rfl,hn⟩;clear HFQ;replace BA:=bW BA hn;replace BP:=bW BP hn;replace BH:=bW BH hn;replace HFA:=hid (HFA.out.new hn);replace HFH:=hid (HFH.out.new hn);replace HN:=tW HN hn;clear hn;refine hK.out _ _ (fun _=>cW4 BA) ?_;clear hK K
 try simp only[PT]
 refine tk 5 (by exact cW4 BA) ?_
 try simp only[PT]
 refine tlW ?_;obtain ⟨⟨pa0,pa1,pa2,pa3⟩,pa4,pa5,pa6,pa7,pa8⟩:=BA.out.four;clear pa0 pa1 pa2 pa3 pa4 pa5 pa6 pa7 pa8;clear BH HFH;go_upto_region 11 with (fail);obtain ⟨⟨pa0,pa1,pa2,pa3⟩,pa4,pa5,pa6,pa7,pa8⟩:=BA.out.four;go_wp2_with fail;refine (HBE.out _ _ HFA.out).mono ?_;rintro e wg ⟨vg,rfl,hn,hi⟩;obtain ⟨s6,a6,l6,k6,rfl⟩:=hi.shape;clear pa0 pa1 pa2 pa3 pa4 pa5 pa6 pa7 pa8;clear BA HFA;have HIN:=hid hi;clear hi;replace BP:=bW BP hn;replace HN:=tW HN hn;clear hn;have lo2:=BP.out.lt;go_upto_region 12 with (fail);have HN0:=HN;clear HN;obtain ⟨BN,HN⟩:=lay1 wg 113 #[.int .i64 s6,.slice a6 l6 k6];replace BP:=hid (BP.out.new HN.out);replace HIN:=hid (HIN.out.new HN.out);have HN_:=HN0.out.trans HN.out;clear HN HN0;have HN:=hid HN_;clear HN_;obtain ⟨wh,hwh⟩:∃ u,wg.alloc (.cells #[.int .i64 s6,.slice a6 l6 k6] 113)=u:=⟨_,rfl⟩;rw[hwh] at BN BP HN HIN⊢;clear hwh;go_upto_region 14 with (fail);obtain ⟨pn0,pn1,pn2,pn3,pn4⟩:=BN.out.two;clear pn0 pn1 pn2 pn3 pn4;refine y00 13 (fun W=>W.cell? ⟨wg.heap.size,0,none⟩=some (.int .i64 s6)/\W.cell? ⟨wg.heap.size,1,none⟩=some (.slice a6 l6 k6)) 15 #[false,false,false,false,false,false,false,false,false,false,false,false,false,false,false] rfl (by kernel_rfl) (by kernel_rfl) ?_;refine tk 0 (by exact cW2 BN) ?_
 try simp only[PE,PT]
 refine tk 1 (by exact cW2 BN) ?_
 try simp only[PE,PT]
 refine tk 4 (by exact cW2 BN) ?_
 try simp only[PE,PT]
 refine tk 7 (by exact cW2 BN) ?_
 try simp only[PE,PT]
 refine tk1 2 fun K hK=>?_
 try simp only[PE]
 go_simp;refine (HTEN.out _).mono ?_;rintro e wi ⟨vi,rfl,hn,hi⟩;have hn:=hn.undrew;have HI1:=hid hi;clear hi;replace BP:=bW BP hn;replace BN:=bW BN hn;replace HIN:=hid (HIN.out.new hn);replace HN:=tW HN hn;clear hn;refine hK.out _ _ (fun _=>cW2 BN) ?_;clear hK K
 try simp only[PE,PT]
 refine tk1 3 fun K hK=>?_
 try simp only[PE]
 go_simp;refine (HMA.out _ _ _ HIN.out HI1.out).mono ?_;rintro e wj ⟨vj,rfl,hn,hf⟩;clear HI1;have HF1:=hid hf;clear hf;replace BP:=bW BP hn;replace BN:=bW BN hn;replace HIN:=hid (HIN.out.new hn);replace HN:=tW HN hn;clear hn;refine hK.out _ _ (fun _=>cW2 BN) ?_;clear hK K
 try simp only[PE,PT]
 refine tk1 5 fun K hK=>?_
 try simp only[PE]
 go_simp;refine (y09 1 _).mono ?_;rintro e wk ⟨rfl,hn⟩;replace BP:=bW BP hn;replace BN:=bW BN hn;replace HIN:=hid (HIN.out.new hn);replace HF1:=hid (HF1.out.new hn);replace HN:=tW HN hn;clear hn;refine hK.out _ _ (fun _=>cW2 BN) ?_;clear hK K
 try simp only[PE,PT]
 refine tk1 6 fun K hK=>?_
 try simp only[PE]
 go_simp;refine (HAD1.out _ _ HIN.out).mono ?_;rintro e wl ⟨vl,rfl,hn,hi⟩;have HI2:=hid hi;clear hi;replace BP:=bW BP hn;replace BN:=bW BN hn;replace HIN:=hid (HIN.out.new hn);replace HF1:=hid (HF1.out.new hn);replace HN:=tW HN hn;clear hn;refine hK.out _ _ (fun _=>cW2 BN) ?_;clear hK K
 try simp only[PE,PT]
 refine tk1 8 fun K hK=>?_
 try simp only[PE]
 go_simp;refine (HTEN.out _).mono ?_;rintro e wm ⟨vm,rfl,hn,hi⟩;have HI1:=hid hi;clear hi;replace BP:=bW BP hn;replace BN:=bW BN hn;replace HIN:=hid (HIN.out.new hn);replace HF1:=hid (HF1.out.new hn);replace HI2:=hid (HI2.out.new hn);replace HN:=tW HN hn;clear hn;refine hK.out _ _ (fun _=>cW2 BN) ?_;clear hK K
 try simp only[PE,PT]
 refine tk1 9 fun K hK=>?_
 try simp only[PE]
 go_simp;refine (HMB.out _ _ _ HI2.out HI1.out).mono ?_;rintro e wn ⟨vn,rfl,hn,hf⟩;clear HI1 HI2;have HF2:=hid hf;clear hf;replace BP:=bW BP hn;replace BN:=bW BN hn;replace HIN:=hid (HIN.out.new hn);replace HF1:=hid (HF1.out.new hn);replace HN:=tW HN hn;clear hn;refine hK.out _ _ (fun _=>cW2 BN) ?_;clear hK K
 try simp only[PE,PT]
 refine tk1 10 fun K hK=>?_
 try simp only[PE]
 go_simp;refine (HSP.out _ _ _ HF1.out HF2.out (HE.out.new HN.out)).mono ?_;rintro e wo ⟨rfl,hn⟩;clear HF1 HF2;replace BP:=bW BP hn;replace BN:=bW BN hn;replace HIN:=hid (HIN.out.new hn);replace HN:=tW HN hn;clear hn;refine hK.out _ _ (fun _=>cW2 BN) ?_;clear hK K
 try simp only[PE,PT]
 refine tk 11 (by exact cW2 BN) ?_
 try simp only[PE,PT]
 refine tk 12 (by exact cW2 BN) ?_
 try simp only[PE,PT]
 refine tlW ?_;obtain ⟨pn0,pn1,pn2,pn3,pn4⟩:=BN.out.two;clear pn0 pn1 pn2 pn3 pn4;obtain ⟨p0,p1,p2,p3,p4⟩:=BP.out.two;go_wp2_with fail;refine bodyPost_ret (v:=.tuple #[.agg #[.string X,.string Y],.int .i64 0]) (by simp[results,Tryz.results163,go_sem,p0,p1]) rfl ?_;exact ⟨rfl,HN.out.putAt BP.out (by omega) _ _⟩
end Go.Proofs.YtnjonlnemagomaaGreatDoor
