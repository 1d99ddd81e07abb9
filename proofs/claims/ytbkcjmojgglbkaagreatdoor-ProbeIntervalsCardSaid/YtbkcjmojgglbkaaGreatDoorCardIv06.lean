/- For every converter and every code the law ProbeIntervals returns true, and its arguments read behind the call as before it; conditions: the package-level variables of the library of Go that the row lists hold what start-up lays. -/
import Derived.OwnWalk
import Derived.Laws.AppendOwn
import Derived.Deep.LoopGhost
import Derived.Lib.AppendIntMem
import Derived.Shelf.Strings.BuilderK
import Derived.Test.YtbkcjmojgglbkaaGreatDoorCardIv05
namespace Go.Proofs.YtbkcjmojgglbkaaGreatDoor
open Go.RowKit Big Go.Lib Go.ChangeShapes Go.WideShapes Go.Deep
set_option maxRecDepth 100000
set_option maxHeartbeats 8000000
def insideE (code tp:Int):Int:=if outside code 0 tp then 3 else if code=0∨code=tp then 15 else 0
theorem rinside_calls (b s z code:Int)(g o:ByteArray)(w:World)(lo:0≤b)(hi:b≤12):
  Calls Tryz.prog 23 #[.agg #[.int .i64 b,.int .i64 s,.int .i64 z,.string g,.string o],.int .i64 code] w (RetNew w (insideE code (2^b.toNat - 1))):=by
 obtain ⟨t,ht⟩:∃ t,(2:Int)^b.toNat - 1=t:=⟨_,rfl⟩;have htp:=fun W=>rtop_calls b s z g o W lo hi;have hcc:=fun W=>rcheckCode_calls b s z code g o W lo hi;rw[ht] at htp⊢;simp only[ht] at hcc;obtain ⟨R,hR⟩:∃ R,insideE code t=R:=⟨_,rfl⟩;rw[hR];unfold insideE at hR;clear ht lo hi
 cases ho:outside code 0 t with
 | true=>
  rw[ho,if_pos rfl]at hR;simp only[ho,if_pos] at hcc;have hr:=hR.symm;clear hR ho htp;have HCC:=hid hcc;have HR:=hid hr;clear hcc hr;go_enter Tryz.func23,Tryz.ntmps23;go_upto_region 1 with (fail);obtain ⟨BA,HN⟩:=lay1 w 24 #[.int .i64 b,.int .i64 s,.int .i64 z,.string g,.string o];obtain ⟨⟨pa0,pa1,pa2,pa3,pa4⟩,pa5⟩:=BA.out.five;go_wp2_with fail;refine (HCC.out _).mono ?_;rintro e w1 ⟨rfl,hn⟩;clear pa0 pa1 pa2 pa3 pa4 pa5;replace BA:=bW BA hn;replace HN:=tW HN hn;clear hn;obtain ⟨⟨pa0,pa1,pa2,pa3,pa4⟩,pa5⟩:=BA.out.five;go_wp2_with fail;go_ret;exact ⟨by rw[HR.out];rfl,HN.out⟩
 | false=>
  rw[ho,if_neg (by decide)]at hR;rw[ho] at hcc;have hcc:∀ W,Calls Tryz.prog 19 #[.agg #[.int .i64 b,.int .i64 s,.int .i64 z,.string g,.string o],.int .i64 code] W (RetNew W 0):=hcc;by_cases h0:code=0
  ·rw[if_pos (.inl h0)] at hR;subst h0;have hr:=hR.symm;clear hR ho htp;have HCC:=hid hcc;have HR:=hid hr;clear hcc hr;go_enter Tryz.func23,Tryz.ntmps23;go_upto_region 1 with (fail);obtain ⟨BA,HN⟩:=lay1 w 24 #[.int .i64 b,.int .i64 s,.int .i64 z,.string g,.string o];obtain ⟨⟨pa0,pa1,pa2,pa3,pa4⟩,pa5⟩:=BA.out.five;go_wp2_with fail;refine (HCC.out _).mono ?_;rintro e w1 ⟨rfl,hn⟩;clear pa0 pa1 pa2 pa3 pa4 pa5;replace BA:=bW BA hn;replace HN:=tW HN hn;clear hn;obtain ⟨⟨pa0,pa1,pa2,pa3,pa4⟩,pa5⟩:=BA.out.five;go_wp2_with fail;go_ret;exact ⟨by rw[HR.out];rfl,HN.out⟩
  ·have h0b:(code==0)=false:=beq_false_of_ne h0;by_cases h1:code=t
   ·rw[if_pos (.inr h1)] at hR;have h1b:(code==t)=true:=beq_iff_eq.2 h1;have hr:=hR.symm;clear hR ho h1;have HCC:=hid hcc;have HR:=hid hr;have HTP:=hid htp;clear hcc hr htp;go_enter Tryz.func23,Tryz.ntmps23;go_upto_region 1 with (fail);obtain ⟨BA,HN⟩:=lay1 w 24 #[.int .i64 b,.int .i64 s,.int .i64 z,.string g,.string o];obtain ⟨⟨pa0,pa1,pa2,pa3,pa4⟩,pa5⟩:=BA.out.five;go_wp2_with fail;refine (HCC.out _).mono ?_;rintro e w1 ⟨rfl,hn⟩;clear pa0 pa1 pa2 pa3 pa4 pa5;replace BA:=bW BA hn;replace HN:=tW HN hn;clear hn;obtain ⟨⟨pa0,pa1,pa2,pa3,pa4⟩,pa5⟩:=BA.out.five;go_wp2_with fail;refine (HTP.out _).mono ?_;rintro e w2 ⟨rfl,hn⟩;clear pa0 pa1 pa2 pa3 pa4 pa5;replace HN:=tW HN hn;clear hn;go_wp2_with fail;go_ret;exact ⟨by rw[HR.out];rfl,HN.out⟩
   ·rw[if_neg (by omega)] at hR;have h1b:(code==t)=false:=beq_false_of_ne h1;have hr:=hR.symm;clear hR ho h1;have HCC:=hid hcc;have HR:=hid hr;have HTP:=hid htp;clear hcc hr htp;go_enter Tryz.func23,Tryz.ntmps23;go_upto_region 1 with (fail);obtain ⟨BA,HN⟩:=lay1 w 24 #[.int .i64 b,.int .i64 s,.int .i64 z,.string g,.string o];obtain ⟨⟨pa0,pa1,pa2,pa3,pa4⟩,pa5⟩:=BA.out.five;go_wp2_with fail;refine (HCC.out _).mono ?_;rintro e w1 ⟨rfl,hn⟩;clear pa0 pa1 pa2 pa3 pa4 pa5;replace BA:=bW BA hn;replace HN:=tW HN hn;clear hn;obtain ⟨⟨pa0,pa1,pa2,pa3,pa4⟩,pa5⟩:=BA.out.five;go_wp2_with fail;refine (HTP.out _).mono ?_;rintro e w2 ⟨rfl,hn⟩;clear pa0 pa1 pa2 pa3 pa4 pa5;replace HN:=tW HN hn;clear hn;go_wp2_with fail;go_ret;exact ⟨by rw[HR.out];rfl,HN.out⟩
theorem rinterval_calls (b s z code:Int)(g o:ByteArray)(w:World)(lo: -20≤s)(hi:s≤4)(zl:0≤z)(zh:z≤4095)(cl:0≤code)(ch:code≤4096):
  Calls Tryz.prog 24 #[.agg #[.int .i64 b,.int .i64 s,.int .i64 z,.string g,.string o],.int .i64 code] w fun e w'=>e=.returned (spanV (nomQ s z code - halfQ s) (nomQ s z code+halfQ s))∧New w w':=by
 have hnm:=fun W=>(rnominal_calls b s z code g o W lo hi zl zh cl ch).mono fun e w' h=>RetS.to rfl h;have hls:=fun W=>(rlsb_calls b s z g o W lo hi).mono fun e w' h=>RetS.to rfl h;have hhf:=fun W=>rhalf_calls 21 (stepQ s) W (RFB.of (stepQ_fb21 lo hi)) (by omega)
 have e1:stepQ s*(1 / 2)=halfQ s:=by unfold halfQ;rw[half_inv,Rat.div_def]
 rw[e1]at hhf;have hhf:=fun W=>(hhf W).mono fun e w' h=>RetS.to rfl h
 have hnb:RFB 41 (nomQ s z code):=by
  have:=(RFB.of (stepQ_fb21 lo hi)).mul (rfb_int (z:=code - z) (k:=13) (by omega) (by omega));exact this.mono (by omega)
 have hhb:RFB 23 (halfQ s):=RFB.of (halfQ_fb lo hi);have hsu:=fun W=>(rsubQ_calls 41 23 _ _ W hnb hhb (by omega)).mono fun e w' h=>RetS.to rfl h;have had:=fun W=>(raddQ_calls 41 23 _ _ W hnb hhb (by omega)).mono fun e w' h=>RetS.to rfl h;rw[←rs_span];obtain ⟨L,hL⟩:∃ X,rs (stepQ s)=X:=⟨_,rfl⟩;obtain ⟨H,hH⟩:∃ X,rs (halfQ s)=X:=⟨_,rfl⟩;obtain ⟨M,hM⟩:∃ X,rs (nomQ s z code)=X:=⟨_,rfl⟩;obtain ⟨X,hX⟩:∃ X,rs (nomQ s z code - halfQ s)=X:=⟨_,rfl⟩;obtain ⟨Y,hY⟩:∃ Y,rs (nomQ s z code+halfQ s)=Y:=⟨_,rfl⟩;simp only[hL] at hls hhf;simp only[hH] at hhf hsu had;simp only[hM] at hnm hsu had;simp only[hX] at hsu;simp only[hY] at had;rw[hX,hY];clear hL hH hM hX hY lo hi zl zh cl ch e1 hnb hhb;have HNM:=hid hnm;have HLS:=hid hls;have HHF:=hid hhf;have HSU:=hid hsu;have HAD:=hid had;clear hnm hls hhf hsu had;go_enter Tryz.func24,Tryz.ntmps24;go_upto_region 1 with (fail);obtain ⟨BA,BP,HN⟩:=lay2 w 24 #[.int .i64 b,.int .i64 s,.int .i64 z,.string g,.string o] 28 #[.string ⟨#[]⟩,.string ⟨#[]⟩];obtain ⟨⟨pa0,pa1,pa2,pa3,pa4⟩,pa5⟩:=BA.out.five;go_wp2_with fail;refine (HLS.out _).mono ?_;rintro e w1 ⟨rfl,hn⟩;clear pa0 pa1 pa2 pa3 pa4 pa5;replace BA:=bW BA hn;replace BP:=bW BP hn;replace HN:=tW HN hn;clear hn;obtain ⟨⟨pa0,pa1,pa2,pa3,pa4⟩,pa5⟩:=BA.out.five;go_wp2_with fail;refine (HHF.out _).mono ?_;rintro e w2 ⟨rfl,hn⟩;clear pa0 pa1 pa2 pa3 pa4 pa5;replace BA:=bW BA hn;replace BP:=bW BP hn;replace HN:=tW HN hn;clear hn;obtain ⟨⟨pa0,pa1,pa2,pa3,pa4⟩,pa5⟩:=BA.out.five;go_upto_region 2 with (fail);clear pa0 pa1 pa2 pa3 pa4 pa5;refine wp_region_T 11 (fun W=>W.cell? ⟨w.heap.size,0,none⟩=some (.int .i64 b)∧W.cell? ⟨w.heap.size,1,none⟩=some (.int .i64 s)∧W.cell? ⟨w.heap.size,2,none⟩=some (.int .i64 z)∧W.cell? ⟨w.heap.size,3,none⟩=some (.string g)∧W.cell? ⟨w.heap.size,4,none⟩=some (.string o)) 12 #[false,false,false,false,false,false,false,false,false,false,false,false] rfl (by kernel_rfl) (by kernel_rfl) ?_;refine tk 0 (by exact cW5 BA) ?_
 try simp only[PT]
 refine tk 1 (by exact cW5 BA) ?_
 try simp only[PT]
 refine tk 3 (by exact cW5 BA) ?_
 try simp only[PT]
 refine tk 5 (by exact cW5 BA) ?_
 try simp only[PT]
 refine tk 6 (by exact cW5 BA) ?_
 try simp only[PT]
 refine tk 8 (by exact cW5 BA) ?_
 try simp only[PT]
 refine tk1 2 fun K hK=>?_;go_simp;refine (HNM.out _).mono ?_;rintro e w3 ⟨rfl,hn⟩;have hn:=hn.undr;replace BA:=bW BA hn;replace BP:=bW BP hn;replace HN:=tW HN hn;clear hn;refine hK.out _ _ (fun _=>cW5 BA) ?_;clear hK K
 try simp only[PT]
 refine tk1 4 fun K hK=>?_;go_simp;refine (HSU.out _).mono ?_;rintro e w4 ⟨rfl,hn⟩;replace BA:=bW BA hn;replace BP:=bW BP hn;replace HN:=tW HN hn;clear hn;refine hK.out _ _ (fun _=>cW5 BA) ?_;clear hK K
 try simp only[PT]
 refine tk1 7 fun K hK=>?_;go_simp;refine (HNM.out _).mono ?_;rintro e w5 ⟨rfl,hn⟩;replace BA:=bW BA hn;replace BP:=bW BP hn;replace HN:=tW HN hn;clear hn;refine hK.out _ _ (fun _=>cW5 BA) ?_;clear hK K
 try simp only[PT]
 refine tk1 9 fun K hK=>?_;go_simp;refine (HAD.out _).mono ?_;rintro e w6 ⟨rfl,hn⟩;replace BA:=bW BA hn;replace BP:=bW BP hn;replace HN:=tW HN hn;clear hn;refine hK.out _ _ (fun _=>cW5 BA) ?_;clear hK K
 try simp only[PT]
 refine tk 10 (by exact cW5 BA) ?_
 try simp only[PT]
 refine tlW ?_;obtain ⟨⟨pa0,pa1,pa2,pa3,pa4⟩,pa5⟩:=BA.out.five;clear pa0 pa1 pa2 pa3 pa4 pa5;obtain ⟨p0,p1,p2,p3,p4⟩:=BP.out.two;go_wp2_with fail;refine bodyPost_ret (v:=.agg #[.string X,.string Y]) (by simp[results,Tryz.results24,go_sem,p0,p1]) rfl ?_;exact ⟨rfl,(HN.out.setCell (p:=⟨w.heap.size+1,0,none⟩) (by show w.heap.size≤w.heap.size+1;omega) _).setCell (p:=⟨w.heap.size+1,1,none⟩) (by show w.heap.size≤w.heap.size+1;omega) _⟩
theorem rreal_calls (b s z:Int)(qg qo v:Rat)(w:World)(hg:RFB 2000 qg)(ho:RFB 2000 qo)(hv:RFB 2000 v):
  Calls Tryz.prog 92 #[.agg #[.int .i64 b,.int .i64 s,.int .i64 z,.string (rs qg),.string (rs qo)],.string (rs v)] w (RetS w (qg*v+qo)):=by
 have hmu:=fun W=>(rmulQ_calls 2000 2000 qg v W hg hv (by omega)).mono fun e w' h=>RetS.to rfl h;have had:=fun W=>(raddQ_calls 4000 2000 (qg*v) qo W (hg.mul hv) ho (by omega)).mono fun e w' h=>RetS.to rfl h
 suffices H:Calls Tryz.prog 92 #[.agg #[.int .i64 b,.int .i64 s,.int .i64 z,.string (rs qg),.string (rs qo)],.string (rs v)] w fun e w'=>e=.returned (.string (rs (qg*v+qo)))∧New w w' from H
 obtain ⟨g,hG⟩:∃ X,rs qg=X:=⟨_,rfl⟩;obtain ⟨o,hO⟩:∃ X,rs qo=X:=⟨_,rfl⟩;obtain ⟨V,hV⟩:∃ X,rs v=X:=⟨_,rfl⟩;obtain ⟨M,hM⟩:∃ X,rs (qg*v)=X:=⟨_,rfl⟩;obtain ⟨R,hR⟩:∃ X,rs (qg*v+qo)=X:=⟨_,rfl⟩;simp only[hG,hV,hM] at hmu;simp only[hM,hO,hR] at had;rw[hG,hO,hV,hR];clear hG hO hV hM hR hg ho hv;have HMU:=hid hmu;have HAD:=hid had;clear hmu had;go_enter Tryz.func92,Tryz.ntmps92;go_upto_region 1 with (fail);obtain ⟨BA,HN⟩:=lay1 w 24 #[.int .i64 b,.int .i64 s,.int .i64 z,.string g,.string o];obtain ⟨⟨pa0,pa1,pa2,pa3,pa4⟩,pa5⟩:=BA.out.five;clear pa0 pa1 pa2 pa3 pa4 pa5;refine wp_region_T 7 (fun W=>W.cell? ⟨w.heap.size,0,none⟩=some (.int .i64 b)∧W.cell? ⟨w.heap.size,1,none⟩=some (.int .i64 s)∧W.cell? ⟨w.heap.size,2,none⟩=some (.int .i64 z)∧W.cell? ⟨w.heap.size,3,none⟩=some (.string g)∧W.cell? ⟨w.heap.size,4,none⟩=some (.string o)) 8 #[false,false,false,false,false,false,false,false] rfl (by kernel_rfl) (by kernel_rfl) ?_;refine tk 0 (by exact cW5 BA) ?_
 try simp only[PT]
 refine tk 1 (by exact cW5 BA) ?_
 try simp only[PT]
 refine tk 2 (by exact cW5 BA) ?_
 try simp only[PT]
 refine tk 4 (by exact cW5 BA) ?_
 try simp only[PT]
 refine tk 5 (by exact cW5 BA) ?_
 try simp only[PT]
 refine tk1 3 fun K hK=>?_;go_simp;refine (HMU.out _).mono ?_;rintro e w1 ⟨rfl,hn⟩;have hn:=hn.undr;replace BA:=bW BA hn;replace HN:=tW HN hn;clear hn;refine hK.out _ _ (fun _=>cW5 BA) ?_;clear hK K
 try simp only[PT]
 refine tk1 6 fun K hK=>?_;go_simp;refine (HAD.out _).mono ?_;rintro e w2 ⟨rfl,hn⟩;replace BA:=bW BA hn;replace HN:=tW HN hn;clear hn;refine hK.out _ _ (fun _=>cW5 BA) ?_;clear hK K
 try simp only[PT]
 refine tlW ?_;obtain ⟨⟨pa0,pa1,pa2,pa3,pa4⟩,pa5⟩:=BA.out.five;go_wp2_with fail;go_ret;exact ⟨rfl,HN.out⟩
theorem rtrue_calls (b s z code:Int)(qg qo:Rat)(w:World)(hg:RFB 2000 qg)(ho:RFB 2000 qo)(lo: -20≤s)(hi:s≤4)(zl:0≤z)(zh:z≤4095)(cl:0≤code)(ch:code≤4096):
  Calls Tryz.prog 25 #[.agg #[.int .i64 b,.int .i64 s,.int .i64 z,.string (rs qg),.string (rs qo)],.int .i64 code] w fun e w'=>e=.returned (spanV (qg*(nomQ s z code - halfQ s)+qo) (qg*(nomQ s z code+halfQ s)+qo))∧New w w':=by
 have hnb:RFB 41 (nomQ s z code):=by
  have:=(RFB.of (stepQ_fb21 lo hi)).mul (rfb_int (z:=code - z) (k:=13) (by omega) (by omega));exact this.mono (by omega)
 have hhb:RFB 23 (halfQ s):=RFB.of (halfQ_fb lo hi);have hin:=fun W=>rinterval_calls b s z code (rs qg) (rs qo) W lo hi zl zh cl ch
 have hsb:RFB 65 (nomQ s z code - halfQ s):=by rw[Rat.sub_eq_add_neg];exact hnb.add hhb.neg
 have hra:=fun W=>(rreal_calls b s z qg qo (nomQ s z code - halfQ s) W hg ho (hsb.mono (by omega))).mono fun e w' h=>RetS.to rfl h;have hrb:=fun W=>(rreal_calls b s z qg qo (nomQ s z code+halfQ s) W hg ho ((hnb.add hhb).mono (by omega))).mono fun e w' h=>RetS.to rfl h;simp only[←rs_span] at hin⊢;obtain ⟨g,hG⟩:∃ X,rs qg=X:=⟨_,rfl⟩;obtain ⟨o,hO⟩:∃ X,rs qo=X:=⟨_,rfl⟩;obtain ⟨I1,hI1⟩:∃ X,rs (nomQ s z code - halfQ s)=X:=⟨_,rfl⟩;obtain ⟨I2,hI2⟩:∃ Y,rs (nomQ s z code+halfQ s)=Y:=⟨_,rfl⟩;obtain ⟨X,hX⟩:∃ X,rs (qg*(nomQ s z code - halfQ s)+qo)=X:=⟨_,rfl⟩;obtain ⟨Y,hY⟩:∃ Y,rs (qg*(nomQ s z code+halfQ s)+qo)=Y:=⟨_,rfl⟩;simp only[hG,hO,hI1,hI2] at hin;simp only[hG,hO,hI1,hX] at hra;simp only[hG,hO,hI2,hY] at hrb;rw[hG,hO,hX,hY];clear hG hO hI1 hI2 hX hY lo hi zl zh cl ch hnb hhb hsb hg ho;have HIN:=hid hin;have HRA:=hid hra;have HRB:=hid hrb;clear hin hra hrb;go_enter Tryz.func25,Tryz.ntmps25;go_upto_region 1 with (fail);obtain ⟨BA,BP,HN⟩:=lay2 w 24 #[.int .i64 b,.int .i64 s,.int .i64 z,.string g,.string o] 28 #[.string ⟨#[]⟩,.string ⟨#[]⟩];obtain ⟨⟨pa0,pa1,pa2,pa3,pa4⟩,pa5⟩:=BA.out.five;go_wp2_with fail;refine (HIN.out _).mono ?_;rintro e w1 ⟨rfl,hn⟩;clear pa0 pa1 pa2 pa3 pa4 pa5;replace BA:=bW BA hn;replace BP:=bW BP hn;replace HN:=tW HN hn;clear hn;obtain ⟨⟨pa0,pa1,pa2,pa3,pa4⟩,pa5⟩:=BA.out.five;go_upto_region 2 with (fail);clear pa0 pa1 pa2 pa3 pa4 pa5;have HN0:=HN;clear HN;obtain ⟨BI,HN⟩:=lay1 w1 28 #[.string I1,.string I2];replace BA:=hid (BA.out.new HN.out);replace BP:=hid (BP.out.new HN.out);have HN_:=HN0.out.trans HN.out;clear HN HN0;have HN:=hid HN_;clear HN_;obtain ⟨⟨pa0,pa1,pa2,pa3,pa4⟩,pa5⟩:=BA.out.five;obtain ⟨pi0,pi1,pi2,pi3,pi4⟩:=BI.out.two;clear pa0 pa1 pa2 pa3 pa4 pa5;clear pi0 pi1 pi2 pi3 pi4;refine wp_region_T 9 (fun W=>(W.cell? ⟨w.heap.size,0,none⟩=some (.int .i64 b)∧W.cell? ⟨w.heap.size,1,none⟩=some (.int .i64 s)∧W.cell? ⟨w.heap.size,2,none⟩=some (.int .i64 z)∧W.cell? ⟨w.heap.size,3,none⟩=some (.string g)∧W.cell? ⟨w.heap.size,4,none⟩=some (.string o))∧(W.cell? ⟨w1.heap.size,0,none⟩=some (.string I1)∧W.cell? ⟨w1.heap.size,1,none⟩=some (.string I2))) 10 #[false,false,false,false,false,false,false,false,false,false] rfl (by kernel_rfl) (by kernel_rfl) ?_;refine tk 0 (by exact ⟨cW5 BA,cW2 BI⟩) ?_
 try simp only[PT]
 refine tk 1 (by exact ⟨cW5 BA,cW2 BI⟩) ?_
 try simp only[PT]
 refine tk 2 (by exact ⟨cW5 BA,cW2 BI⟩) ?_
 try simp only[PT]
 refine tk 4 (by exact ⟨cW5 BA,cW2 BI⟩) ?_
 try simp only[PT]
 refine tk 5 (by exact ⟨cW5 BA,cW2 BI⟩) ?_
 try simp only[PT]
 refine tk 6 (by exact ⟨cW5 BA,cW2 BI⟩) ?_
 try simp only[PT]
 refine tk1 3 fun K hK=>?_;go_simp;refine (HRA.out _).mono ?_;rintro e w2 ⟨rfl,hn⟩;have hn:=hn.undr;replace BA:=bW BA hn;replace BP:=bW BP hn;replace BI:=bW BI hn;replace HN:=tW HN hn;clear hn;refine hK.out _ _ (fun _=>⟨cW5 BA,cW2 BI⟩) ?_;clear hK K
 try simp only[PT]
 refine tk1 7 fun K hK=>?_;go_simp;refine (HRB.out _).mono ?_;rintro e w3 ⟨rfl,hn⟩;replace BA:=bW BA hn;replace BP:=bW BP hn;replace BI:=bW BI hn;replace HN:=tW HN hn;clear hn;refine hK.out _ _ (fun _=>⟨cW5 BA,cW2 BI⟩) ?_;clear hK K
 try simp only[PT]
 refine tk 8 (by exact ⟨cW5 BA,cW2 BI⟩) ?_
 try simp only[PT]
 refine tlW ?_;obtain ⟨⟨pa0,pa1,pa2,pa3,pa4⟩,pa5⟩:=BA.out.five;obtain ⟨pi0,pi1,pi2,pi3,pi4⟩:=BI.out.two;clear pa0 pa1 pa2 pa3 pa4 pa5;clear pi0 pi1 pi2 pi3 pi4;obtain ⟨p0,p1,p2,p3,p4⟩:=BP.out.two;go_wp2_with fail;refine bodyPost_ret (v:=.agg #[.string X,.string Y]) (by simp[results,Tryz.results25,go_sem,p0,p1]) rfl ?_;exact ⟨rfl,(HN.out.setCell (p:=⟨w.heap.size+1,0,none⟩) (by show w.heap.size≤w.heap.size+1;omega) _).setCell (p:=⟨w.heap.size+1,1,none⟩) (by show w.heap.size≤w.heap.size+1;omega) _⟩
theorem ten_sixteen (k n:Nat)(h:4*k≤n):10^k≤2^n:=Nat.le_trans (by
 have:=Nat.pow_le_pow_left (show 10≤2^4 by decide) k
 rwa [←Nat.pow_mul] at this) (Nat.pow_le_pow_right (by omega) h)
theorem rat_len (q:Rat):nDigits q.num.natAbs≤(ratText q).length∧(q.den=1∨nDigits q.den≤(ratText q).length):=by
 have h1:nDigits q.num.natAbs≤(itoa q.num).length:=by
  rcases Int.lt_or_le q.num 0 with h | h
  ·rw[show q.num= -(q.num.natAbs:Int) by omega,Big.itoa_neg (by omega),List.length_cons,decDigits_length];simp
  ·rw[show q.num=(q.num.natAbs:Int) by omega,Big.itoa_nonneg,decDigits_length];simp
 unfold ratText;split
 ·rename_i h;exact ⟨h1,.inl h⟩
 ·rw[List.length_append,List.length_cons,decDigits_length];exact ⟨by omega,.inr (by omega)⟩
theorem fb_of_len {q:Rat}{n k:Nat}(h:(ratText q).length≤n)(hk:4*n≤k)(hk1:1≤k):FB k q:=by
 obtain ⟨h1,h2⟩:=rat_len q
 have key:∀ u:Nat,nDigits u≤n→u < 2^k:=fun u hu=>
  Nat.lt_of_lt_of_le (Nat.lt_of_lt_of_le (lt_pow_nDigits u) (Nat.pow_le_pow_right (by omega) hu)) (ten_sixteen n k hk)
 refine ⟨key _ (by omega),?_⟩;show (q.den:Int).natAbs < 2^k;rw[Int.natAbs_natCast];rcases h2 with h2 | h2
 ·rw[h2];exact Nat.one_lt_pow (by omega) (by omega)
 ·exact key _ (by omega)
theorem intervals_law (haw:AwakeOk)(b s z code:Int)(g o:ByteArray)(w:World)(he:Env w)(hg:g.size≤9223372036854775807)(ho:o.size≤9223372036854775807):
  Calls Tryz.prog 4 #[adcV b s z g o,.int .i64 code] w fun e w'=>e=.returned (.bool true)∧New w w':=by
 have hsh:=fun W=>rshort_calls b s z g o W hg ho;by_cases hlen:g.size≤60∧o.size≤60
 ·obtain ⟨hg6,ho6⟩:=hlen;rw[decide_eq_true hg6,decide_eq_true ho6,Bool.and_self] at hsh;obtain ⟨n,hpc,hrc,hok⟩:=adc_err b s z g o (by omega) (by omega);by_cases h0:n=0
  ·subst h0;obtain ⟨qg,qo,K⟩:=hok rfl;have htb:=top_bd K.blo K.bhi;have hzh:=K.zhi;have hzl:=K.zlo;have hlo:=K.blo
   have hzz:z≤4095:=by omega
   have hci:=fun W=>rinside_calls b s z code g o W (by omega) K.bhi;have hkc:=fun W hW=>checkCode_calls K code W hW;obtain ⟨tp,htp⟩:∃ tp:Int,(2:Int)^b.toNat - 1=tp:=⟨_,rfl⟩;simp only[htp] at hci hkc;unfold insideE at hci
   cases hout:outside code 0 tp with
   | true=>
    simp only[hout,if_pos]at hci hkc;have hen:=fun W hW=>ends_err b s z g o code 3 (by decide) hkc W hW;exact iv_B haw b s z code 3 g o w he (by decide) hsh (fun W hW=>interval_err _ b s z g o code 3 (by decide) W hW rfl hen) (fun W hW=>true_err _ b s z g o code 3 (by decide) W hW rfl hen) hrc hci
   | false=>
    have hout2:=hout;simp only[outside,Bool.or_eq_false_iff,decide_eq_false_iff_not] at hout2;by_cases hc:code=0∨code=tp
    ·have hci:∀ W,Calls Tryz.prog 23 #[adcV b s z g o,.int .i64 code] W (RetNew W 15):=fun W=>by
      have:=hci W;rw[hout,if_neg (by decide),if_pos hc] at this;exact this
     have hen:∃ x y:Rat,∀ W,Env W→Calls Tryz.prog 88 #[adcV b s z g o,.int .i64 code] W (EndsPost W x y 15):=by
      rcases hc with hc | hc
      ·subst hc;exact ⟨_,_,fun W hW=>ends_zero K W hW⟩
      ·exact ⟨_,_,fun W hW=>ends_top K code (by omega) W hW⟩
     obtain ⟨x,y,hen⟩:=hen;exact iv_B haw b s z code 15 g o w he (by decide) hsh (fun W hW=>interval_clip _ b s z g o code x y 15 (by decide) W hW rfl hen) (fun W hW=>true_clip _ b s z g o code x y 15 (by decide) W hW rfl hen) hrc hci
    ·have hci:∀ W,Calls Tryz.prog 23 #[adcV b s z g o,.int .i64 code] W (RetNew W 0):=fun W=>by
      have:=hci W;rw[hout,if_neg (by decide),if_neg hc] at this;exact this
     have hen:=fun W hW=>ends_mid K code (by omega) (by omega) (by omega) (by omega) W hW;have bn:=nomQ_fb K (show 0≤code by omega) (show code≤4095 by omega);have bh:=halfQ_fb K.slo K.shi;have bx:FB 57 (nomQ s z code - halfQ s):=(bn.sub bh).mono (by omega);have by':FB 57 (nomQ s z code+halfQ s):=(bn.add bh).mono (by omega)
     have hgl:(ratText qg).length≤60:=by
      rw[←K.gt,Array.length_toList];exact hg6
     have hol:(ratText qo).length≤60:=by
      rw[←K.ot,Array.length_toList];exact ho6
     have fg:FB 240 qg:=fb_of_len hgl (by omega) (by omega);have fo:FB 240 qo:=fb_of_len hol (by omega) (by omega);have eg:=rs_of K.gt;have eo:=rs_of K.ot;have hri:=fun W=>rinterval_calls b s z code g o W K.slo K.shi K.zlo hzz (by omega) (by omega);have hrt:=fun W=>rtrue_calls b s z code qg qo W (RFB.of (fg.mono (by omega))) (RFB.of (fo.mono (by omega))) K.slo K.shi K.zlo hzz (by omega) (by omega);rw[←eg,←eo,Rat.mul_comm qg,Rat.mul_comm qg] at hrt
     exact iv_C haw b s z code g o _ _ _ _ w he hsh (fun W hW=>interval_mid _ b s z g o code _ _ (bx.mono (by omega)).sm (by'.mono (by omega)).sm W hW rfl hen)
      (fun W hW=>true_big _ b s z g o code _ _ qg qo (bx.mono (by omega)) (by'.mono (by omega)) (((bx.mul fg).add fo).mono (by omega)) (((by'.mul fg).add fo).mono (by omega)) W hW rfl K.gt (fg.mono (by omega)) (by omega) K.ot (fo.mono (by omega)) (by omega) hen) hrc hci hri hrt
  ·have hck:=fun W hW=>checkCode_err b s z g o code n h0 hpc W hW;have hen:=fun W hW=>ends_err b s z g o code n h0 hck W hW;exact iv_A haw b s z code n g o w he h0 hsh (fun W hW=>interval_err _ b s z g o code n h0 W hW rfl hen) (fun W hW=>true_err _ b s z g o code n h0 W hW rfl hen) hrc
 ·have hf:(decide (g.size≤60) && decide (o.size≤60))=false:=by
   rw[Bool.and_eq_false_iff,decide_eq_false_iff_not,decide_eq_false_iff_not];omega
  simp only[hf]at hsh;exact iv_long haw b s z code g o w he hsh
theorem intervals_lifted (os:Os)(started:os.Started)(H:Type)(enc:TypeId × Value→H):
  ReturnsInHanded {} Tryz.checked os 4 .any (fun w args=>(Rows.probeIntervalsSpec.pre enc Tryz.prog Tryz.f4 [] false w args∧laidMetH Tryz.prog Listed w)∧sizedMet enc Tryz.prog Tryz.f4 (OpenSpec.ofChange Rows.probeIntervalsSpec) false w args)
   (Rows.probeIntervalsSpec.post enc Tryz.prog Tryz.f4 false true false false):=by
 refine returns_and_shaped (C:=Tryz.checked) (X:=fun w _=>laidMetH Tryz.prog Listed w) (fun _ _ _ hh h=>h.of_heap hh) own started (by kernel_rfl) Tryz.func4
  (ChangeSpec.witness_shaped (enc:=enc) (C:=Tryz.checked) (os:=os) (X:=fun w _=>laidMetH Tryz.prog Listed w) false (World.laidAll Tryz.prog os Listed) #[.agg #[.int .i64 0,.int .i64 0,.int .i64 0,.string ⟨#[]⟩,.string ⟨#[]⟩],.int .i64 0] 8 (World.laidAll_os _ _ _)
   (World.shaped_of_ZipB (by kernel_rfl) (by kernel_rfl)) (by kernel_rfl) (by kernel_rfl) (by kernel_rfl) (witness_laid os _)) ?_
 intro W base args ds gs before hval0 hW hL hsh;have hval:∀ (j:Nat) t v,Tryz.f4.params[j]?=some t→args[j]?=some v→Value.okWide Tryz.prog W .any base t v:=hval0;have hW':=hW;obtain ⟨p,q,hA0,hV,rfl,_,_⟩:=hW;have hA:DataW.TrodAll enc Tryz.prog W 0 (fun _=>true) true Tryz.f4.params.toList args.toList ds p:=hA0;rw[Tryz.params4] at hA hval;obtain ⟨v0,v1,d0,d1,p0,p1,rfl,rfl,rfl,h0,h1⟩:=trodAll_two hA;obtain ⟨rfl,rfl⟩:=trodVars_none hV;have he:=env_of hL hsh
 have hlt:∀ x∈p0 ++ p1,x.block < W.heap.size:=fun x hx=>by simpa using hW'.lt x (by simpa using hx)
 have hv0:=hval 0 _ _ rfl rfl;have hv1:=hval 1 _ _ rfl rfl;clear hA0 hval0 hval hA
 have up:∀ W',New W W'→DataW.TrodAll enc Tryz.prog W' 0 (fun b=>decide (b < W.heap.size)) true [24,3] [v0,v1] [d0,d1] (p0 ++ p1):=fun W' hn=>
  trodAll_mk2 (Below.trod laidOut (by kernel_rfl) (of_decide_eq_true (by kernel_rfl)) h0 hn fun x hx=>hlt x (by simp[hx]))
   (Below.trod laidOut (by kernel_rfl) (of_decide_eq_true (by kernel_rfl)) h1 hn fun x hx=>hlt x (by simp[hx]))
 obtain ⟨b,s,z,g,o,rfl,hg,ho⟩:=in_adc hv0 h0;obtain ⟨n,rfl,_,_,_⟩:=open_int Tryz.underlying3 hv1 h1;refine (intervals_law awake_calls b s z n g o W he hg ho).mono fun e W' hp=>?_;obtain ⟨rfl,hn⟩:=hp;exact ⟨_,rfl,_,_,_,[],p0 ++ p1,[],hW',trodAll_mk1 (shut_bool Tryz.underlying4 _),up W' hn,rfl,Below.frame hn _,fun h=>by cases h⟩
theorem intervals_holds:Rows.ProbeIntervalsSaid:=
 OpenClaim.holds_of_wide 4 Tryz.f4 rfl rfl rfl rfl rfl rfl rfl ⟨rfl,rfl,rfl,rfl,rfl⟩ rfl rfl rfl rfl rfl (by kernel_rfl) Tryz.func4 (by kernel_rfl)
  (of_decide_eq_true (by kernel_rfl)) (by unfold Func.isWrapper;first | (rw[if_pos (by decide +kernel)];kernel_rfl) | (rw[if_neg (by decide +kernel)];exact ⟨rfl,rfl⟩))
  (fun os started H enc _=>intervals_lifted os started H enc)
theorem intervals_card_holds:Rows.ProbeIntervalsCardSaid:=
 Claim7.holds_tied_plain_at .later [] [.data, .data, .data, .data, .sentinel, .sentinel, .pinned] true (true, "0317c1efc2cc73041a6463d23eedf5ef37cef014deea2dd9430a94fd6af32783") true
  intervals_holds (fun _ h=>by cases h) (by kernel_rfl) (fun _ h=>by cases h) probeIntervals_row_tie rfl ⟨rfl,rfl⟩ (by kernel_rfl) rfl
  (fun f fn hf hfn=>by
   obtain rfl : f = 4 := Option.some.inj ((show Tryz.prog.funcNamed "strobe/strobelaw02.ProbeIntervals" = some 4 by kernel_rfl).symm.trans hf) |>.symm
   obtain rfl:fn=Tryz.f4:=(Option.some.inj (Tryz.func4.symm.trans hfn)).symm
   exact ⟨by kernel_rfl,fun j t ht=>by
    rw[Tryz.params4]at ht
    have hm:t∈[24,3]:=by simpa using Array.mem_of_getElem? ht
    have hall:([24,3].all fun u=>!Tryz.prog.wantsStandIn u)=true:=by kernel_rfl
    exact (show Tryz.prog.wantsStandIn t=false by simpa using List.all_eq_true.1 hall t hm)⟩)
  (by kernel_rfl)
end Go.Proofs.YtbkcjmojgglbkaaGreatDoor
