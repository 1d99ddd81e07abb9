/- Part CardQz04. -/
import Derived.BigQuiet
import Derived.Deep.DeepCutAuto
import Derived.Deep.CutBlock
import Derived.Laws.AppendOwnNone
import Derived.Laws.FloatArith
import Derived.Test.YtbkcjmojgglbkaaGreatDoorCardQz03
namespace Go.Proofs.YtbkcjmojgglbkaaGreatDoor
open Go.RowKit Big Go.Lib
set_option maxRecDepth 100000
set_option maxHeartbeats 8000000
abbrev Str (f:Nat)(args:Array Value)(s:ByteArray):Prop:=∀ W,Calls Tryz.prog f args W fun e w'=>e=.returned (.string s)∧New W w'
abbrev Num (f:Nat)(args:Array Value)(n:Int):Prop:=∀ W,Calls Tryz.prog f args W fun e w'=>e=.returned (.int .i64 n)∧New W w'
abbrev Yes (f:Nat)(args:Array Value):Prop:=∀ W,Calls Tryz.prog f args W fun e w'=>e=.returned (.bool true)∧New W w'
abbrev spV (x y:ByteArray):Value:=.agg #[.string x,.string y]
structure QzEl (b s z:Int)(g o F1 F2 H v:ByteArray)(y:Nat)(c cl:Int)(N:ByteArray):Prop where
 co:∀ W,Env W→Calls Tryz.prog 12 #[adcV b s z g o,.string v] W fun e w'=>e=.returned (.tuple #[.int .i64 c,.int .i64 cl,.int .i64 0])∧New W w'
 fi:Yes 47 #[.float .f32 y]
 ex:Str 48 #[.float .f32 y] N
 cn:∀ W,Env W→Calls Tryz.prog 12 #[adcV b s z g o,.string N] W fun e w'=>e=.returned (.tuple #[.int .i64 c,.int .i64 0,.int .i64 0])∧New W w'
 ha:Yes 49 #[spV F1 F2,.string N]
 arm:(cl=0∧(∃ (D A:ByteArray) (r:Int),Str 52 #[.string v,.string N] D∧Str 51 #[.string D] A∧Num 50 #[.string A,.string H] r∧r≤0)∧
   ((∀ W,Env W→Calls Tryz.prog 21 #[adcV b s z g o,.int .i64 c] W (NoSpan W 15))∨
    ∃ I1 I2:ByteArray,(∀ W,Env W→Calls Tryz.prog 21 #[adcV b s z g o,.int .i64 c] W fun e w'=>e=.returned (.tuple #[spV I1 I2,.int .i64 0])∧New W w')∧Num 44 #[spV I1 I2] 0∧Yes 49 #[spV I1 I2,.string v]))∨
  (cl= -1∧N=F1∧∃ r:Int,Num 50 #[.string v,.string N] r∧r < 0)∨
  (cl=1∧N=F2∧∃ r:Int,Num 50 #[.string v,.string N] r∧0 < r)
structure QzOk (b s z:Int)(g o:ByteArray)(n:Nat)(vs:List ByteArray)(w:World)(ys:List Nat)(cs:List Int)(F1 F2 L H:ByteArray):Prop where
 sa:∀ W a c,New w W→RdL W a (strs vs)→Calls Tryz.prog 27 #[adcV b s z g o,.slice a n c] W (RowPost W 35 (flts ys) 0)
 co:∀ W a c,New w W→RdL W a (flts ys)→Calls Tryz.prog 29 #[adcV b s z g o,.slice a n c] W (RowPost W 3 (ints cs) 0)
 fu:∀ W,New w W→Calls Tryz.prog 11 #[adcV b s z g o] W fun e w'=>e=.returned (.tuple #[spV F1 F2,.int .i64 0])∧New W w'
 sp:Num 44 #[spV F1 F2] 0
 ls:Str 46 #[adcV b s z g o] L
 hl:Str 45 #[.string L] H
 ly:ys.length=n
 lc:cs.length=n
 el:∀ (k:Nat) (h:k < vs.length) (hy:k < ys.length) (hc:k < cs.length),∃ (cl:Int) (N:ByteArray),QzEl b s z g o F1 F2 H vs[k] ys[k] cs[k] cl N
 od:∀ (j k:Nat) (hj:j < vs.length) (hk:k < vs.length) (hj2:j < cs.length) (hk2:k < cs.length),∃ r:Int,Num 50 #[.string vs[j],.string vs[k]] r∧(r < 0→cs[j]≤cs[k])∧(0 < r→cs[k]≤cs[j])∧(r=0→cs[j]=cs[k])
theorem he' {w w9 wr:World}(h:Hid (Env w))(h1:Hid (New w w9))(h2:Hid (New w9 wr)):Env wr:=(h.out.new h1.out).new h2.out
theorem quant_walk (haw:AwakeOk) (b s z:Int) (g o:ByteArray) (av:Option Addr) (cv n:Nat) (vs:List ByteArray) (w:World) (he:Env w) (hn0:vs.length=n) (PA PB:Prop) (hrv:RdL w av (strs vs)) (hzv:av=none→cv=0) (hnl:(n:Int)≤9223372036854775807)
  (hfa:∀ W,Calls Tryz.prog 42 #[adcV b s z g o] W fun e w'=>(∃ t:Bool,e=.returned (.bool t)∧(t=true→PA))∧New W w')
  (hfl:∀ W,New w W→Calls Tryz.prog 43 #[.slice av n cv,.int .i64 20,.int .i64 12] W fun e w'=>(∃ t:Bool,e=.returned (.bool t)∧(t=true→PB))∧New W w')
  (hok:PA→n≤20→PB→∃ (ys:List Nat) (cs:List Int) (F1 F2 L H:ByteArray),QzOk b s z g o n vs w ys cs F1 F2 L H):
  Calls Tryz.prog 7 #[adcV b s z g o,.slice av n cv] w fun e w'=>e=.returned (.bool true)∧New w w':=by
 have hrats:=fun W (hW:New w W) (h:n≤20)=>rats_calls av cv (strs vs) W (by simp[strs];omega) (hrv.new hW) hzv (strs_cell vs)
 have ev:(strs vs).length=n:=by simp[strs,hn0]
 simp only[ev]at hrats;clear ev;unfold adcV at *;have HAW:=hid haw;have HE:=hid he;have HFA:=hid hfa;have HFL:=hid hfl;have HOK:=hid hok;have HRATS:=hid hrats;have HRV:=hid hrv;have HNN:=hid hn0;have HZV:=hid hzv;clear haw he hfa hfl hok hrats hrv hn0 hzv;go_enter Tryz.func7,Tryz.ntmps7;go_upto_region 1 with (fail);obtain ⟨BA,HN⟩:=lay1 w 24 #[.int .i64 b,.int .i64 s,.int .i64 z,.string g,.string o];obtain ⟨w8,hw8⟩:∃ x,w.alloc (.cells #[.int .i64 b,.int .i64 s,.int .i64 z,.string g,.string o] 24)=x:=⟨_,rfl⟩;rw[hw8] at BA HN⊢;clear hw8
 go_cut [38] (fun u wx=>∃ t:Bool,u=.bool (!t)∧Hid (t=true→PA∧n≤20∧PB)∧Hid (New w8 wx))
 case first=>
  obtain ⟨⟨pa0,pa1,pa2,pa3,pa4⟩,pa5⟩:=BA.out.five;go_wp2_with fail;refine (HFA.out _).mono ?_;rintro e w1 ⟨⟨t,rfl,ht⟩,hn⟩;have HX:=hid hn
  cases t with
  | false=>
   clear ht hn;go_wp2_with fail
   go_meet
   exact ⟨false,rfl,hid (fun h=>by cases h),HX⟩
  | true=>
   have hpa:=ht rfl;clear ht;have HPA:=hid hpa;clear hpa;clear pa0 pa1 pa2 pa3 pa4 pa5;replace HN:=tW HN hn;clear hn;by_cases h20:n≤20
   ·have hi:¬(20:Int) < (n:Int):=by omega
    have hd:decide ((20:Int) < (n:Int))=false:=decide_eq_false hi;have H20:=hid h20;clear h20;go_wp2_with fail;refine (HFL.out _ HN.out).mono ?_;rintro e w2 ⟨⟨t,rfl,ht⟩,hn⟩;have hx2:=HX.out.trans hn;clear HX hn;have HT:=hid ht;have HX:=hid hx2;clear ht hx2;go_wp2_with fail
    go_meet
    exact ⟨t,rfl,hid (fun h=>⟨HPA.out,H20.out,HT.out h⟩),HX⟩
   ·have hi:(20:Int) < (n:Int):=by omega
    have hd:decide ((20:Int) < (n:Int))=true:=decide_eq_true hi;clear h20;go_wp2_with fail
    go_meet
    exact ⟨false,rfl,hid (fun h=>by cases h),HX⟩
 case rest=>
  obtain ⟨t,rfl,HT,HX⟩:=hcut;have hb:=BA.out.new HX.out;have hn:=HN.out.trans HX.out;clear BA HN HX;have BA:=hid hb;have HN:=hid hn;clear hb hn
  cases t with
  | false=>
   go_wp2_with fail;refine (HAW.out _ (HE.out.new HN.out)).mono ?_;rintro e w99 ⟨rfl,hn⟩;replace HN:=tW HN hn;clear hn;go_wp2_with fail;go_ret;exact ⟨rfl,HN.out⟩
  | true=>
   obtain ⟨hpa,h20,hpb⟩:=HT.out rfl;obtain ⟨ys,cs,F1,F2,L,H,hK⟩:=HOK.out hpa h20 hpb
   have hni:(n:Int)≤20:=by omega
   clear HT HOK hpa hpb HFA HFL;have HK:=hid hK;have H20:=hid h20;clear hK h20;obtain ⟨⟨pa0,pa1,pa2,pa3,pa4⟩,pa5⟩:=BA.out.five;go_upto_region 4 with (fail);clear pa0 pa1 pa2 pa3 pa4 pa5;have HN0:=HN;clear HN;obtain ⟨BB,HN⟩:=lay1 wc 32 #[.int .i64 b,.int .i64 s,.int .i64 z,.string g,.string o];replace BA:=hid (BA.out.new HN.out);have HN_:=HN0.out.trans HN.out;clear HN HN0;have HN:=hid HN_;clear HN_;obtain ⟨⟨pa0,pa1,pa2,pa3,pa4⟩,pa5⟩:=BB.out.five;clear pa0 pa1 pa2 pa3 pa4 pa5;refine wp_region_T 8 (fun W=>W.cell? ⟨wc.heap.size,0,none⟩=some (.int .i64 b)∧W.cell? ⟨wc.heap.size,1,none⟩=some (.int .i64 s)∧W.cell? ⟨wc.heap.size,2,none⟩=some (.int .i64 z)∧W.cell? ⟨wc.heap.size,3,none⟩=some (.string g)∧W.cell? ⟨wc.heap.size,4,none⟩=some (.string o)) 9 #[false,false,false,false,false,false,false,false,false] rfl (by kernel_rfl) (by kernel_rfl) ?_;refine tk 0 (by exact cW5 BB) ?_
   try simp only[PT]
   refine tk 1 (by exact cW5 BB) ?_
   try simp only[PT]
   refine tk1 2 fun K hK=>?_;go_simp;refine (HRATS.out _ HN.out.drew H20.out).mono ?_;rintro e w2 ⟨a2,c2,rfl,hn,hr2, -, -⟩;have hn:=hn.undr;have HR2:=hid hr2;clear hr2;replace BA:=bW BA hn;replace BB:=bW BB hn;replace HN:=tW HN hn;clear hn;refine hK.out _ _ (fun _=>cW5 BB) ?_;clear hK K
   try simp only[PT]
   refine tk1 3 fun K hK=>?_;go_simp;refine (HK.out.sa _ _ _ HN.out HR2.out).mono ?_;rintro e w3 ⟨v3,rfl,hn,ho⟩;obtain ⟨a3,c3,rfl,hs3⟩:=own_read ho rfl ((flts_len ys).trans HK.out.ly);clear ho HR2;have HS:=hid hs3;clear hs3;replace BA:=bW BA hn;replace BB:=bW BB hn;replace HN:=tW HN hn;clear hn;refine hK.out _ _ (fun _=>cW5 BB) ?_;clear hK K
   try simp only[PT]
   refine tk 4 (by exact cW5 BB) ?_
   try simp only[PT]
   refine tk 5 (by exact cW5 BB) ?_
   try simp only[PT]
   refine tk 6 (by exact cW5 BB) ?_
   try simp only[PT]
   refine tk 7 (by exact cW5 BB) ?_
   try simp only[PT]
   refine tlW ?_;obtain ⟨⟨pa0,pa1,pa2,pa3,pa4⟩,pa5⟩:=BB.out.five;go_wp2_with fail;refine (HK.out.co _ _ _ HN.out HS.out).mono ?_;rintro e w4 ⟨v4,rfl,hn,ho⟩;obtain ⟨a4,c4,rfl,hc4⟩:=own_read ho rfl ((ints_len cs).trans HK.out.lc);clear ho;have HC:=hid hc4;clear hc4;clear pa0 pa1 pa2 pa3 pa4 pa5;replace BA:=bW BA hn;replace BB:=bW BB hn;replace HS:=hid (HS.out.new hn);replace HN:=tW HN hn;clear hn;obtain ⟨⟨pa0,pa1,pa2,pa3,pa4⟩,pa5⟩:=BB.out.five;go_wp2_with fail;refine (HK.out.fu _ HN.out).mono ?_;rintro e w5 ⟨rfl,hn⟩;clear pa0 pa1 pa2 pa3 pa4 pa5;replace BA:=bW BA hn;replace BB:=bW BB hn;replace HS:=hid (HS.out.new hn);replace HC:=hid (HC.out.new hn);replace HN:=tW HN hn;clear hn;go_upto_region 7 with (fail)
   have hnn:((n:Int) != (n:Int))=false:=by simp
   have HN0:=HN;clear HN;obtain ⟨BF,HN⟩:=lay1 w5 28 #[.string F1,.string F2];replace BA:=hid (BA.out.new HN.out);replace BB:=hid (BB.out.new HN.out);replace HS:=hid (HS.out.new HN.out);replace HC:=hid (HC.out.new HN.out);have HN_:=HN0.out.trans HN.out;clear HN HN0;have HN:=hid HN_;clear HN_;obtain ⟨pf0,pf1,pf2,pf3,pf4⟩:=BF.out.two;go_wp2_with fail;refine (HK.out.sp _).mono ?_;rintro e w6 ⟨rfl,hn⟩;clear hnn;clear pf0 pf1 pf2 pf3 pf4;replace BA:=bW BA hn;replace BB:=bW BB hn;replace BF:=bW BF hn;replace HS:=hid (HS.out.new hn);replace HC:=hid (HC.out.new hn);replace HN:=tW HN hn;clear hn;obtain ⟨⟨pa0,pa1,pa2,pa3,pa4⟩,pa5⟩:=BA.out.five;go_wp2_with fail;refine (HK.out.ls _).mono ?_;rintro e w7 ⟨rfl,hn⟩;clear pa0 pa1 pa2 pa3 pa4 pa5;replace BB:=bW BB hn;replace BF:=bW BF hn;replace HS:=hid (HS.out.new hn);replace HC:=hid (HC.out.new hn);replace HN:=tW HN hn;clear hn;clear BA;go_wp2_with fail;refine (HK.out.hl _).mono ?_;rintro e w9 ⟨rfl,hn⟩;replace BB:=bW BB hn;replace BF:=bW BF hn;replace HS:=hid (HS.out.new hn);replace HC:=hid (HC.out.new hn);replace HN:=tW HN hn;clear hn;go_wp2_with fail;have HW:=HN;clear HN;have hcl:=HK.out.lc;have hyl:=HK.out.ly;have HCL:=hid hcl;have HYL:=hid hyl;clear hcl hyl;go_loopw [89] (fun i wr=>∃ k:Nat,k≤n∧i=.int .i64 (k:Int)∧Hid (New w9 wr)) (fun i _=>n - (RowKit.intOf i).toNat)
   case atStart=>exact ⟨0,Nat.zero_le _,rfl,hid (New.refl _)⟩
   case round=>
    obtain ⟨k,hk,rfl,HN⟩:=hrel;by_cases hlt:k < n
    ·have hkv:k < vs.length:=by rw[HNN.out];exact hlt
     have hky:k < ys.length:=by rw[HYL.out];exact hlt
     have hkc:k < cs.length:=by rw[HCL.out];exact hlt
     obtain ⟨bv,ov,rfl,hcv⟩:=HRV.out.str k hkv;obtain ⟨by1,oy,rfl,hcy⟩:=HS.out.flt k hky;obtain ⟨bc,oc,rfl,hcc⟩:=HC.out.int k hkc;obtain ⟨cl,N,hE⟩:=HK.out.el k hkv hky hkc;have hod:=fun j hj hj2=>HK.out.od j k hj hkv hj2 hkc;replace hcv:=(HW.out.trans HN.out).cell hcv;replace hcy:=HN.out.cell hcy;replace hcc:=HN.out.cell hcc;obtain ⟨v,hv⟩:∃ x,vs[k]=x:=⟨_,rfl⟩;obtain ⟨y,hy⟩:∃ x,ys[k]=x:=⟨_,rfl⟩;obtain ⟨c,hc⟩:∃ x,cs[k]=x:=⟨_,rfl⟩;rw[hv] at hcv;rw[hy] at hcy;rw[hc] at hcc;rw[hv,hy,hc] at hE;simp only[hv,hc] at hod;have HB2:=hid (BB.out.new HN.out);have HF2:=hid (BF.out.new HN.out);have HEN:=hid (he' HE HW HN)
     have hki:(k:Int)≤20:=by omega
     have HKC:=hid hkc;have HCE:=hid hc;clear hv hy hc hky hkv;have HEL:=hid hE;have HOD:=hid hod;clear hE hod;obtain ⟨⟨pb0,pb1,pb2,pb3,pb4⟩,pb5⟩:=HB2.out.five;go_wp2_with fail;refine (HEL.out.co _ HEN.out).mono ?_;rintro e x1 ⟨rfl,hn⟩;clear pb0 pb1 pb2 pb3 pb4 pb5;replace hcv:=hn.cell hcv;replace hcy:=hn.cell hcy;replace hcc:=hn.cell hcc;replace HB2:=hid (HB2.out.new hn);replace HF2:=hid (HF2.out.new hn);replace HEN:=hid (HEN.out.new hn);replace HN:=tW HN hn;clear hn
     have hcne:(c != c)=false:=by simp
     go_wp2_with fail;refine (HEL.out.fi _).mono ?_;rintro e x2 ⟨rfl,hn⟩;replace hcv:=hn.cell hcv;replace hcy:=hn.cell hcy;replace hcc:=hn.cell hcc;replace HB2:=hid (HB2.out.new hn);replace HF2:=hid (HF2.out.new hn);replace HEN:=hid (HEN.out.new hn);replace HN:=tW HN hn;clear hn;go_wp2_with fail;refine (HEL.out.ex _).mono ?_;rintro e x3 ⟨rfl,hn⟩;clear hcy;replace hcv:=hn.cell hcv;replace hcc:=hn.cell hcc;replace HB2:=hid (HB2.out.new hn);replace HF2:=hid (HF2.out.new hn);replace HEN:=hid (HEN.out.new hn);replace HN:=tW HN hn;clear hn;obtain ⟨⟨pb0,pb1,pb2,pb3,pb4⟩,pb5⟩:=HB2.out.five;go_wp2_with fail;refine (HEL.out.cn _ HEN.out).mono ?_;rintro e x4 ⟨rfl,hn⟩;clear pb0 pb1 pb2 pb3 pb4 pb5;replace hcv:=hn.cell hcv;replace hcc:=hn.cell hcc;replace HB2:=hid (HB2.out.new hn);replace HF2:=hid (HF2.out.new hn);replace HEN:=hid (HEN.out.new hn);replace HN:=tW HN hn;clear hn;obtain ⟨pf0,pf1,pf2,pf3,pf4⟩:=HF2.out.two;go_wp2_with fail;refine (HEL.out.ha _).mono ?_;rintro e x5 ⟨rfl,hn⟩;clear pf0 pf1 pf2 pf3 pf4;replace hcv:=hn.cell hcv;replace hcc:=hn.cell hcc;replace HB2:=hid (HB2.out.new hn);replace HF2:=hid (HF2.out.new hn);replace HEN:=hid (HEN.out.new hn);replace HN:=tW HN hn;clear hn
     go_upto_block 2 with (fail)
     have harm:=HEL.out.arm;have HARM:=hid harm;clear harm
     go_cut [22,23] from 149 to 208 (fun _ _ wx=>Hid (New x5 wx))
     case first=>as_aux_lemma=>
      have HX:=hid (New.refl x5);rcases HARM.out with ⟨rfl,⟨D,A,r,h1,h2,h3,h4⟩,h5⟩ | ⟨rfl,hN,r,h3,h4⟩ | ⟨rfl,hN,r,h3,h4⟩
      ·have hd:decide (0 < r)=false:=decide_eq_false (by omega)
       have hi:¬0 < r:=by omega
       clear h4;have H1:=hid h1;have H2:=hid h2;have H3:=hid h3;have H5:=hid h5;clear h1 h2 h3 h5;go_wp2_with fail;refine (H1.out _).mono ?_;rintro e y1 ⟨rfl,hn⟩;replace HX:=tW HX hn;replace HB2:=hid (HB2.out.new hn);replace HEN:=hid (HEN.out.new hn);replace HN:=tW HN hn;clear hn;go_wp2_with fail;refine (H2.out _).mono ?_;rintro e y2 ⟨rfl,hn⟩;replace HX:=tW HX hn;replace HB2:=hid (HB2.out.new hn);replace HEN:=hid (HEN.out.new hn);replace HN:=tW HN hn;clear hn;go_wp2_with fail;refine (H3.out _).mono ?_;rintro e y3 ⟨rfl,hn⟩;replace HX:=tW HX hn;replace HB2:=hid (HB2.out.new hn);replace HEN:=hid (HEN.out.new hn);replace HN:=tW HN hn;clear hn;obtain ⟨⟨pb0,pb1,pb2,pb3,pb4⟩,pb5⟩:=HB2.out.five;go_wp2_with fail;rcases H5.out with h6 | ⟨I1,I2,h6,h7,h8⟩
       ·refine (h6 _ HEN.out).mono ?_;rintro e y4 ⟨rfl,hn⟩;clear pb0 pb1 pb2 pb3 pb4 pb5;replace HX:=tW HX hn;replace HN:=tW HN hn;clear hn;go_upto_region 26 with (fail);have HN0:=HN;clear HN;obtain ⟨BI,HN⟩:=lay1 y4 28 #[.string ⟨#[]⟩,.string ⟨#[]⟩];replace HX:=hid (HX.out.trans HN.out);have HN_:=HN0.out.trans HN.out;clear HN HN0;have HN:=hid HN_;clear HN_;go_wp2_with fail
        go_meet
        exact HX
       ·skip
        have H7:=hid h7;have H8:=hid h8;clear h7 h8;refine (h6 _ HEN.out).mono ?_;rintro e y4 ⟨rfl,hn⟩;clear h6;clear pb0 pb1 pb2 pb3 pb4 pb5;replace HX:=tW HX hn;replace HN:=tW HN hn;clear hn;go_upto_region 26 with (fail);have HN0:=HN;clear HN;obtain ⟨BI,HN⟩:=lay1 y4 28 #[.string I1,.string I2];replace HX:=hid (HX.out.trans HN.out);have HN_:=HN0.out.trans HN.out;clear HN HN0;have HN:=hid HN_;clear HN_;obtain ⟨pi0,pi1,pi2,pi3,pi4⟩:=BI.out.two;go_wp2_with fail;refine (H7.out _).mono ?_;rintro e y5 ⟨rfl,hn⟩;clear pi0 pi1 pi2 pi3 pi4;replace HX:=tW HX hn;replace BI:=bW BI hn;replace HN:=tW HN hn;clear hn;obtain ⟨pi0,pi1,pi2,pi3,pi4⟩:=BI.out.two;go_wp2_with fail;refine (H8.out _).mono ?_;rintro e y6 ⟨rfl,hn⟩;clear pi0 pi1 pi2 pi3 pi4;replace HX:=tW HX hn;replace HN:=tW HN hn;clear hn;go_wp2_with fail
        go_meet
        exact HX
      ·subst hN;have hd:decide (0≤r)=false:=decide_eq_false (by omega)
       have hi:¬0≤r:=by omega
       have hss:(N.toList==N.toList)=true:=beq_self_eq_true _;clear h4;have H3:=hid h3;clear h3;obtain ⟨pf0,pf1,pf2,pf3,pf4⟩:=HF2.out.two;go_wp2_with fail;refine (H3.out _).mono ?_;rintro e y3 ⟨rfl,hn⟩;clear pf0 pf1 pf2 pf3 pf4;replace HX:=tW HX hn;replace HN:=tW HN hn;clear hn;go_wp2_with fail
       go_meet
       exact HX
      ·subst hN;have hd:decide (r≤0)=false:=decide_eq_false (by omega)
       have hi:¬r≤0:=by omega
       have hss:(N.toList==N.toList)=true:=beq_self_eq_true _;clear h4;have H3:=hid h3;clear h3;obtain ⟨pf0,pf1,pf2,pf3,pf4⟩:=HF2.out.two;go_wp2_with fail;refine (H3.out _).mono ?_;rintro e y3 ⟨rfl,hn⟩;clear pf0 pf1 pf2 pf3 pf4;replace HX:=tW HX hn;replace HN:=tW HN hn;clear hn;go_wp2_with fail
       go_meet
       exact HX
     case rest=>as_aux_lemma=>
      have HX:=hcut;have hn:=HX.out;clear hcv hcc HX HARM HB2 HF2 HEN HEL hcne;replace HN:=tW HN hn;clear hn;have HKN:=hid hlt;clear hlt;go_wp2_with fail;go_loopw [210] (fun i wr=>∃ j:Nat,j≤k∧i=.int .i64 (j:Int)∧Hid (New w9 wr)) (fun i _=>k - (RowKit.intOf i).toNat)
      case atStart=>exact ⟨0,Nat.zero_le _,rfl,HN⟩
      case round=>
       clear HN;obtain ⟨j,hj,rfl,HN⟩:=hrel;by_cases hlt:j < k
       ·have hjn:j < n:=Nat.lt_trans hlt HKN.out
        have hjv:j < vs.length:=by rw[HNN.out];exact hjn
        have hjc:j < cs.length:=by rw[HCL.out];exact hjn
        obtain ⟨_,_,e1,hcv⟩:=HRV.out.str j hjv
        cases e1
        obtain ⟨_,_,e1,hcj⟩:=HC.out.int j hjc
        cases e1
        obtain ⟨_,_,e1,hcc⟩:=HC.out.int k HKC.out
        cases e1
        obtain ⟨r,hcmp,o1,o2,o3⟩:=HOD.out j hjv hjc;replace hcv:=(HW.out.trans HN.out).cell hcv;replace hcj:=HN.out.cell hcj;replace hcc:=HN.out.cell hcc;rw[HCE.out] at hcc;obtain ⟨vj,hvj⟩:∃ x,vs[j]=x:=⟨_,rfl⟩;obtain ⟨d,hdj⟩:∃ x,cs[j]=x:=⟨_,rfl⟩;rw[hvj] at hcv;simp only[hvj] at hcmp;rw[hdj] at hcj o1 o2 o3;clear hvj hdj hjv hjc hjn
        have hki2:(j:Int) < (k:Int):=by omega
        go_wp2_with fail;refine (hcmp _).mono ?_;rintro e z1 ⟨rfl,hn⟩;clear hcv hcmp;replace hcj:=hn.cell hcj;replace hcc:=hn.cell hcc;replace HN:=tW HN hn;clear hn;have hjn:j < n:=Nat.lt_trans hlt HKN.out;have hkn:=HKN.out
        have hj1:(j:Int) < (n:Int):=by omega
        have hk1:(k:Int) < (n:Int):=by omega
        rcases Int.lt_trichotomy r 0 with hr | hr | hr
        ·have e2:¬0 < r:=by omega
         have e3:¬r=0:=by omega
         have e4:¬c < d:=by have:=o1 hr;omega
         have d1:decide (r < 0)=true:=decide_eq_true hr;have d2:decide (0 < r)=false:=decide_eq_false e2;have d3:(r==0)=false:=beq_false_of_ne e3;have d4:decide (c < d)=false:=decide_eq_false e4;clear o1 o2 o3;go_wp2_with fail
         go_quiet (fail)
         go_wp2_with fail;go_roundw
         case rel=>exact ⟨j+1,by omega,by go_num,hid (HN.out.drewN nq)⟩
         case measure=>simp[RowKit.intOf];omega
        ·subst hr;obtain rfl:=o3 rfl;clear o1 o2 o3
         have d4:(d != d)=false:=by simp
         go_wp2_with fail
         go_quiet (fail)
         go_wp2_with fail;go_roundw
         case rel=>exact ⟨j+1,by omega,by go_num,hid (HN.out.drewN nq)⟩
         case measure=>simp[RowKit.intOf];omega
        ·have e2:¬r < 0:=by omega
         have e3:¬r=0:=by omega
         have e4:¬d < c:=by have:=o2 hr;omega
         have d1:decide (r < 0)=false:=decide_eq_false e2;have d2:decide (0 < r)=true:=decide_eq_true hr;have d3:(r==0)=false:=beq_false_of_ne e3;have d4:decide (d < c)=false:=decide_eq_false e4;clear o1 o2 o3;go_wp2_with fail
         go_quiet (fail)
         go_wp2_with fail;go_roundw
         case rel=>exact ⟨j+1,by omega,by go_num,hid (HN.out.drewN nq)⟩
         case measure=>simp[RowKit.intOf];omega
       ·have hjk:j=k:=by omega
        have HJK:=hid hjk;clear hjk;go_wp2_with fail;go_roundw
        case rel=>exact ⟨k+1,by have:=HKN.out;omega,by go_num,HN⟩
        case measure=>simp[RowKit.intOf];have:=HKN.out;omega
    ·have hkn:k=n:=by omega
     have hn:=HN.out;have HN:=hid (HW.out.trans hn);clear hn;have HKN:=hid hkn;clear hkn;go_wp2_with fail;refine (HAW.out _ (HE.out.new HN.out)).mono ?_;rintro e w99 ⟨rfl,hn⟩;replace HN:=tW HN hn;clear hn;go_wp2_with fail;go_ret;exact ⟨rfl,HN.out⟩
theorem stq_pos {s:Int}(lo: -20≤s)(hi:s≤4):0 < stepQ s:=by
 have h1:0≤stepQ s:=Rat.num_nonneg.1 (Int.le_of_lt (stepQ_pos lo hi));have h2:=stepQ_ne lo hi
 grind
theorem hfq_eq (s:Int):halfQ s=stepQ s*(1 / 2):=by
 unfold halfQ;rw[half_inv,Rat.div_def]
theorem half_two (s:Int):halfQ s+halfQ s=stepQ s:=by rw[hfq_eq];grind
theorem half_pos {s:Int}(lo: -20≤s)(hi:s≤4):0 < halfQ s:=by
 have h1:=stq_pos lo hi;have h2:=half_two s
 grind
theorem le_rawQ {s z c:Int}{q:Rat}(lo: -20≤s)(hi:s≤4):c≤rawQ s z q ↔ nomQ s z c - halfQ s≤q:=by
 have hp:=stq_pos lo hi;have h0:stepQ s≠0:=stepQ_ne lo hi;unfold rawQ nomQ;rw[Rat.le_floor_iff,hfq_eq,←half_inv,Rat.intCast_sub];obtain ⟨t,ht⟩:∃ t,stepQ s=t:=⟨_,rfl⟩;rw[ht] at hp h0⊢;obtain ⟨u,hu⟩:∃ u,q / t=u:=⟨_,rfl⟩
 have hq:q=t*u:=by rw[←hu,Rat.mul_comm,Rat.div_mul_cancel h0]
 rw[hu,hq];obtain ⟨C,hC⟩:∃ C:Rat,(c:Rat)=C:=⟨_,rfl⟩;obtain ⟨Z,hZ⟩:∃ Z:Rat,(z:Rat)=Z:=⟨_,rfl⟩;rw[hC,hZ]
 have e:t*(C - Z) - t*(1 / 2)=t*(C - Z - 1 / 2):=by grind
 rw[e];constructor
 ·intro h;exact Rat.mul_le_mul_of_nonneg_left (by grind) (Rat.le_of_lt hp)
 ·intro h;have:=Rat.le_of_mul_le_mul_left h hp
  grind
theorem nom_succ (s z c:Int):nomQ s z (c+1)=nomQ s z c+stepQ s:=by
 unfold nomQ;rw[show c+1 - z=(c - z)+1 by omega,Rat.intCast_add,Rat.mul_add,show ((1:Int):Rat)=1 from rfl,Rat.mul_one]
theorem nom_mono {s z c d:Int}(lo: -20≤s)(hi:s≤4)(h:c≤d):nomQ s z c≤nomQ s z d:=by
 unfold nomQ;exact Rat.mul_le_mul_of_nonneg_left (Rat.intCast_le_intCast.2 (by omega)) (Rat.le_of_lt (stq_pos lo hi))
theorem rawQ_mono {s z:Int}{q r:Rat}(lo: -20≤s)(hi:s≤4)(h:q≤r):rawQ s z q≤rawQ s z r:=
 (le_rawQ lo hi).2 (Rat.le_trans ((le_rawQ lo hi).1 (Int.le_refl _)) h)
theorem rawQ_lo {s z c:Int}{q:Rat}(lo: -20≤s)(hi:s≤4)(h:rawQ s z q=c):nomQ s z c - halfQ s≤q:=(le_rawQ lo hi).1 (Int.le_of_eq h.symm)
theorem rawQ_hi {s z c:Int}{q:Rat}(lo: -20≤s)(hi:s≤4)(h:rawQ s z q≤c):q < nomQ s z c+halfQ s:=by
 have h1:¬c+1≤rawQ s z q:=by omega
 rw[le_rawQ lo hi,nom_succ]at h1;have h2:=half_two s
 grind
theorem rawQ_gt {s z c:Int}{q:Rat}(lo: -20≤s)(hi:s≤4)(h:c < rawQ s z q):nomQ s z c < q:=by
 have h1:=(le_rawQ lo hi (c:=c+1) (z:=z) (q:=q)).1 (by omega);rw[nom_succ] at h1;have h2:=half_two s;have h3:=half_pos lo hi
 grind
theorem rawQ_neg {s z:Int}{q:Rat}(lo: -20≤s)(hi:s≤4)(h:rawQ s z q < 0):q < nomQ s z 0:=by
 have h1:=rawQ_hi lo hi (c:= -1) (z:=z) (q:=q) (by omega);have h4:=nom_succ s z (-1);rw[show (-1:Int)+1=0 from rfl] at h4;have h2:=half_two s;have h3:=half_pos lo hi
 grind
theorem clip_cases (n:Int){tp:Int}(_ht:0≤tp):(n < 0∧clipC n tp=(0, -1))∨(tp < n∧clipC n tp=(tp,1))∨(0≤n∧n≤tp∧clipC n tp=(n,0)):=by
 unfold clipC;by_cases h1:n < 0
 ·exact .inl ⟨h1,if_pos h1⟩
 ·by_cases h2:tp < n
  ·exact .inr (.inl ⟨h2,by rw[if_neg h1,if_pos h2]⟩)
  ·exact .inr (.inr ⟨by omega,by omega,by rw[if_neg h1,if_neg h2]⟩)
theorem clip_mono {n m tp:Int}(ht:0≤tp)(h:n≤m):(clipC n tp).1≤(clipC m tp).1:=by
 rcases clip_cases n ht with ⟨h1,e1⟩ | ⟨h1,e1⟩ | ⟨h1,h1',e1⟩ <;> rcases clip_cases m ht with ⟨h2,e2⟩ | ⟨h2,e2⟩ | ⟨h2,h2',e2⟩ <;> rw[e1,e2] <;> simp only <;> omega
theorem clip_self {c tp:Int}(h1:0≤c)(h2:c≤tp):clipC c tp=(c,0):=by
 unfold clipC;rw[if_neg (by omega),if_neg (by omega)]
theorem absQ_le {x h:Rat}(h1: -h≤x)(h2:x≤h):absQ x≤h:=by
 unfold absQ;split
 ·grind
 ·exact h2
theorem sign_neg {x y:Rat}:(x - y).num.sign < 0 ↔ x < y:=by
 have h:=sign_le (x:=y) (y:=x)
 have e:(y - x).num.sign= -(x - y).num.sign:=by rw[←Rat.neg_sub,Rat.neg_num,Int.sign_neg]
 rw[e]at h;constructor
 ·intro h1;refine Rat.not_le.1 fun h2=>?_;have:=h.2 h2;omega
 ·intro h1;have h2:¬ -(x - y).num.sign≤0:=fun h3=>absurd (h.1 h3) (Rat.not_le.2 h1);omega
theorem sign_pos {x y:Rat}:0 < (x - y).num.sign ↔ y < x:=by
 have h:=sign_neg (x:=y) (y:=x)
 have e:(y - x).num.sign= -(x - y).num.sign:=by rw[←Rat.neg_sub,Rat.neg_num,Int.sign_neg]
 rw[e]at h;rw[←h];omega
theorem sign_zero {x y:Rat}(h:(x - y).num.sign=0):x=y:=by
 have h1:=sign_le.1 (Int.le_of_eq h)
 have h2:¬x < y:=fun h3=>by have:=sign_neg.2 h3;omega
 exact Rat.le_antisymm h1 (Rat.not_lt.1 h2)
theorem two_ten {k n:Nat}(h:k≤n):2^k≤10^n:=Nat.le_trans (Nat.pow_le_pow_left (by omega) k) (Nat.pow_le_pow_right (by omega) h)
theorem fits_of {k n:Nat}{q:Rat}(h:FB k q)(hk:k≤n):q.num.natAbs < 10^n∧q.den < 10^n:=by
 have h3:q.num.natAbs < 2^k:=h.num
 have h4:q.den < 2^k:=by simpa[BdK] using h.den
 exact ⟨Nat.lt_of_lt_of_le h3 (two_ten hk),Nat.lt_of_lt_of_le h4 (two_ten hk)⟩
theorem FB.fits {k:Nat}{q:Rat}(h:FB k q)(hk:k≤600):Fits q:=Fits.iff.2 (fits_of (n:=600) h hk)
theorem vol_lt {d s:Int}(h:d.natAbs < 16777216)(lo: -100≤s)(hi:s≤100):Flo.vol d s < 4294967296:=by
 unfold Flo.vol;by_cases h0:d=0
 ·subst h0
  have:Ieee.single.nearest (decide ((0:Int) < 0)) (Int.natAbs 0) s=0:=by
   unfold Ieee.Format.nearest;rw[if_pos (by rfl)];rfl
  rw[this];omega
 ·have hm:d.natAbs≠0:=by omega
  have hr:=Flo.srung hm h lo hi;rw[(Flo.snearest _ hm h lo hi).1];unfold Ieee.Format.word;rw[Flo.ssw]
  cases decide (d < 0) <;> simp <;> omega
theorem vol_fin {d s:Int}(h:d.natAbs < 16777216)(lo: -100≤s)(hi:s≤100):isFin (Flo.vol d s)=true:=by
 obtain ⟨m,k,h1, -⟩:=Flo.read_fin Ieee.single (Flo.vol_val h lo hi).1;unfold isFin;rw[h1]
theorem rslash_wide (s:ByteArray)(w:World)(hl:s.size≤9223372036854775807):
  Calls Tryz.prog 79 #[.string s] w fun e w'=>e=.returned (.int .i64 ((upTo s.data.toList).length:Nat))∧w'=w:=by
 obtain ⟨m,hm⟩:∃ m,(upTo s.data.toList).length=m:=⟨_,rfl⟩;have h1:=sl_len s.data.toList;have hin:=fun k=>upTo_in (l:=s.data.toList) (k:=k)
 have hlen:s.data.toList.length=s.size:=by simp
 have hat:m < s.size→s.data.toList[m]?=some 47:=fun h=>by
  have:=upTo_at (l:=s.data.toList) (by rw[hm,hlen];exact h)
  rwa [hm] at this
 simp only[hm]at hin;rw[hm] at h1⊢;rw[hlen] at h1;clear hm hlen;have HIN:=hid hin;have HAT:=hid hat;clear hin hat;go_enter Tryz.func79,Tryz.ntmps79;go_wp2
 go_loop [3] (fun i=>∃ k:Nat,k≤m∧i=.int .i64 k) (fun i=>s.size - (RowKit.intOf i).toNat)
 case atStart=>exact ⟨0,Nat.zero_le _,rfl⟩
 case round=>
  obtain ⟨k,hk,rfl⟩:=hrel;by_cases hlt:k < m
  ·have hks:k < s.size:=by omega
   obtain ⟨c,hc1,hne⟩:=HIN.out k hlt;obtain ⟨h',hc2⟩:=byte_at s hc1
   have hc:¬(s[k].toNat:Int)=47:=by
    intro h;refine hne (UInt8.toNat_inj.1 ?_);rw[←hc2];show s[k].toNat=47;omega
   have hcb:((s[k].toNat:Int)==47)=false:=beq_eq_false_iff_ne.2 hc;clear hne hc1 hc2;go_wp2;go_round
   case rel=>exact ⟨k+1,by omega,by go_num⟩
   case measure=>simp[RowKit.intOf];omega
  ·obtain rfl:k=m:=by omega
   by_cases hks:k < s.size
   ·have h47:=HAT.out hks;obtain ⟨h',hc2⟩:=byte_at s h47
    have hc:(s[k].toNat:Int)=47:=by rw[hc2];rfl
    have hcb:((s[k].toNat:Int)==47)=true:=beq_iff_eq.2 hc;clear h47 hc2;go_wp2;go_ret;exact ⟨rfl,rfl⟩
   ·have hks:k=s.size:=by omega
    subst hks;go_wp2;go_ret;exact ⟨rfl,rfl⟩
end Go.Proofs.YtbkcjmojgglbkaaGreatDoor
