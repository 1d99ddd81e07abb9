/- Part CardIv02. -/
import Derived.Shelf.Strings.BuilderK
import Derived.Test.YtbkcjmojgglbkaaGreatDoorA34
import Derived.Test.YtbkcjmojgglbkaaGreatDoorCardIv01
namespace Go.Proofs.YtbkcjmojgglbkaaGreatDoor
open Go.RowKit Big Go.Lib
set_option maxRecDepth 100000
set_option maxHeartbeats 8000000
abbrev Spn (f:Nat)(args:Array Value)(x y:ByteArray)(n:Int):Prop:=∀ W,Env W→Calls Tryz.prog f args W fun e w'=>e=.returned (.tuple #[.agg #[.string x,.string y],.int .i64 n])∧New W w'
theorem iv_A (haw:AwakeOk) (b s z code n:Int) (g o:ByteArray) (w:World) (he:Env w) (h0:n≠0)
  (hsh:∀ W,Calls Tryz.prog 9 #[adcV b s z g o] W fun e w'=>e=.returned (.bool true)∧New W w')
  (hin:Spn 21 #[adcV b s z g o,.int .i64 code] ⟨#[]⟩ ⟨#[]⟩ n) (htr:Spn 22 #[adcV b s z g o,.int .i64 code] ⟨#[]⟩ ⟨#[]⟩ n)
  (hrc:∀ W,Calls Tryz.prog 14 #[adcV b s z g o] W (RetNew W n)):
  Calls Tryz.prog 4 #[adcV b s z g o,.int .i64 code] w fun e w'=>e=.returned (.bool true)∧New w w':=by
 have hn0:(n==0)=false:=beq_false_of_ne h0;unfold adcV Spn at *;clear h0;have HAW:=hid haw;have HE:=hid he;have HSH:=hid hsh;have HIN:=hid hin;have HTR:=hid htr;have HRC:=hid hrc;clear haw he hsh hin htr hrc;go_enter Tryz.func4,Tryz.ntmps4;go_upto_region 1 with (fail);obtain ⟨BA,HN⟩:=lay1 w 24 #[.int .i64 b,.int .i64 s,.int .i64 z,.string g,.string o];obtain ⟨⟨pa0,pa1,pa2,pa3,pa4⟩,pa5⟩:=BA.out.five;go_wp2_with fail;refine (HSH.out _).mono ?_;rintro e w1 ⟨rfl,hn⟩;clear pa0 pa1 pa2 pa3 pa4 pa5;replace BA:=bW BA hn;replace HN:=tW HN hn;clear hn;obtain ⟨⟨pa0,pa1,pa2,pa3,pa4⟩,pa5⟩:=BA.out.five;go_wp2_with fail;refine (HIN.out _ (HE.out.new HN.out)).mono ?_;rintro e w2 ⟨rfl,hn⟩;clear pa0 pa1 pa2 pa3 pa4 pa5;replace BA:=bW BA hn;replace HN:=tW HN hn;clear hn;obtain ⟨⟨pa0,pa1,pa2,pa3,pa4⟩,pa5⟩:=BA.out.five;go_wp2_with fail;have HN0:=HN;clear HN;obtain ⟨BF,HN⟩:=lay1 w2 28 #[.string ⟨#[]⟩,.string ⟨#[]⟩];replace BA:=hid (BA.out.new HN.out);have HN_:=HN0.out.trans HN.out;clear HN HN0;have HN:=hid HN_;clear HN_;refine (HTR.out _ (HE.out.new HN.out)).mono ?_;rintro e w3 ⟨rfl,hn⟩;clear pa0 pa1 pa2 pa3 pa4 pa5;replace BA:=bW BA hn;replace BF:=bW BF hn;replace HN:=tW HN hn;clear hn;obtain ⟨⟨pa0,pa1,pa2,pa3,pa4⟩,pa5⟩:=BA.out.five;go_wp2_with fail;have HN0:=HN;clear HN;obtain ⟨BG,HN⟩:=lay1 w3 28 #[.string ⟨#[]⟩,.string ⟨#[]⟩];replace BA:=hid (BA.out.new HN.out);replace BF:=hid (BF.out.new HN.out);have HN_:=HN0.out.trans HN.out;clear HN HN0;have HN:=hid HN_;clear HN_;refine (HRC.out _).mono ?_;rintro e w4 ⟨rfl,hn⟩;clear pa0 pa1 pa2 pa3 pa4 pa5;replace BA:=bW BA hn;replace BF:=bW BF hn;replace BG:=bW BG hn;replace HN:=tW HN hn;clear hn
 skip
 obtain ⟨pf0,pf1,pf2,pf3,pf4⟩:=BF.out.two;obtain ⟨pg0,pg1,pg2,pg3,pg4⟩:=BG.out.two;go_wp2_with fail;refine (HAW.out _ (HE.out.new HN.out)).mono ?_;rintro e w9 ⟨rfl,hn⟩;have HN_:=HN.out.trans hn;go_wp2_with fail;go_ret;exact ⟨rfl,HN_⟩
theorem iv_B (haw:AwakeOk) (b s z code n:Int) (g o:ByteArray) (w:World) (he:Env w) (h0:n≠0)
  (hsh:∀ W,Calls Tryz.prog 9 #[adcV b s z g o] W fun e w'=>e=.returned (.bool true)∧New W w')
  (hin:Spn 21 #[adcV b s z g o,.int .i64 code] ⟨#[]⟩ ⟨#[]⟩ n) (htr:Spn 22 #[adcV b s z g o,.int .i64 code] ⟨#[]⟩ ⟨#[]⟩ n)
  (hrc:∀ W,Calls Tryz.prog 14 #[adcV b s z g o] W (RetNew W 0)) (hci:∀ W,Calls Tryz.prog 23 #[adcV b s z g o,.int .i64 code] W (RetNew W n)):
  Calls Tryz.prog 4 #[adcV b s z g o,.int .i64 code] w fun e w'=>e=.returned (.bool true)∧New w w':=by
 have hn0:(n==0)=false:=beq_false_of_ne h0;unfold adcV Spn at *;clear h0;have HAW:=hid haw;have HE:=hid he;have HSH:=hid hsh;have HIN:=hid hin;have HTR:=hid htr;have HRC:=hid hrc;have HCI:=hid hci;clear haw he hsh hin htr hrc hci;go_enter Tryz.func4,Tryz.ntmps4;go_upto_region 1 with (fail);obtain ⟨BA,HN⟩:=lay1 w 24 #[.int .i64 b,.int .i64 s,.int .i64 z,.string g,.string o];obtain ⟨⟨pa0,pa1,pa2,pa3,pa4⟩,pa5⟩:=BA.out.five;go_wp2_with fail;refine (HSH.out _).mono ?_;rintro e w1 ⟨rfl,hn⟩;clear pa0 pa1 pa2 pa3 pa4 pa5;replace BA:=bW BA hn;replace HN:=tW HN hn;clear hn;obtain ⟨⟨pa0,pa1,pa2,pa3,pa4⟩,pa5⟩:=BA.out.five;go_wp2_with fail;refine (HIN.out _ (HE.out.new HN.out)).mono ?_;rintro e w2 ⟨rfl,hn⟩;clear pa0 pa1 pa2 pa3 pa4 pa5;replace BA:=bW BA hn;replace HN:=tW HN hn;clear hn;obtain ⟨⟨pa0,pa1,pa2,pa3,pa4⟩,pa5⟩:=BA.out.five;go_wp2_with fail;have HN0:=HN;clear HN;obtain ⟨BF,HN⟩:=lay1 w2 28 #[.string ⟨#[]⟩,.string ⟨#[]⟩];replace BA:=hid (BA.out.new HN.out);have HN_:=HN0.out.trans HN.out;clear HN HN0;have HN:=hid HN_;clear HN_;refine (HTR.out _ (HE.out.new HN.out)).mono ?_;rintro e w3 ⟨rfl,hn⟩;clear pa0 pa1 pa2 pa3 pa4 pa5;replace BA:=bW BA hn;replace BF:=bW BF hn;replace HN:=tW HN hn;clear hn;obtain ⟨⟨pa0,pa1,pa2,pa3,pa4⟩,pa5⟩:=BA.out.five;go_wp2_with fail;have HN0:=HN;clear HN;obtain ⟨BG,HN⟩:=lay1 w3 28 #[.string ⟨#[]⟩,.string ⟨#[]⟩];replace BA:=hid (BA.out.new HN.out);replace BF:=hid (BF.out.new HN.out);have HN_:=HN0.out.trans HN.out;clear HN HN0;have HN:=hid HN_;clear HN_;refine (HRC.out _).mono ?_;rintro e w4 ⟨rfl,hn⟩;clear pa0 pa1 pa2 pa3 pa4 pa5;replace BA:=bW BA hn;replace BF:=bW BF hn;replace BG:=bW BG hn;replace HN:=tW HN hn;clear hn;obtain ⟨⟨pa0,pa1,pa2,pa3,pa4⟩,pa5⟩:=BA.out.five;go_wp2_with fail;refine (HCI.out _).mono ?_;rintro e w5 ⟨rfl,hn⟩;clear pa0 pa1 pa2 pa3 pa4 pa5;replace BA:=bW BA hn;replace BF:=bW BF hn;replace BG:=bW BG hn;replace HN:=tW HN hn;clear hn;obtain ⟨pf0,pf1,pf2,pf3,pf4⟩:=BF.out.two;obtain ⟨pg0,pg1,pg2,pg3,pg4⟩:=BG.out.two;go_wp2_with fail;refine (HAW.out _ (HE.out.new HN.out)).mono ?_;rintro e w9 ⟨rfl,hn⟩;have HN_:=HN.out.trans hn;go_wp2_with fail;go_ret;exact ⟨rfl,HN_⟩
theorem iv_C (haw:AwakeOk) (b s z code:Int) (g o S1 S2 T1 T2:ByteArray) (w:World) (he:Env w)
  (hsh:∀ W,Calls Tryz.prog 9 #[adcV b s z g o] W fun e w'=>e=.returned (.bool true)∧New W w')
  (hin:Spn 21 #[adcV b s z g o,.int .i64 code] S1 S2 0) (htr:Spn 22 #[adcV b s z g o,.int .i64 code] T1 T2 0)
  (hrc:∀ W,Calls Tryz.prog 14 #[adcV b s z g o] W (RetNew W 0)) (hci:∀ W,Calls Tryz.prog 23 #[adcV b s z g o,.int .i64 code] W (RetNew W 0))
  (hri:∀ W,Calls Tryz.prog 24 #[adcV b s z g o,.int .i64 code] W fun e w'=>e=.returned (.agg #[.string S1,.string S2])∧New W w')
  (hrt:∀ W,Calls Tryz.prog 25 #[adcV b s z g o,.int .i64 code] W fun e w'=>e=.returned (.agg #[.string T1,.string T2])∧New W w'):
  Calls Tryz.prog 4 #[adcV b s z g o,.int .i64 code] w fun e w'=>e=.returned (.bool true)∧New w w':=by
 unfold adcV Spn at *;have HAW:=hid haw;have HE:=hid he;have HSH:=hid hsh;have HIN:=hid hin;have HTR:=hid htr;have HRC:=hid hrc;have HCI:=hid hci;have HRI:=hid hri;have HRT:=hid hrt;clear haw he hsh hin htr hrc hci hri hrt;go_enter Tryz.func4,Tryz.ntmps4;go_upto_region 1 with (fail);obtain ⟨BA,HN⟩:=lay1 w 24 #[.int .i64 b,.int .i64 s,.int .i64 z,.string g,.string o];obtain ⟨⟨pa0,pa1,pa2,pa3,pa4⟩,pa5⟩:=BA.out.five;go_wp2_with fail;refine (HSH.out _).mono ?_;rintro e w1 ⟨rfl,hn⟩;clear pa0 pa1 pa2 pa3 pa4 pa5;replace BA:=bW BA hn;replace HN:=tW HN hn;clear hn;obtain ⟨⟨pa0,pa1,pa2,pa3,pa4⟩,pa5⟩:=BA.out.five;go_wp2_with fail;refine (HIN.out _ (HE.out.new HN.out)).mono ?_;rintro e w2 ⟨rfl,hn⟩;clear pa0 pa1 pa2 pa3 pa4 pa5;replace BA:=bW BA hn;replace HN:=tW HN hn;clear hn;obtain ⟨⟨pa0,pa1,pa2,pa3,pa4⟩,pa5⟩:=BA.out.five;go_wp2_with fail;have HN0:=HN;clear HN;obtain ⟨BF,HN⟩:=lay1 w2 28 #[.string S1,.string S2];replace BA:=hid (BA.out.new HN.out);have HN_:=HN0.out.trans HN.out;clear HN HN0;have HN:=hid HN_;clear HN_;refine (HTR.out _ (HE.out.new HN.out)).mono ?_;rintro e w3 ⟨rfl,hn⟩;clear pa0 pa1 pa2 pa3 pa4 pa5;replace BA:=bW BA hn;replace BF:=bW BF hn;replace HN:=tW HN hn;clear hn;obtain ⟨⟨pa0,pa1,pa2,pa3,pa4⟩,pa5⟩:=BA.out.five;go_wp2_with fail;have HN0:=HN;clear HN;obtain ⟨BG,HN⟩:=lay1 w3 28 #[.string T1,.string T2];replace BA:=hid (BA.out.new HN.out);replace BF:=hid (BF.out.new HN.out);have HN_:=HN0.out.trans HN.out;clear HN HN0;have HN:=hid HN_;clear HN_;refine (HRC.out _).mono ?_;rintro e w4 ⟨rfl,hn⟩;clear pa0 pa1 pa2 pa3 pa4 pa5;replace BA:=bW BA hn;replace BF:=bW BF hn;replace BG:=bW BG hn;replace HN:=tW HN hn;clear hn;obtain ⟨⟨pa0,pa1,pa2,pa3,pa4⟩,pa5⟩:=BA.out.five;go_wp2_with fail;refine (HCI.out _).mono ?_;rintro e w5 ⟨rfl,hn⟩;clear pa0 pa1 pa2 pa3 pa4 pa5;replace BA:=bW BA hn;replace BF:=bW BF hn;replace BG:=bW BG hn;replace HN:=tW HN hn;clear hn;go_upto_region 10 with (fail);have q1:=BA.out.lt;have q2:=BF.out.lt;have q3:=BG.out.lt;obtain ⟨⟨pa0,pa1,pa2,pa3,pa4⟩,pa5⟩:=BA.out.five;obtain ⟨pf0,pf1,pf2,pf3,pf4⟩:=BF.out.two;obtain ⟨pg0,pg1,pg2,pg3,pg4⟩:=BG.out.two;clear pa0 pa1 pa2 pa3 pa4 pa5;clear pf0 pf1 pf2 pf3 pf4;clear pg0 pg1 pg2 pg3 pg4;refine wp_region_T 21 (fun W=>(W.cell? ⟨w.heap.size,0,none⟩=some (.int .i64 b)∧W.cell? ⟨w.heap.size,1,none⟩=some (.int .i64 s)∧W.cell? ⟨w.heap.size,2,none⟩=some (.int .i64 z)∧W.cell? ⟨w.heap.size,3,none⟩=some (.string g)∧W.cell? ⟨w.heap.size,4,none⟩=some (.string o))∧(W.cell? ⟨w2.heap.size,0,none⟩=some (.string S1)∧W.cell? ⟨w2.heap.size,1,none⟩=some (.string S2))∧(W.cell? ⟨w3.heap.size,0,none⟩=some (.string T1)∧W.cell? ⟨w3.heap.size,1,none⟩=some (.string T2))) 22 #[false,false,false,false,false,false,false,false,false,false,false,false,false,false,false,false,false,false,false,false,false,false] rfl (by kernel_rfl) (by kernel_rfl) ?_;refine tk 0 (by exact ⟨cW5 BA,cW2 BF,cW2 BG⟩) ?_
 try simp only[List.getElem_toArray,List.getElem_cons_zero,Act.put,List.setIfInBounds_toArray,List.set_cons_zero,List.set_cons_succ]
 refine tk 1 (by exact ⟨cW5 BA,cW2 BF,cW2 BG⟩) ?_
 try simp only[List.getElem_toArray,List.getElem_cons_zero,List.getElem_cons_succ,Act.put,List.setIfInBounds_toArray,List.set_cons_zero,List.set_cons_succ]
 refine tk 2 (by exact ⟨cW5 BA,cW2 BF,cW2 BG⟩) ?_
 try simp only[List.getElem_toArray,List.getElem_cons_zero,List.getElem_cons_succ,Act.put,List.setIfInBounds_toArray,List.set_cons_zero,List.set_cons_succ]
 refine tk 3 (by exact ⟨cW5 BA,cW2 BF,cW2 BG⟩) ?_
 try simp only[List.getElem_toArray,List.getElem_cons_zero,List.getElem_cons_succ,Act.put,List.setIfInBounds_toArray,List.set_cons_zero,List.set_cons_succ]
 refine tk 4 (by exact ⟨cW5 BA,cW2 BF,cW2 BG⟩) ?_
 try simp only[List.getElem_toArray,List.getElem_cons_zero,List.getElem_cons_succ,Act.put,List.setIfInBounds_toArray,List.set_cons_zero,List.set_cons_succ]
 refine tk 5 (by exact ⟨cW5 BA,cW2 BF,cW2 BG⟩) ?_
 try simp only[List.getElem_toArray,List.getElem_cons_zero,List.getElem_cons_succ,Act.put,List.setIfInBounds_toArray,List.set_cons_zero,List.set_cons_succ]
 refine tk 6 (by exact ⟨cW5 BA,cW2 BF,cW2 BG⟩) ?_
 try simp only[List.getElem_toArray,List.getElem_cons_zero,List.getElem_cons_succ,Act.put,List.setIfInBounds_toArray,List.set_cons_zero,List.set_cons_succ]
 refine tk 7 (by exact ⟨cW5 BA,cW2 BF,cW2 BG⟩) ?_
 try simp only[List.getElem_toArray,List.getElem_cons_zero,List.getElem_cons_succ,Act.put,List.setIfInBounds_toArray,List.set_cons_zero,List.set_cons_succ]
 refine tk1 8 fun K hK=>?_
 try simp only[List.getElem_toArray,List.getElem_cons_zero,List.getElem_cons_succ]
 go_simp;refine (HRI.out _).mono ?_;rintro e w6 ⟨rfl,hn⟩;have hn:=hn.undr;replace BA:=bW BA hn;replace BF:=bW BF hn;replace BG:=bW BG hn;replace HN:=tW HN hn;clear hn;refine hK.out _ _ (fun _=>⟨cW5 BA,cW2 BF,cW2 BG⟩) ?_;clear hK K
 try simp only[List.setIfInBounds_toArray,List.set_cons_zero,List.set_cons_succ]
 refine tk 9 (by exact ⟨cW5 BA,cW2 BF,cW2 BG⟩) ?_
 try simp only[List.getElem_toArray,List.getElem_cons_zero,List.getElem_cons_succ,Act.put,List.setIfInBounds_toArray,List.set_cons_zero,List.set_cons_succ]
 refine tk 10 (by exact ⟨cW5 BA,cW2 BF,cW2 BG⟩) ?_
 try simp only[List.getElem_toArray,List.getElem_cons_zero,List.getElem_cons_succ,Act.put,List.setIfInBounds_toArray,List.set_cons_zero,List.set_cons_succ]
 refine tk 11 (by exact ⟨cW5 BA,cW2 BF,cW2 BG⟩) ?_
 try simp only[List.getElem_toArray,List.getElem_cons_zero,List.getElem_cons_succ,Act.put,List.setIfInBounds_toArray,List.set_cons_zero,List.set_cons_succ]
 refine tk 12 (by exact ⟨cW5 BA,cW2 BF,cW2 BG⟩) ?_
 try simp only[List.getElem_toArray,List.getElem_cons_zero,List.getElem_cons_succ,Act.put,List.setIfInBounds_toArray,List.set_cons_zero,List.set_cons_succ]
 refine tk 13 (by exact ⟨cW5 BA,cW2 BF,cW2 BG⟩) ?_
 try simp only[List.getElem_toArray,List.getElem_cons_zero,List.getElem_cons_succ,Act.put,List.setIfInBounds_toArray,List.set_cons_zero,List.set_cons_succ]
 refine tk 14 (by exact ⟨cW5 BA,cW2 BF,cW2 BG⟩) ?_
 try simp only[List.getElem_toArray,List.getElem_cons_zero,List.getElem_cons_succ,Act.put,List.setIfInBounds_toArray,List.set_cons_zero,List.set_cons_succ]
 refine tk1 15 fun K hK=>?_
 try simp only[List.getElem_toArray,List.getElem_cons_zero,List.getElem_cons_succ]
 go_simp;refine (HRT.out _).mono ?_;rintro e w7 ⟨rfl,hn⟩;replace BA:=bW BA hn;replace BF:=bW BF hn;replace BG:=bW BG hn;replace HN:=tW HN hn;clear hn;refine hK.out _ _ (fun _=>⟨cW5 BA,cW2 BF,cW2 BG⟩) ?_;clear hK K
 try simp only[List.setIfInBounds_toArray,List.set_cons_zero,List.set_cons_succ]
 refine tk 16 (by exact ⟨cW5 BA,cW2 BF,cW2 BG⟩) ?_
 try simp only[List.getElem_toArray,List.getElem_cons_zero,List.getElem_cons_succ,Act.put,List.setIfInBounds_toArray,List.set_cons_zero,List.set_cons_succ]
 refine tk 17 (by exact ⟨cW5 BA,cW2 BF,cW2 BG⟩) ?_
 try simp only[List.getElem_toArray,List.getElem_cons_zero,List.getElem_cons_succ,Act.put,List.setIfInBounds_toArray,List.set_cons_zero,List.set_cons_succ]
 refine tk 18 (by exact ⟨cW5 BA,cW2 BF,cW2 BG⟩) ?_
 try simp only[List.getElem_toArray,List.getElem_cons_zero,List.getElem_cons_succ,Act.put,List.setIfInBounds_toArray,List.set_cons_zero,List.set_cons_succ]
 refine tk1 19 fun K hK=>?_
 try simp only[List.getElem_toArray,List.getElem_cons_zero,List.getElem_cons_succ]
 go_simp;refine (HAW.out _ (HE.out.new HN.out)).mono ?_;rintro e w8 ⟨rfl,hn⟩;replace BA:=bW BA hn;replace BF:=bW BF hn;replace BG:=bW BG hn;replace HN:=tW HN hn;clear hn;refine hK.out _ _ (fun _=>⟨cW5 BA,cW2 BF,cW2 BG⟩) ?_;clear hK K
 try simp only[List.setIfInBounds_toArray,List.set_cons_zero,List.set_cons_succ]
 refine tk 20 (by exact ⟨cW5 BA,cW2 BF,cW2 BG⟩) ?_
 try simp only[List.getElem_toArray,List.getElem_cons_zero,List.getElem_cons_succ,Act.put,List.setIfInBounds_toArray,List.set_cons_zero,List.set_cons_succ]
 refine tlW ?_;obtain ⟨⟨pa0,pa1,pa2,pa3,pa4⟩,pa5⟩:=BA.out.five;obtain ⟨pf0,pf1,pf2,pf3,pf4⟩:=BF.out.two;obtain ⟨pg0,pg1,pg2,pg3,pg4⟩:=BG.out.two;go_wp2_with fail;go_ret;exact ⟨rfl,HN.out⟩
theorem iv_long (haw:AwakeOk) (b s z code:Int) (g o:ByteArray) (w:World) (he:Env w)
  (hsh:∀ W,Calls Tryz.prog 9 #[adcV b s z g o] W fun e w'=>e=.returned (.bool false)∧New W w'):
  Calls Tryz.prog 4 #[adcV b s z g o,.int .i64 code] w fun e w'=>e=.returned (.bool true)∧New w w':=by
 unfold adcV at *;have HAW:=hid haw;have HE:=hid he;have HSH:=hid hsh;clear haw he hsh;go_enter Tryz.func4,Tryz.ntmps4;go_upto_region 1 with (fail);obtain ⟨BA,HN⟩:=lay1 w 24 #[.int .i64 b,.int .i64 s,.int .i64 z,.string g,.string o];obtain ⟨⟨pa0,pa1,pa2,pa3,pa4⟩,pa5⟩:=BA.out.five;go_wp2_with fail;refine (HSH.out _).mono ?_;rintro e w1 ⟨rfl,hn⟩;clear pa0 pa1 pa2 pa3 pa4 pa5;replace HN:=tW HN hn;clear hn;go_wp2_with fail;refine (HAW.out _ (HE.out.new HN.out)).mono ?_;rintro e w9 ⟨rfl,hn⟩;have HN_:=HN.out.trans hn;go_wp2_with fail;go_ret;exact ⟨rfl,HN_⟩
def EndsAny (w:World)(n:Int)(e:Ending)(w':World):Prop:=∃ (s5:Int) (a5:Option Addr) (l5 k5:Nat) (t5:Int) (b5:Option Addr) (m5 n5:Nat) (s6:Int) (a6:Option Addr) (l6 k6:Nat) (t6:Int) (b6:Option Addr) (m6 n6:Nat),
 e=.returned (.tuple #[.agg #[.int .i64 s5,.slice a5 l5 k5,.int .i64 t5,.slice b5 m5 n5],.agg #[.int .i64 s6,.slice a6 l6 k6,.int .i64 t6,.slice b6 m6 n6],.int .i64 n])∧New w w'
theorem ends_err (b s z:Int)(g o:ByteArray)(code n:Int)(h0:n≠0)(hc:∀ W,Env W→Calls Tryz.prog 71 #[adcV b s z g o,.int .i64 code] W (RetNew W n))(w:World)(he:Env w):
  Calls Tryz.prog 88 #[adcV b s z g o,.int .i64 code] w (EndsAny w n):=by
 have ht:(n != 0)=true:=by simpa using h0
 unfold adcV at *;have HC:=hid hc;have HE:=hid he;have H0:=hid h0;clear hc he h0;go_enter Tryz.func88,Tryz.ntmps88;go_wp2_with fail;obtain ⟨BA,BP,BQ,HN⟩:=lay3 w 32 #[.int .i64 b,.int .i64 s,.int .i64 z,.string g,.string o] 122 #[.int .i64 0,.slice none 0 0,.int .i64 0,.slice none 0 0] 122 #[.int .i64 0,.slice none 0 0,.int .i64 0,.slice none 0 0];refine (HC.out _ (HE.out.new HN.out)).mono ?_;rintro e w1 ⟨rfl,hn⟩;replace BP:=bW BP hn;replace BQ:=bW BQ hn;replace HN:=tW HN hn;clear hn;obtain ⟨⟨p0,p1,p2,p3⟩,p4,p5,p6,p7,p8⟩:=BP.out.four;obtain ⟨⟨q0,q1,q2,q3⟩,q4,q5,q6,q7,q8⟩:=BQ.out.four;go_wp2_with fail;refine bodyPost_ret (v:=.tuple #[.agg #[.int .i64 0,.slice none 0 0,.int .i64 0,.slice none 0 0],.agg #[.int .i64 0,.slice none 0 0,.int .i64 0,.slice none 0 0],.int .i64 n]) (by simp[results,Tryz.results88,go_sem,p0,p1,p2,p3,q0,q1,q2,q3]) rfl ?_;refine ⟨_,_,_,_,_,_,_,_,_,_,_,_,_,_,_,_,rfl,?_⟩;have hN:=HN.out
 repeat first
  | with_reducible exact New.refl _
  | with_reducible refine New.drewN ?_ _
  | with_reducible refine New.drew ?_
  | with_reducible refine New.alloc ?_ _
  | (with_reducible refine New.setCell ?_ ?_ _;rotate_left;(show _≤_+_);omega)
  | with_reducible assumption
theorem interval_err (adc:Value) (b s z:Int) (g o:ByteArray) (code:Int) (n:Int) (h0:n≠0) (w:World) (he:Env w) (hadc:adc=.agg #[.int .i64 b,.int .i64 s,.int .i64 z,.string g,.string o])
  (hen:∀ W,Env W→Calls Tryz.prog 88 #[adc,.int .i64 code] W (EndsAny W n)):
  Calls Tryz.prog 21 #[adc,.int .i64 code] w (NoSpan w n):=by
 subst hadc
 have ht:(n != 0)=true:=by simpa using h0
 have HEN:=hid hen;have HE:=hid he;have H0:=hid h0;clear hen he h0;go_enter Tryz.func21,Tryz.ntmps21;go_wp2_with fail;obtain ⟨BA,BP,HN⟩:=lay2 w 32 #[.int .i64 b,.int .i64 s,.int .i64 z,.string g,.string o] 28 #[.string ⟨#[]⟩,.string ⟨#[]⟩];refine (HEN.out _ (HE.out.new HN.out)).mono ?_;rintro e w1 ⟨s5,a5,l5,k5,t5,b5,m5,n5,s6,a6,l6,k6,t6,b6,m6,n6,rfl,hn⟩;replace BP:=bW BP hn;replace HN:=tW HN hn;clear hn;obtain ⟨p0,p1,p2,p3,p4⟩:=BP.out.two;have p5:=Nat.lt_add_right 1 p4;have p6:=Nat.lt_add_right 1 p5;go_wp2_with fail;refine bodyPost_ret (v:=.tuple #[.agg #[.string ⟨#[]⟩,.string ⟨#[]⟩],.int .i64 n]) (by simp[results,Tryz.results21,go_sem,p0,p1,p4,p5]) rfl ?_;refine ⟨rfl,?_⟩;have hN:=HN.out
 repeat first
  | with_reducible exact New.refl _
  | with_reducible refine New.drewN ?_ _
  | with_reducible refine New.drew ?_
  | with_reducible refine New.alloc ?_ _
  | (with_reducible refine New.setCell ?_ ?_ _;rotate_left;(show _≤_+_);omega)
  | with_reducible assumption
theorem true_err (adc:Value) (b s z:Int) (g o:ByteArray) (code:Int) (n:Int) (h0:n≠0) (w:World) (he:Env w) (hadc:adc=.agg #[.int .i64 b,.int .i64 s,.int .i64 z,.string g,.string o])
  (hen:∀ W,Env W→Calls Tryz.prog 88 #[adc,.int .i64 code] W (EndsAny W n)):
  Calls Tryz.prog 22 #[adc,.int .i64 code] w (NoSpan w n):=by
 subst hadc
 have ht:(n != 0)=true:=by simpa using h0
 have HEN:=hid hen;have HE:=hid he;have H0:=hid h0;clear hen he h0;go_enter Tryz.func22,Tryz.ntmps22;go_wp2_with fail;obtain ⟨BA,BP,HN⟩:=lay2 w 32 #[.int .i64 b,.int .i64 s,.int .i64 z,.string g,.string o] 28 #[.string ⟨#[]⟩,.string ⟨#[]⟩];refine (HEN.out _ (HE.out.new HN.out)).mono ?_;rintro e w1 ⟨s5,a5,l5,k5,t5,b5,m5,n5,s6,a6,l6,k6,t6,b6,m6,n6,rfl,hn⟩;replace BP:=bW BP hn;replace HN:=tW HN hn;clear hn;obtain ⟨p0,p1,p2,p3,p4⟩:=BP.out.two;have p5:=Nat.lt_add_right 1 p4;have p6:=Nat.lt_add_right 1 p5;go_wp2_with fail;refine bodyPost_ret (v:=.tuple #[.agg #[.string ⟨#[]⟩,.string ⟨#[]⟩],.int .i64 n]) (by simp[results,Tryz.results22,go_sem,p0,p1,p4,p5]) rfl ?_;refine ⟨rfl,?_⟩;have hN:=HN.out
 repeat first
  | with_reducible exact New.refl _
  | with_reducible refine New.drewN ?_ _
  | with_reducible refine New.drew ?_
  | with_reducible refine New.alloc ?_ _
  | (with_reducible refine New.setCell ?_ ?_ _;rotate_left;(show _≤_+_);omega)
  | with_reducible assumption
def grpT (q r:Nat):List UInt8:=if q=0 then decDigits r else padDigits 18 r
def Grp (T V:Nat)(ps:List (List UInt8)):Prop:=(if V=0 then [] else decDigits V) ++ ps.reverse.flatten=decDigits T
theorem Grp.start {T:Nat}(h:T≠0):Grp T T []:=by unfold Grp;rw[if_neg h];simp
theorem Grp.step {T V q r:Nat}{ps:List (List UInt8)}(h:Grp T V ps)(h0:V≠0)(hq:q*1000000000000000000+r=V)(hr:r < 1000000000000000000):Grp T q (ps ++ [grpT q r]):=by
 unfold Grp at h⊢;rw[if_neg h0] at h;rw[List.reverse_append,List.flatten_append,List.reverse_singleton,List.flatten_singleton,←h,←List.append_assoc];congr 1;unfold grpT;by_cases hq0:q=0
 ·rw[if_pos hq0,if_pos hq0,List.nil_append];rw[hq0,Nat.zero_mul,Nat.zero_add] at hq;rw[hq]
 ·rw[if_neg hq0,if_neg hq0,←hq]
  have e:(10:Nat)^18=1000000000000000000:=by decide
  have:=decDigits_pad hq0 18 r (by rw[e];exact hr);rw[e] at this;exact this.symm
theorem Grp.end_ {T:Nat}{ps:List (List UInt8)}(h:Grp T 0 ps):ps.reverse.flatten=decDigits T:=by
 unfold Grp at h;rw[if_pos rfl,List.nil_append] at h;exact h
theorem dig18 {r:Nat}(h:r < 1000000000000000000):(decDigits r).length≤18:=by
 rw[decDigits_length,nDigits_le_iff (by omega)]
 have e:(10:Nat)^18=1000000000000000000:=by decide
 rw[e];exact h
theorem grp_zero (r:Nat):grpT 0 r=decDigits r:=if_pos rfl
theorem grp_pad {q r:Nat}(hq:q≠0)(h:r < 1000000000000000000):grpT q r=List.replicate (18 - (decDigits r).length) 48 ++ decDigits r:=by
 unfold grpT;rw[if_neg hq,padDigits_of_nDigits (by rw[←decDigits_length];exact dig18 h),decDigits_length]
theorem grp_len {q r:Nat}(h:r < 1000000000000000000):(grpT q r).length≤18:=by
 unfold grpT;split
 ·exact dig18 h
 ·rw[padDigits_length];exact Nat.le_refl _
def GrpN (T g L:Nat):Prop:=L≤40001∧(g≠0→2^L*g≤T)
theorem GrpN.start (T:Nat):GrpN T T 0:=⟨by omega,fun _=>by rw[Nat.pow_zero,Nat.one_mul];exact Nat.le_refl _⟩
theorem GrpN.lt {T g L:Nat}(h:GrpN T g L)(hT:T < 2^40000)(h0:g≠0):L < 40000:=by
 have h1:=h.2 h0;have h2:2^L*1≤2^L*g:=Nat.mul_le_mul_left _ (by omega);rw[Nat.mul_one] at h2;exact (Nat.pow_lt_pow_iff_right (by omega)).1 (Nat.lt_of_le_of_lt (Nat.le_trans h2 h1) hT)
theorem GrpN.step {T g q r L:Nat}(h:GrpN T g L)(hT:T < 2^40000)(h0:g≠0)(hq:q*1000000000000000000+r=g):GrpN T q (L+1):=by
 have h1:=h.lt hT h0;refine ⟨by omega,fun _=>Nat.le_trans ?_ (h.2 h0)⟩;rw[Nat.pow_succ,Nat.mul_assoc];exact Nat.mul_le_mul_left _ (by omega)
def grpOut (ps:List (List UInt8))(k:Nat):List UInt8:=(ps.drop k).reverse.flatten
theorem grpOut_end (ps:List (List UInt8)):grpOut ps ps.length=[]:=by unfold grpOut;rw[List.drop_length];rfl
theorem grpOut_next {ps:List (List UInt8)}{k:Nat}(h:k < ps.length):grpOut ps k=grpOut ps (k+1) ++ ps[k]:=by
 unfold grpOut;rw[List.drop_eq_getElem_cons h,List.reverse_cons,List.flatten_append,List.flatten_singleton]
theorem grpOut_len {ps:List (List UInt8)}(h:∀ p∈ps,p.length≤18):∀ k,(grpOut ps k).length≤18*ps.length:=fun k=>by
 have key:∀ l:List (List UInt8),(∀ p∈l,p.length≤18)→l.reverse.flatten.length≤18*l.length:=fun l=>by
  induction l with
  | nil=>intro _;exact Nat.le_refl _
  | cons x l ih=>
   intro hl;rw[List.reverse_cons,List.flatten_append,List.flatten_singleton,List.length_append,List.length_cons];have h1:=ih fun p hp=>hl p (List.mem_cons_of_mem _ hp);have h2:=hl x (List.mem_cons_self ..);omega
 have h1:=key (ps.drop k) fun p hp=>h p (List.mem_of_mem_drop hp);rw[List.length_drop] at h1;unfold grpOut;omega
theorem bwrite_calls (B b:Nat)(bs:List Value)(s:ByteArray)(w:World)(h:Lib.IsBuilderF 239 5 B b bs w)(hlen:bs.length+s.size≤140737488355328)(hBw:B≤w.heap.size):
  Calls Tryz.prog 205 #[.pointer (some ⟨b,0,none⟩),.string s] w fun e w'=>e=.returned (.tuple #[.int .i64 s.size,.nilIface])∧(Lib.BuilderAtF 239 5 B b (.pointer (some ⟨b,0,none⟩)) (bs ++ Lib.strCells s) w'∧Below B w w'∧Lib.OthersKept 5 (some b) w w'):=
 Any.Builder_WriteString_k {Tryz.lays105 with} Tryz.Builder_Extra_105 B b bs s w h hlen hBw
end Go.Proofs.YtbkcjmojgglbkaaGreatDoor
