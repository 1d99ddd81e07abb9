/- Part CardFit03. -/
import Derived.BigQuiet
import Derived.Deep.DeepCutAuto
import Derived.Deep.CutBlock
import Derived.Test.YtbkcjmojgglbkaaGreatDoorCardFit02
namespace Go.Proofs.YtbkcjmojgglbkaaGreatDoor
open Go.RowKit Big Go.Lib
set_option maxRecDepth 100000
set_option maxHeartbeats 8000000
theorem fits_walk (EV:World→Prop) (hev:∀ w w',EV w→New w w'→EV w') (haw:∀ w,EV w→Calls Tryz.prog 10 #[] w fun e w'=>e=.returned (.bool true)∧New w w') (b s z c1 c2:Int) (g o t1 t2:ByteArray) (w:World) (he:EV w) (PA P1 P2:Prop)
  (hfa:∀ W,Calls Tryz.prog 42 #[adcF b s z g o] W fun e w'=>(∃ t:Bool,e=.returned (.bool t)∧(t=true→PA))∧New W w')
  (hf1:∀ W,Calls Tryz.prog 53 #[.string t1,.int .i64 12] W fun e w'=>(∃ t:Bool,e=.returned (.bool t)∧(t=true→P1))∧New W w')
  (hf2:∀ W,Calls Tryz.prog 53 #[.string t2,.int .i64 12] W fun e w'=>(∃ t:Bool,e=.returned (.bool t)∧(t=true→P2))∧New W w')
  (hok:PA→P1→P2→FitAll EV b s z c1 c2 g o t1 t2):
  Calls Tryz.prog 8 #[adcF b s z g o,mkF c1 t1,mkF c2 t2] w fun e w'=>e=.returned (.bool true)∧New w w':=by
 unfold FitAll at hok;unfold adcF mkF at *;have HEV:=hid hev;have HAW:=hid haw;have HE:=hid he;have HFA:=hid hfa;have HF1:=hid hf1;have HF2:=hid hf2;have HOK:=hid hok;clear hev haw he hfa hf1 hf2 hok;go_enter Tryz.func8,Tryz.ntmps8;go_upto_region 1 with (fail);obtain ⟨BA,B1,B2,HN⟩:=lay3 w 24 #[.int .i64 b,.int .i64 s,.int .i64 z,.string g,.string o] 75 #[.int .i64 c1,.string t1] 75 #[.int .i64 c2,.string t2];obtain ⟨w8,hw8⟩:∃ x,((w.alloc (.cells #[.int .i64 b,.int .i64 s,.int .i64 z,.string g,.string o] 24)).alloc (.cells #[.int .i64 c1,.string t1] 75)).alloc (.cells #[.int .i64 c2,.string t2] 75)=x:=⟨_,rfl⟩;rw[hw8] at BA B1 B2 HN⊢;clear hw8
 go_cut [29] (fun u wx=>∃ t:Bool,u=.bool (!t)∧Hid (t=true→PA∧P1∧P2)∧Hid (New w8 wx))
 case first=>
  obtain ⟨⟨pa0,pa1,pa2,pa3,pa4⟩,pa5⟩:=BA.out.five;go_wp2_with fail;refine (HFA.out _).mono ?_;rintro e w1 ⟨⟨t,rfl,ht⟩,hn⟩;have HX:=hid hn
  cases t with
  | false=>
   clear ht hn;go_wp2_with fail
   go_meet
   exact ⟨false,rfl,hid (fun h=>by cases h),HX⟩
  | true=>
   have hpa:=ht rfl;clear ht;have HPA:=hid hpa;clear hpa;clear pa0 pa1 pa2 pa3 pa4 pa5;replace B1:=bW B1 hn;replace B2:=bW B2 hn;replace HN:=tW HN hn;clear hn;obtain ⟨p0,p1,p2,p3,p4⟩:=B1.out.two;go_wp2_with fail;refine (HF1.out _).mono ?_;rintro e w2 ⟨⟨t,rfl,ht⟩,hn⟩;clear p0 p1 p2 p3 p4;replace HX:=tW HX hn;replace B2:=bW B2 hn;replace HN:=tW HN hn;clear hn
   cases t with
   | false=>
    clear ht;go_wp2_with fail
    go_meet
    exact ⟨false,rfl,hid (fun h=>by cases h),HX⟩
   | true=>
    have hp1:=ht rfl;clear ht;have HP1:=hid hp1;clear hp1;obtain ⟨q0,q1,q2,q3,q4⟩:=B2.out.two;go_wp2_with fail;refine (HF2.out _).mono ?_;rintro e w3 ⟨⟨t,rfl,ht⟩,hn⟩;clear q0 q1 q2 q3 q4;replace HX:=tW HX hn;replace HN:=tW HN hn;clear hn;have HT:=hid ht;clear ht;go_wp2_with fail
    go_meet
    exact ⟨t,rfl,hid (fun h=>⟨HPA.out,HP1.out,HT.out h⟩),HX⟩
 case rest=>
  obtain ⟨t,rfl,HT,HX⟩:=hcut;have hn:=HX.out;replace BA:=bW BA hn;replace B1:=bW B1 hn;replace B2:=bW B2 hn;replace HN:=tW HN hn;clear hn;clear HX
  cases t with
  | false=>
   go_wp2_with fail;refine (HAW.out _ (HEV.out _ _ HE.out HN.out)).mono ?_;rintro e w99 ⟨rfl,hn⟩;replace HN:=tW HN hn;clear hn;go_wp2_with fail;go_ret;exact ⟨rfl,HN.out⟩
  | true=>
   obtain ⟨hpa,hp1,hp2⟩:=HT.out rfl;have hall:=HOK.out hpa hp1 hp2;clear HT HOK hpa hp1 hp2 HFA HF1 HF2;rcases hall with ⟨n,hn39,hca⟩ | ⟨tg,tof,hca,hrc,he1,he2⟩
   ·skip
    have HCA:=hid hca;clear hca;obtain ⟨⟨pa0,pa1,pa2,pa3,pa4⟩,pa5⟩:=BA.out.five;obtain ⟨p0,p1,p2,p3,p4⟩:=B1.out.two;obtain ⟨q0,q1,q2,q3,q4⟩:=B2.out.two;go_wp2_with fail;refine (HCA.out _ (HEV.out _ _ HE.out HN.out)).mono ?_;rintro e w2 ⟨rfl,hn⟩;clear pa0 pa1 pa2 pa3 pa4 pa5;clear p0 p1 p2 p3 p4 q0 q1 q2 q3 q4;replace BA:=bW BA hn;replace B1:=bW B1 hn;replace B2:=bW B2 hn;replace HN:=tW HN hn;clear hn;go_upto_region 4 with (fail);have HN0:=HN;clear HN;obtain ⟨BF,HN⟩:=lay1 w2 32 #[.int .i64 0,.int .i64 0,.int .i64 0,.string ⟨#[]⟩,.string ⟨#[]⟩];replace BA:=hid (BA.out.new HN.out);replace B1:=hid (B1.out.new HN.out);replace B2:=hid (B2.out.new HN.out);have HN_:=HN0.out.trans HN.out;clear HN HN0;have HN:=hid HN_;clear HN_;rcases hn39 with rfl | rfl
    ·go_wp2_with fail;refine (HAW.out _ (HEV.out _ _ HE.out HN.out)).mono ?_;rintro e w99 ⟨rfl,hn⟩;replace HN:=tW HN hn;clear hn;go_wp2_with fail;go_ret;exact ⟨rfl,HN.out⟩
    ·go_wp2_with fail;refine (HAW.out _ (HEV.out _ _ HE.out HN.out)).mono ?_;rintro e w99 ⟨rfl,hn⟩;replace HN:=tW HN hn;clear hn;go_wp2_with fail;go_ret;exact ⟨rfl,HN.out⟩
   ·have HEL:Hid (∀ k:Nat,k < 2→∃ (c:Int) (t:ByteArray),((k=0∧c=c1∧t=t1)∨(k=1∧c=c2∧t=t2))∧FitEl EV b s z g o tg tof c t):=hid fun k hk=>by
     rcases (show k=0∨k=1 by omega) with rfl | rfl
     ·exact ⟨c1,t1,.inl ⟨rfl,rfl,rfl⟩,he1⟩
     ·exact ⟨c2,t2,.inr ⟨rfl,rfl,rfl⟩,he2⟩
    clear he1 he2;have HCA:=hid hca;have HRC:=hid hrc;clear hca hrc;obtain ⟨⟨pa0,pa1,pa2,pa3,pa4⟩,pa5⟩:=BA.out.five;obtain ⟨p0,p1,p2,p3,p4⟩:=B1.out.two;obtain ⟨q0,q1,q2,q3,q4⟩:=B2.out.two;go_wp2_with fail;refine (HCA.out _ (HEV.out _ _ HE.out HN.out)).mono ?_;rintro e w2 ⟨rfl,hn⟩;clear pa0 pa1 pa2 pa3 pa4 pa5;clear p0 p1 p2 p3 p4 q0 q1 q2 q3 q4;replace BA:=bW BA hn;replace B1:=bW B1 hn;replace B2:=bW B2 hn;replace HN:=tW HN hn;clear hn;go_upto_region 4 with (fail);have HN0:=HN;clear HN;obtain ⟨BF,HN⟩:=lay1 w2 32 #[.int .i64 b,.int .i64 s,.int .i64 z,.string tg,.string tof];replace BA:=hid (BA.out.new HN.out);replace B1:=hid (B1.out.new HN.out);replace B2:=hid (B2.out.new HN.out);have HN_:=HN0.out.trans HN.out;clear HN HN0;have HN:=hid HN_;clear HN_;obtain ⟨⟨f0,f1,f2,f3,f4⟩,f5⟩:=BF.out.five;go_wp2_with fail;refine (HRC.out _).mono ?_;rintro e w3 ⟨rfl,hn⟩;clear f0 f1 f2 f3 f4 f5;replace BA:=bW BA hn;replace B1:=bW B1 hn;replace B2:=bW B2 hn;replace BF:=bW BF hn;replace HN:=tW HN hn;clear hn
    have hbb:(b != b)=false:=by simp
    have hss:(s != s)=false:=by simp
    have hzz:(z != z)=false:=by simp
    obtain ⟨⟨f0,f1,f2,f3,f4⟩,f5⟩:=BF.out.five;obtain ⟨⟨pa0,pa1,pa2,pa3,pa4⟩,pa5⟩:=BA.out.five;go_upto_region 8 with (fail);clear hbb hss hzz;clear f0 f1 f2 f3 f4 f5;clear pa0 pa1 pa2 pa3 pa4 pa5;obtain ⟨p0,p1,p2,p3,p4⟩:=B1.out.two;obtain ⟨q0,q1,q2,q3,q4⟩:=B2.out.two;go_wp2_with fail;clear p0 p1 p2 p3 p4 q0 q1 q2 q3 q4;have HN0:=HN;clear HN;obtain ⟨BS,HN⟩:=lay1 w3 75 #[.int .i64 c1,.string t1,.int .i64 c2,.string t2];replace BA:=hid (BA.out.new HN.out);replace BF:=hid (BF.out.new HN.out);have HN_:=HN0.out.trans HN.out;clear HN HN0;have HN:=hid HN_;clear HN_;clear B1 B2 HCA HRC;obtain ⟨w9,hw9⟩:∃ x,w3.alloc (.cells #[.int .i64 c1,.string t1,.int .i64 c2,.string t2] 75)=x:=⟨_,rfl⟩;rw[hw9] at BA BF BS HN⊢;clear hw9;have HW:=HN;clear HN;go_loopw [77] (fun i wr=>∃ k:Nat,k≤2∧i=.int .i64 (k:Int)∧Hid (New w9 wr)) (fun i _=>2 - (RowKit.intOf i).toNat)
    case atStart=>exact ⟨0,Nat.zero_le _,rfl,hid (New.refl _)⟩
    case round=>
     obtain ⟨k,hk,rfl,HN⟩:=hrel;by_cases hlt:k < 2
     ·obtain ⟨c,t,hct,hel⟩:=HEL.out k hlt
      have hki:(k:Int) < 2:=by omega
      have BA_:=BA.out.new HN.out;have BF_:=BF.out.new HN.out;have BS_:=BS.out.new HN.out;have BAR:=hid BA_;have BFR:=hid BF_;have BSR:=hid BS_;have HCT:=hid hct;have HL:=hid hel;clear BA_ BF_ BS_ hct hel;go_upto_region 10 with (fail)
      go_cut [10] from 79 to 80 (fun x wx=>∃ M:Nat,x=.pointer (some ⟨M,0,none⟩)∧Hid (New wr wx)∧Hid (Box wx M 75 #[.int .i64 c,.string t]))
      case first=>
       obtain ⟨⟨m0,m1,m2,m3⟩,m4,m5,m6,m7,m8⟩:=BSR.out.four;rcases HCT.out with ⟨rfl,rfl,rfl⟩ | ⟨rfl,rfl,rfl⟩
       ·go_wp2_with fail
        go_meet
        exact ⟨_,rfl,hid ((New.refl _).alloc _),hid (Box.alloc wr _ _ _ rfl)⟩
       ·go_wp2_with fail
        go_meet
        exact ⟨_,rfl,hid ((New.refl _).alloc _),hid (Box.alloc wr _ _ _ rfl)⟩
      case rest=>
       obtain ⟨M,rfl,hx,BM⟩:=hcut;have hn:=hx.out;have hel:=HL.out;clear hx BSR HCT HL;replace BAR:=bW BAR hn;replace BFR:=bW BFR hn;replace HN:=tW HN hn;clear hn;unfold FitEl at hel;rcases hel with hT | ⟨L,H,S,D,U,hT,hsp,had,hha,hsu,hls,hmu,hc,hnx⟩
       ·skip
        have HT:=hid hT;clear hT;obtain ⟨⟨f0,f1,f2,f3,f4⟩,f5⟩:=BFR.out.five;obtain ⟨m0,m1,m2,m3,m4⟩:=BM.out.two;go_wp2_with fail;refine (HT.out _ (HEV.out _ _ (HEV.out _ _ HE.out HW.out) HN.out)).mono ?_;rintro e x1 ⟨rfl,hn⟩;clear f0 f1 f2 f3 f4 f5;clear m0 m1 m2 m3 m4;replace HN:=tW HN hn;clear hn;go_upto_region 12 with (fail);have HN0:=HN;clear HN;obtain ⟨BT,HN⟩:=lay1 x1 28 #[.string ⟨#[]⟩,.string ⟨#[]⟩];have HN_:=HN0.out.trans HN.out;clear HN HN0;have HN:=hid HN_;clear HN_;go_wp2_with fail;go_roundw
        case rel=>exact ⟨k+1,by omega,by go_num,HN⟩
        case measure=>simp[RowKit.intOf];omega
       ·have hcw:IntKind.i64.wrap (c+1)=c+1:=by rw[IntKind.wrap_i64];omega
        have htt:(t.toList != t.toList)=false:=by simp
        have hdd:(D.toList != D.toList)=false:=by simp
        have hhh:(H.toList != H.toList)=false:=by simp
        clear hc;have HT:=hid hT;have HSP:=hid hsp;have HAD:=hid had;have HHA:=hid hha;have HSU:=hid hsu;have HLS:=hid hls;have HMU:=hid hmu;have HNX:=hid hnx;have HCW:=hid hcw;have HTT:=hid htt;have HDD:=hid hdd;have HHH:=hid hhh;clear hT hsp had hha hsu hls hmu hnx hcw htt hdd hhh;obtain ⟨⟨f0,f1,f2,f3,f4⟩,f5⟩:=BFR.out.five;obtain ⟨m0,m1,m2,m3,m4⟩:=BM.out.two;go_wp2_with fail;refine (HT.out _ (HEV.out _ _ (HEV.out _ _ HE.out HW.out) HN.out)).mono ?_;rintro e x1 ⟨rfl,hn⟩;clear f0 f1 f2 f3 f4 f5;clear m0 m1 m2 m3 m4;replace BAR:=bW BAR hn;replace BFR:=bW BFR hn;replace BM:=bW BM hn;replace HN:=tW HN hn;clear hn;go_upto_region 12 with (fail);have HN0:=HN;clear HN;obtain ⟨BT,HN⟩:=lay1 x1 28 #[.string L,.string H];replace BAR:=hid (BAR.out.new HN.out);replace BFR:=hid (BFR.out.new HN.out);replace BM:=hid (BM.out.new HN.out);have HN_:=HN0.out.trans HN.out;clear HN HN0;have HN:=hid HN_;clear HN_;go_upto_region 13 with (fail);have htt:=HTT.out;have hdd:=HDD.out;obtain ⟨⟨pa0,pa1,pa2,pa3,pa4⟩,pa5⟩:=BAR.out.five;obtain ⟨⟨f0,f1,f2,f3,f4⟩,f5⟩:=BFR.out.five;obtain ⟨i0,i1,i2,i3,i4⟩:=BT.out.two;obtain ⟨m0,m1,m2,m3,m4⟩:=BM.out.two;clear pa0 pa1 pa2 pa3 pa4 pa5;clear f0 f1 f2 f3 f4 f5;clear i0 i1 i2 i3 i4;clear m0 m1 m2 m3 m4;refine wp_region_T 30 (fun W=>(W.cell? ⟨w.heap.size,0,none⟩=some (.int .i64 b)∧W.cell? ⟨w.heap.size,1,none⟩=some (.int .i64 s)∧W.cell? ⟨w.heap.size,2,none⟩=some (.int .i64 z)∧W.cell? ⟨w.heap.size,3,none⟩=some (.string g)∧W.cell? ⟨w.heap.size,4,none⟩=some (.string o))∧(W.cell? ⟨w2.heap.size,0,none⟩=some (.int .i64 b)∧W.cell? ⟨w2.heap.size,1,none⟩=some (.int .i64 s)∧W.cell? ⟨w2.heap.size,2,none⟩=some (.int .i64 z)∧W.cell? ⟨w2.heap.size,3,none⟩=some (.string tg)∧W.cell? ⟨w2.heap.size,4,none⟩=some (.string tof))∧(W.cell? ⟨x1.heap.size,0,none⟩=some (.string L)∧W.cell? ⟨x1.heap.size,1,none⟩=some (.string H))∧(W.cell? ⟨M,0,none⟩=some (.int .i64 c)∧W.cell? ⟨M,1,none⟩=some (.string t))) 31 #[false,false,false,false,false,false,false,false,false,false,false,false,false,false,false,false,false,false,false,false,false,false,false,false,false,false,false,false,false,false,false] rfl (by kernel_rfl) (by kernel_rfl) ?_;refine tk 0 (by exact ⟨cW5 BAR,cW5 BFR,cW2 BT,cW2 BM⟩) ?_
        try simp only[List.getElem_toArray,List.getElem_cons_zero,Act.put,List.setIfInBounds_toArray,List.set_cons_zero,List.set_cons_succ]
        refine tk 1 (by exact ⟨cW5 BAR,cW5 BFR,cW2 BT,cW2 BM⟩) ?_
        try simp only[List.getElem_toArray,List.getElem_cons_zero,List.getElem_cons_succ,Act.put,List.setIfInBounds_toArray,List.set_cons_zero,List.set_cons_succ]
        refine tk 2 (by exact ⟨cW5 BAR,cW5 BFR,cW2 BT,cW2 BM⟩) ?_
        try simp only[List.getElem_toArray,List.getElem_cons_zero,List.getElem_cons_succ,Act.put,List.setIfInBounds_toArray,List.set_cons_zero,List.set_cons_succ]
        refine tk 3 (by exact ⟨cW5 BAR,cW5 BFR,cW2 BT,cW2 BM⟩) ?_
        try simp only[List.getElem_toArray,List.getElem_cons_zero,List.getElem_cons_succ,Act.put,List.setIfInBounds_toArray,List.set_cons_zero,List.set_cons_succ]
        refine tk1 4 fun K hK=>?_
        try simp only[List.getElem_toArray,List.getElem_cons_zero,List.getElem_cons_succ]
        go_simp;refine (HSP.out _).mono ?_;rintro e y1 ⟨rfl,hn⟩;have hn:=((New.refl _).drew).trans hn;replace BAR:=bW BAR hn;replace BFR:=bW BFR hn;replace BT:=bW BT hn;replace BM:=bW BM hn;replace HN:=tW HN hn;clear hn;refine hK.out _ _ (fun _=>⟨cW5 BAR,cW5 BFR,cW2 BT,cW2 BM⟩) ?_;clear hK K
        try simp only[List.setIfInBounds_toArray,List.set_cons_zero,List.set_cons_succ]
        refine tk 5 (by exact ⟨cW5 BAR,cW5 BFR,cW2 BT,cW2 BM⟩) ?_
        try simp only[List.getElem_toArray,List.getElem_cons_zero,List.getElem_cons_succ,Act.put,List.setIfInBounds_toArray,List.set_cons_zero,List.set_cons_succ]
        refine tk 6 (by exact ⟨cW5 BAR,cW5 BFR,cW2 BT,cW2 BM⟩) ?_
        try simp only[List.getElem_toArray,List.getElem_cons_zero,List.getElem_cons_succ,Act.put,List.setIfInBounds_toArray,List.set_cons_zero,List.set_cons_succ]
        refine tk 7 (by exact ⟨cW5 BAR,cW5 BFR,cW2 BT,cW2 BM⟩) ?_
        try simp only[List.getElem_toArray,List.getElem_cons_zero,List.getElem_cons_succ,Act.put,List.setIfInBounds_toArray,List.set_cons_zero,List.set_cons_succ]
        refine tk 8 (by exact ⟨cW5 BAR,cW5 BFR,cW2 BT,cW2 BM⟩) ?_
        try simp only[List.getElem_toArray,List.getElem_cons_zero,List.getElem_cons_succ,Act.put,List.setIfInBounds_toArray,List.set_cons_zero,List.set_cons_succ]
        refine tk 9 (by exact ⟨cW5 BAR,cW5 BFR,cW2 BT,cW2 BM⟩) ?_
        try simp only[List.getElem_toArray,List.getElem_cons_zero,List.getElem_cons_succ,Act.put,List.setIfInBounds_toArray,List.set_cons_zero,List.set_cons_succ]
        refine tk 10 (by exact ⟨cW5 BAR,cW5 BFR,cW2 BT,cW2 BM⟩) ?_
        try simp only[List.getElem_toArray,List.getElem_cons_zero,List.getElem_cons_succ,Act.put,List.setIfInBounds_toArray,List.set_cons_zero,List.set_cons_succ]
        refine tk 11 (by exact ⟨cW5 BAR,cW5 BFR,cW2 BT,cW2 BM⟩) ?_
        try simp only[List.getElem_toArray,List.getElem_cons_zero,List.getElem_cons_succ,Act.put,List.setIfInBounds_toArray,List.set_cons_zero,List.set_cons_succ]
        refine tk 14 (by exact ⟨cW5 BAR,cW5 BFR,cW2 BT,cW2 BM⟩) ?_
        try simp only[List.getElem_toArray,List.getElem_cons_zero,List.getElem_cons_succ,Act.put,List.setIfInBounds_toArray,List.set_cons_zero,List.set_cons_succ]
        refine tk 15 (by exact ⟨cW5 BAR,cW5 BFR,cW2 BT,cW2 BM⟩) ?_
        try simp only[List.getElem_toArray,List.getElem_cons_zero,List.getElem_cons_succ,Act.put,List.setIfInBounds_toArray,List.set_cons_zero,List.set_cons_succ]
        refine tk1 12 fun K hK=>?_
        try simp only[List.getElem_toArray,List.getElem_cons_zero,List.getElem_cons_succ]
        go_simp;refine (HAD.out _).mono ?_;rintro e y2 ⟨rfl,hn⟩;replace BAR:=bW BAR hn;replace BFR:=bW BFR hn;replace BT:=bW BT hn;replace BM:=bW BM hn;replace HN:=tW HN hn;clear hn;refine hK.out _ _ (fun _=>⟨cW5 BAR,cW5 BFR,cW2 BT,cW2 BM⟩) ?_;clear hK K
        try simp only[List.setIfInBounds_toArray,List.set_cons_zero,List.set_cons_succ]
        refine tk1 13 fun K hK=>?_
        try simp only[List.getElem_toArray,List.getElem_cons_zero,List.getElem_cons_succ]
        go_simp;refine (HHA.out _).mono ?_;rintro e y3 ⟨rfl,hn⟩;replace BAR:=bW BAR hn;replace BFR:=bW BFR hn;replace BT:=bW BT hn;replace BM:=bW BM hn;replace HN:=tW HN hn;clear hn;refine hK.out _ _ (fun _=>⟨cW5 BAR,cW5 BFR,cW2 BT,cW2 BM⟩) ?_;clear hK K
        try simp only[List.setIfInBounds_toArray,List.set_cons_zero,List.set_cons_succ]
        refine wpT_take 16 (v:=?_) rfl (by kernel_rfl) (fun _ _ _ h=>h) (by exact ⟨cW5 BAR,cW5 BFR,cW2 BT,cW2 BM⟩) (Or.inl ⟨by first | kernel_rfl | rfl,?_⟩) ?_;rotate_left
        ·(intro W hW;(try dsimp only at hW);(go_simp;try simp only[bne_self_eq_false,beq_self_eq_true,Bool.not_true]);try with_reducible rfl)
        try simp only[List.getElem_toArray,List.getElem_cons_zero,List.getElem_cons_succ,Act.put,List.setIfInBounds_toArray,List.set_cons_zero,List.set_cons_succ]
        refine tk 17 (by exact ⟨cW5 BAR,cW5 BFR,cW2 BT,cW2 BM⟩) ?_
        try simp only[List.getElem_toArray,List.getElem_cons_zero,List.getElem_cons_succ,Act.put,List.setIfInBounds_toArray,List.set_cons_zero,List.set_cons_succ]
        refine tk 18 (by exact ⟨cW5 BAR,cW5 BFR,cW2 BT,cW2 BM⟩) ?_
        try simp only[List.getElem_toArray,List.getElem_cons_zero,List.getElem_cons_succ,Act.put,List.setIfInBounds_toArray,List.set_cons_zero,List.set_cons_succ]
        refine tk 19 (by exact ⟨cW5 BAR,cW5 BFR,cW2 BT,cW2 BM⟩) ?_
        try simp only[List.getElem_toArray,List.getElem_cons_zero,List.getElem_cons_succ,Act.put,List.setIfInBounds_toArray,List.set_cons_zero,List.set_cons_succ]
        refine tk 20 (by exact ⟨cW5 BAR,cW5 BFR,cW2 BT,cW2 BM⟩) ?_
        try simp only[List.getElem_toArray,List.getElem_cons_zero,List.getElem_cons_succ,Act.put,List.setIfInBounds_toArray,List.set_cons_zero,List.set_cons_succ]
        refine tk 21 (by exact ⟨cW5 BAR,cW5 BFR,cW2 BT,cW2 BM⟩) ?_
        try simp only[List.getElem_toArray,List.getElem_cons_zero,List.getElem_cons_succ,Act.put,List.setIfInBounds_toArray,List.set_cons_zero,List.set_cons_succ]
        refine tk 22 (by exact ⟨cW5 BAR,cW5 BFR,cW2 BT,cW2 BM⟩) ?_
        try simp only[List.getElem_toArray,List.getElem_cons_zero,List.getElem_cons_succ,Act.put,List.setIfInBounds_toArray,List.set_cons_zero,List.set_cons_succ]
        refine tk 24 (by exact ⟨cW5 BAR,cW5 BFR,cW2 BT,cW2 BM⟩) ?_
        try simp only[List.getElem_toArray,List.getElem_cons_zero,List.getElem_cons_succ,Act.put,List.setIfInBounds_toArray,List.set_cons_zero,List.set_cons_succ]
        refine tk 25 (by exact ⟨cW5 BAR,cW5 BFR,cW2 BT,cW2 BM⟩) ?_
        try simp only[List.getElem_toArray,List.getElem_cons_zero,List.getElem_cons_succ,Act.put,List.setIfInBounds_toArray,List.set_cons_zero,List.set_cons_succ]
        refine tk 26 (by exact ⟨cW5 BAR,cW5 BFR,cW2 BT,cW2 BM⟩) ?_
        try simp only[List.getElem_toArray,List.getElem_cons_zero,List.getElem_cons_succ,Act.put,List.setIfInBounds_toArray,List.set_cons_zero,List.set_cons_succ]
        refine tk1 23 fun K hK=>?_
        try simp only[List.getElem_toArray,List.getElem_cons_zero,List.getElem_cons_succ]
        go_simp;refine (HSU.out _).mono ?_;rintro e y4 ⟨rfl,hn⟩;replace BAR:=bW BAR hn;replace BFR:=bW BFR hn;replace BT:=bW BT hn;replace BM:=bW BM hn;replace HN:=tW HN hn;clear hn;refine hK.out _ _ (fun _=>⟨cW5 BAR,cW5 BFR,cW2 BT,cW2 BM⟩) ?_;clear hK K
        try simp only[List.setIfInBounds_toArray,List.set_cons_zero,List.set_cons_succ]
        refine tk1 27 fun K hK=>?_
        try simp only[List.getElem_toArray,List.getElem_cons_zero,List.getElem_cons_succ]
        go_simp;refine (HLS.out _).mono ?_;rintro e y5 ⟨rfl,hn⟩;replace BAR:=bW BAR hn;replace BFR:=bW BFR hn;replace BT:=bW BT hn;replace BM:=bW BM hn;replace HN:=tW HN hn;clear hn;refine hK.out _ _ (fun _=>⟨cW5 BAR,cW5 BFR,cW2 BT,cW2 BM⟩) ?_;clear hK K
        try simp only[List.setIfInBounds_toArray,List.set_cons_zero,List.set_cons_succ]
        refine tk1 28 fun K hK=>?_
        try simp only[List.getElem_toArray,List.getElem_cons_zero,List.getElem_cons_succ]
        go_simp;refine (HMU.out _).mono ?_;rintro e y6 ⟨rfl,hn⟩;replace BAR:=bW BAR hn;replace BFR:=bW BFR hn;replace BT:=bW BT hn;replace BM:=bW BM hn;replace HN:=tW HN hn;clear hn;refine hK.out _ _ (fun _=>⟨cW5 BAR,cW5 BFR,cW2 BT,cW2 BM⟩) ?_;clear hK K
        try simp only[List.setIfInBounds_toArray,List.set_cons_zero,List.set_cons_succ]
        refine wpT_take 29 (v:=?_) rfl (by kernel_rfl) (fun _ _ _ h=>h) (by exact ⟨cW5 BAR,cW5 BFR,cW2 BT,cW2 BM⟩) (Or.inl ⟨by first | kernel_rfl | rfl,?_⟩) ?_;rotate_left
        ·(intro W hW;(try dsimp only at hW);(go_simp;try simp only[bne_self_eq_false,beq_self_eq_true,Bool.not_true]);try with_reducible rfl)
        try simp only[List.getElem_toArray,List.getElem_cons_zero,List.getElem_cons_succ,Act.put,List.setIfInBounds_toArray,List.set_cons_zero,List.set_cons_succ]
        refine tlW ?_;obtain ⟨⟨pa0,pa1,pa2,pa3,pa4⟩,pa5⟩:=BAR.out.five;obtain ⟨⟨f0,f1,f2,f3,f4⟩,f5⟩:=BFR.out.five;obtain ⟨i0,i1,i2,i3,i4⟩:=BT.out.two;obtain ⟨m0,m1,m2,m3,m4⟩:=BM.out.two;clear pa0 pa1 pa2 pa3 pa4 pa5;clear htt hdd;have hcw:=HCW.out;rcases HNX.out with h2 | ⟨H2,h2⟩
        ·skip
         have H2C:=hid h2;clear h2;go_wp2_with fail;refine (H2C.out _ (HEV.out _ _ (HEV.out _ _ HE.out HW.out) HN.out)).mono ?_;rintro e y7 ⟨rfl,hn⟩;clear f0 f1 f2 f3 f4 f5;clear i0 i1 i2 i3 i4 m0 m1 m2 m3 m4;replace BT:=bW BT hn;replace HN:=tW HN hn;clear hn;go_upto_region 16 with (fail);have HN0:=HN;clear HN;obtain ⟨BU,HN⟩:=lay1 y7 28 #[.string ⟨#[]⟩,.string ⟨#[]⟩];replace BT:=hid (BT.out.new HN.out);have HN_:=HN0.out.trans HN.out;clear HN HN0;have HN:=hid HN_;clear HN_;go_wp2_with fail;go_roundw
         case rel=>exact ⟨k+1,by omega,by go_num,HN⟩
         case measure=>simp[RowKit.intOf];omega
        ·skip
         have H2C:=hid h2;clear h2;go_wp2_with fail;refine (H2C.out _ (HEV.out _ _ (HEV.out _ _ HE.out HW.out) HN.out)).mono ?_;rintro e y7 ⟨rfl,hn⟩;clear f0 f1 f2 f3 f4 f5;clear i0 i1 i2 i3 i4 m0 m1 m2 m3 m4;replace BT:=bW BT hn;replace HN:=tW HN hn;clear hn;go_upto_region 16 with (fail);have HN0:=HN;clear HN;obtain ⟨BU,HN⟩:=lay1 y7 28 #[.string H,.string H2];replace BT:=hid (BT.out.new HN.out);have HN_:=HN0.out.trans HN.out;clear HN HN0;have HN:=hid HN_;clear HN_;have hhh:=HHH.out;obtain ⟨i0,i1,i2,i3,i4⟩:=BT.out.two;obtain ⟨j0,j1,j2,j3,j4⟩:=BU.out.two;go_wp2_with fail;go_roundw
         case rel=>exact ⟨k+1,by omega,by go_num,HN⟩
         case measure=>simp[RowKit.intOf];omega
     ·have hkn:k=2:=by omega
      have hn:=HN.out;have HN:=hid (HW.out.trans hn);clear hn;have HKN:=hid hkn;clear hkn;go_wp2_with fail;refine (HAW.out _ (HEV.out _ _ HE.out HN.out)).mono ?_;rintro e w99 ⟨rfl,hn⟩;replace HN:=tW HN hn;clear hn;go_wp2_with fail;go_ret;exact ⟨rfl,HN.out⟩
end Go.Proofs.YtbkcjmojgglbkaaGreatDoor
