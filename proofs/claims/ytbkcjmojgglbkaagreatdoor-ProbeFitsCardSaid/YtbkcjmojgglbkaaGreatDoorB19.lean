/- Part B19. -/
import Derived.WalkMore
import Derived.Deep.DeepCutAuto
import Derived.Test.YtbkcjmojgglbkaaGreatDoorB18
namespace Go.Proofs.YtbkcjmojgglbkaaGreatDoor
open Go.RowKit Big
open Go.Lib (hid)
set_option maxRecDepth 100000
set_option maxHeartbeats 8000000
theorem pfirst3_newZ (x y z:Int)(b cap:Nat)(t:TypeId)(w:World)(h:Box w b t #[.int .i64 x,.int .i64 y,.int .i64 z]):
  Calls Tryz.prog 67 #[.slice (some ⟨b,0,none⟩) 3 cap] w fun e w'=>e=.returned (.int .i64 (if x=0 then (if y=0 then z else y) else x))∧New w w':=
 (pfirst3 x y z b cap t w h).mono fun _ _ h=>⟨h.1,.of_eq h.2⟩
structure CalIn (b s z:Int)(g o:ByteArray)(c1:Int)(t1:ByteArray)(c2:Int)(t2:ByteArray)(n0 k1 m1 k2 m2 e1 e2 e3 k9:Int)(cb bb:Bool):Prop where
 chk:∀ W,Env W→Calls Tryz.prog 15 #[.agg #[.int .i64 b,.int .i64 s,.int .i64 z,.string g,.string o]] W (RetNew W n0)
 cc1:∀ W,Env W→Calls Tryz.prog 71 #[.agg #[.int .i64 b,.int .i64 s,.int .i64 z,.string g,.string o],.int .i64 c1] W (RetNew W k1)
 cc2:∀ W,Env W→Calls Tryz.prog 71 #[.agg #[.int .i64 b,.int .i64 s,.int .i64 z,.string g,.string o],.int .i64 c2] W (RetNew W k2)
 ck1:∀ W,Env W→Calls Tryz.prog 68 #[.string t1] W (RetNew W m1)
 ck2:∀ W,Env W→Calls Tryz.prog 68 #[.string t2] W (RetNew W m2)
 f1:(if n0=0 then (if k1=0 then m1 else k1) else n0)=e1
 f2:(if e1=0 then (if k2=0 then m2 else k2) else e1)=e2
 f3:(if e2=0 then k9 else e2)=e3
 f9:(if (bb || cb)=true then 9 else 0)=k9
 hc:(c1==c2)=cb
 em:∀ W,(binOp .eql 78 (.agg #[.int .i64 c1,.string t1]) (.agg #[.int .i64 c2,.string t2])).run Tryz.prog W=.ok (.bool bb) W
structure CalMid (b s z:Int)(g o:ByteArray)(c1:Int)(t1:ByteArray)(c2:Int)(t2:ByteArray)(q1 q2 l h gain off:Rat)(tg tof:ByteArray):Prop where
 nom1:∀ W,Calls Tryz.prog 65 #[.agg #[.int .i64 b,.int .i64 s,.int .i64 z,.string g,.string o],.int .i64 c1] W (FracPost W l)
 nom2:∀ W,Calls Tryz.prog 65 #[.agg #[.int .i64 b,.int .i64 s,.int .i64 z,.string g,.string o],.int .i64 c2] W (FracPost W h)
 fr1:∀ W,Env W→Calls Tryz.prog 70 #[.string t1] W (FracPost W q1)
 fr2:∀ W,Env W→Calls Tryz.prog 70 #[.string t2] W (FracPost W q2)
 bl:FB 33 l
 bh:FB 33 h
 b1:FB 2000 q1
 b2:FB 2000 q2
 hne:h - l≠0
 hg:(q2 - q1) / (h - l)=gain
 ho:q1 - gain*l=off
 gs:FB 1800 gain
 os:FB 1800 off
 tx:∀ va W,IsFrac W va gain→Env W→Calls Tryz.prog 100 #[va] W fun e w'=>e=.returned (.string tg)∧New W w'
 ty:∀ va W,IsFrac W va off→Env W→Calls Tryz.prog 100 #[va] W fun e w'=>e=.returned (.string tof)∧New W w'
def CalBack (w:World)(V:Value)(n:Int)(e:Ending)(w':World):Prop:=e=.returned (.tuple #[V,.int .i64 n])∧New w w'
theorem Calibrated_gen (b s z:Int) (g o:ByteArray) (c1:Int) (t1:ByteArray) (c2:Int) (t2:ByteArray) (q1 q2 l h gain off:Rat) (tg tof:ByteArray) (n0 k1 m1 k2 m2 e1 e2 e3 k9:Int) (cb bb:Bool) (I:CalIn b s z g o c1 t1 c2 t2 n0 k1 m1 k2 m2 e1 e2 e3 k9 cb bb) (w:World) (he:Env w) (V:Value) (n:Int)
  (hbad:e3≠0→V=.agg #[.int .i64 0,.int .i64 0,.int .i64 0,.string ⟨#[]⟩,.string ⟨#[]⟩]∧n=e3)
  (hgood:e3=0→CalMid b s z g o c1 t1 c2 t2 q1 q2 l h gain off tg tof∧(gain.num.sign≤0→V=.agg #[.int .i64 0,.int .i64 0,.int .i64 0,.string ⟨#[]⟩,.string ⟨#[]⟩]∧n=3)∧(¬gain.num.sign≤0→V=.agg #[.int .i64 b,.int .i64 s,.int .i64 z,.string tg,.string tof]∧n=0)):
  Calls Tryz.prog 40 #[.agg #[.int .i64 b,.int .i64 s,.int .i64 z,.string g,.string o],.agg #[.int .i64 c1,.string t1],.agg #[.int .i64 c2,.string t2]] w (CalBack w V n):=by
 have hem:=I.em;have hcc:=I.hc;unfold CalBack;have HCC1:=hid I.cc1;have HCC2:=hid I.cc2;have HCK1:=hid I.ck1;have HCK2:=hid I.ck2;have HFF1:=hid I.f1;have HFF2:=hid I.f2;have HF3:=hid I.f3;have HF9:=hid I.f9;have HK:=hid I.chk;have HE:=hid he;have HBAD:=hid hbad;have HGOOD:=hid hgood;clear he hbad hgood;clear I;go_enter Tryz.func40,Tryz.ntmps40;go_wp2_with fail;have BA:=hid ((Box.alloc w (w.heap.size) 32 #[.int .i64 b,.int .i64 s,.int .i64 z,.string g,.string o] (by simp)).new ((((New.refl _).alloc (.cells #[.int .i64 c1,.string t1] 78)).alloc (.cells #[.int .i64 c2,.string t2] 78)).alloc (.cells #[.int .i64 0,.int .i64 0,.int .i64 0,.string ⟨#[]⟩,.string ⟨#[]⟩] 32)));have B1:=hid ((Box.alloc (w.alloc (.cells #[.int .i64 b,.int .i64 s,.int .i64 z,.string g,.string o] 32)) (w.heap.size+1) 78 #[.int .i64 c1,.string t1] (by simp)).new (((New.refl _).alloc (.cells #[.int .i64 c2,.string t2] 78)).alloc (.cells #[.int .i64 0,.int .i64 0,.int .i64 0,.string ⟨#[]⟩,.string ⟨#[]⟩] 32)));have B2:=hid ((Box.alloc ((w.alloc (.cells #[.int .i64 b,.int .i64 s,.int .i64 z,.string g,.string o] 32)).alloc (.cells #[.int .i64 c1,.string t1] 78)) (w.heap.size+1+1) 78 #[.int .i64 c2,.string t2] (by simp)).new ((New.refl _).alloc (.cells #[.int .i64 0,.int .i64 0,.int .i64 0,.string ⟨#[]⟩,.string ⟨#[]⟩] 32)));have BP:=hid ((Box.alloc (((w.alloc (.cells #[.int .i64 b,.int .i64 s,.int .i64 z,.string g,.string o] 32)).alloc (.cells #[.int .i64 c1,.string t1] 78)).alloc (.cells #[.int .i64 c2,.string t2] 78)) (w.heap.size+1+1+1) 32 #[.int .i64 0,.int .i64 0,.int .i64 0,.string ⟨#[]⟩,.string ⟨#[]⟩] (by simp)).new (New.refl _));have HN:=hid (((((New.refl w).alloc (.cells #[.int .i64 b,.int .i64 s,.int .i64 z,.string g,.string o] 32)).alloc (.cells #[.int .i64 c1,.string t1] 78)).alloc (.cells #[.int .i64 c2,.string t2] 78)).alloc (.cells #[.int .i64 0,.int .i64 0,.int .i64 0,.string ⟨#[]⟩,.string ⟨#[]⟩] 32));refine (HK.out _ (HE.out.new HN.out)).mono ?_;rintro e w1 ⟨rfl,hn⟩;replace BA:=bW BA hn;replace B1:=bW B1 hn;replace B2:=bW B2 hn;replace BP:=bW BP hn;replace HN:=tW HN hn;clear hn;obtain ⟨p0,p1,p2,p3,p4⟩:=B1.out.two;obtain ⟨q0,q1,q2,q3,q4⟩:=B2.out.two;go_wp2_with fail;clear p0 p1 p2 p3 p4 q0 q1 q2 q3 q4;have HNW:=HN;have HENW:=hid (HE.out.new HN.out);clear HN;go_loopw [8,24] (fun ev i wr=>∃ (k:Nat),k≤2∧((k=0∧ev=.int .i64 n0)∨(k=1∧ev=.int .i64 e1)∨(k=2∧ev=.int .i64 e2))∧i=.int .i64 (k:Int)∧Hid (New w1 wr)) (fun _ i _=>2 - (intOf i).toNat)
 case atStart=>exact ⟨0,by omega,.inl ⟨rfl,rfl⟩,rfl,hid (New.refl _)⟩
 case round=>
  obtain ⟨k,hk2,hev,rfl,HN⟩:=hrel;clear hk2;rcases hev with ⟨rfl,rfl⟩ | ⟨rfl,rfl⟩ | ⟨rfl,rfl⟩
  ·have HCC:=HCC1;have HCK:=HCK1;have HFF:=HFF1;have BA_:=BA.out.new HN.out;have BI:=hid BA_;clear BA_;have hix:=fun W=>(mark_at (.int .i64 c1) (.string t1) (.int .i64 c2) (.string t2) W).1;have HEN:=hid (HE.out.new HNW.out);go_wp2_with fail;clear hix;have HN0:=HN;clear HN;obtain ⟨BM,HN⟩:=lay1 wr 78 #[.int .i64 c1,.string t1];replace BI:=hid (BI.out.new HN.out);have HN_:=HN0.out.trans HN.out;clear HN HN0;have HN:=hid HN_;clear HN_;obtain ⟨⟨pa0,pa1,pa2,pa3,pa4⟩,pa5⟩:=BI.out.five;obtain ⟨pm0,pm1,pm2,pm3,pm4⟩:=BM.out.two;clear pa0 pa1 pa2 pa3 pa4 pa5;clear pm0 pm1 pm2 pm3 pm4;refine wp_region_T 10 (fun W=>(W.cell? ⟨w.heap.size,0,none⟩=some (.int .i64 b)∧W.cell? ⟨w.heap.size,1,none⟩=some (.int .i64 s)∧W.cell? ⟨w.heap.size,2,none⟩=some (.int .i64 z)∧W.cell? ⟨w.heap.size,3,none⟩=some (.string g)∧W.cell? ⟨w.heap.size,4,none⟩=some (.string o))∧(W.cell? ⟨wr.heap.size,0,none⟩=some (.int .i64 c1)∧W.cell? ⟨wr.heap.size,1,none⟩=some (.string t1))) 11 #[false,false,false,false,false,false,false,false,false,false,false] rfl (by kernel_rfl) (by kernel_rfl) ?_;refine tk 0 (by exact ⟨cW5 BI,cW2 BM⟩) ?_
   try simp only[PT]
   refine tk 1 (by exact ⟨cW5 BI,cW2 BM⟩) ?_
   try simp only[PT]
   refine tk 2 (by exact ⟨cW5 BI,cW2 BM⟩) ?_
   try simp only[PT]
   refine tk 3 (by exact ⟨cW5 BI,cW2 BM⟩) ?_
   try simp only[PT]
   refine tk 5 (by exact ⟨cW5 BI,cW2 BM⟩) ?_
   try simp only[PT]
   refine tk 6 (by exact ⟨cW5 BI,cW2 BM⟩) ?_
   try simp only[PT]
   refine tk1 4 fun K hK=>?_;go_simp;refine (HCC.out _ (HEN.out.new HN.out.drew)).mono ?_;rintro e w2 ⟨rfl,hn⟩;have hn:=hn.undrew;replace BI:=bW BI hn;replace BM:=bW BM hn;replace HN:=tW HN hn;clear hn;refine hK.out _ _ (fun _=>⟨cW5 BI,cW2 BM⟩) ?_;clear hK K
   try simp only[PT]
   refine tk1 7 fun K hK=>?_;go_simp;refine (HCK.out _ (HEN.out.new HN.out)).mono ?_;rintro e w3 ⟨rfl,hn⟩;replace BI:=bW BI hn;replace BM:=bW BM hn;replace HN:=tW HN hn;clear hn;refine hK.out _ _ (fun _=>⟨cW5 BI,cW2 BM⟩) ?_;clear hK K
   try simp only[PT]
   refine tk1 8 fun K hK=>?_;go_simp;have HN0:=HN;clear HN;obtain ⟨BG,HN⟩:=lay1 w3 29 #[.int .i64 n0,.int .i64 k1,.int .i64 m1];replace BI:=hid (BI.out.new HN.out);replace BM:=hid (BM.out.new HN.out);have HN_:=HN0.out.trans HN.out;clear HN HN0;have HN:=hid HN_;clear HN_;refine hK.out _ _ (fun _=>⟨cW5 BI,cW2 BM⟩) ?_;clear hK K
   try simp only[PT]
   refine tk1 9 fun K hK=>?_;go_simp;refine (pfirst3_newZ n0 k1 m1 _ _ 29 _ BG.out).mono ?_;rintro e w4 ⟨rfl,hn⟩;rw[HFF.out];replace BI:=bW BI hn;replace BM:=bW BM hn;replace HN:=tW HN hn;clear hn;refine hK.out _ _ (fun _=>⟨cW5 BI,cW2 BM⟩) ?_;clear hK K
   try simp only[PT]
   refine tlW ?_;obtain ⟨⟨pa0,pa1,pa2,pa3,pa4⟩,pa5⟩:=BI.out.five;obtain ⟨pm0,pm1,pm2,pm3,pm4⟩:=BM.out.two;clear pa0 pa1 pa2 pa3 pa4 pa5;clear pm0 pm1 pm2 pm3 pm4;go_wp2_with fail;go_roundw
   case rel=>exact ⟨1,by omega,.inr <| .inl ⟨rfl,rfl⟩,by go_num,HN⟩
   case measure=>simp[intOf]
  ·have HCC:=HCC2;have HCK:=HCK2;have HFF:=HFF2;have BA_:=BA.out.new HN.out;have BI:=hid BA_;clear BA_;have hix:=fun W=>(mark_at (.int .i64 c1) (.string t1) (.int .i64 c2) (.string t2) W).2;have HEN:=hid (HE.out.new HNW.out);go_wp2_with fail;clear hix;have HN0:=HN;clear HN;obtain ⟨BM,HN⟩:=lay1 wr 78 #[.int .i64 c2,.string t2];replace BI:=hid (BI.out.new HN.out);have HN_:=HN0.out.trans HN.out;clear HN HN0;have HN:=hid HN_;clear HN_;obtain ⟨⟨pa0,pa1,pa2,pa3,pa4⟩,pa5⟩:=BI.out.five;obtain ⟨pm0,pm1,pm2,pm3,pm4⟩:=BM.out.two;clear pa0 pa1 pa2 pa3 pa4 pa5;clear pm0 pm1 pm2 pm3 pm4;refine wp_region_T 10 (fun W=>(W.cell? ⟨w.heap.size,0,none⟩=some (.int .i64 b)∧W.cell? ⟨w.heap.size,1,none⟩=some (.int .i64 s)∧W.cell? ⟨w.heap.size,2,none⟩=some (.int .i64 z)∧W.cell? ⟨w.heap.size,3,none⟩=some (.string g)∧W.cell? ⟨w.heap.size,4,none⟩=some (.string o))∧(W.cell? ⟨wr.heap.size,0,none⟩=some (.int .i64 c2)∧W.cell? ⟨wr.heap.size,1,none⟩=some (.string t2))) 11 #[false,false,false,false,false,false,false,false,false,false,false] rfl (by kernel_rfl) (by kernel_rfl) ?_;refine tk 0 (by exact ⟨cW5 BI,cW2 BM⟩) ?_
   try simp only[PT]
   refine tk 1 (by exact ⟨cW5 BI,cW2 BM⟩) ?_
   try simp only[PT]
   refine tk 2 (by exact ⟨cW5 BI,cW2 BM⟩) ?_
   try simp only[PT]
   refine tk 3 (by exact ⟨cW5 BI,cW2 BM⟩) ?_
   try simp only[PT]
   refine tk 5 (by exact ⟨cW5 BI,cW2 BM⟩) ?_
   try simp only[PT]
   refine tk 6 (by exact ⟨cW5 BI,cW2 BM⟩) ?_
   try simp only[PT]
   refine tk1 4 fun K hK=>?_;go_simp;refine (HCC.out _ (HEN.out.new HN.out.drew)).mono ?_;rintro e w2 ⟨rfl,hn⟩;have hn:=hn.undrew;replace BI:=bW BI hn;replace BM:=bW BM hn;replace HN:=tW HN hn;clear hn;refine hK.out _ _ (fun _=>⟨cW5 BI,cW2 BM⟩) ?_;clear hK K
   try simp only[PT]
   refine tk1 7 fun K hK=>?_;go_simp;refine (HCK.out _ (HEN.out.new HN.out)).mono ?_;rintro e w3 ⟨rfl,hn⟩;replace BI:=bW BI hn;replace BM:=bW BM hn;replace HN:=tW HN hn;clear hn;refine hK.out _ _ (fun _=>⟨cW5 BI,cW2 BM⟩) ?_;clear hK K
   try simp only[PT]
   refine tk1 8 fun K hK=>?_;go_simp;have HN0:=HN;clear HN;obtain ⟨BG,HN⟩:=lay1 w3 29 #[.int .i64 e1,.int .i64 k2,.int .i64 m2];replace BI:=hid (BI.out.new HN.out);replace BM:=hid (BM.out.new HN.out);have HN_:=HN0.out.trans HN.out;clear HN HN0;have HN:=hid HN_;clear HN_;refine hK.out _ _ (fun _=>⟨cW5 BI,cW2 BM⟩) ?_;clear hK K
   try simp only[PT]
   refine tk1 9 fun K hK=>?_;go_simp;refine (pfirst3_newZ e1 k2 m2 _ _ 29 _ BG.out).mono ?_;rintro e w4 ⟨rfl,hn⟩;rw[HFF.out];replace BI:=bW BI hn;replace BM:=bW BM hn;replace HN:=tW HN hn;clear hn;refine hK.out _ _ (fun _=>⟨cW5 BI,cW2 BM⟩) ?_;clear hK K
   try simp only[PT]
   refine tlW ?_;obtain ⟨⟨pa0,pa1,pa2,pa3,pa4⟩,pa5⟩:=BI.out.five;obtain ⟨pm0,pm1,pm2,pm3,pm4⟩:=BM.out.two;clear pa0 pa1 pa2 pa3 pa4 pa5;clear pm0 pm1 pm2 pm3 pm4;go_wp2_with fail;go_roundw
   case rel=>exact ⟨2,by omega,.inr <| .inr ⟨rfl,rfl⟩,by go_num,HN⟩
   case measure=>simp[intOf]
  ·have HEN:=hid (HE.out.new HNW.out);have BA_:=BA.out.new HN.out;have B1_:=B1.out.new HN.out;have B2_:=B2.out.new HN.out;have BP_:=BP.out.new HN.out;clear BA B1 B2 BP;have BA:=hid BA_;have B1:=hid B1_;have B2:=hid B2_;have BP:=hid BP_;clear BA_ B1_ B2_ BP_;obtain ⟨p0,p1,p2,p3,p4⟩:=B1.out.two;obtain ⟨q0,q1,q2,q3,q4⟩:=B2.out.two
   cases bb with
   | true=>
    have h9:(9:Int)=k9:=by have:=HF9.out;simpa using this
    have hw9:∀ W,Calls Tryz.prog 75 #[.bool true,.int .i64 9] W fun e w'=>e=.returned (.int .i64 k9)∧New W w':=fun W=>(pwhen_new true 9 W).mono fun e w' h=>⟨h.1.trans (by rw[←h9];rfl),h.2⟩
    have h0:e3≠0:=by
     have h3:=HF3.out;rw[←h9] at h3;split at h3 <;> omega
    clear h9;have HW9:=hid hw9;clear hw9
    have h3b:(e3 != 0)=true:=by simpa using h0
    have HH0:=hid h0;clear h0;go_wp2_with fail;refine (HW9.out _).mono ?_;rintro e w5 ⟨rfl,hn⟩;clear p0 p1 p2 p3 p4 q0 q1 q2 q3 q4;replace BA:=bW BA hn;replace B1:=bW B1 hn;replace B2:=bW B2 hn;replace BP:=bW BP hn;replace HN:=tW HN hn;clear hn;go_wp2_with fail;have HN0:=HN;clear HN;obtain ⟨BG,HN⟩:=lay1 w5 29 #[.int .i64 e2,.int .i64 k9];replace BA:=hid (BA.out.new HN.out);replace B1:=hid (B1.out.new HN.out);replace B2:=hid (B2.out.new HN.out);replace BP:=hid (BP.out.new HN.out);have HN_:=HN0.out.trans HN.out;clear HN HN0;have HN:=hid HN_;clear HN_;refine (pfirst2_new e2 k9 _ _ 29 _ BG.out).mono ?_;rintro e w8 ⟨rfl,hn⟩;rw[HF3.out];replace BA:=bW BA hn;replace B1:=bW B1 hn;replace B2:=bW B2 hn;replace BP:=bW BP hn;replace HN:=tW HN hn;clear hn;clear BG;obtain ⟨⟨y0,y1,y2,y3,y4⟩,y5⟩:=BP.out.five;have x0:=BP.out.frozen 0;have x1:=BP.out.frozen 1;have x2:=BP.out.frozen 2;have x3:=BP.out.frozen 3;have x4:=BP.out.frozen 4;go_wp2_with fail;refine bodyPost_ret (v:=.tuple #[.agg #[.int .i64 0,.int .i64 0,.int .i64 0,.string ⟨#[]⟩,.string ⟨#[]⟩],.int .i64 e3]) (by simp[results,Tryz.results40,go_sem,y0,y1,y2,y3,y4]) rfl ?_;have hNX:=HNW.out.trans HN.out
    have hP1:w.heap.size≤w.heap.size+1+1+1:=by omega
    exact ⟨by rw[(HBAD.out HH0.out).1,(HBAD.out HH0.out).2],((((hNX.setCell (p:=⟨w.heap.size+1+1+1,0,none⟩) hP1 _).setCell (p:=⟨w.heap.size+1+1+1,1,none⟩) hP1 _).setCell (p:=⟨w.heap.size+1+1+1,2,none⟩) hP1 _).setCell (p:=⟨w.heap.size+1+1+1,3,none⟩) hP1 _).setCell (p:=⟨w.heap.size+1+1+1,4,none⟩) hP1 _⟩
   | false=>
    have HFK:Hid ((if cb=true then (9:Int) else 0)=k9):=hid (by have:=HF9.out;simpa using this);go_wp2_with fail;refine (pwhen_new cb 9 _).mono ?_;rintro e w5 ⟨rfl,hn⟩;rw[HFK.out];clear p0 p1 p2 p3 p4 q0 q1 q2 q3 q4;replace BA:=bW BA hn;replace B1:=bW B1 hn;replace B2:=bW B2 hn;replace BP:=bW BP hn;replace HN:=tW HN hn;clear hn;go_wp2_with fail;have HN0:=HN;clear HN;obtain ⟨BG,HN⟩:=lay1 w5 29 #[.int .i64 e2,.int .i64 k9];replace BA:=hid (BA.out.new HN.out);replace B1:=hid (B1.out.new HN.out);replace B2:=hid (B2.out.new HN.out);replace BP:=hid (BP.out.new HN.out);have HN_:=HN0.out.trans HN.out;clear HN HN0;have HN:=hid HN_;clear HN_;refine (pfirst2_new e2 k9 _ _ 29 _ BG.out).mono ?_;rintro e w8 ⟨rfl,hn⟩;rw[HF3.out];replace BA:=bW BA hn;replace B1:=bW B1 hn;replace B2:=bW B2 hn;replace BP:=bW BP hn;replace HN:=tW HN hn;clear hn;clear BG;by_cases h0:e3=0
    ·subst h0;obtain ⟨K,hpo⟩:=HGOOD.out rfl;clear HGOOD HBAD HK HCC1 HCC2 HCK1 HCK2 HFF1 HFF2 HF3 HF9 HFK;have HK:=hid K;have HPO:=hid hpo;clear K hpo;go_upto_region 10 with (fail);have HN1:=HN;clear HN
     go_cut [11,12] (fun x y wx=>∃ (L H:Nat),x=.pointer (some ⟨L,0,none⟩)∧y=.pointer (some ⟨H,0,none⟩)∧New w8 wx∧FracAt wx L l∧FracAt wx H h)
     case first=>
      have HN:=hid (New.refl w8);obtain ⟨⟨pa0,pa1,pa2,pa3,pa4⟩,pa5⟩:=BA.out.five;obtain ⟨p0,p1,p2,p3,p4⟩:=B1.out.two;obtain ⟨q0,q1,q2,q3,q4⟩:=B2.out.two;refine wp_region_T 10 (fun W=>(W.cell? ⟨w.heap.size,0,none⟩=some (.int .i64 b)∧W.cell? ⟨w.heap.size,1,none⟩=some (.int .i64 s)∧W.cell? ⟨w.heap.size,2,none⟩=some (.int .i64 z)∧W.cell? ⟨w.heap.size,3,none⟩=some (.string g)∧W.cell? ⟨w.heap.size,4,none⟩=some (.string o))∧(W.cell? ⟨w.heap.size+1,0,none⟩=some (.int .i64 c1)∧W.cell? ⟨w.heap.size+1,1,none⟩=some (.string t1))∧(W.cell? ⟨w.heap.size+1+1,0,none⟩=some (.int .i64 c2)∧W.cell? ⟨w.heap.size+1+1,1,none⟩=some (.string t2))) 12 #[false,false,false,false,false,false,false,false,false,false,false,false] rfl (by kernel_rfl) (by kernel_rfl) ?_;clear pa0 pa1 pa2 pa3 pa4 pa5;clear p0 p1 p2 p3 p4 q0 q1 q2 q3 q4;replace BA:=hid (BA.out.new (New.refl w8).drew);replace B1:=hid (B1.out.new (New.refl w8).drew);replace B2:=hid (B2.out.new (New.refl w8).drew);replace HN:=hid (HN.out.drew);obtain ⟨wdr,hwd⟩:∃ x,w8.drew=x:=⟨_,rfl⟩;rw[hwd] at HN BA B1 B2⊢;clear hwd;refine tk 0 (by exact ⟨cW5 BA,cW2 B1,cW2 B2⟩) ?_
      try simp only[PT]
      refine tk 1 (by exact ⟨cW5 BA,cW2 B1,cW2 B2⟩) ?_
      try simp only[PT]
      refine tk 2 (by exact ⟨cW5 BA,cW2 B1,cW2 B2⟩) ?_
      try simp only[PT]
      refine tk 4 (by exact ⟨cW5 BA,cW2 B1,cW2 B2⟩) ?_
      try simp only[PT]
      refine tk 5 (by exact ⟨cW5 BA,cW2 B1,cW2 B2⟩) ?_
      try simp only[PT]
      refine tk 6 (by exact ⟨cW5 BA,cW2 B1,cW2 B2⟩) ?_
      try simp only[PT]
      refine wpT_three 3 8 9 rfl rfl rfl (by kernel_rfl) (fun K hK=>?_) (fun K hK=>?_) (fun K hK=>?_)
      ·skip
       go_simp;refine (HK.out.nom1 _).mono ?_;rintro e w9 ⟨v9,rfl,hn,hf⟩;obtain ⟨s9,a9,l9,k9,t9,b9,m9,n9,rfl⟩:=hf.shape;have HF9:=hid hf;clear hf;replace BA:=bW BA hn;replace B1:=bW B1 hn;replace B2:=bW B2 hn;replace HN:=tW HN hn;clear hn;refine hK.out _ _ (fun _=>⟨cW5 BA,cW2 B1,cW2 B2⟩) ?_;clear hK K
       try simp only[PT]
       refine wpT_three 7 8 9 rfl rfl rfl (by kernel_rfl) (fun K hK=>?_) (fun K hK=>?_) (fun K hK=>?_)
       ·skip
        go_simp;refine (HK.out.nom2 _).mono ?_;rintro e w10 ⟨v10,rfl,hn,hf⟩;obtain ⟨s8,a8,l8,k8,t8,b8,m8,n8,rfl⟩:=hf.shape;have HF10:=hid hf;clear hf;replace BA:=bW BA hn;replace B1:=bW B1 hn;replace B2:=bW B2 hn;replace HF9:=hid (HF9.out.new hn);replace HN:=tW HN hn;clear hn;refine hK.out _ _ (fun _=>⟨cW5 BA,cW2 B1,cW2 B2⟩) ?_;clear hK K
        try simp only[PT]
        refine wpT_two 8 9 rfl rfl (by kernel_rfl) (fun K hK=>?_) (fun K hK=>?_)
        ·skip
         go_simp;have LBL:=hid (HN.out.size);obtain ⟨wa1,hwa,BL_,hn⟩:=laid1 w10 122 #[.int .i64 0,.slice none 0 0,.int .i64 0,.slice none 0 0];rw[hwa];clear hwa;have BL:=hid BL_;clear BL_;replace BA:=bW BA hn;replace B1:=bW B1 hn;replace B2:=bW B2 hn;replace HF9:=hid (HF9.out.new hn);replace HF10:=hid (HF10.out.new hn);replace HN:=tW HN hn;clear hn;refine hK.out _ _ (fun _=>⟨cW5 BA,cW2 B1,cW2 B2⟩) ?_;clear hK K
         try simp only[PT]
         refine tk1 9 fun K hK=>?_;go_simp;have LBH:=hid (HN.out.size);have NEBLBH:=hid (Nat.ne_of_lt BL.out.lt);obtain ⟨wa2,hwa,BH_,hn⟩:=laid1 wa1 122 #[.int .i64 0,.slice none 0 0,.int .i64 0,.slice none 0 0];rw[hwa];clear hwa;have BH:=hid BH_;clear BH_;replace BA:=bW BA hn;replace B1:=bW B1 hn;replace B2:=bW B2 hn;replace HF9:=hid (HF9.out.new hn);replace HF10:=hid (HF10.out.new hn);replace BL:=bW BL hn;replace HN:=tW HN hn;clear hn;refine hK.out _ _ (fun _=>⟨cW5 BA,cW2 B1,cW2 B2⟩) ?_;clear hK K
         try simp only[PT]
         refine tlW ?_;obtain ⟨⟨pa0,pa1,pa2,pa3,pa4⟩,pa5⟩:=BA.out.five;obtain ⟨p0,p1,p2,p3,p4⟩:=B1.out.two;obtain ⟨q0,q1,q2,q3,q4⟩:=B2.out.two;obtain ⟨⟨u0,u1,u2,u3⟩,u4,u5,u6,u7,u8⟩:=BL.out.four;obtain ⟨⟨v0,v1,v2,v3⟩,v4,v5,v6,v7,v8⟩:=BH.out.four;have hne:=NEBLBH.out;have hne':=NEBLBH.out.symm;go_wp2_with fail
         go_meet
         obtain ⟨r1,r2,r3,r4,r5⟩:=two_put HN.out BL.out BH.out LBL.out LBH.out NEBLBH.out HF9.out HF10.out _ rfl;exact ⟨_,_,rfl,rfl,r1,⟨_,_,_,_,_,_,_,_,r2,r4⟩,⟨_,_,_,_,_,_,_,_,r3,r5⟩⟩
        ·skip
         go_simp;have LBH:=hid (HN.out.size);obtain ⟨wa1,hwa,BH_,hn⟩:=laid1 w10 122 #[.int .i64 0,.slice none 0 0,.int .i64 0,.slice none 0 0];rw[hwa];clear hwa;have BH:=hid BH_;clear BH_;replace BA:=bW BA hn;replace B1:=bW B1 hn;replace B2:=bW B2 hn;replace HF9:=hid (HF9.out.new hn);replace HF10:=hid (HF10.out.new hn);replace HN:=tW HN hn;clear hn;refine hK.out _ _ (fun _=>⟨cW5 BA,cW2 B1,cW2 B2⟩) ?_;clear hK K
         try simp only[PT]
         refine tk1 8 fun K hK=>?_;go_simp;have LBL:=hid (HN.out.size);have NEBLBH:=hid (Nat.ne_of_gt BH.out.lt);obtain ⟨wa2,hwa,BL_,hn⟩:=laid1 wa1 122 #[.int .i64 0,.slice none 0 0,.int .i64 0,.slice none 0 0];rw[hwa];clear hwa;have BL:=hid BL_;clear BL_;replace BA:=bW BA hn;replace B1:=bW B1 hn;replace B2:=bW B2 hn;replace HF9:=hid (HF9.out.new hn);replace HF10:=hid (HF10.out.new hn);replace BH:=bW BH hn;replace HN:=tW HN hn;clear hn;refine hK.out _ _ (fun _=>⟨cW5 BA,cW2 B1,cW2 B2⟩) ?_;clear hK K
         try simp only[PT]
         refine tlW ?_;obtain ⟨⟨pa0,pa1,pa2,pa3,pa4⟩,pa5⟩:=BA.out.five;obtain ⟨p0,p1,p2,p3,p4⟩:=B1.out.two;obtain ⟨q0,q1,q2,q3,q4⟩:=B2.out.two;obtain ⟨⟨u0,u1,u2,u3⟩,u4,u5,u6,u7,u8⟩:=BL.out.four;obtain ⟨⟨v0,v1,v2,v3⟩,v4,v5,v6,v7,v8⟩:=BH.out.four;have hne:=NEBLBH.out;have hne':=NEBLBH.out.symm;go_wp2_with fail
         go_meet
         obtain ⟨r1,r2,r3,r4,r5⟩:=two_put HN.out BL.out BH.out LBL.out LBH.out NEBLBH.out HF9.out HF10.out _ rfl;exact ⟨_,_,rfl,rfl,r1,⟨_,_,_,_,_,_,_,_,r2,r4⟩,⟨_,_,_,_,_,_,_,_,r3,r5⟩⟩
       ·skip
        go_simp;have LBL:=hid (HN.out.size);obtain ⟨wa1,hwa,BL_,hn⟩:=laid1 w9 122 #[.int .i64 0,.slice none 0 0,.int .i64 0,.slice none 0 0];rw[hwa];clear hwa;have BL:=hid BL_;clear BL_;replace BA:=bW BA hn;replace B1:=bW B1 hn;replace B2:=bW B2 hn;replace HF9:=hid (HF9.out.new hn);replace HN:=tW HN hn;clear hn;refine hK.out _ _ (fun _=>⟨cW5 BA,cW2 B1,cW2 B2⟩) ?_;clear hK K
        try simp only[PT]
        refine wpT_two 7 9 rfl rfl (by kernel_rfl) (fun K hK=>?_) (fun K hK=>?_)
        ·skip
         go_simp;refine (HK.out.nom2 _).mono ?_;rintro e w10 ⟨v10,rfl,hn,hf⟩;obtain ⟨s8,a8,l8,k8,t8,b8,m8,n8,rfl⟩:=hf.shape;have HF10:=hid hf;clear hf;replace BA:=bW BA hn;replace B1:=bW B1 hn;replace B2:=bW B2 hn;replace HF9:=hid (HF9.out.new hn);replace BL:=bW BL hn;replace HN:=tW HN hn;clear hn;refine hK.out _ _ (fun _=>⟨cW5 BA,cW2 B1,cW2 B2⟩) ?_;clear hK K
         try simp only[PT]
         refine tk1 9 fun K hK=>?_;go_simp;have LBH:=hid (HN.out.size);have NEBLBH:=hid (Nat.ne_of_lt BL.out.lt);obtain ⟨wa2,hwa,BH_,hn⟩:=laid1 w10 122 #[.int .i64 0,.slice none 0 0,.int .i64 0,.slice none 0 0];rw[hwa];clear hwa;have BH:=hid BH_;clear BH_;replace BA:=bW BA hn;replace B1:=bW B1 hn;replace B2:=bW B2 hn;replace HF9:=hid (HF9.out.new hn);replace BL:=bW BL hn;replace HF10:=hid (HF10.out.new hn);replace HN:=tW HN hn;clear hn;refine hK.out _ _ (fun _=>⟨cW5 BA,cW2 B1,cW2 B2⟩) ?_;clear hK K
         try simp only[PT]
         refine tlW ?_;obtain ⟨⟨pa0,pa1,pa2,pa3,pa4⟩,pa5⟩:=BA.out.five;obtain ⟨p0,p1,p2,p3,p4⟩:=B1.out.two;obtain ⟨q0,q1,q2,q3,q4⟩:=B2.out.two;obtain ⟨⟨u0,u1,u2,u3⟩,u4,u5,u6,u7,u8⟩:=BL.out.four;obtain ⟨⟨v0,v1,v2,v3⟩,v4,v5,v6,v7,v8⟩:=BH.out.four;have hne:=NEBLBH.out;have hne':=NEBLBH.out.symm;go_wp2_with fail
         go_meet
         obtain ⟨r1,r2,r3,r4,r5⟩:=two_put HN.out BL.out BH.out LBL.out LBH.out NEBLBH.out HF9.out HF10.out _ rfl;exact ⟨_,_,rfl,rfl,r1,⟨_,_,_,_,_,_,_,_,r2,r4⟩,⟨_,_,_,_,_,_,_,_,r3,r5⟩⟩
        ·skip
         go_simp;have LBH:=hid (HN.out.size);have NEBLBH:=hid (Nat.ne_of_lt BL.out.lt);obtain ⟨wa2,hwa,BH_,hn⟩:=laid1 wa1 122 #[.int .i64 0,.slice none 0 0,.int .i64 0,.slice none 0 0];rw[hwa];clear hwa;have BH:=hid BH_;clear BH_;replace BA:=bW BA hn;replace B1:=bW B1 hn;replace B2:=bW B2 hn;replace HF9:=hid (HF9.out.new hn);replace BL:=bW BL hn;replace HN:=tW HN hn;clear hn;refine hK.out _ _ (fun _=>⟨cW5 BA,cW2 B1,cW2 B2⟩) ?_;clear hK K
         try simp only[PT]
         refine tk1 7 fun K hK=>?_;go_simp;refine (HK.out.nom2 _).mono ?_;rintro e w10 ⟨v10,rfl,hn,hf⟩;obtain ⟨s8,a8,l8,k8,t8,b8,m8,n8,rfl⟩:=hf.shape;have HF10:=hid hf;clear hf;replace BA:=bW BA hn;replace B1:=bW B1 hn;replace B2:=bW B2 hn;replace HF9:=hid (HF9.out.new hn);replace BL:=bW BL hn;replace BH:=bW BH hn;replace HN:=tW HN hn;clear hn;refine hK.out _ _ (fun _=>⟨cW5 BA,cW2 B1,cW2 B2⟩) ?_;clear hK K
         try simp only[PT]
         refine tlW ?_;obtain ⟨⟨pa0,pa1,pa2,pa3,pa4⟩,pa5⟩:=BA.out.five;obtain ⟨p0,p1,p2,p3,p4⟩:=B1.out.two;obtain ⟨q0,q1,q2,q3,q4⟩:=B2.out.two;obtain ⟨⟨u0,u1,u2,u3⟩,u4,u5,u6,u7,u8⟩:=BL.out.four;obtain ⟨⟨v0,v1,v2,v3⟩,v4,v5,v6,v7,v8⟩:=BH.out.four;have hne:=NEBLBH.out;have hne':=NEBLBH.out.symm;go_wp2_with fail
         go_meet
         obtain ⟨r1,r2,r3,r4,r5⟩:=two_put HN.out BL.out BH.out LBL.out LBH.out NEBLBH.out HF9.out HF10.out _ rfl;exact ⟨_,_,rfl,rfl,r1,⟨_,_,_,_,_,_,_,_,r2,r4⟩,⟨_,_,_,_,_,_,_,_,r3,r5⟩⟩
       ·skip
        go_simp;have LBH:=hid (HN.out.size);obtain ⟨wa1,hwa,BH_,hn⟩:=laid1 w9 122 #[.int .i64 0,.slice none 0 0,.int .i64 0,.slice none 0 0];rw[hwa];clear hwa;have BH:=hid BH_;clear BH_;replace BA:=bW BA hn;replace B1:=bW B1 hn;replace B2:=bW B2 hn;replace HF9:=hid (HF9.out.new hn);replace HN:=tW HN hn;clear hn;refine hK.out _ _ (fun _=>⟨cW5 BA,cW2 B1,cW2 B2⟩) ?_;clear hK K
        try simp only[PT]
        refine wpT_two 7 8 rfl rfl (by kernel_rfl) (fun K hK=>?_) (fun K hK=>?_)
        ·skip
         go_simp;refine (HK.out.nom2 _).mono ?_;rintro e w10 ⟨v10,rfl,hn,hf⟩;obtain ⟨s8,a8,l8,k8,t8,b8,m8,n8,rfl⟩:=hf.shape;have HF10:=hid hf;clear hf;replace BA:=bW BA hn;replace B1:=bW B1 hn;replace B2:=bW B2 hn;replace HF9:=hid (HF9.out.new hn);replace BH:=bW BH hn;replace HN:=tW HN hn;clear hn;refine hK.out _ _ (fun _=>⟨cW5 BA,cW2 B1,cW2 B2⟩) ?_;clear hK K
         try simp only[PT]
         refine tk1 8 fun K hK=>?_;go_simp;have LBL:=hid (HN.out.size);have NEBLBH:=hid (Nat.ne_of_gt BH.out.lt);obtain ⟨wa2,hwa,BL_,hn⟩:=laid1 w10 122 #[.int .i64 0,.slice none 0 0,.int .i64 0,.slice none 0 0];rw[hwa];clear hwa;have BL:=hid BL_;clear BL_;replace BA:=bW BA hn;replace B1:=bW B1 hn;replace B2:=bW B2 hn;replace HF9:=hid (HF9.out.new hn);replace BH:=bW BH hn;replace HF10:=hid (HF10.out.new hn);replace HN:=tW HN hn;clear hn;refine hK.out _ _ (fun _=>⟨cW5 BA,cW2 B1,cW2 B2⟩) ?_;clear hK K
         try simp only[PT]
         refine tlW ?_;obtain ⟨⟨pa0,pa1,pa2,pa3,pa4⟩,pa5⟩:=BA.out.five;obtain ⟨p0,p1,p2,p3,p4⟩:=B1.out.two;obtain ⟨q0,q1,q2,q3,q4⟩:=B2.out.two;obtain ⟨⟨u0,u1,u2,u3⟩,u4,u5,u6,u7,u8⟩:=BL.out.four;obtain ⟨⟨v0,v1,v2,v3⟩,v4,v5,v6,v7,v8⟩:=BH.out.four;have hne:=NEBLBH.out;have hne':=NEBLBH.out.symm;go_wp2_with fail
         go_meet
         obtain ⟨r1,r2,r3,r4,r5⟩:=two_put HN.out BL.out BH.out LBL.out LBH.out NEBLBH.out HF9.out HF10.out _ rfl;exact ⟨_,_,rfl,rfl,r1,⟨_,_,_,_,_,_,_,_,r2,r4⟩,⟨_,_,_,_,_,_,_,_,r3,r5⟩⟩
        ·skip
         go_simp;have LBL:=hid (HN.out.size);have NEBLBH:=hid (Nat.ne_of_gt BH.out.lt);obtain ⟨wa2,hwa,BL_,hn⟩:=laid1 wa1 122 #[.int .i64 0,.slice none 0 0,.int .i64 0,.slice none 0 0];rw[hwa];clear hwa;have BL:=hid BL_;clear BL_;replace BA:=bW BA hn;replace B1:=bW B1 hn;replace B2:=bW B2 hn;replace HF9:=hid (HF9.out.new hn);replace BH:=bW BH hn;replace HN:=tW HN hn;clear hn;refine hK.out _ _ (fun _=>⟨cW5 BA,cW2 B1,cW2 B2⟩) ?_;clear hK K
         try simp only[PT]
         refine tk1 7 fun K hK=>?_;go_simp;refine (HK.out.nom2 _).mono ?_;rintro e w10 ⟨v10,rfl,hn,hf⟩;obtain ⟨s8,a8,l8,k8,t8,b8,m8,n8,rfl⟩:=hf.shape;have HF10:=hid hf;clear hf;replace BA:=bW BA hn;replace B1:=bW B1 hn;replace B2:=bW B2 hn;replace HF9:=hid (HF9.out.new hn);replace BH:=bW BH hn;replace BL:=bW BL hn;replace HN:=tW HN hn;clear hn;refine hK.out _ _ (fun _=>⟨cW5 BA,cW2 B1,cW2 B2⟩) ?_;clear hK K
         try simp only[PT]
         refine tlW ?_;obtain ⟨⟨pa0,pa1,pa2,pa3,pa4⟩,pa5⟩:=BA.out.five;obtain ⟨p0,p1,p2,p3,p4⟩:=B1.out.two;obtain ⟨q0,q1,q2,q3,q4⟩:=B2.out.two;obtain ⟨⟨u0,u1,u2,u3⟩,u4,u5,u6,u7,u8⟩:=BL.out.four;obtain ⟨⟨v0,v1,v2,v3⟩,v4,v5,v6,v7,v8⟩:=BH.out.four;have hne:=NEBLBH.out;have hne':=NEBLBH.out.symm;go_wp2_with fail
         go_meet
         obtain ⟨r1,r2,r3,r4,r5⟩:=two_put HN.out BL.out BH.out LBL.out LBH.out NEBLBH.out HF9.out HF10.out _ rfl;exact ⟨_,_,rfl,rfl,r1,⟨_,_,_,_,_,_,_,_,r2,r4⟩,⟨_,_,_,_,_,_,_,_,r3,r5⟩⟩
      ·skip
       go_simp;have LBL:=hid (HN.out.size);obtain ⟨wa1,hwa,BL_,hn⟩:=laid1 wdr 122 #[.int .i64 0,.slice none 0 0,.int .i64 0,.slice none 0 0];rw[hwa];clear hwa;have BL:=hid BL_;clear BL_;replace BA:=bW BA hn;replace B1:=bW B1 hn;replace B2:=bW B2 hn;replace HN:=tW HN hn;clear hn;refine hK.out _ _ (fun _=>⟨cW5 BA,cW2 B1,cW2 B2⟩) ?_;clear hK K
       try simp only[PT]
       refine wpT_two 3 9 rfl rfl (by kernel_rfl) (fun K hK=>?_) (fun K hK=>?_)
       ·skip
        go_simp;refine (HK.out.nom1 _).mono ?_;rintro e w9 ⟨v9,rfl,hn,hf⟩;obtain ⟨s9,a9,l9,k9,t9,b9,m9,n9,rfl⟩:=hf.shape;have HF9:=hid hf;clear hf;replace BA:=bW BA hn;replace B1:=bW B1 hn;replace B2:=bW B2 hn;replace BL:=bW BL hn;replace HN:=tW HN hn;clear hn;refine hK.out _ _ (fun _=>⟨cW5 BA,cW2 B1,cW2 B2⟩) ?_;clear hK K
        try simp only[PT]
        refine wpT_two 7 9 rfl rfl (by kernel_rfl) (fun K hK=>?_) (fun K hK=>?_)
        ·skip
         go_simp;refine (HK.out.nom2 _).mono ?_;rintro e w10 ⟨v10,rfl,hn,hf⟩;obtain ⟨s8,a8,l8,k8,t8,b8,m8,n8,rfl⟩:=hf.shape;have HF10:=hid hf;clear hf;replace BA:=bW BA hn;replace B1:=bW B1 hn;replace B2:=bW B2 hn;replace BL:=bW BL hn;replace HF9:=hid (HF9.out.new hn);replace HN:=tW HN hn;clear hn;refine hK.out _ _ (fun _=>⟨cW5 BA,cW2 B1,cW2 B2⟩) ?_;clear hK K
         try simp only[PT]
         refine tk1 9 fun K hK=>?_;go_simp;have LBH:=hid (HN.out.size);have NEBLBH:=hid (Nat.ne_of_lt BL.out.lt);obtain ⟨wa2,hwa,BH_,hn⟩:=laid1 w10 122 #[.int .i64 0,.slice none 0 0,.int .i64 0,.slice none 0 0];rw[hwa];clear hwa;have BH:=hid BH_;clear BH_;replace BA:=bW BA hn;replace B1:=bW B1 hn;replace B2:=bW B2 hn;replace BL:=bW BL hn;replace HF9:=hid (HF9.out.new hn);replace HF10:=hid (HF10.out.new hn);replace HN:=tW HN hn;clear hn;refine hK.out _ _ (fun _=>⟨cW5 BA,cW2 B1,cW2 B2⟩) ?_;clear hK K
         try simp only[PT]
         refine tlW ?_;obtain ⟨⟨pa0,pa1,pa2,pa3,pa4⟩,pa5⟩:=BA.out.five;obtain ⟨p0,p1,p2,p3,p4⟩:=B1.out.two;obtain ⟨q0,q1,q2,q3,q4⟩:=B2.out.two;obtain ⟨⟨u0,u1,u2,u3⟩,u4,u5,u6,u7,u8⟩:=BL.out.four;obtain ⟨⟨v0,v1,v2,v3⟩,v4,v5,v6,v7,v8⟩:=BH.out.four;have hne:=NEBLBH.out;have hne':=NEBLBH.out.symm;go_wp2_with fail
         go_meet
         obtain ⟨r1,r2,r3,r4,r5⟩:=two_put HN.out BL.out BH.out LBL.out LBH.out NEBLBH.out HF9.out HF10.out _ rfl;exact ⟨_,_,rfl,rfl,r1,⟨_,_,_,_,_,_,_,_,r2,r4⟩,⟨_,_,_,_,_,_,_,_,r3,r5⟩⟩
        ·skip
         go_simp;have LBH:=hid (HN.out.size);have NEBLBH:=hid (Nat.ne_of_lt BL.out.lt);obtain ⟨wa2,hwa,BH_,hn⟩:=laid1 w9 122 #[.int .i64 0,.slice none 0 0,.int .i64 0,.slice none 0 0];rw[hwa];clear hwa;have BH:=hid BH_;clear BH_;replace BA:=bW BA hn;replace B1:=bW B1 hn;replace B2:=bW B2 hn;replace BL:=bW BL hn;replace HF9:=hid (HF9.out.new hn);replace HN:=tW HN hn;clear hn;refine hK.out _ _ (fun _=>⟨cW5 BA,cW2 B1,cW2 B2⟩) ?_;clear hK K
         try simp only[PT]
         refine tk1 7 fun K hK=>?_;go_simp;refine (HK.out.nom2 _).mono ?_;rintro e w10 ⟨v10,rfl,hn,hf⟩;obtain ⟨s8,a8,l8,k8,t8,b8,m8,n8,rfl⟩:=hf.shape;have HF10:=hid hf;clear hf;replace BA:=bW BA hn;replace B1:=bW B1 hn;replace B2:=bW B2 hn;replace BL:=bW BL hn;replace HF9:=hid (HF9.out.new hn);replace BH:=bW BH hn;replace HN:=tW HN hn;clear hn;refine hK.out _ _ (fun _=>⟨cW5 BA,cW2 B1,cW2 B2⟩) ?_;clear hK K
         try simp only[PT]
         refine tlW ?_;obtain ⟨⟨pa0,pa1,pa2,pa3,pa4⟩,pa5⟩:=BA.out.five;obtain ⟨p0,p1,p2,p3,p4⟩:=B1.out.two;obtain ⟨q0,q1,q2,q3,q4⟩:=B2.out.two;obtain ⟨⟨u0,u1,u2,u3⟩,u4,u5,u6,u7,u8⟩:=BL.out.four;obtain ⟨⟨v0,v1,v2,v3⟩,v4,v5,v6,v7,v8⟩:=BH.out.four;have hne:=NEBLBH.out;have hne':=NEBLBH.out.symm;go_wp2_with fail
         go_meet
         obtain ⟨r1,r2,r3,r4,r5⟩:=two_put HN.out BL.out BH.out LBL.out LBH.out NEBLBH.out HF9.out HF10.out _ rfl;exact ⟨_,_,rfl,rfl,r1,⟨_,_,_,_,_,_,_,_,r2,r4⟩,⟨_,_,_,_,_,_,_,_,r3,r5⟩⟩
       ·skip
        go_simp;have LBH:=hid (HN.out.size);have NEBLBH:=hid (Nat.ne_of_lt BL.out.lt);obtain ⟨wa2,hwa,BH_,hn⟩:=laid1 wa1 122 #[.int .i64 0,.slice none 0 0,.int .i64 0,.slice none 0 0];rw[hwa];clear hwa;have BH:=hid BH_;clear BH_;replace BA:=bW BA hn;replace B1:=bW B1 hn;replace B2:=bW B2 hn;replace BL:=bW BL hn;replace HN:=tW HN hn;clear hn;refine hK.out _ _ (fun _=>⟨cW5 BA,cW2 B1,cW2 B2⟩) ?_;clear hK K
        try simp only[PT]
        refine tk1 3 fun K hK=>?_;go_simp;refine (HK.out.nom1 _).mono ?_;rintro e w9 ⟨v9,rfl,hn,hf⟩;obtain ⟨s9,a9,l9,k9,t9,b9,m9,n9,rfl⟩:=hf.shape;have HF9:=hid hf;clear hf;replace BA:=bW BA hn;replace B1:=bW B1 hn;replace B2:=bW B2 hn;replace BL:=bW BL hn;replace BH:=bW BH hn;replace HN:=tW HN hn;clear hn;refine hK.out _ _ (fun _=>⟨cW5 BA,cW2 B1,cW2 B2⟩) ?_;clear hK K
        try simp only[PT]
        refine tk1 7 fun K hK=>?_;go_simp;refine (HK.out.nom2 _).mono ?_;rintro e w10 ⟨v10,rfl,hn,hf⟩;obtain ⟨s8,a8,l8,k8,t8,b8,m8,n8,rfl⟩:=hf.shape;have HF10:=hid hf;clear hf;replace BA:=bW BA hn;replace B1:=bW B1 hn;replace B2:=bW B2 hn;replace BL:=bW BL hn;replace BH:=bW BH hn;replace HF9:=hid (HF9.out.new hn);replace HN:=tW HN hn;clear hn;refine hK.out _ _ (fun _=>⟨cW5 BA,cW2 B1,cW2 B2⟩) ?_;clear hK K
        try simp only[PT]
        refine tlW ?_;obtain ⟨⟨pa0,pa1,pa2,pa3,pa4⟩,pa5⟩:=BA.out.five;obtain ⟨p0,p1,p2,p3,p4⟩:=B1.out.two;obtain ⟨q0,q1,q2,q3,q4⟩:=B2.out.two;obtain ⟨⟨u0,u1,u2,u3⟩,u4,u5,u6,u7,u8⟩:=BL.out.four;obtain ⟨⟨v0,v1,v2,v3⟩,v4,v5,v6,v7,v8⟩:=BH.out.four;have hne:=NEBLBH.out;have hne':=NEBLBH.out.symm;go_wp2_with fail
        go_meet
        obtain ⟨r1,r2,r3,r4,r5⟩:=two_put HN.out BL.out BH.out LBL.out LBH.out NEBLBH.out HF9.out HF10.out _ rfl;exact ⟨_,_,rfl,rfl,r1,⟨_,_,_,_,_,_,_,_,r2,r4⟩,⟨_,_,_,_,_,_,_,_,r3,r5⟩⟩
      ·skip
       go_simp;have LBH:=hid (HN.out.size);obtain ⟨wa1,hwa,BH_,hn⟩:=laid1 wdr 122 #[.int .i64 0,.slice none 0 0,.int .i64 0,.slice none 0 0];rw[hwa];clear hwa;have BH:=hid BH_;clear BH_;replace BA:=bW BA hn;replace B1:=bW B1 hn;replace B2:=bW B2 hn;replace HN:=tW HN hn;clear hn;refine hK.out _ _ (fun _=>⟨cW5 BA,cW2 B1,cW2 B2⟩) ?_;clear hK K
       try simp only[PT]
       refine wpT_two 3 8 rfl rfl (by kernel_rfl) (fun K hK=>?_) (fun K hK=>?_)
       ·skip
        go_simp;refine (HK.out.nom1 _).mono ?_;rintro e w9 ⟨v9,rfl,hn,hf⟩;obtain ⟨s9,a9,l9,k9,t9,b9,m9,n9,rfl⟩:=hf.shape;have HF9:=hid hf;clear hf;replace BA:=bW BA hn;replace B1:=bW B1 hn;replace B2:=bW B2 hn;replace BH:=bW BH hn;replace HN:=tW HN hn;clear hn;refine hK.out _ _ (fun _=>⟨cW5 BA,cW2 B1,cW2 B2⟩) ?_;clear hK K
        try simp only[PT]
        refine wpT_two 7 8 rfl rfl (by kernel_rfl) (fun K hK=>?_) (fun K hK=>?_)
        ·skip
         go_simp;refine (HK.out.nom2 _).mono ?_;rintro e w10 ⟨v10,rfl,hn,hf⟩;obtain ⟨s8,a8,l8,k8,t8,b8,m8,n8,rfl⟩:=hf.shape;have HF10:=hid hf;clear hf;replace BA:=bW BA hn;replace B1:=bW B1 hn;replace B2:=bW B2 hn;replace BH:=bW BH hn;replace HF9:=hid (HF9.out.new hn);replace HN:=tW HN hn;clear hn;refine hK.out _ _ (fun _=>⟨cW5 BA,cW2 B1,cW2 B2⟩) ?_;clear hK K
         try simp only[PT]
         refine tk1 8 fun K hK=>?_;go_simp;have LBL:=hid (HN.out.size);have NEBLBH:=hid (Nat.ne_of_gt BH.out.lt);obtain ⟨wa2,hwa,BL_,hn⟩:=laid1 w10 122 #[.int .i64 0,.slice none 0 0,.int .i64 0,.slice none 0 0];rw[hwa];clear hwa;have BL:=hid BL_;clear BL_;replace BA:=bW BA hn;replace B1:=bW B1 hn;replace B2:=bW B2 hn;replace BH:=bW BH hn;replace HF9:=hid (HF9.out.new hn);replace HF10:=hid (HF10.out.new hn);replace HN:=tW HN hn;clear hn;refine hK.out _ _ (fun _=>⟨cW5 BA,cW2 B1,cW2 B2⟩) ?_;clear hK K
         try simp only[PT]
         refine tlW ?_;obtain ⟨⟨pa0,pa1,pa2,pa3,pa4⟩,pa5⟩:=BA.out.five;obtain ⟨p0,p1,p2,p3,p4⟩:=B1.out.two;obtain ⟨q0,q1,q2,q3,q4⟩:=B2.out.two;obtain ⟨⟨u0,u1,u2,u3⟩,u4,u5,u6,u7,u8⟩:=BL.out.four;obtain ⟨⟨v0,v1,v2,v3⟩,v4,v5,v6,v7,v8⟩:=BH.out.four;have hne:=NEBLBH.out;have hne':=NEBLBH.out.symm;go_wp2_with fail
         go_meet
         obtain ⟨r1,r2,r3,r4,r5⟩:=two_put HN.out BL.out BH.out LBL.out LBH.out NEBLBH.out HF9.out HF10.out _ rfl;exact ⟨_,_,rfl,rfl,r1,⟨_,_,_,_,_,_,_,_,r2,r4⟩,⟨_,_,_,_,_,_,_,_,r3,r5⟩⟩
        ·skip
         go_simp;have LBL:=hid (HN.out.size);have NEBLBH:=hid (Nat.ne_of_gt BH.out.lt);obtain ⟨wa2,hwa,BL_,hn⟩:=laid1 w9 122 #[.int .i64 0,.slice none 0 0,.int .i64 0,.slice none 0 0];rw[hwa];clear hwa;have BL:=hid BL_;clear BL_;replace BA:=bW BA hn;replace B1:=bW B1 hn;replace B2:=bW B2 hn;replace BH:=bW BH hn;replace HF9:=hid (HF9.out.new hn);replace HN:=tW HN hn;clear hn;refine hK.out _ _ (fun _=>⟨cW5 BA,cW2 B1,cW2 B2⟩) ?_;clear hK K
         try simp only[PT]
         refine tk1 7 fun K hK=>?_;go_simp;refine (HK.out.nom2 _).mono ?_;rintro e w10 ⟨v10,rfl,hn,hf⟩;obtain ⟨s8,a8,l8,k8,t8,b8,m8,n8,rfl⟩:=hf.shape;have HF10:=hid hf;clear hf;replace BA:=bW BA hn;replace B1:=bW B1 hn;replace B2:=bW B2 hn;replace BH:=bW BH hn;replace HF9:=hid (HF9.out.new hn);replace BL:=bW BL hn;replace HN:=tW HN hn;clear hn;refine hK.out _ _ (fun _=>⟨cW5 BA,cW2 B1,cW2 B2⟩) ?_;clear hK K
         try simp only[PT]
         refine tlW ?_;obtain ⟨⟨pa0,pa1,pa2,pa3,pa4⟩,pa5⟩:=BA.out.five;obtain ⟨p0,p1,p2,p3,p4⟩:=B1.out.two;obtain ⟨q0,q1,q2,q3,q4⟩:=B2.out.two;obtain ⟨⟨u0,u1,u2,u3⟩,u4,u5,u6,u7,u8⟩:=BL.out.four;obtain ⟨⟨v0,v1,v2,v3⟩,v4,v5,v6,v7,v8⟩:=BH.out.four;have hne:=NEBLBH.out;have hne':=NEBLBH.out.symm;go_wp2_with fail
         go_meet
         obtain ⟨r1,r2,r3,r4,r5⟩:=two_put HN.out BL.out BH.out LBL.out LBH.out NEBLBH.out HF9.out HF10.out _ rfl;exact ⟨_,_,rfl,rfl,r1,⟨_,_,_,_,_,_,_,_,r2,r4⟩,⟨_,_,_,_,_,_,_,_,r3,r5⟩⟩
       ·skip
        go_simp;have LBL:=hid (HN.out.size);have NEBLBH:=hid (Nat.ne_of_gt BH.out.lt);obtain ⟨wa2,hwa,BL_,hn⟩:=laid1 wa1 122 #[.int .i64 0,.slice none 0 0,.int .i64 0,.slice none 0 0];rw[hwa];clear hwa;have BL:=hid BL_;clear BL_;replace BA:=bW BA hn;replace B1:=bW B1 hn;replace B2:=bW B2 hn;replace BH:=bW BH hn;replace HN:=tW HN hn;clear hn;refine hK.out _ _ (fun _=>⟨cW5 BA,cW2 B1,cW2 B2⟩) ?_;clear hK K
        try simp only[PT]
        refine tk1 3 fun K hK=>?_;go_simp;refine (HK.out.nom1 _).mono ?_;rintro e w9 ⟨v9,rfl,hn,hf⟩;obtain ⟨s9,a9,l9,k9,t9,b9,m9,n9,rfl⟩:=hf.shape;have HF9:=hid hf;clear hf;replace BA:=bW BA hn;replace B1:=bW B1 hn;replace B2:=bW B2 hn;replace BH:=bW BH hn;replace BL:=bW BL hn;replace HN:=tW HN hn;clear hn;refine hK.out _ _ (fun _=>⟨cW5 BA,cW2 B1,cW2 B2⟩) ?_;clear hK K
        try simp only[PT]
        refine tk1 7 fun K hK=>?_;go_simp;refine (HK.out.nom2 _).mono ?_;rintro e w10 ⟨v10,rfl,hn,hf⟩;obtain ⟨s8,a8,l8,k8,t8,b8,m8,n8,rfl⟩:=hf.shape;have HF10:=hid hf;clear hf;replace BA:=bW BA hn;replace B1:=bW B1 hn;replace B2:=bW B2 hn;replace BH:=bW BH hn;replace BL:=bW BL hn;replace HF9:=hid (HF9.out.new hn);replace HN:=tW HN hn;clear hn;refine hK.out _ _ (fun _=>⟨cW5 BA,cW2 B1,cW2 B2⟩) ?_;clear hK K
        try simp only[PT]
        refine tlW ?_;obtain ⟨⟨pa0,pa1,pa2,pa3,pa4⟩,pa5⟩:=BA.out.five;obtain ⟨p0,p1,p2,p3,p4⟩:=B1.out.two;obtain ⟨q0,q1,q2,q3,q4⟩:=B2.out.two;obtain ⟨⟨u0,u1,u2,u3⟩,u4,u5,u6,u7,u8⟩:=BL.out.four;obtain ⟨⟨v0,v1,v2,v3⟩,v4,v5,v6,v7,v8⟩:=BH.out.four;have hne:=NEBLBH.out;have hne':=NEBLBH.out.symm;go_wp2_with fail
        go_meet
        obtain ⟨r1,r2,r3,r4,r5⟩:=two_put HN.out BL.out BH.out LBL.out LBH.out NEBLBH.out HF9.out HF10.out _ rfl;exact ⟨_,_,rfl,rfl,r1,⟨_,_,_,_,_,_,_,_,r2,r4⟩,⟨_,_,_,_,_,_,_,_,r3,r5⟩⟩
     case rest=>
      obtain ⟨L,H,rfl,rfl,hn,hl,hh⟩:=hcut;obtain ⟨w10,hw10⟩:∃ x,x=wc:=⟨_,rfl⟩;rw[←hw10] at hn hl hh⊢;clear hw10;have HN2:=hid (HN1.out.trans hn);have HEN2:=hid (HEN.out.new HN2.out);replace BA:=bW BA hn;replace B1:=bW B1 hn;replace B2:=bW B2 hn;replace BP:=bW BP hn;clear HN1 hn;have HLF:=hid hl;have HHF:=hid hh;clear hl hh
      go_step
      go_upto_region 11 with (fail)
      go_cut [13,14] (fun x y wx=>∃ (P Q:Nat),x=.pointer (some ⟨P,0,none⟩)∧y=.pointer (some ⟨Q,0,none⟩)∧New w10 wx∧FracAt wx P q1∧FracAt wx Q q2)
      case first=>
       have HN:=hid (New.refl w10);obtain ⟨p0,p1,p2,p3,p4⟩:=B1.out.two;obtain ⟨q0,q1,q2,q3,q4⟩:=B2.out.two;refine wp_region_T 8 (fun W=>(W.cell? ⟨w.heap.size+1,0,none⟩=some (.int .i64 c1)∧W.cell? ⟨w.heap.size+1,1,none⟩=some (.string t1))∧(W.cell? ⟨w.heap.size+1+1,0,none⟩=some (.int .i64 c2)∧W.cell? ⟨w.heap.size+1+1,1,none⟩=some (.string t2))) 10 #[false,false,false,false,false,false,false,false,false,false] rfl (by kernel_rfl) (by kernel_rfl) ?_;clear p0 p1 p2 p3 p4 q0 q1 q2 q3 q4;replace B1:=hid (B1.out.new (New.refl w10).drew);replace B2:=hid (B2.out.new (New.refl w10).drew);replace HN:=hid (HN.out.drew);obtain ⟨wdr,hwd⟩:∃ x,w10.drew=x:=⟨_,rfl⟩;rw[hwd] at HN B1 B2⊢;clear hwd;refine tk 0 (by exact ⟨cW2 B1,cW2 B2⟩) ?_
       try simp only[PT]
       refine tk 1 (by exact ⟨cW2 B1,cW2 B2⟩) ?_
       try simp only[PT]
       refine tk 3 (by exact ⟨cW2 B1,cW2 B2⟩) ?_
       try simp only[PT]
       refine tk 4 (by exact ⟨cW2 B1,cW2 B2⟩) ?_
       try simp only[PT]
       refine wpT_three 2 6 7 rfl rfl rfl (by kernel_rfl) (fun K hK=>?_) (fun K hK=>?_) (fun K hK=>?_)
       ·skip
        go_simp;refine (HK.out.fr1 _ (HEN2.out.new HN.out)).mono ?_;rintro e w11 ⟨v9,rfl,hn,hf⟩;obtain ⟨s9,a9,l9,k9,t9,b9,m9,n9,rfl⟩:=hf.shape;have HF9:=hid hf;clear hf;replace B1:=bW B1 hn;replace B2:=bW B2 hn;replace HN:=tW HN hn;clear hn;refine hK.out _ _ (fun _=>⟨cW2 B1,cW2 B2⟩) ?_;clear hK K
        try simp only[PT]
        refine wpT_three 5 6 7 rfl rfl rfl (by kernel_rfl) (fun K hK=>?_) (fun K hK=>?_) (fun K hK=>?_)
        ·skip
         go_simp;refine (HK.out.fr2 _ (HEN2.out.new HN.out)).mono ?_;rintro e w12 ⟨v10,rfl,hn,hf⟩;obtain ⟨s8,a8,l8,k8,t8,b8,m8,n8,rfl⟩:=hf.shape;have HF10:=hid hf;clear hf;replace B1:=bW B1 hn;replace B2:=bW B2 hn;replace HF9:=hid (HF9.out.new hn);replace HN:=tW HN hn;clear hn;refine hK.out _ _ (fun _=>⟨cW2 B1,cW2 B2⟩) ?_;clear hK K
         try simp only[PT]
         refine wpT_two 6 7 rfl rfl (by kernel_rfl) (fun K hK=>?_) (fun K hK=>?_)
         ·skip
          go_simp;have LBL:=hid (HN.out.size);obtain ⟨wa1,hwa,BL_,hn⟩:=laid1 w12 122 #[.int .i64 0,.slice none 0 0,.int .i64 0,.slice none 0 0];rw[hwa];clear hwa;have BL:=hid BL_;clear BL_;replace B1:=bW B1 hn;replace B2:=bW B2 hn;replace HF9:=hid (HF9.out.new hn);replace HF10:=hid (HF10.out.new hn);replace HN:=tW HN hn;clear hn;refine hK.out _ _ (fun _=>⟨cW2 B1,cW2 B2⟩) ?_;clear hK K
          try simp only[PT]
          refine tk1 7 fun K hK=>?_;go_simp;have LBH:=hid (HN.out.size);have NEBLBH:=hid (Nat.ne_of_lt BL.out.lt);obtain ⟨wa2,hwa,BH_,hn⟩:=laid1 wa1 122 #[.int .i64 0,.slice none 0 0,.int .i64 0,.slice none 0 0];rw[hwa];clear hwa;have BH:=hid BH_;clear BH_;replace B1:=bW B1 hn;replace B2:=bW B2 hn;replace HF9:=hid (HF9.out.new hn);replace HF10:=hid (HF10.out.new hn);replace BL:=bW BL hn;replace HN:=tW HN hn;clear hn;refine hK.out _ _ (fun _=>⟨cW2 B1,cW2 B2⟩) ?_;clear hK K
          try simp only[PT]
          refine tlW ?_;obtain ⟨p0,p1,p2,p3,p4⟩:=B1.out.two;obtain ⟨q0,q1,q2,q3,q4⟩:=B2.out.two;obtain ⟨⟨u0,u1,u2,u3⟩,u4,u5,u6,u7,u8⟩:=BL.out.four;obtain ⟨⟨v0,v1,v2,v3⟩,v4,v5,v6,v7,v8⟩:=BH.out.four;have hne:=NEBLBH.out;have hne':=NEBLBH.out.symm;go_wp2_with fail
          go_meet
          obtain ⟨r1,r2,r3,r4,r5⟩:=two_put HN.out BL.out BH.out LBL.out LBH.out NEBLBH.out HF9.out HF10.out _ rfl;exact ⟨_,_,rfl,rfl,r1,⟨_,_,_,_,_,_,_,_,r2,r4⟩,⟨_,_,_,_,_,_,_,_,r3,r5⟩⟩
         ·skip
          go_simp;have LBH:=hid (HN.out.size);obtain ⟨wa1,hwa,BH_,hn⟩:=laid1 w12 122 #[.int .i64 0,.slice none 0 0,.int .i64 0,.slice none 0 0];rw[hwa];clear hwa;have BH:=hid BH_;clear BH_;replace B1:=bW B1 hn;replace B2:=bW B2 hn;replace HF9:=hid (HF9.out.new hn);replace HF10:=hid (HF10.out.new hn);replace HN:=tW HN hn;clear hn;refine hK.out _ _ (fun _=>⟨cW2 B1,cW2 B2⟩) ?_;clear hK K
          try simp only[PT]
          refine tk1 6 fun K hK=>?_;go_simp;have LBL:=hid (HN.out.size);have NEBLBH:=hid (Nat.ne_of_gt BH.out.lt);obtain ⟨wa2,hwa,BL_,hn⟩:=laid1 wa1 122 #[.int .i64 0,.slice none 0 0,.int .i64 0,.slice none 0 0];rw[hwa];clear hwa;have BL:=hid BL_;clear BL_;replace B1:=bW B1 hn;replace B2:=bW B2 hn;replace HF9:=hid (HF9.out.new hn);replace HF10:=hid (HF10.out.new hn);replace BH:=bW BH hn;replace HN:=tW HN hn;clear hn;refine hK.out _ _ (fun _=>⟨cW2 B1,cW2 B2⟩) ?_;clear hK K
          try simp only[PT]
          refine tlW ?_;obtain ⟨p0,p1,p2,p3,p4⟩:=B1.out.two;obtain ⟨q0,q1,q2,q3,q4⟩:=B2.out.two;obtain ⟨⟨u0,u1,u2,u3⟩,u4,u5,u6,u7,u8⟩:=BL.out.four;obtain ⟨⟨v0,v1,v2,v3⟩,v4,v5,v6,v7,v8⟩:=BH.out.four;have hne:=NEBLBH.out;have hne':=NEBLBH.out.symm;go_wp2_with fail
          go_meet
          obtain ⟨r1,r2,r3,r4,r5⟩:=two_put HN.out BL.out BH.out LBL.out LBH.out NEBLBH.out HF9.out HF10.out _ rfl;exact ⟨_,_,rfl,rfl,r1,⟨_,_,_,_,_,_,_,_,r2,r4⟩,⟨_,_,_,_,_,_,_,_,r3,r5⟩⟩
        ·skip
         go_simp;have LBL:=hid (HN.out.size);obtain ⟨wa1,hwa,BL_,hn⟩:=laid1 w11 122 #[.int .i64 0,.slice none 0 0,.int .i64 0,.slice none 0 0];rw[hwa];clear hwa;have BL:=hid BL_;clear BL_;replace B1:=bW B1 hn;replace B2:=bW B2 hn;replace HF9:=hid (HF9.out.new hn);replace HN:=tW HN hn;clear hn;refine hK.out _ _ (fun _=>⟨cW2 B1,cW2 B2⟩) ?_;clear hK K
         try simp only[PT]
         refine wpT_two 5 7 rfl rfl (by kernel_rfl) (fun K hK=>?_) (fun K hK=>?_)
         ·skip
          go_simp;refine (HK.out.fr2 _ (HEN2.out.new HN.out)).mono ?_;rintro e w12 ⟨v10,rfl,hn,hf⟩;obtain ⟨s8,a8,l8,k8,t8,b8,m8,n8,rfl⟩:=hf.shape;have HF10:=hid hf;clear hf;replace B1:=bW B1 hn;replace B2:=bW B2 hn;replace HF9:=hid (HF9.out.new hn);replace BL:=bW BL hn;replace HN:=tW HN hn;clear hn;refine hK.out _ _ (fun _=>⟨cW2 B1,cW2 B2⟩) ?_;clear hK K
          try simp only[PT]
          refine tk1 7 fun K hK=>?_;go_simp;have LBH:=hid (HN.out.size);have NEBLBH:=hid (Nat.ne_of_lt BL.out.lt);obtain ⟨wa2,hwa,BH_,hn⟩:=laid1 w12 122 #[.int .i64 0,.slice none 0 0,.int .i64 0,.slice none 0 0];rw[hwa];clear hwa;have BH:=hid BH_;clear BH_;replace B1:=bW B1 hn;replace B2:=bW B2 hn;replace HF9:=hid (HF9.out.new hn);replace BL:=bW BL hn;replace HF10:=hid (HF10.out.new hn);replace HN:=tW HN hn;clear hn;refine hK.out _ _ (fun _=>⟨cW2 B1,cW2 B2⟩) ?_;clear hK K
          try simp only[PT]
          refine tlW ?_;obtain ⟨p0,p1,p2,p3,p4⟩:=B1.out.two;obtain ⟨q0,q1,q2,q3,q4⟩:=B2.out.two;obtain ⟨⟨u0,u1,u2,u3⟩,u4,u5,u6,u7,u8⟩:=BL.out.four;obtain ⟨⟨v0,v1,v2,v3⟩,v4,v5,v6,v7,v8⟩:=BH.out.four;have hne:=NEBLBH.out;have hne':=NEBLBH.out.symm;go_wp2_with fail
          go_meet
          obtain ⟨r1,r2,r3,r4,r5⟩:=two_put HN.out BL.out BH.out LBL.out LBH.out NEBLBH.out HF9.out HF10.out _ rfl;exact ⟨_,_,rfl,rfl,r1,⟨_,_,_,_,_,_,_,_,r2,r4⟩,⟨_,_,_,_,_,_,_,_,r3,r5⟩⟩
         ·skip
          go_simp;have LBH:=hid (HN.out.size);have NEBLBH:=hid (Nat.ne_of_lt BL.out.lt);obtain ⟨wa2,hwa,BH_,hn⟩:=laid1 wa1 122 #[.int .i64 0,.slice none 0 0,.int .i64 0,.slice none 0 0];rw[hwa];clear hwa;have BH:=hid BH_;clear BH_;replace B1:=bW B1 hn;replace B2:=bW B2 hn;replace HF9:=hid (HF9.out.new hn);replace BL:=bW BL hn;replace HN:=tW HN hn;clear hn;refine hK.out _ _ (fun _=>⟨cW2 B1,cW2 B2⟩) ?_;clear hK K
          try simp only[PT]
          refine tk1 5 fun K hK=>?_;go_simp;refine (HK.out.fr2 _ (HEN2.out.new HN.out)).mono ?_;rintro e w12 ⟨v10,rfl,hn,hf⟩;obtain ⟨s8,a8,l8,k8,t8,b8,m8,n8,rfl⟩:=hf.shape;have HF10:=hid hf;clear hf;replace B1:=bW B1 hn;replace B2:=bW B2 hn;replace HF9:=hid (HF9.out.new hn);replace BL:=bW BL hn;replace BH:=bW BH hn;replace HN:=tW HN hn;clear hn;refine hK.out _ _ (fun _=>⟨cW2 B1,cW2 B2⟩) ?_;clear hK K
          try simp only[PT]
          refine tlW ?_;obtain ⟨p0,p1,p2,p3,p4⟩:=B1.out.two;obtain ⟨q0,q1,q2,q3,q4⟩:=B2.out.two;obtain ⟨⟨u0,u1,u2,u3⟩,u4,u5,u6,u7,u8⟩:=BL.out.four;obtain ⟨⟨v0,v1,v2,v3⟩,v4,v5,v6,v7,v8⟩:=BH.out.four;have hne:=NEBLBH.out;have hne':=NEBLBH.out.symm;go_wp2_with fail
          go_meet
          obtain ⟨r1,r2,r3,r4,r5⟩:=two_put HN.out BL.out BH.out LBL.out LBH.out NEBLBH.out HF9.out HF10.out _ rfl;exact ⟨_,_,rfl,rfl,r1,⟨_,_,_,_,_,_,_,_,r2,r4⟩,⟨_,_,_,_,_,_,_,_,r3,r5⟩⟩
        ·skip
         go_simp;have LBH:=hid (HN.out.size);obtain ⟨wa1,hwa,BH_,hn⟩:=laid1 w11 122 #[.int .i64 0,.slice none 0 0,.int .i64 0,.slice none 0 0];rw[hwa];clear hwa;have BH:=hid BH_;clear BH_;replace B1:=bW B1 hn;replace B2:=bW B2 hn;replace HF9:=hid (HF9.out.new hn);replace HN:=tW HN hn;clear hn;refine hK.out _ _ (fun _=>⟨cW2 B1,cW2 B2⟩) ?_;clear hK K
         try simp only[PT]
         refine wpT_two 5 6 rfl rfl (by kernel_rfl) (fun K hK=>?_) (fun K hK=>?_)
         ·skip
          go_simp;refine (HK.out.fr2 _ (HEN2.out.new HN.out)).mono ?_;rintro e w12 ⟨v10,rfl,hn,hf⟩;obtain ⟨s8,a8,l8,k8,t8,b8,m8,n8,rfl⟩:=hf.shape;have HF10:=hid hf;clear hf;replace B1:=bW B1 hn;replace B2:=bW B2 hn;replace HF9:=hid (HF9.out.new hn);replace BH:=bW BH hn;replace HN:=tW HN hn;clear hn;refine hK.out _ _ (fun _=>⟨cW2 B1,cW2 B2⟩) ?_;clear hK K
          try simp only[PT]
          refine tk1 6 fun K hK=>?_;go_simp;have LBL:=hid (HN.out.size);have NEBLBH:=hid (Nat.ne_of_gt BH.out.lt);obtain ⟨wa2,hwa,BL_,hn⟩:=laid1 w12 122 #[.int .i64 0,.slice none 0 0,.int .i64 0,.slice none 0 0];rw[hwa];clear hwa;have BL:=hid BL_;clear BL_;replace B1:=bW B1 hn;replace B2:=bW B2 hn;replace HF9:=hid (HF9.out.new hn);replace BH:=bW BH hn;replace HF10:=hid (HF10.out.new hn);replace HN:=tW HN hn;clear hn;refine hK.out _ _ (fun _=>⟨cW2 B1,cW2 B2⟩) ?_;clear hK K
          try simp only[PT]
          refine tlW ?_;obtain ⟨p0,p1,p2,p3,p4⟩:=B1.out.two;obtain ⟨q0,q1,q2,q3,q4⟩:=B2.out.two;obtain ⟨⟨u0,u1,u2,u3⟩,u4,u5,u6,u7,u8⟩:=BL.out.four;obtain ⟨⟨v0,v1,v2,v3⟩,v4,v5,v6,v7,v8⟩:=BH.out.four;have hne:=NEBLBH.out;have hne':=NEBLBH.out.symm;go_wp2_with fail
          go_meet
          obtain ⟨r1,r2,r3,r4,r5⟩:=two_put HN.out BL.out BH.out LBL.out LBH.out NEBLBH.out HF9.out HF10.out _ rfl;exact ⟨_,_,rfl,rfl,r1,⟨_,_,_,_,_,_,_,_,r2,r4⟩,⟨_,_,_,_,_,_,_,_,r3,r5⟩⟩
         ·skip
          go_simp;have LBL:=hid (HN.out.size);have NEBLBH:=hid (Nat.ne_of_gt BH.out.lt);obtain ⟨wa2,hwa,BL_,hn⟩:=laid1 wa1 122 #[.int .i64 0,.slice none 0 0,.int .i64 0,.slice none 0 0];rw[hwa];clear hwa;have BL:=hid BL_;clear BL_;replace B1:=bW B1 hn;replace B2:=bW B2 hn;replace HF9:=hid (HF9.out.new hn);replace BH:=bW BH hn;replace HN:=tW HN hn;clear hn;refine hK.out _ _ (fun _=>⟨cW2 B1,cW2 B2⟩) ?_;clear hK K
          try simp only[PT]
          refine tk1 5 fun K hK=>?_;go_simp;refine (HK.out.fr2 _ (HEN2.out.new HN.out)).mono ?_;rintro e w12 ⟨v10,rfl,hn,hf⟩;obtain ⟨s8,a8,l8,k8,t8,b8,m8,n8,rfl⟩:=hf.shape;have HF10:=hid hf;clear hf;replace B1:=bW B1 hn;replace B2:=bW B2 hn;replace HF9:=hid (HF9.out.new hn);replace BH:=bW BH hn;replace BL:=bW BL hn;replace HN:=tW HN hn;clear hn;refine hK.out _ _ (fun _=>⟨cW2 B1,cW2 B2⟩) ?_;clear hK K
          try simp only[PT]
          refine tlW ?_;obtain ⟨p0,p1,p2,p3,p4⟩:=B1.out.two;obtain ⟨q0,q1,q2,q3,q4⟩:=B2.out.two;obtain ⟨⟨u0,u1,u2,u3⟩,u4,u5,u6,u7,u8⟩:=BL.out.four;obtain ⟨⟨v0,v1,v2,v3⟩,v4,v5,v6,v7,v8⟩:=BH.out.four;have hne:=NEBLBH.out;have hne':=NEBLBH.out.symm;go_wp2_with fail
          go_meet
          obtain ⟨r1,r2,r3,r4,r5⟩:=two_put HN.out BL.out BH.out LBL.out LBH.out NEBLBH.out HF9.out HF10.out _ rfl;exact ⟨_,_,rfl,rfl,r1,⟨_,_,_,_,_,_,_,_,r2,r4⟩,⟨_,_,_,_,_,_,_,_,r3,r5⟩⟩
       ·skip
        go_simp;have LBL:=hid (HN.out.size);obtain ⟨wa1,hwa,BL_,hn⟩:=laid1 wdr 122 #[.int .i64 0,.slice none 0 0,.int .i64 0,.slice none 0 0];rw[hwa];clear hwa;have BL:=hid BL_;clear BL_;replace B1:=bW B1 hn;replace B2:=bW B2 hn;replace HN:=tW HN hn;clear hn;refine hK.out _ _ (fun _=>⟨cW2 B1,cW2 B2⟩) ?_;clear hK K
        try simp only[PT]
        refine wpT_two 2 7 rfl rfl (by kernel_rfl) (fun K hK=>?_) (fun K hK=>?_)
        ·skip
         go_simp;refine (HK.out.fr1 _ (HEN2.out.new HN.out)).mono ?_;rintro e w11 ⟨v9,rfl,hn,hf⟩;obtain ⟨s9,a9,l9,k9,t9,b9,m9,n9,rfl⟩:=hf.shape;have HF9:=hid hf;clear hf;replace B1:=bW B1 hn;replace B2:=bW B2 hn;replace BL:=bW BL hn;replace HN:=tW HN hn;clear hn;refine hK.out _ _ (fun _=>⟨cW2 B1,cW2 B2⟩) ?_;clear hK K
         try simp only[PT]
         refine wpT_two 5 7 rfl rfl (by kernel_rfl) (fun K hK=>?_) (fun K hK=>?_)
         ·skip
          go_simp;refine (HK.out.fr2 _ (HEN2.out.new HN.out)).mono ?_;rintro e w12 ⟨v10,rfl,hn,hf⟩;obtain ⟨s8,a8,l8,k8,t8,b8,m8,n8,rfl⟩:=hf.shape;have HF10:=hid hf;clear hf;replace B1:=bW B1 hn;replace B2:=bW B2 hn;replace BL:=bW BL hn;replace HF9:=hid (HF9.out.new hn);replace HN:=tW HN hn;clear hn;refine hK.out _ _ (fun _=>⟨cW2 B1,cW2 B2⟩) ?_;clear hK K
          try simp only[PT]
          refine tk1 7 fun K hK=>?_;go_simp;have LBH:=hid (HN.out.size);have NEBLBH:=hid (Nat.ne_of_lt BL.out.lt);obtain ⟨wa2,hwa,BH_,hn⟩:=laid1 w12 122 #[.int .i64 0,.slice none 0 0,.int .i64 0,.slice none 0 0];rw[hwa];clear hwa;have BH:=hid BH_;clear BH_;replace B1:=bW B1 hn;replace B2:=bW B2 hn;replace BL:=bW BL hn;replace HF9:=hid (HF9.out.new hn);replace HF10:=hid (HF10.out.new hn);replace HN:=tW HN hn;clear hn;refine hK.out _ _ (fun _=>⟨cW2 B1,cW2 B2⟩) ?_;clear hK K
          try simp only[PT]
          refine tlW ?_;obtain ⟨p0,p1,p2,p3,p4⟩:=B1.out.two;obtain ⟨q0,q1,q2,q3,q4⟩:=B2.out.two;obtain ⟨⟨u0,u1,u2,u3⟩,u4,u5,u6,u7,u8⟩:=BL.out.four;obtain ⟨⟨v0,v1,v2,v3⟩,v4,v5,v6,v7,v8⟩:=BH.out.four;have hne:=NEBLBH.out;have hne':=NEBLBH.out.symm;go_wp2_with fail
          go_meet
          obtain ⟨r1,r2,r3,r4,r5⟩:=two_put HN.out BL.out BH.out LBL.out LBH.out NEBLBH.out HF9.out HF10.out _ rfl;exact ⟨_,_,rfl,rfl,r1,⟨_,_,_,_,_,_,_,_,r2,r4⟩,⟨_,_,_,_,_,_,_,_,r3,r5⟩⟩
         ·skip
          go_simp;have LBH:=hid (HN.out.size);have NEBLBH:=hid (Nat.ne_of_lt BL.out.lt);obtain ⟨wa2,hwa,BH_,hn⟩:=laid1 w11 122 #[.int .i64 0,.slice none 0 0,.int .i64 0,.slice none 0 0];rw[hwa];clear hwa;have BH:=hid BH_;clear BH_;replace B1:=bW B1 hn;replace B2:=bW B2 hn;replace BL:=bW BL hn;replace HF9:=hid (HF9.out.new hn);replace HN:=tW HN hn;clear hn;refine hK.out _ _ (fun _=>⟨cW2 B1,cW2 B2⟩) ?_;clear hK K
          try simp only[PT]
          refine tk1 5 fun K hK=>?_;go_simp;refine (HK.out.fr2 _ (HEN2.out.new HN.out)).mono ?_;rintro e w12 ⟨v10,rfl,hn,hf⟩;obtain ⟨s8,a8,l8,k8,t8,b8,m8,n8,rfl⟩:=hf.shape;have HF10:=hid hf;clear hf;replace B1:=bW B1 hn;replace B2:=bW B2 hn;replace BL:=bW BL hn;replace HF9:=hid (HF9.out.new hn);replace BH:=bW BH hn;replace HN:=tW HN hn;clear hn;refine hK.out _ _ (fun _=>⟨cW2 B1,cW2 B2⟩) ?_;clear hK K
          try simp only[PT]
          refine tlW ?_;obtain ⟨p0,p1,p2,p3,p4⟩:=B1.out.two;obtain ⟨q0,q1,q2,q3,q4⟩:=B2.out.two;obtain ⟨⟨u0,u1,u2,u3⟩,u4,u5,u6,u7,u8⟩:=BL.out.four;obtain ⟨⟨v0,v1,v2,v3⟩,v4,v5,v6,v7,v8⟩:=BH.out.four;have hne:=NEBLBH.out;have hne':=NEBLBH.out.symm;go_wp2_with fail
          go_meet
          obtain ⟨r1,r2,r3,r4,r5⟩:=two_put HN.out BL.out BH.out LBL.out LBH.out NEBLBH.out HF9.out HF10.out _ rfl;exact ⟨_,_,rfl,rfl,r1,⟨_,_,_,_,_,_,_,_,r2,r4⟩,⟨_,_,_,_,_,_,_,_,r3,r5⟩⟩
        ·skip
         go_simp;have LBH:=hid (HN.out.size);have NEBLBH:=hid (Nat.ne_of_lt BL.out.lt);obtain ⟨wa2,hwa,BH_,hn⟩:=laid1 wa1 122 #[.int .i64 0,.slice none 0 0,.int .i64 0,.slice none 0 0];rw[hwa];clear hwa;have BH:=hid BH_;clear BH_;replace B1:=bW B1 hn;replace B2:=bW B2 hn;replace BL:=bW BL hn;replace HN:=tW HN hn;clear hn;refine hK.out _ _ (fun _=>⟨cW2 B1,cW2 B2⟩) ?_;clear hK K
         try simp only[PT]
         refine tk1 2 fun K hK=>?_;go_simp;refine (HK.out.fr1 _ (HEN2.out.new HN.out)).mono ?_;rintro e w11 ⟨v9,rfl,hn,hf⟩;obtain ⟨s9,a9,l9,k9,t9,b9,m9,n9,rfl⟩:=hf.shape;have HF9:=hid hf;clear hf;replace B1:=bW B1 hn;replace B2:=bW B2 hn;replace BL:=bW BL hn;replace BH:=bW BH hn;replace HN:=tW HN hn;clear hn;refine hK.out _ _ (fun _=>⟨cW2 B1,cW2 B2⟩) ?_;clear hK K
         try simp only[PT]
         refine tk1 5 fun K hK=>?_;go_simp;refine (HK.out.fr2 _ (HEN2.out.new HN.out)).mono ?_;rintro e w12 ⟨v10,rfl,hn,hf⟩;obtain ⟨s8,a8,l8,k8,t8,b8,m8,n8,rfl⟩:=hf.shape;have HF10:=hid hf;clear hf;replace B1:=bW B1 hn;replace B2:=bW B2 hn;replace BL:=bW BL hn;replace BH:=bW BH hn;replace HF9:=hid (HF9.out.new hn);replace HN:=tW HN hn;clear hn;refine hK.out _ _ (fun _=>⟨cW2 B1,cW2 B2⟩) ?_;clear hK K
         try simp only[PT]
         refine tlW ?_;obtain ⟨p0,p1,p2,p3,p4⟩:=B1.out.two;obtain ⟨q0,q1,q2,q3,q4⟩:=B2.out.two;obtain ⟨⟨u0,u1,u2,u3⟩,u4,u5,u6,u7,u8⟩:=BL.out.four;obtain ⟨⟨v0,v1,v2,v3⟩,v4,v5,v6,v7,v8⟩:=BH.out.four;have hne:=NEBLBH.out;have hne':=NEBLBH.out.symm;go_wp2_with fail
         go_meet
         obtain ⟨r1,r2,r3,r4,r5⟩:=two_put HN.out BL.out BH.out LBL.out LBH.out NEBLBH.out HF9.out HF10.out _ rfl;exact ⟨_,_,rfl,rfl,r1,⟨_,_,_,_,_,_,_,_,r2,r4⟩,⟨_,_,_,_,_,_,_,_,r3,r5⟩⟩
       ·skip
        go_simp;have LBH:=hid (HN.out.size);obtain ⟨wa1,hwa,BH_,hn⟩:=laid1 wdr 122 #[.int .i64 0,.slice none 0 0,.int .i64 0,.slice none 0 0];rw[hwa];clear hwa;have BH:=hid BH_;clear BH_;replace B1:=bW B1 hn;replace B2:=bW B2 hn;replace HN:=tW HN hn;clear hn;refine hK.out _ _ (fun _=>⟨cW2 B1,cW2 B2⟩) ?_;clear hK K
        try simp only[PT]
        refine wpT_two 2 6 rfl rfl (by kernel_rfl) (fun K hK=>?_) (fun K hK=>?_)
        ·skip
         go_simp;refine (HK.out.fr1 _ (HEN2.out.new HN.out)).mono ?_;rintro e w11 ⟨v9,rfl,hn,hf⟩;obtain ⟨s9,a9,l9,k9,t9,b9,m9,n9,rfl⟩:=hf.shape;have HF9:=hid hf;clear hf;replace B1:=bW B1 hn;replace B2:=bW B2 hn;replace BH:=bW BH hn;replace HN:=tW HN hn;clear hn;refine hK.out _ _ (fun _=>⟨cW2 B1,cW2 B2⟩) ?_;clear hK K
         try simp only[PT]
         refine wpT_two 5 6 rfl rfl (by kernel_rfl) (fun K hK=>?_) (fun K hK=>?_)
         ·skip
          go_simp;refine (HK.out.fr2 _ (HEN2.out.new HN.out)).mono ?_;rintro e w12 ⟨v10,rfl,hn,hf⟩;obtain ⟨s8,a8,l8,k8,t8,b8,m8,n8,rfl⟩:=hf.shape;have HF10:=hid hf;clear hf;replace B1:=bW B1 hn;replace B2:=bW B2 hn;replace BH:=bW BH hn;replace HF9:=hid (HF9.out.new hn);replace HN:=tW HN hn;clear hn;refine hK.out _ _ (fun _=>⟨cW2 B1,cW2 B2⟩) ?_;clear hK K
          try simp only[PT]
          refine tk1 6 fun K hK=>?_;go_simp;have LBL:=hid (HN.out.size);have NEBLBH:=hid (Nat.ne_of_gt BH.out.lt);obtain ⟨wa2,hwa,BL_,hn⟩:=laid1 w12 122 #[.int .i64 0,.slice none 0 0,.int .i64 0,.slice none 0 0];rw[hwa];clear hwa;have BL:=hid BL_;clear BL_;replace B1:=bW B1 hn;replace B2:=bW B2 hn;replace BH:=bW BH hn;replace HF9:=hid (HF9.out.new hn);replace HF10:=hid (HF10.out.new hn);replace HN:=tW HN hn;clear hn;refine hK.out _ _ (fun _=>⟨cW2 B1,cW2 B2⟩) ?_;clear hK K
          try simp only[PT]
          refine tlW ?_;obtain ⟨p0,p1,p2,p3,p4⟩:=B1.out.two;obtain ⟨q0,q1,q2,q3,q4⟩:=B2.out.two;obtain ⟨⟨u0,u1,u2,u3⟩,u4,u5,u6,u7,u8⟩:=BL.out.four;obtain ⟨⟨v0,v1,v2,v3⟩,v4,v5,v6,v7,v8⟩:=BH.out.four;have hne:=NEBLBH.out;have hne':=NEBLBH.out.symm;go_wp2_with fail
          go_meet
          obtain ⟨r1,r2,r3,r4,r5⟩:=two_put HN.out BL.out BH.out LBL.out LBH.out NEBLBH.out HF9.out HF10.out _ rfl;exact ⟨_,_,rfl,rfl,r1,⟨_,_,_,_,_,_,_,_,r2,r4⟩,⟨_,_,_,_,_,_,_,_,r3,r5⟩⟩
         ·skip
          go_simp;have LBL:=hid (HN.out.size);have NEBLBH:=hid (Nat.ne_of_gt BH.out.lt);obtain ⟨wa2,hwa,BL_,hn⟩:=laid1 w11 122 #[.int .i64 0,.slice none 0 0,.int .i64 0,.slice none 0 0];rw[hwa];clear hwa;have BL:=hid BL_;clear BL_;replace B1:=bW B1 hn;replace B2:=bW B2 hn;replace BH:=bW BH hn;replace HF9:=hid (HF9.out.new hn);replace HN:=tW HN hn;clear hn;refine hK.out _ _ (fun _=>⟨cW2 B1,cW2 B2⟩) ?_;clear hK K
          try simp only[PT]
          refine tk1 5 fun K hK=>?_;go_simp;refine (HK.out.fr2 _ (HEN2.out.new HN.out)).mono ?_;rintro e w12 ⟨v10,rfl,hn,hf⟩;obtain ⟨s8,a8,l8,k8,t8,b8,m8,n8,rfl⟩:=hf.shape;have HF10:=hid hf;clear hf;replace B1:=bW B1 hn;replace B2:=bW B2 hn;replace BH:=bW BH hn;replace HF9:=hid (HF9.out.new hn);replace BL:=bW BL hn;replace HN:=tW HN hn;clear hn;refine hK.out _ _ (fun _=>⟨cW2 B1,cW2 B2⟩) ?_;clear hK K
          try simp only[PT]
          refine tlW ?_;obtain ⟨p0,p1,p2,p3,p4⟩:=B1.out.two;obtain ⟨q0,q1,q2,q3,q4⟩:=B2.out.two;obtain ⟨⟨u0,u1,u2,u3⟩,u4,u5,u6,u7,u8⟩:=BL.out.four;obtain ⟨⟨v0,v1,v2,v3⟩,v4,v5,v6,v7,v8⟩:=BH.out.four;have hne:=NEBLBH.out;have hne':=NEBLBH.out.symm;go_wp2_with fail
          go_meet
          obtain ⟨r1,r2,r3,r4,r5⟩:=two_put HN.out BL.out BH.out LBL.out LBH.out NEBLBH.out HF9.out HF10.out _ rfl;exact ⟨_,_,rfl,rfl,r1,⟨_,_,_,_,_,_,_,_,r2,r4⟩,⟨_,_,_,_,_,_,_,_,r3,r5⟩⟩
        ·skip
         go_simp;have LBL:=hid (HN.out.size);have NEBLBH:=hid (Nat.ne_of_gt BH.out.lt);obtain ⟨wa2,hwa,BL_,hn⟩:=laid1 wa1 122 #[.int .i64 0,.slice none 0 0,.int .i64 0,.slice none 0 0];rw[hwa];clear hwa;have BL:=hid BL_;clear BL_;replace B1:=bW B1 hn;replace B2:=bW B2 hn;replace BH:=bW BH hn;replace HN:=tW HN hn;clear hn;refine hK.out _ _ (fun _=>⟨cW2 B1,cW2 B2⟩) ?_;clear hK K
         try simp only[PT]
         refine tk1 2 fun K hK=>?_;go_simp;refine (HK.out.fr1 _ (HEN2.out.new HN.out)).mono ?_;rintro e w11 ⟨v9,rfl,hn,hf⟩;obtain ⟨s9,a9,l9,k9,t9,b9,m9,n9,rfl⟩:=hf.shape;have HF9:=hid hf;clear hf;replace B1:=bW B1 hn;replace B2:=bW B2 hn;replace BH:=bW BH hn;replace BL:=bW BL hn;replace HN:=tW HN hn;clear hn;refine hK.out _ _ (fun _=>⟨cW2 B1,cW2 B2⟩) ?_;clear hK K
         try simp only[PT]
         refine tk1 5 fun K hK=>?_;go_simp;refine (HK.out.fr2 _ (HEN2.out.new HN.out)).mono ?_;rintro e w12 ⟨v10,rfl,hn,hf⟩;obtain ⟨s8,a8,l8,k8,t8,b8,m8,n8,rfl⟩:=hf.shape;have HF10:=hid hf;clear hf;replace B1:=bW B1 hn;replace B2:=bW B2 hn;replace BH:=bW BH hn;replace BL:=bW BL hn;replace HF9:=hid (HF9.out.new hn);replace HN:=tW HN hn;clear hn;refine hK.out _ _ (fun _=>⟨cW2 B1,cW2 B2⟩) ?_;clear hK K
         try simp only[PT]
         refine tlW ?_;obtain ⟨p0,p1,p2,p3,p4⟩:=B1.out.two;obtain ⟨q0,q1,q2,q3,q4⟩:=B2.out.two;obtain ⟨⟨u0,u1,u2,u3⟩,u4,u5,u6,u7,u8⟩:=BL.out.four;obtain ⟨⟨v0,v1,v2,v3⟩,v4,v5,v6,v7,v8⟩:=BH.out.four;have hne:=NEBLBH.out;have hne':=NEBLBH.out.symm;go_wp2_with fail
         go_meet
         obtain ⟨r1,r2,r3,r4,r5⟩:=two_put HN.out BL.out BH.out LBL.out LBH.out NEBLBH.out HF9.out HF10.out _ rfl;exact ⟨_,_,rfl,rfl,r1,⟨_,_,_,_,_,_,_,_,r2,r4⟩,⟨_,_,_,_,_,_,_,_,r3,r5⟩⟩
      case rest=>
       obtain ⟨P,Q,rfl,rfl,hn,hp,hq⟩:=hcut;obtain ⟨w20,hw20⟩:∃ x,x=wc:=⟨_,rfl⟩;rw[←hw20] at hn hp hq⊢;clear hw20;replace BA:=bW BA hn;replace BP:=bW BP hn;replace HLF:=hid (HLF.out.new hn);replace HHF:=hid (HHF.out.new hn);have HN3:=hid (HN2.out.trans hn);clear HN2 hn B1 B2;obtain ⟨s1,a1,l1,k1,t1,b1,m1,n1,hb1,hf1⟩:=HLF.out;have B1:=hid hb1;have F1:=hid hf1;clear hb1 hf1;obtain ⟨s2,a2,l2,k2,t2,b2,m2,n2,hb2,hf2⟩:=HHF.out;have B2:=hid hb2;have F2:=hid hf2;clear hb2 hf2;obtain ⟨s3,a3,l3,k3,t3,b3,m3,n3,hb3,hf3⟩:=hp;have B3:=hid hb3;have F3:=hid hf3;clear hb3 hf3;obtain ⟨s4,a4,l4,k4,t4,b4,m4,n4,hb4,hf4⟩:=hq;have B4:=hid hb4;have F4:=hid hf4;clear hb4 hf4;clear HLF HHF;have HEN3:=hid (HEN.out.new HN3.out);obtain ⟨d1,hd1⟩:∃ d,q2 - q1=d:=⟨_,rfl⟩;obtain ⟨d2,hd2⟩:∃ d,h - l=d:=⟨_,rfl⟩
       have hd:d1 / d2=gain:=by rw[←hd1,←hd2];exact HK.out.hg
       have hd0:d2≠0:=by rw[←hd2];exact HK.out.hne
       have fd1:FB 4001 d1:=by rw[←hd1];exact HK.out.b2.sub HK.out.b1
       have fd2:FB 67 d2:=by rw[←hd2];exact HK.out.bh.sub HK.out.bl
       have HD1:=hid hd1;have HD2:=hid hd2;have HD:=hid hd;have HD0:=hid hd0;have FD1:=hid fd1;have FD2:=hid fd2;clear hd1 hd2 hd hd0 fd1 fd2
       go_step
       go_upto_region 12 with (fail)
       go_cut [15] (fun x wx=>∃ (G:Nat),x=.pointer (some ⟨G,0,none⟩)∧New w20 wx∧FracAt wx G gain)
       case first=>
        have HN:=hid (New.refl w20);obtain ⟨⟨c0,c1,c2,c3⟩,c4,c5,c6,c7,c8⟩:=B1.out.four;obtain ⟨⟨d0,d1,d2,d3⟩,d4,d5,d6,d7,d8⟩:=B2.out.four;obtain ⟨⟨e0,e1,e2,e3⟩,e4,e5,e6,e7,e8⟩:=B3.out.four;obtain ⟨⟨f0,f1,f2,f3⟩,f4,f5,f6,f7,f8⟩:=B4.out.four;refine wp_region_T 8 (fun W=>(W.cell? ⟨L,0,none⟩=some (.int .i64 s1)∧W.cell? ⟨L,1,none⟩=some (.slice a1 l1 k1)∧W.cell? ⟨L,2,none⟩=some (.int .i64 t1)∧W.cell? ⟨L,3,none⟩=some (.slice b1 m1 n1))∧(W.cell? ⟨H,0,none⟩=some (.int .i64 s2)∧W.cell? ⟨H,1,none⟩=some (.slice a2 l2 k2)∧W.cell? ⟨H,2,none⟩=some (.int .i64 t2)∧W.cell? ⟨H,3,none⟩=some (.slice b2 m2 n2))∧(W.cell? ⟨P,0,none⟩=some (.int .i64 s3)∧W.cell? ⟨P,1,none⟩=some (.slice a3 l3 k3)∧W.cell? ⟨P,2,none⟩=some (.int .i64 t3)∧W.cell? ⟨P,3,none⟩=some (.slice b3 m3 n3))∧(W.cell? ⟨Q,0,none⟩=some (.int .i64 s4)∧W.cell? ⟨Q,1,none⟩=some (.slice a4 l4 k4)∧W.cell? ⟨Q,2,none⟩=some (.int .i64 t4)∧W.cell? ⟨Q,3,none⟩=some (.slice b4 m4 n4))) 9 #[false,false,false,false,false,false,false,false,false] rfl (by kernel_rfl) (by kernel_rfl) ?_;clear c0 c1 c2 c3 c4 c5 c6 c7 c8 d0 d1 d2 d3 d4 d5 d6 d7 d8 e0 e1 e2 e3 e4 e5 e6 e7 e8 f0 f1 f2 f3 f4 f5 f6 f7 f8;replace B1:=hid (B1.out.new (New.refl w20).drew);replace B2:=hid (B2.out.new (New.refl w20).drew);replace B3:=hid (B3.out.new (New.refl w20).drew);replace B4:=hid (B4.out.new (New.refl w20).drew);replace F1:=hid (F1.out.new (New.refl w20).drew);replace F2:=hid (F2.out.new (New.refl w20).drew);replace F3:=hid (F3.out.new (New.refl w20).drew);replace F4:=hid (F4.out.new (New.refl w20).drew);replace HN:=hid (HN.out.drew);obtain ⟨wdr,hwd⟩:∃ x,w20.drew=x:=⟨_,rfl⟩;rw[hwd] at HN B1 B2 B3 B4 F1 F2 F3 F4⊢;clear hwd;refine tk 0 (by exact ⟨cW4 B1,cW4 B2,cW4 B3,cW4 B4⟩) ?_
        try simp only[PT]
        refine tk 1 (by exact ⟨cW4 B1,cW4 B2,cW4 B3,cW4 B4⟩) ?_
        try simp only[PT]
        refine tk 3 (by exact ⟨cW4 B1,cW4 B2,cW4 B3,cW4 B4⟩) ?_
        try simp only[PT]
        refine tk 4 (by exact ⟨cW4 B1,cW4 B2,cW4 B3,cW4 B4⟩) ?_
        try simp only[PT]
        refine wpT_two 2 7 rfl rfl (by kernel_rfl) (fun K hK=>?_) (fun K hK=>?_)
        ·skip
         go_simp;refine (fsub_calls _ _ q2 q1 2000 2000 _ F4.out F3.out HK.out.b2 HK.out.b1 (by omega)).mono ?_;rintro e w21 ⟨v9,rfl,hn,hf⟩;rw[HD1.out] at hf;clear F4 F3;have HF9:=hid hf;clear hf;replace B1:=bW B1 hn;replace B2:=bW B2 hn;replace B3:=bW B3 hn;replace B4:=bW B4 hn;replace F1:=hid (F1.out.new hn);replace F2:=hid (F2.out.new hn);replace HN:=tW HN hn;clear hn;refine hK.out _ _ (fun _=>⟨cW4 B1,cW4 B2,cW4 B3,cW4 B4⟩) ?_;clear hK K
         try simp only[PT]
         refine wpT_two 5 7 rfl rfl (by kernel_rfl) (fun K hK=>?_) (fun K hK=>?_)
         ·skip
          go_simp;refine (fsub_calls _ _ h l 33 33 _ F2.out F1.out HK.out.bh HK.out.bl (by omega)).mono ?_;rintro e w22 ⟨v10,rfl,hn,hf⟩;rw[HD2.out] at hf;clear F2 F1;have HF10:=hid hf;clear hf;replace B1:=bW B1 hn;replace B2:=bW B2 hn;replace B3:=bW B3 hn;replace B4:=bW B4 hn;replace HF9:=hid (HF9.out.new hn);replace HN:=tW HN hn;clear hn;refine hK.out _ _ (fun _=>⟨cW4 B1,cW4 B2,cW4 B3,cW4 B4⟩) ?_;clear hK K
          try simp only[PT]
          refine wpT_two 6 7 rfl rfl (by kernel_rfl) (fun K hK=>?_) (fun K hK=>?_)
          ·skip
           go_simp;refine (fdiv_calls _ _ _ _ 4001 67 _ HF9.out HF10.out FD1.out FD2.out (by omega) HD0.out).mono ?_;rintro e w23 ⟨v11,rfl,hn,hf⟩;rw[HD.out] at hf;obtain ⟨s9,a9,l9,k9,t9,b9,m9,n9,rfl⟩:=hf.shape;clear HF9 HF10;have HF11:=hid hf;clear hf;replace B1:=bW B1 hn;replace B2:=bW B2 hn;replace B3:=bW B3 hn;replace B4:=bW B4 hn;replace HN:=tW HN hn;clear hn;refine hK.out _ _ (fun _=>⟨cW4 B1,cW4 B2,cW4 B3,cW4 B4⟩) ?_;clear hK K
           try simp only[PT]
           refine tk1 7 fun K hK=>?_;go_simp;have LBL:=hid (HN.out.size);obtain ⟨wa1,hwa,BL_,hn⟩:=laid1 w23 122 #[.int .i64 0,.slice none 0 0,.int .i64 0,.slice none 0 0];rw[hwa];clear hwa;have BL:=hid BL_;clear BL_;replace B1:=bW B1 hn;replace B2:=bW B2 hn;replace B3:=bW B3 hn;replace B4:=bW B4 hn;replace HF11:=hid (HF11.out.new hn);replace HN:=tW HN hn;clear hn;refine hK.out _ _ (fun _=>⟨cW4 B1,cW4 B2,cW4 B3,cW4 B4⟩) ?_;clear hK K
           try simp only[PT]
           refine tlW ?_;obtain ⟨⟨c0,c1,c2,c3⟩,c4,c5,c6,c7,c8⟩:=B1.out.four;obtain ⟨⟨d0,d1,d2,d3⟩,d4,d5,d6,d7,d8⟩:=B2.out.four;obtain ⟨⟨e0,e1,e2,e3⟩,e4,e5,e6,e7,e8⟩:=B3.out.four;obtain ⟨⟨f0,f1,f2,f3⟩,f4,f5,f6,f7,f8⟩:=B4.out.four;obtain ⟨⟨u0,u1,u2,u3⟩,u4,u5,u6,u7,u8⟩:=BL.out.four;go_wp2_with fail
           go_meet
           obtain ⟨r1,r2,r3⟩:=one_put HN.out BL.out LBL.out HF11.out;exact ⟨_,rfl,r1,⟨_,_,_,_,_,_,_,_,r2,r3⟩⟩
          ·skip
           go_simp;have LBL:=hid (HN.out.size);obtain ⟨wa1,hwa,BL_,hn⟩:=laid1 w22 122 #[.int .i64 0,.slice none 0 0,.int .i64 0,.slice none 0 0];rw[hwa];clear hwa;have BL:=hid BL_;clear BL_;replace B1:=bW B1 hn;replace B2:=bW B2 hn;replace B3:=bW B3 hn;replace B4:=bW B4 hn;replace HF9:=hid (HF9.out.new hn);replace HF10:=hid (HF10.out.new hn);replace HN:=tW HN hn;clear hn;refine hK.out _ _ (fun _=>⟨cW4 B1,cW4 B2,cW4 B3,cW4 B4⟩) ?_;clear hK K
           try simp only[PT]
           refine tk1 6 fun K hK=>?_;go_simp;refine (fdiv_calls _ _ _ _ 4001 67 _ HF9.out HF10.out FD1.out FD2.out (by omega) HD0.out).mono ?_;rintro e w23 ⟨v11,rfl,hn,hf⟩;rw[HD.out] at hf;obtain ⟨s9,a9,l9,k9,t9,b9,m9,n9,rfl⟩:=hf.shape;clear HF9 HF10;have HF11:=hid hf;clear hf;replace B1:=bW B1 hn;replace B2:=bW B2 hn;replace B3:=bW B3 hn;replace B4:=bW B4 hn;replace BL:=bW BL hn;replace HN:=tW HN hn;clear hn;refine hK.out _ _ (fun _=>⟨cW4 B1,cW4 B2,cW4 B3,cW4 B4⟩) ?_;clear hK K
           try simp only[PT]
           refine tlW ?_;obtain ⟨⟨c0,c1,c2,c3⟩,c4,c5,c6,c7,c8⟩:=B1.out.four;obtain ⟨⟨d0,d1,d2,d3⟩,d4,d5,d6,d7,d8⟩:=B2.out.four;obtain ⟨⟨e0,e1,e2,e3⟩,e4,e5,e6,e7,e8⟩:=B3.out.four;obtain ⟨⟨f0,f1,f2,f3⟩,f4,f5,f6,f7,f8⟩:=B4.out.four;obtain ⟨⟨u0,u1,u2,u3⟩,u4,u5,u6,u7,u8⟩:=BL.out.four;go_wp2_with fail
           go_meet
           obtain ⟨r1,r2,r3⟩:=one_put HN.out BL.out LBL.out HF11.out;exact ⟨_,rfl,r1,⟨_,_,_,_,_,_,_,_,r2,r3⟩⟩
         ·skip
          go_simp;have LBL:=hid (HN.out.size);obtain ⟨wa1,hwa,BL_,hn⟩:=laid1 w21 122 #[.int .i64 0,.slice none 0 0,.int .i64 0,.slice none 0 0];rw[hwa];clear hwa;have BL:=hid BL_;clear BL_;replace B1:=bW B1 hn;replace B2:=bW B2 hn;replace B3:=bW B3 hn;replace B4:=bW B4 hn;replace F1:=hid (F1.out.new hn);replace F2:=hid (F2.out.new hn);replace HF9:=hid (HF9.out.new hn);replace HN:=tW HN hn;clear hn;refine hK.out _ _ (fun _=>⟨cW4 B1,cW4 B2,cW4 B3,cW4 B4⟩) ?_;clear hK K
          try simp only[PT]
          refine tk1 5 fun K hK=>?_;go_simp;refine (fsub_calls _ _ h l 33 33 _ F2.out F1.out HK.out.bh HK.out.bl (by omega)).mono ?_;rintro e w22 ⟨v10,rfl,hn,hf⟩;rw[HD2.out] at hf;clear F2 F1;have HF10:=hid hf;clear hf;replace B1:=bW B1 hn;replace B2:=bW B2 hn;replace B3:=bW B3 hn;replace B4:=bW B4 hn;replace HF9:=hid (HF9.out.new hn);replace BL:=bW BL hn;replace HN:=tW HN hn;clear hn;refine hK.out _ _ (fun _=>⟨cW4 B1,cW4 B2,cW4 B3,cW4 B4⟩) ?_;clear hK K
          try simp only[PT]
          refine tk1 6 fun K hK=>?_;go_simp;refine (fdiv_calls _ _ _ _ 4001 67 _ HF9.out HF10.out FD1.out FD2.out (by omega) HD0.out).mono ?_;rintro e w23 ⟨v11,rfl,hn,hf⟩;rw[HD.out] at hf;obtain ⟨s9,a9,l9,k9,t9,b9,m9,n9,rfl⟩:=hf.shape;clear HF9 HF10;have HF11:=hid hf;clear hf;replace B1:=bW B1 hn;replace B2:=bW B2 hn;replace B3:=bW B3 hn;replace B4:=bW B4 hn;replace BL:=bW BL hn;replace HN:=tW HN hn;clear hn;refine hK.out _ _ (fun _=>⟨cW4 B1,cW4 B2,cW4 B3,cW4 B4⟩) ?_;clear hK K
          try simp only[PT]
          refine tlW ?_;obtain ⟨⟨c0,c1,c2,c3⟩,c4,c5,c6,c7,c8⟩:=B1.out.four;obtain ⟨⟨d0,d1,d2,d3⟩,d4,d5,d6,d7,d8⟩:=B2.out.four;obtain ⟨⟨e0,e1,e2,e3⟩,e4,e5,e6,e7,e8⟩:=B3.out.four;obtain ⟨⟨f0,f1,f2,f3⟩,f4,f5,f6,f7,f8⟩:=B4.out.four;obtain ⟨⟨u0,u1,u2,u3⟩,u4,u5,u6,u7,u8⟩:=BL.out.four;go_wp2_with fail
          go_meet
          obtain ⟨r1,r2,r3⟩:=one_put HN.out BL.out LBL.out HF11.out;exact ⟨_,rfl,r1,⟨_,_,_,_,_,_,_,_,r2,r3⟩⟩
        ·skip
         go_simp;have LBL:=hid (HN.out.size);obtain ⟨wa1,hwa,BL_,hn⟩:=laid1 wdr 122 #[.int .i64 0,.slice none 0 0,.int .i64 0,.slice none 0 0];rw[hwa];clear hwa;have BL:=hid BL_;clear BL_;replace B1:=bW B1 hn;replace B2:=bW B2 hn;replace B3:=bW B3 hn;replace B4:=bW B4 hn;replace F1:=hid (F1.out.new hn);replace F2:=hid (F2.out.new hn);replace F3:=hid (F3.out.new hn);replace F4:=hid (F4.out.new hn);replace HN:=tW HN hn;clear hn;refine hK.out _ _ (fun _=>⟨cW4 B1,cW4 B2,cW4 B3,cW4 B4⟩) ?_;clear hK K
         try simp only[PT]
         refine tk1 2 fun K hK=>?_;go_simp;refine (fsub_calls _ _ q2 q1 2000 2000 _ F4.out F3.out HK.out.b2 HK.out.b1 (by omega)).mono ?_;rintro e w21 ⟨v9,rfl,hn,hf⟩;rw[HD1.out] at hf;clear F4 F3;have HF9:=hid hf;clear hf;replace B1:=bW B1 hn;replace B2:=bW B2 hn;replace B3:=bW B3 hn;replace B4:=bW B4 hn;replace F1:=hid (F1.out.new hn);replace F2:=hid (F2.out.new hn);replace BL:=bW BL hn;replace HN:=tW HN hn;clear hn;refine hK.out _ _ (fun _=>⟨cW4 B1,cW4 B2,cW4 B3,cW4 B4⟩) ?_;clear hK K
         try simp only[PT]
         refine tk1 5 fun K hK=>?_;go_simp;refine (fsub_calls _ _ h l 33 33 _ F2.out F1.out HK.out.bh HK.out.bl (by omega)).mono ?_;rintro e w22 ⟨v10,rfl,hn,hf⟩;rw[HD2.out] at hf;clear F2 F1;have HF10:=hid hf;clear hf;replace B1:=bW B1 hn;replace B2:=bW B2 hn;replace B3:=bW B3 hn;replace B4:=bW B4 hn;replace BL:=bW BL hn;replace HF9:=hid (HF9.out.new hn);replace HN:=tW HN hn;clear hn;refine hK.out _ _ (fun _=>⟨cW4 B1,cW4 B2,cW4 B3,cW4 B4⟩) ?_;clear hK K
         try simp only[PT]
         refine tk1 6 fun K hK=>?_;go_simp;refine (fdiv_calls _ _ _ _ 4001 67 _ HF9.out HF10.out FD1.out FD2.out (by omega) HD0.out).mono ?_;rintro e w23 ⟨v11,rfl,hn,hf⟩;rw[HD.out] at hf;obtain ⟨s9,a9,l9,k9,t9,b9,m9,n9,rfl⟩:=hf.shape;clear HF9 HF10;have HF11:=hid hf;clear hf;replace B1:=bW B1 hn;replace B2:=bW B2 hn;replace B3:=bW B3 hn;replace B4:=bW B4 hn;replace BL:=bW BL hn;replace HN:=tW HN hn;clear hn;refine hK.out _ _ (fun _=>⟨cW4 B1,cW4 B2,cW4 B3,cW4 B4⟩) ?_;clear hK K
         try simp only[PT]
         refine tlW ?_;obtain ⟨⟨c0,c1,c2,c3⟩,c4,c5,c6,c7,c8⟩:=B1.out.four;obtain ⟨⟨d0,d1,d2,d3⟩,d4,d5,d6,d7,d8⟩:=B2.out.four;obtain ⟨⟨e0,e1,e2,e3⟩,e4,e5,e6,e7,e8⟩:=B3.out.four;obtain ⟨⟨f0,f1,f2,f3⟩,f4,f5,f6,f7,f8⟩:=B4.out.four;obtain ⟨⟨u0,u1,u2,u3⟩,u4,u5,u6,u7,u8⟩:=BL.out.four;go_wp2_with fail
         go_meet
         obtain ⟨r1,r2,r3⟩:=one_put HN.out BL.out LBL.out HF11.out;exact ⟨_,rfl,r1,⟨_,_,_,_,_,_,_,_,r2,r3⟩⟩
       case rest=>
        obtain ⟨G,rfl,hn,hg⟩:=hcut;obtain ⟨w30,hw30⟩:∃ x,x=wc:=⟨_,rfl⟩;rw[←hw30] at hn hg⊢;clear hw30;replace BA:=bW BA hn;replace BP:=bW BP hn;replace B1:=bW B1 hn;replace F1:=hid (F1.out.new hn);replace B3:=bW B3 hn;replace F3:=hid (F3.out.new hn);replace HEN3:=hid (HEN3.out.new hn);have HN4:=hid (HN3.out.trans hn);clear HN3 hn B2 F2 B4 F4;obtain ⟨s5,a5,l5,k5,t5,b5,m5,n5,hb5,hf5⟩:=hg;have B5:=hid hb5;have F5:=hid hf5;clear hb5 hf5;obtain ⟨g1,hg1⟩:∃ d,gain*l=d:=⟨_,rfl⟩
        have ho:q1 - g1=off:=by rw[←hg1];exact HK.out.ho
        have fg:FB 4068 gain:=by rw[←HD.out];exact FD1.out.div FD2.out HD0.out
        have fg1:FB 4101 g1:=by rw[←hg1];exact fg.mul HK.out.bl
        have HG1:=hid hg1;have HO:=hid ho;have FG:=hid fg;have FG1:=hid fg1;clear hg1 ho fg fg1
        go_step
        go_upto_region 13 with (fail)
        go_cut [16] (fun x wx=>∃ (R:Nat),x=.pointer (some ⟨R,0,none⟩)∧New w30 wx∧FracAt wx R off)
        case first=>
         have HN:=hid (New.refl w30);obtain ⟨⟨c0,c1,c2,c3⟩,c4,c5,c6,c7,c8⟩:=B1.out.four;obtain ⟨⟨e0,e1,e2,e3⟩,e4,e5,e6,e7,e8⟩:=B3.out.four;obtain ⟨⟨f0,f1,f2,f3⟩,f4,f5,f6,f7,f8⟩:=B5.out.four;refine wp_region_T 6 (fun W=>(W.cell? ⟨L,0,none⟩=some (.int .i64 s1)∧W.cell? ⟨L,1,none⟩=some (.slice a1 l1 k1)∧W.cell? ⟨L,2,none⟩=some (.int .i64 t1)∧W.cell? ⟨L,3,none⟩=some (.slice b1 m1 n1))∧(W.cell? ⟨P,0,none⟩=some (.int .i64 s3)∧W.cell? ⟨P,1,none⟩=some (.slice a3 l3 k3)∧W.cell? ⟨P,2,none⟩=some (.int .i64 t3)∧W.cell? ⟨P,3,none⟩=some (.slice b3 m3 n3))∧(W.cell? ⟨G,0,none⟩=some (.int .i64 s5)∧W.cell? ⟨G,1,none⟩=some (.slice a5 l5 k5)∧W.cell? ⟨G,2,none⟩=some (.int .i64 t5)∧W.cell? ⟨G,3,none⟩=some (.slice b5 m5 n5))) 7 #[false,false,false,false,false,false,false] rfl (by kernel_rfl) (by kernel_rfl) ?_;clear c0 c1 c2 c3 c4 c5 c6 c7 c8 e0 e1 e2 e3 e4 e5 e6 e7 e8 f0 f1 f2 f3 f4 f5 f6 f7 f8;replace B1:=hid (B1.out.new (New.refl w30).drew);replace B3:=hid (B3.out.new (New.refl w30).drew);replace B5:=hid (B5.out.new (New.refl w30).drew);replace F1:=hid (F1.out.new (New.refl w30).drew);replace F3:=hid (F3.out.new (New.refl w30).drew);replace F5:=hid (F5.out.new (New.refl w30).drew);replace HN:=hid (HN.out.drew);obtain ⟨wdr,hwd⟩:∃ x,w30.drew=x:=⟨_,rfl⟩;rw[hwd] at HN B1 B3 B5 F1 F3 F5⊢;clear hwd;refine tk 0 (by exact ⟨cW4 B1,cW4 B3,cW4 B5⟩) ?_
         try simp only[PT]
         refine tk 1 (by exact ⟨cW4 B1,cW4 B3,cW4 B5⟩) ?_
         try simp only[PT]
         refine tk 2 (by exact ⟨cW4 B1,cW4 B3,cW4 B5⟩) ?_
         try simp only[PT]
         refine wpT_two 3 5 rfl rfl (by kernel_rfl) (fun K hK=>?_) (fun K hK=>?_)
         ·skip
          go_simp;refine (fmul_calls _ _ gain l 4068 33 _ F5.out F1.out FG.out HK.out.bl (by omega)).mono ?_;rintro e w31 ⟨v9,rfl,hn,hf⟩;rw[HG1.out] at hf;clear F5 F1;have HF9:=hid hf;clear hf;replace B1:=bW B1 hn;replace B3:=bW B3 hn;replace B5:=bW B5 hn;replace F3:=hid (F3.out.new hn);replace HN:=tW HN hn;clear hn;refine hK.out _ _ (fun _=>⟨cW4 B1,cW4 B3,cW4 B5⟩) ?_;clear hK K
          try simp only[PT]
          refine wpT_two 4 5 rfl rfl (by kernel_rfl) (fun K hK=>?_) (fun K hK=>?_)
          ·skip
           go_simp;refine (fsub_calls _ _ q1 g1 2000 4101 _ F3.out HF9.out HK.out.b1 FG1.out (by omega)).mono ?_;rintro e w32 ⟨v10,rfl,hn,hf⟩;rw[HO.out] at hf;obtain ⟨s9,a9,l9,k9,t9,b9,m9,n9,rfl⟩:=hf.shape;clear F3 HF9;have HF10:=hid hf;clear hf;replace B1:=bW B1 hn;replace B3:=bW B3 hn;replace B5:=bW B5 hn;replace HN:=tW HN hn;clear hn;refine hK.out _ _ (fun _=>⟨cW4 B1,cW4 B3,cW4 B5⟩) ?_;clear hK K
           try simp only[PT]
           refine tk1 5 fun K hK=>?_;go_simp;have LBL:=hid (HN.out.size);obtain ⟨wa1,hwa,BL_,hn⟩:=laid1 w32 122 #[.int .i64 0,.slice none 0 0,.int .i64 0,.slice none 0 0];rw[hwa];clear hwa;have BL:=hid BL_;clear BL_;replace B1:=bW B1 hn;replace B3:=bW B3 hn;replace B5:=bW B5 hn;replace HF10:=hid (HF10.out.new hn);replace HN:=tW HN hn;clear hn;refine hK.out _ _ (fun _=>⟨cW4 B1,cW4 B3,cW4 B5⟩) ?_;clear hK K
           try simp only[PT]
           refine tlW ?_;obtain ⟨⟨c0,c1,c2,c3⟩,c4,c5,c6,c7,c8⟩:=B1.out.four;obtain ⟨⟨e0,e1,e2,e3⟩,e4,e5,e6,e7,e8⟩:=B3.out.four;obtain ⟨⟨f0,f1,f2,f3⟩,f4,f5,f6,f7,f8⟩:=B5.out.four;obtain ⟨⟨u0,u1,u2,u3⟩,u4,u5,u6,u7,u8⟩:=BL.out.four;go_wp2_with fail
           go_meet
           obtain ⟨r1,r2,r3⟩:=one_put HN.out BL.out LBL.out HF10.out;exact ⟨_,rfl,r1,⟨_,_,_,_,_,_,_,_,r2,r3⟩⟩
          ·skip
           go_simp;have LBL:=hid (HN.out.size);obtain ⟨wa1,hwa,BL_,hn⟩:=laid1 w31 122 #[.int .i64 0,.slice none 0 0,.int .i64 0,.slice none 0 0];rw[hwa];clear hwa;have BL:=hid BL_;clear BL_;replace B1:=bW B1 hn;replace B3:=bW B3 hn;replace B5:=bW B5 hn;replace F3:=hid (F3.out.new hn);replace HF9:=hid (HF9.out.new hn);replace HN:=tW HN hn;clear hn;refine hK.out _ _ (fun _=>⟨cW4 B1,cW4 B3,cW4 B5⟩) ?_;clear hK K
           try simp only[PT]
           refine tk1 4 fun K hK=>?_;go_simp;refine (fsub_calls _ _ q1 g1 2000 4101 _ F3.out HF9.out HK.out.b1 FG1.out (by omega)).mono ?_;rintro e w32 ⟨v10,rfl,hn,hf⟩;rw[HO.out] at hf;obtain ⟨s9,a9,l9,k9,t9,b9,m9,n9,rfl⟩:=hf.shape;clear F3 HF9;have HF10:=hid hf;clear hf;replace B1:=bW B1 hn;replace B3:=bW B3 hn;replace B5:=bW B5 hn;replace BL:=bW BL hn;replace HN:=tW HN hn;clear hn;refine hK.out _ _ (fun _=>⟨cW4 B1,cW4 B3,cW4 B5⟩) ?_;clear hK K
           try simp only[PT]
           refine tlW ?_;obtain ⟨⟨c0,c1,c2,c3⟩,c4,c5,c6,c7,c8⟩:=B1.out.four;obtain ⟨⟨e0,e1,e2,e3⟩,e4,e5,e6,e7,e8⟩:=B3.out.four;obtain ⟨⟨f0,f1,f2,f3⟩,f4,f5,f6,f7,f8⟩:=B5.out.four;obtain ⟨⟨u0,u1,u2,u3⟩,u4,u5,u6,u7,u8⟩:=BL.out.four;go_wp2_with fail
           go_meet
           obtain ⟨r1,r2,r3⟩:=one_put HN.out BL.out LBL.out HF10.out;exact ⟨_,rfl,r1,⟨_,_,_,_,_,_,_,_,r2,r3⟩⟩
         ·skip
          go_simp;have LBL:=hid (HN.out.size);obtain ⟨wa1,hwa,BL_,hn⟩:=laid1 wdr 122 #[.int .i64 0,.slice none 0 0,.int .i64 0,.slice none 0 0];rw[hwa];clear hwa;have BL:=hid BL_;clear BL_;replace B1:=bW B1 hn;replace B3:=bW B3 hn;replace B5:=bW B5 hn;replace F1:=hid (F1.out.new hn);replace F3:=hid (F3.out.new hn);replace F5:=hid (F5.out.new hn);replace HN:=tW HN hn;clear hn;refine hK.out _ _ (fun _=>⟨cW4 B1,cW4 B3,cW4 B5⟩) ?_;clear hK K
          try simp only[PT]
          refine tk1 3 fun K hK=>?_;go_simp;refine (fmul_calls _ _ gain l 4068 33 _ F5.out F1.out FG.out HK.out.bl (by omega)).mono ?_;rintro e w31 ⟨v9,rfl,hn,hf⟩;rw[HG1.out] at hf;clear F5 F1;have HF9:=hid hf;clear hf;replace B1:=bW B1 hn;replace B3:=bW B3 hn;replace B5:=bW B5 hn;replace F3:=hid (F3.out.new hn);replace BL:=bW BL hn;replace HN:=tW HN hn;clear hn;refine hK.out _ _ (fun _=>⟨cW4 B1,cW4 B3,cW4 B5⟩) ?_;clear hK K
          try simp only[PT]
          refine tk1 4 fun K hK=>?_;go_simp;refine (fsub_calls _ _ q1 g1 2000 4101 _ F3.out HF9.out HK.out.b1 FG1.out (by omega)).mono ?_;rintro e w32 ⟨v10,rfl,hn,hf⟩;rw[HO.out] at hf;obtain ⟨s9,a9,l9,k9,t9,b9,m9,n9,rfl⟩:=hf.shape;clear F3 HF9;have HF10:=hid hf;clear hf;replace B1:=bW B1 hn;replace B3:=bW B3 hn;replace B5:=bW B5 hn;replace BL:=bW BL hn;replace HN:=tW HN hn;clear hn;refine hK.out _ _ (fun _=>⟨cW4 B1,cW4 B3,cW4 B5⟩) ?_;clear hK K
          try simp only[PT]
          refine tlW ?_;obtain ⟨⟨c0,c1,c2,c3⟩,c4,c5,c6,c7,c8⟩:=B1.out.four;obtain ⟨⟨e0,e1,e2,e3⟩,e4,e5,e6,e7,e8⟩:=B3.out.four;obtain ⟨⟨f0,f1,f2,f3⟩,f4,f5,f6,f7,f8⟩:=B5.out.four;obtain ⟨⟨u0,u1,u2,u3⟩,u4,u5,u6,u7,u8⟩:=BL.out.four;go_wp2_with fail
          go_meet
          obtain ⟨r1,r2,r3⟩:=one_put HN.out BL.out LBL.out HF10.out;exact ⟨_,rfl,r1,⟨_,_,_,_,_,_,_,_,r2,r3⟩⟩
        case rest=>
         obtain ⟨R,rfl,hn,hr⟩:=hcut;obtain ⟨w40,hw40⟩:∃ x,x=wc:=⟨_,rfl⟩;rw[←hw40] at hn hr⊢;clear hw40;replace BA:=bW BA hn;replace BP:=bW BP hn;replace B5:=bW B5 hn;replace F5:=hid (F5.out.new hn);replace HEN3:=hid (HEN3.out.new hn);have HN:=hid (HN4.out.trans hn);clear HN4 hn B1 F1 B3 F3;obtain ⟨s6,a6,l6,k6,t6,b6,m6,n6,hb6,hf6⟩:=hr;have B6:=hid hb6;have F6:=hid hf6;clear hb6 hf6;have lg:=fun va W hx=>large_calls va gain W hx HK.out.gs;have lo:=fun va W hx=>large_calls va off W hx HK.out.os;obtain ⟨sg,hsg1⟩:∃ sg,gain.num.sign=sg:=⟨_,rfl⟩;have LG:=hid lg;have LO:=hid lo;have HSG1:=hid hsg1;clear lg lo hsg1;by_cases hsl:sg≤0
         ·have hsg:decide (sg≤0)=true:=decide_eq_true hsl;have HSL:=hid hsl;clear hsl;obtain ⟨⟨f0,f1,f2,f3⟩,f4,f5,f6,f7,f8⟩:=B5.out.four;obtain ⟨⟨h0,h1,h2,h3⟩,h4,h5,h6,h7,h8⟩:=B6.out.four
          go_step
          go_upto_region 14 with (fail);clear f0 f1 f2 f3 f4 f5 f6 f7 f8;clear h0 h1 h2 h3 h4 h5 h6 h7 h8;refine wp_region_T 13 (fun W=>(W.cell? ⟨G,0,none⟩=some (.int .i64 s5)∧W.cell? ⟨G,1,none⟩=some (.slice a5 l5 k5)∧W.cell? ⟨G,2,none⟩=some (.int .i64 t5)∧W.cell? ⟨G,3,none⟩=some (.slice b5 m5 n5))∧(W.cell? ⟨R,0,none⟩=some (.int .i64 s6)∧W.cell? ⟨R,1,none⟩=some (.slice a6 l6 k6)∧W.cell? ⟨R,2,none⟩=some (.int .i64 t6)∧W.cell? ⟨R,3,none⟩=some (.slice b6 m6 n6))) 14 #[false,false,false,false,false,false,false,false,false,false,false,false,false,false] rfl (by kernel_rfl) (by kernel_rfl) ?_;refine tk 0 (by exact ⟨cW4 B5,cW4 B6⟩) ?_
          try simp only[PT]
          refine tk 4 (by exact ⟨cW4 B5,cW4 B6⟩) ?_
          try simp only[PT]
          refine tk1 1 fun K hK=>?_;go_simp;refine (fsign_calls _ gain _ (F5.out.new (New.refl _).drew)).mono ?_;rintro e w41 ⟨rfl,hn⟩;rw[HSG1.out];have hn:=hn.undrew;replace BA:=bW BA hn;replace BP:=bW BP hn;replace B5:=bW B5 hn;replace B6:=bW B6 hn;replace F5:=hid (F5.out.new hn);replace F6:=hid (F6.out.new hn);replace HN:=tW HN hn;clear hn;refine hK.out _ _ (fun _=>⟨cW4 B5,cW4 B6⟩) ?_;clear hK K
          try simp only[PT]
          refine tk 2 (by exact ⟨cW4 B5,cW4 B6⟩) ?_
          try simp only[PT]
          refine tk1 3 fun K hK=>?_;go_simp;refine (pwhen_new _ 3 _).mono ?_;rintro e w42 ⟨rfl,hn⟩;replace BA:=bW BA hn;replace BP:=bW BP hn;replace B5:=bW B5 hn;replace B6:=bW B6 hn;replace F5:=hid (F5.out.new hn);replace F6:=hid (F6.out.new hn);replace HN:=tW HN hn;clear hn;refine hK.out _ _ (fun _=>⟨cW4 B5,cW4 B6⟩) ?_;clear hK K
          try simp only[]
          refine tk1 5 fun K hK=>?_;go_simp;refine (LG.out _ _ F5.out).mono ?_;rintro e w43 ⟨rfl,hn⟩;replace BA:=bW BA hn;replace BP:=bW BP hn;replace B5:=bW B5 hn;replace B6:=bW B6 hn;replace F5:=hid (F5.out.new hn);replace F6:=hid (F6.out.new hn);replace HN:=tW HN hn;clear hn;refine hK.out _ _ (fun _=>⟨cW4 B5,cW4 B6⟩) ?_;clear hK K
          try simp only[PT]
          refine tk 6 (by exact ⟨cW4 B5,cW4 B6⟩) ?_
          try simp only[PT]
          refine tk 7 (by exact ⟨cW4 B5,cW4 B6⟩) ?_
          try simp only[PT]
          refine tk1 8 fun K hK=>?_;go_simp;refine (LO.out _ _ F6.out).mono ?_;rintro e w44 ⟨rfl,hn⟩;replace BA:=bW BA hn;replace BP:=bW BP hn;replace B5:=bW B5 hn;replace B6:=bW B6 hn;replace F5:=hid (F5.out.new hn);replace F6:=hid (F6.out.new hn);replace HN:=tW HN hn;clear hn;refine hK.out _ _ (fun _=>⟨cW4 B5,cW4 B6⟩) ?_;clear hK K
          try simp only[PT]
          refine tk 9 (by exact ⟨cW4 B5,cW4 B6⟩) ?_
          try simp only[PT]
          refine tk1 10 fun K hK=>?_;go_simp;refine (pwhen_new _ 4 _).mono ?_;rintro e w45 ⟨rfl,hn⟩;replace BA:=bW BA hn;replace BP:=bW BP hn;replace B5:=bW B5 hn;replace B6:=bW B6 hn;replace F5:=hid (F5.out.new hn);replace F6:=hid (F6.out.new hn);replace HN:=tW HN hn;clear hn;refine hK.out _ _ (fun _=>⟨cW4 B5,cW4 B6⟩) ?_;clear hK K
          try simp only[PT]
          refine tk1 11 fun K hK=>?_;go_simp;have HN0:=HN;clear HN;obtain ⟨BG,HN⟩:=lay1 w45 29 #[.int .i64 3,.int .i64 0];replace BA:=hid (BA.out.new HN.out);replace BP:=hid (BP.out.new HN.out);replace B5:=hid (B5.out.new HN.out);replace B6:=hid (B6.out.new HN.out);replace F5:=hid (F5.out.new HN.out);replace F6:=hid (F6.out.new HN.out);have HN_:=HN0.out.trans HN.out;clear HN HN0;have HN:=hid HN_;clear HN_;refine hK.out _ _ (fun _=>⟨cW4 B5,cW4 B6⟩) ?_;clear hK K
          try simp only[PT]
          refine tk1 12 fun K hK=>?_;go_simp;refine (pfirst2_new 3 0 _ _ 29 _ BG.out).mono ?_;rintro e w46 ⟨rfl,hn⟩;replace BA:=bW BA hn;replace BP:=bW BP hn;replace B5:=bW B5 hn;replace B6:=bW B6 hn;replace F5:=hid (F5.out.new hn);replace F6:=hid (F6.out.new hn);replace HN:=tW HN hn;clear hn;refine hK.out _ _ (fun _=>⟨cW4 B5,cW4 B6⟩) ?_;clear hK K
          try simp only[PT]
          refine tlW ?_;obtain ⟨⟨f0,f1,f2,f3⟩,f4,f5,f6,f7,f8⟩:=B5.out.four;obtain ⟨⟨h0,h1,h2,h3⟩,h4,h5,h6,h7,h8⟩:=B6.out.four;clear f0 f1 f2 f3 f4 f5 f6 f7 f8 h0 h1 h2 h3 h4 h5 h6 h7 h8;obtain ⟨⟨y0,y1,y2,y3,y4⟩,y5⟩:=BP.out.five;have x0:=BP.out.frozen 0;have x1:=BP.out.frozen 1;have x2:=BP.out.frozen 2;have x3:=BP.out.frozen 3;have x4:=BP.out.frozen 4;go_wp2_with fail;refine bodyPost_ret (v:=.tuple #[.agg #[.int .i64 0,.int .i64 0,.int .i64 0,.string ⟨#[]⟩,.string ⟨#[]⟩],.int .i64 3]) (by simp[results,Tryz.results40,go_sem,y0,y1,y2,y3,y4]) rfl ?_;have hNX:=HNW.out.trans HN.out
          have hP1:w.heap.size≤w.heap.size+1+1+1:=by omega
          exact ⟨by rw[(HPO.out.1 (by rw[HSG1.out];exact HSL.out)).1,(HPO.out.1 (by rw[HSG1.out];exact HSL.out)).2],((((hNX.setCell (p:=⟨w.heap.size+1+1+1,0,none⟩) hP1 _).setCell (p:=⟨w.heap.size+1+1+1,1,none⟩) hP1 _).setCell (p:=⟨w.heap.size+1+1+1,2,none⟩) hP1 _).setCell (p:=⟨w.heap.size+1+1+1,3,none⟩) hP1 _).setCell (p:=⟨w.heap.size+1+1+1,4,none⟩) hP1 _⟩
         ·have hsg:decide (sg≤0)=false:=decide_eq_false hsl;have HSL:=hid hsl;clear hsl;obtain ⟨⟨f0,f1,f2,f3⟩,f4,f5,f6,f7,f8⟩:=B5.out.four;obtain ⟨⟨h0,h1,h2,h3⟩,h4,h5,h6,h7,h8⟩:=B6.out.four
          go_step
          go_upto_region 14 with (fail);clear f0 f1 f2 f3 f4 f5 f6 f7 f8;clear h0 h1 h2 h3 h4 h5 h6 h7 h8;refine wp_region_T 13 (fun W=>(W.cell? ⟨G,0,none⟩=some (.int .i64 s5)∧W.cell? ⟨G,1,none⟩=some (.slice a5 l5 k5)∧W.cell? ⟨G,2,none⟩=some (.int .i64 t5)∧W.cell? ⟨G,3,none⟩=some (.slice b5 m5 n5))∧(W.cell? ⟨R,0,none⟩=some (.int .i64 s6)∧W.cell? ⟨R,1,none⟩=some (.slice a6 l6 k6)∧W.cell? ⟨R,2,none⟩=some (.int .i64 t6)∧W.cell? ⟨R,3,none⟩=some (.slice b6 m6 n6))) 14 #[false,false,false,false,false,false,false,false,false,false,false,false,false,false] rfl (by kernel_rfl) (by kernel_rfl) ?_;refine tk 0 (by exact ⟨cW4 B5,cW4 B6⟩) ?_
          try simp only[PT]
          refine tk 4 (by exact ⟨cW4 B5,cW4 B6⟩) ?_
          try simp only[PT]
          refine tk1 1 fun K hK=>?_;go_simp;refine (fsign_calls _ gain _ (F5.out.new (New.refl _).drew)).mono ?_;rintro e w41 ⟨rfl,hn⟩;rw[HSG1.out];have hn:=hn.undrew;replace BA:=bW BA hn;replace BP:=bW BP hn;replace B5:=bW B5 hn;replace B6:=bW B6 hn;replace F5:=hid (F5.out.new hn);replace F6:=hid (F6.out.new hn);replace HN:=tW HN hn;clear hn;refine hK.out _ _ (fun _=>⟨cW4 B5,cW4 B6⟩) ?_;clear hK K
          try simp only[PT]
          refine tk 2 (by exact ⟨cW4 B5,cW4 B6⟩) ?_
          try simp only[PT]
          refine tk1 3 fun K hK=>?_;go_simp;refine (pwhen_new _ 3 _).mono ?_;rintro e w42 ⟨rfl,hn⟩;replace BA:=bW BA hn;replace BP:=bW BP hn;replace B5:=bW B5 hn;replace B6:=bW B6 hn;replace F5:=hid (F5.out.new hn);replace F6:=hid (F6.out.new hn);replace HN:=tW HN hn;clear hn;refine hK.out _ _ (fun _=>⟨cW4 B5,cW4 B6⟩) ?_;clear hK K
          try simp only[PT]
          refine tk1 5 fun K hK=>?_;go_simp;refine (LG.out _ _ F5.out).mono ?_;rintro e w43 ⟨rfl,hn⟩;replace BA:=bW BA hn;replace BP:=bW BP hn;replace B5:=bW B5 hn;replace B6:=bW B6 hn;replace F5:=hid (F5.out.new hn);replace F6:=hid (F6.out.new hn);replace HN:=tW HN hn;clear hn;refine hK.out _ _ (fun _=>⟨cW4 B5,cW4 B6⟩) ?_;clear hK K
          try simp only[PT]
          refine tk 6 (by exact ⟨cW4 B5,cW4 B6⟩) ?_
          try simp only[PT]
          refine tk 7 (by exact ⟨cW4 B5,cW4 B6⟩) ?_
          try simp only[PT]
          refine tk1 8 fun K hK=>?_;go_simp;refine (LO.out _ _ F6.out).mono ?_;rintro e w44 ⟨rfl,hn⟩;replace BA:=bW BA hn;replace BP:=bW BP hn;replace B5:=bW B5 hn;replace B6:=bW B6 hn;replace F5:=hid (F5.out.new hn);replace F6:=hid (F6.out.new hn);replace HN:=tW HN hn;clear hn;refine hK.out _ _ (fun _=>⟨cW4 B5,cW4 B6⟩) ?_;clear hK K
          try simp only[PT]
          refine tk 9 (by exact ⟨cW4 B5,cW4 B6⟩) ?_
          try simp only[PT]
          refine tk1 10 fun K hK=>?_;go_simp;refine (pwhen_new _ 4 _).mono ?_;rintro e w45 ⟨rfl,hn⟩;replace BA:=bW BA hn;replace BP:=bW BP hn;replace B5:=bW B5 hn;replace B6:=bW B6 hn;replace F5:=hid (F5.out.new hn);replace F6:=hid (F6.out.new hn);replace HN:=tW HN hn;clear hn;refine hK.out _ _ (fun _=>⟨cW4 B5,cW4 B6⟩) ?_;clear hK K
          try simp only[PT]
          refine tk1 11 fun K hK=>?_;go_simp;have HN0:=HN;clear HN;obtain ⟨BG,HN⟩:=lay1 w45 29 #[.int .i64 0,.int .i64 0];replace BA:=hid (BA.out.new HN.out);replace BP:=hid (BP.out.new HN.out);replace B5:=hid (B5.out.new HN.out);replace B6:=hid (B6.out.new HN.out);replace F5:=hid (F5.out.new HN.out);replace F6:=hid (F6.out.new HN.out);have HN_:=HN0.out.trans HN.out;clear HN HN0;have HN:=hid HN_;clear HN_;refine hK.out _ _ (fun _=>⟨cW4 B5,cW4 B6⟩) ?_;clear hK K
          try simp only[PT]
          refine tk1 12 fun K hK=>?_;go_simp;refine (pfirst2_new 0 0 _ _ 29 _ BG.out).mono ?_;rintro e w46 ⟨rfl,hn⟩;replace BA:=bW BA hn;replace BP:=bW BP hn;replace B5:=bW B5 hn;replace B6:=bW B6 hn;replace F5:=hid (F5.out.new hn);replace F6:=hid (F6.out.new hn);replace HN:=tW HN hn;clear hn;refine hK.out _ _ (fun _=>⟨cW4 B5,cW4 B6⟩) ?_;clear hK K
          try simp only[]
          refine tlW ?_;obtain ⟨⟨f0,f1,f2,f3⟩,f4,f5,f6,f7,f8⟩:=B5.out.four;obtain ⟨⟨h0,h1,h2,h3⟩,h4,h5,h6,h7,h8⟩:=B6.out.four;clear f0 f1 f2 f3 f4 f5 f6 f7 f8 h0 h1 h2 h3 h4 h5 h6 h7 h8;obtain ⟨⟨pa0,pa1,pa2,pa3,pa4⟩,pa5⟩:=BA.out.five;go_wp2_with fail;clear pa0 pa1 pa2 pa3 pa4 pa5;have hGC:=B5.out.lt;have hRC:=B6.out.lt;have hPC:=BP.out.lt;have hwP:w1.heap.size≤w46.heap.size:=HN.out.size;have hCG:w46.heap.size≠G:=Nat.ne_of_gt hGC;have hCR:w46.heap.size≠R:=Nat.ne_of_gt hRC;have hCP:w46.heap.size≠w.heap.size+1+1+1:=Nat.ne_of_gt hPC;have HCG:=hid hCG;have HCR:=hid hCR;have HCP:=hid hCP;have HGC:=hid hGC;have HRC:=hid hRC;have HPC:=hid hPC;have HWP:=hid hwP;clear hCG hCR hCP hGC hRC hPC hwP;have EN:=hid (HENW.out.new HN.out);have HN0:=HN;clear HN;obtain ⟨BC,HN⟩:=lay1 w46 32 #[.int .i64 b,.int .i64 s,.int .i64 z,.string g,.string o];replace BP:=hid (BP.out.new HN.out);replace B5:=hid (B5.out.new HN.out);replace B6:=hid (B6.out.new HN.out);replace F5:=hid (F5.out.new HN.out);replace F6:=hid (F6.out.new HN.out);replace EN:=hid (EN.out.new HN.out);have HN_:=HN0.out.trans HN.out;clear HN HN0;have HN:=hid HN_;clear HN_;obtain ⟨C,hC⟩:∃ x,w46.heap.size=x:=⟨_,rfl⟩;rw[hC] at HCG HCR HCP HGC HRC HPC HWP BC⊢;have HCC:=hid hC;clear hC;obtain ⟨⟨f0,f1,f2,f3⟩,f4,f5,f6,f7,f8⟩:=B5.out.four;obtain ⟨⟨h0,h1,h2,h3⟩,h4,h5,h6,h7,h8⟩:=B6.out.four;obtain ⟨⟨c0,c1,c2,c3,c4⟩,c5⟩:=BC.out.five;refine wp_region_T 6 (fun W=>W.cell? ⟨G,0,none⟩=some (.int .i64 s5)∧W.cell? ⟨G,1,none⟩=some (.slice a5 l5 k5)∧W.cell? ⟨G,2,none⟩=some (.int .i64 t5)∧W.cell? ⟨G,3,none⟩=some (.slice b5 m5 n5)∧W.cell? ⟨R,0,none⟩=some (.int .i64 s6)∧W.cell? ⟨R,1,none⟩=some (.slice a6 l6 k6)∧W.cell? ⟨R,2,none⟩=some (.int .i64 t6)∧W.cell? ⟨R,3,none⟩=some (.slice b6 m6 n6)) 8 #[false,false,false,false,false,false,false,false] rfl (by kernel_rfl) (by kernel_rfl) ?_;refine tk 0 (by exact ⟨f0,f1,f2,f3,h0,h1,h2,h3⟩) ?_
          try simp only[PT]
          refine tk 2 (by exact ⟨f0,f1,f2,f3,h0,h1,h2,h3⟩) ?_
          try simp only[PT]
          refine tk1 1 fun K hK=>?_;go_simp;refine (HK.out.tx _ _ (F5.out.new (New.refl _).drew) (EN.out.new (New.refl _).drew)).mono ?_;rintro e w47 ⟨rfl,hn⟩;have hn:=hn.undrew;clear f0 f1 f2 f3 f4 f5 f6 f7 f8 h0 h1 h2 h3 h4 h5 h6 h7 h8;clear c0 c1 c2 c3 c4 c5;replace BP:=bW BP hn;replace B5:=bW B5 hn;replace B6:=bW B6 hn;replace BC:=bW BC hn;replace F5:=hid (F5.out.new hn);replace F6:=hid (F6.out.new hn);replace EN:=hid (EN.out.new hn);replace HN:=tW HN hn;clear hn;obtain ⟨⟨f0,f1,f2,f3⟩,f4,f5,f6,f7,f8⟩:=B5.out.four;obtain ⟨⟨h0,h1,h2,h3⟩,h4,h5,h6,h7,h8⟩:=B6.out.four;obtain ⟨⟨c0,c1,c2,c3,c4⟩,c5⟩:=BC.out.five;refine hK.out _ _ (fun _=>⟨f0,f1,f2,f3,h0,h1,h2,h3⟩) ?_;clear hK K
          try simp only[PT]
          refine tk 4 (by exact ⟨f0,f1,f2,f3,h0,h1,h2,h3⟩) ?_
          try simp only[PT]
          refine tk1 3 fun K hK=>?_;go_simp;refine (HK.out.ty _ _ F6.out EN.out).mono ?_;rintro e w48 ⟨rfl,hn⟩;clear f0 f1 f2 f3 f4 f5 f6 f7 f8 h0 h1 h2 h3 h4 h5 h6 h7 h8;clear c0 c1 c2 c3 c4 c5;replace BP:=bW BP hn;replace B5:=bW B5 hn;replace B6:=bW B6 hn;replace BC:=bW BC hn;replace F5:=hid (F5.out.new hn);replace F6:=hid (F6.out.new hn);replace EN:=hid (EN.out.new hn);replace HN:=tW HN hn;clear hn;obtain ⟨⟨f0,f1,f2,f3⟩,f4,f5,f6,f7,f8⟩:=B5.out.four;obtain ⟨⟨h0,h1,h2,h3⟩,h4,h5,h6,h7,h8⟩:=B6.out.four;obtain ⟨⟨c0,c1,c2,c3,c4⟩,c5⟩:=BC.out.five;have z3:=BC.out.frozen 3;have z4:=BC.out.frozen 4;refine hK.out _ _ (fun _=>⟨f0,f1,f2,f3,h0,h1,h2,h3⟩) ?_;clear hK K
          try simp only[PT]
          refine tk1 5 fun K hK=>?_;go_simp;clear z3 z4;clear f0 f1 f2 f3 f4 f5 f6 f7 f8 h0 h1 h2 h3 h4 h5 h6 h7 h8;clear c0 c1 c2 c3 c4 c5;have BP_:=BP.out.other (p:=⟨C,3,none⟩) HCP.out (.string tg);have B5_:=B5.out.other (p:=⟨C,3,none⟩) HCG.out (.string tg);have B6_:=B6.out.other (p:=⟨C,3,none⟩) HCR.out (.string tg);have BC_:=BC.out.set 3 (.string tg);have HN_:=HN.out.setCell (p:=⟨C,3,none⟩) HWP.out (.string tg);clear BP B5 B6 BC HN;have BP:=hid BP_;have B5:=hid B5_;have B6:=hid B6_;have BC:=hid BC_;have HN:=hid HN_;clear BP_ B5_ B6_ BC_ HN_;obtain ⟨⟨f0,f1,f2,f3⟩,f4,f5,f6,f7,f8⟩:=B5.out.four;obtain ⟨⟨h0,h1,h2,h3⟩,h4,h5,h6,h7,h8⟩:=B6.out.four;obtain ⟨⟨c0,c1,c2,c3,c4⟩,c5⟩:=BC.out.five;have z4:=BC.out.frozen 4;refine hK.out _ _ (fun _=>⟨f0,f1,f2,f3,h0,h1,h2,h3⟩) ?_;clear hK K
          try simp only[PT]
          refine tlW ?_;have y0:=BP.out.cell 0;have y1:=BP.out.cell 1;have y2:=BP.out.cell 2;have y3:=BP.out.cell 3;have y4:=BP.out.cell 4;have x0:=BP.out.frozen 0;have x1:=BP.out.frozen 1;have x2:=BP.out.frozen 2;have x3:=BP.out.frozen 3;have x4:=BP.out.frozen 4;have hCP:=HCP.out;have hPC2:=HCP.out.symm;go_wp2_with fail;refine bodyPost_ret (v:=.tuple #[.agg #[.int .i64 b,.int .i64 s,.int .i64 z,.string tg,.string tof],.int .i64 0]) (by simp[results,Tryz.results40,go_sem,y0,y1,y2,y3,y4]) rfl ?_;have hB3:w1.heap.size≤C:=HWP.out;have hNX:=HNW.out.trans (HN.out.setCell (p:=⟨C,4,none⟩) hB3 (.string tof))
          have hP1:w.heap.size≤w.heap.size+1+1+1:=by omega
          exact ⟨by rw[(HPO.out.2 (by rw[HSG1.out];exact HSL.out)).1,(HPO.out.2 (by rw[HSG1.out];exact HSL.out)).2],((((hNX.setCell (p:=⟨w.heap.size+1+1+1,0,none⟩) hP1 _).setCell (p:=⟨w.heap.size+1+1+1,1,none⟩) hP1 _).setCell (p:=⟨w.heap.size+1+1+1,2,none⟩) hP1 _).setCell (p:=⟨w.heap.size+1+1+1,3,none⟩) hP1 _).setCell (p:=⟨w.heap.size+1+1+1,4,none⟩) hP1 _⟩
    ·have h3b:(e3 != 0)=true:=by simpa using h0
     have HH0:=hid h0;clear h0;obtain ⟨⟨y0,y1,y2,y3,y4⟩,y5⟩:=BP.out.five;have x0:=BP.out.frozen 0;have x1:=BP.out.frozen 1;have x2:=BP.out.frozen 2;have x3:=BP.out.frozen 3;have x4:=BP.out.frozen 4;go_wp2_with fail;refine bodyPost_ret (v:=.tuple #[.agg #[.int .i64 0,.int .i64 0,.int .i64 0,.string ⟨#[]⟩,.string ⟨#[]⟩],.int .i64 e3]) (by simp[results,Tryz.results40,go_sem,y0,y1,y2,y3,y4]) rfl ?_;have hNX:=HNW.out.trans HN.out
     have hP1:w.heap.size≤w.heap.size+1+1+1:=by omega
     exact ⟨by rw[(HBAD.out HH0.out).1,(HBAD.out HH0.out).2],((((hNX.setCell (p:=⟨w.heap.size+1+1+1,0,none⟩) hP1 _).setCell (p:=⟨w.heap.size+1+1+1,1,none⟩) hP1 _).setCell (p:=⟨w.heap.size+1+1+1,2,none⟩) hP1 _).setCell (p:=⟨w.heap.size+1+1+1,3,none⟩) hP1 _).setCell (p:=⟨w.heap.size+1+1+1,4,none⟩) hP1 _⟩
end Go.Proofs.YtbkcjmojgglbkaaGreatDoor
