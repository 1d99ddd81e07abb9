/- Part B09. -/
import Derived.WalkMore
import Derived.Maps.OwnOps
import Derived.Test.YtnjonlnemagomaaGreatDoorB08
namespace Go.Proofs.YtnjonlnemagomaaGreatDoor
open Go.RowKit Big Go.ChangeMaps Go.MapKept Tryz
open Go.Lib (hid)
set_option maxRecDepth 100000
set_option maxHeartbeats 8000000
set_option linter.all false
def serU47:Int:=100000000000000000000000000000000000000000000000
def serSum:Int:=70710678118654752440084436210484903928483593768848
theorem low_val:(Rat.divInt (serSum - 1000000) serU47).floor=707:=by decide +kernel
theorem high_val:(Rat.divInt (serSum+1000000) serU47).floor=707:=by decide +kernel
theorem ser_bds:serSum.natAbs < 2^400∧serU47.natAbs < 2^400∧(serSum - 1000000).natAbs < 2^400∧(serSum+1000000).natAbs < 2^400∧serU47≠0:=by decide +kernel
theorem idx_scale (W:World):(Instr.index 96 (.agg #[.int .i64 50,.int .i64 100]) (.int .i64 0)).run prog W=.ok (.int .i64 50) W:=by kernel_rfl
theorem below_calls (va:Value)(w:World)(hx:IsFrac w va (Rat.divInt 1 8)):Calls prog 213 #[va,.int .i64 3] w (IntPost w 707):=by
 obtain ⟨sa,aa,la,ca,ta,ba,ma,na,rfl⟩:=hx.shape;have bd:∀ z:Int,z.natAbs < 2^400→Bd z:=fun z h=>⟨400,by omega,h⟩;have a9:=fun va W h=>series_calls va W h;rw[show serS 20=serSum from ser_sum] at a9;have ay:=fun W=>ten_calls 47 W (by omega);rw[show ((47:Nat):Int)=47 from rfl,show (10:Int)^47=serU47 from ser_unit] at ay;obtain ⟨b1,b2,b3,b4,b5⟩:=ser_bds;have s6:∀ W,IsInt W (.agg #[.int .i64 1000000,.slice none 0 0]) 1000000:=fun W=>.small rfl (by omega) (by omega);have a7:=fun va W h=>sub_calls va _ serSum 1000000 W h (s6 W) (bd _ b1) (bd _ (by decide +kernel));have a6:=fun va W h=>add_calls va _ serSum 1000000 W h (s6 W) (bd _ b1) (bd _ (by decide +kernel));have a0:=fun va vb W h1 h2=>make_calls va vb (serSum - 1000000) serU47 W h1 h2 (bd _ b3) (bd _ b2) b5;have a2:=fun va vb W h1 h2=>make_calls va vb (serSum+1000000) serU47 W h1 h2 (bd _ b4) (bd _ b2) b5;have aw:=fun va W h=>floor_calls va (Rat.divInt (serSum - 1000000) serU47) 400 W h (FB.divInt b3 b2 b5) (by omega);have ax:=fun va W h=>floor_calls va (Rat.divInt (serSum+1000000) serU47) 400 W h (FB.divInt b4 b2 b5) (by omega);rw[low_val] at aw;rw[high_val] at ax;have a4:=fun va vb W h1 h2=>cmp_calls va vb 707 707 W h1 h2 (bd _ (by decide +kernel)) (bd _ (by decide +kernel));unfold SignPost at a4;rw[show ((707:Int) - 707).sign=0 by decide] at a4;obtain ⟨S,hS⟩:∃ S,serSum=S:=⟨_,rfl⟩;obtain ⟨U,hU⟩:∃ S,serU47=S:=⟨_,rfl⟩;simp only[hS] at a9 a7 a6 a0 a2 aw ax;simp only[hU] at ay a0 a2 aw ax;obtain ⟨S1,bu⟩:∃ x,S - 1000000=x:=⟨_,rfl⟩;obtain ⟨S2,bv⟩:∃ x,S+1000000=x:=⟨_,rfl⟩;simp only[bu] at a7 a0 aw;simp only[bv] at a6 a2 ax;obtain ⟨q1,bw⟩:∃ q,Rat.divInt S1 U=q:=⟨_,rfl⟩;obtain ⟨q2,bx⟩:∃ q,Rat.divInt S2 U=q:=⟨_,rfl⟩;simp only[bw] at a0 aw;simp only[bx] at a2 ax;obtain ⟨Z,hZ⟩:∃ Z:Int,707=Z:=⟨_,rfl⟩;simp only[hZ] at aw ax a4;rw[hZ];clear hS hU bu bv bw bx b1 b2 b3 b4 b5 s6 bd hZ;refine zh10 ?_ hx a9 ay a7 a6 a0 a2 aw ax a4;clear hx a9 ay a7 a6 a0 a2 aw ax a4;intro HX cm bt cl bn ck bp cj bo ci;go_in;go_wp2_with fail
 go_step3
 go_wp2_with fail
 go_step3
 go_wp2_with fail;obtain ⟨BA,BP,BL,HN⟩:=lay3 w 115 #[.int .i64 sa,.slice aa la ca,.int .i64 ta,.slice ba ma na] 113 #[.int .i64 0,.slice none 0 0] 113 #[.int .i64 0,.slice none 0 0];replace HX:=hid (HX.new HN);obtain ⟨w0,bz⟩:∃ u,((w.alloc (.cells #[.int .i64 sa,.slice aa la ca,.int .i64 ta,.slice ba ma na] 115)).alloc (.cells #[.int .i64 0,.slice none 0 0] 113)).alloc (.cells #[.int .i64 0,.slice none 0 0] 113)=u:=⟨_,rfl⟩;rw[bz] at BA BP BL HN HX⊢;clear bz;go_loopw [12] (fun i wr=>i=.int .i64 0∧Hid (wr=w0)) (fun _ _=>0)
 case atStart=>exact ⟨rfl,hid rfl⟩
 case round=>
  obtain ⟨rfl,HW⟩:=hrel;rw[HW.out];clear HW;have cp:=idx_scale;have pa:=BA.out.four;go_wp2_with fail;refine zO (cm _ _ HX) fun w1 s1 a1 l1 k1 hn hi=>?_;have ac:=hid hi;clear hi;clear pa;clear BA HX;obtain ⟨HN,BP,BL⟩:=zn3 hn HN BP.new BL.new;clear hn;have cq:=BL.out.lt;go_upto_region 6 with (fail);obtain ⟨BS,hn⟩:=lay1 w1 113 #[.int .i64 s1,.slice a1 l1 k1];obtain ⟨HN,BP,BL,ac⟩:=zn4 hn HN BP.new BL.new ac.new;clear hn;obtain ⟨w2,b0⟩:∃ u,w1.alloc (.cells #[.int .i64 s1,.slice a1 l1 k1] 113)=u:=⟨_,rfl⟩;rw[b0] at BS BP BL HN ac⊢;clear b0;go_wp2_with fail;refine zO (bt _) fun w3 s3 a3 l3 k3 hn hi=>?_;have ad:=hid hi;clear hi;obtain ⟨HN,BP,BL,BS,ac⟩:=zn5 hn HN BP.new BL.new BS.new ac.new;clear hn;have cr:=BS.out.lt;go_upto_region 7 with (fail);obtain ⟨BU,hn⟩:=lay1 w3 113 #[.int .i64 s3,.slice a3 l3 k3];obtain ⟨HN,BP,BL,BS,ac,ad⟩:=zn6 hn HN BP.new BL.new BS.new ac.new ad.new;clear hn;obtain ⟨w4,b6⟩:∃ u,w3.alloc (.cells #[.int .i64 s3,.slice a3 l3 k3] 113)=u:=⟨_,rfl⟩;rw[b6] at BU BS BP BL HN ac ad⊢;clear b6;obtain ⟨ae,af,al,am,an⟩:=BS.out.two;obtain ⟨ah,ai,ao,ap,aq⟩:=BU.out.two;have xl:=BL.out.two;refine zR 6 7 (fun W=>W.cell? ⟨w1.heap.size,0,none⟩=some (.int .i64 s1)∧W.cell? ⟨w1.heap.size,1,none⟩=some (.slice a1 l1 k1)∧W.cell? ⟨w3.heap.size,0,none⟩=some (.int .i64 s3)∧W.cell? ⟨w3.heap.size,1,none⟩=some (.slice a3 l3 k3)) ?_;refine zT 0 ⟨ae,af,ah,ai⟩ ?_;refine zT 3 ⟨ae,af,ah,ai⟩ ?_;refine tk1 1 fun K hK=>?_;go_simp;refine zM (of_calls 1000000 _) fun w5 hn=>?_;have hn:=hn.undrew;clear ae af al am an ah ai ao ap aq xl;obtain ⟨HN,BP,BL,BS,BU,ac,ad⟩:=zn7 hn HN BP.new BL.new BS.new BU.new ac.new ad.new;clear hn;obtain ⟨ae,af,al,am,an⟩:=BS.out.two;obtain ⟨ah,ai,ao,ap,aq⟩:=BU.out.two;have xl:=BL.out.two;refine zK hK ⟨ae,af,ah,ai⟩ ?_;clear hK K;refine tk1 2 fun K hK=>?_;go_simp;refine zN (cl _ _ ac) fun w6 v6 hn hi=>?_;have au:=hid hi;clear hi;clear ae af al am an ah ai ao ap aq xl;obtain ⟨HN,BP,BL,BS,BU,ac,ad⟩:=zn7 hn HN BP.new BL.new BS.new BU.new ac.new ad.new;clear hn;obtain ⟨ae,af,al,am,an⟩:=BS.out.two;obtain ⟨ah,ai,ao,ap,aq⟩:=BU.out.two;have xl:=BL.out.two;refine zK hK ⟨ae,af,ah,ai⟩ ?_;clear hK K;refine tk1 4 fun K hK=>?_;go_simp;refine zN (ck _ _ _ au ad) fun w7 v7 hn hf=>?_;clear au;have ar:=hid hf;clear hf;clear ae af al am an ah ai ao ap aq xl;obtain ⟨HN,BP,BL,BS,BU,ac,ad⟩:=zn7 hn HN BP.new BL.new BS.new BU.new ac.new ad.new;clear hn;obtain ⟨ae,af,al,am,an⟩:=BS.out.two;obtain ⟨ah,ai,ao,ap,aq⟩:=BU.out.two;have xl:=BL.out.two;refine zK hK ⟨ae,af,ah,ai⟩ ?_;clear hK K;refine tk1 5 fun K hK=>?_;go_simp;refine zO (cj _ _ ar) fun w8 s8 a8 l8 k8 hn hi=>?_;clear ar;have av:=hid hi;clear hi;clear ae af al am an ah ai ao ap aq xl;obtain ⟨HN,BP,BL,BS,BU,ac,ad⟩:=zn7 hn HN BP.new BL.new BS.new BU.new ac.new ad.new;clear hn;obtain ⟨ae,af,al,am,an⟩:=BS.out.two;obtain ⟨ah,ai,ao,ap,aq⟩:=BU.out.two;obtain ⟨cd,ce,cf,cg,ch⟩:=BL.out.two;refine zK hK ⟨ae,af,ah,ai⟩ ?_;clear hK K;refine tlW ?_;go_upto_region 8 with (fail);clear ae af al am an ah ai ao ap aq cd ce cf cg ch;have bk:=BP.out.away BL.out (by omega) (.int .i64 s8) (.slice a8 l8 k8);have bl:=BS.out.away BL.out (by omega) (.int .i64 s8) (.slice a8 l8 k8);have bm:=BU.out.away BL.out (by omega) (.int .i64 s8) (.slice a8 l8 k8);have bb:=ac.out.put2 BL.out s8 a8 l8 k8;have bc:=ad.out.put2 BL.out s8 a8 l8 k8;have be:=av.out.put2 BL.out s8 a8 l8 k8;have br:=HN.out.putAt BL.out (by omega) (.int .i64 s8) (.slice a8 l8 k8);have bj:=BL.out.put2 (.int .i64 s8) (.slice a8 l8 k8);clear BP BS BU ac ad av HN BL;refine zh8 ?_ bk bl bm bb bc be br bj;clear bk bl bm bb bc be br bj;intro BP BS BU ac ad av HN BL;obtain ⟨w9,b7⟩:∃ u,((w8.setCell ⟨w.heap.size+1+1,0,none⟩ (.int .i64 s8)).setCell ⟨w.heap.size+1+1,1,none⟩ (.slice a8 l8 k8))=u:=⟨_,rfl⟩;rw[b7] at BL BP BS BU HN ac ad av⊢;clear b7;have bq:=HN;clear HN
  go_cut [10] from 22 to 38 (fun x wx=>∃ P:Nat,x=.pointer (some ⟨P,0,none⟩)∧New w9 wx∧w9.heap.size≤P∧IntBox wx P Z)
  case first=>
   have HN:=hid (New.refl w9);obtain ⟨ae,af,al,am,an⟩:=BS.out.two;obtain ⟨ah,ai,ao,ap,aq⟩:=BU.out.two;refine zR 7 8 (fun W=>zI W w1.heap.size s1 a1 l1 k1∧zI W w3.heap.size s3 a3 l3 k3) ?_;clear ae af al am an ah ai ao ap aq;replace BS:=hid (BS.new (New.refl w9).drew);replace BU:=hid (BU.new (New.refl w9).drew);replace ac:=hid (ac.new (New.refl w9).drew);replace ad:=hid (ad.new (New.refl w9).drew);replace HN:=hid (HN.drew);obtain ⟨cn,b8⟩:∃ x,w9.drew=x:=⟨_,rfl⟩;rw[b8] at HN BS BU ac ad⊢;clear b8
   focus
    refine zT 0 ⟨cW2 BS,cW2 BU⟩ ?_;refine zT 3 ⟨cW2 BS,cW2 BU⟩ ?_;refine zw2 1 6 (fun K hK=>?_) fun K hK=>?_
    focus
     go_simp;refine zM (of_calls 1000000 _) fun cb hn=>?_;obtain ⟨HN,BS,BU,ac,ad⟩:=zn5 hn HN BS.new BU.new ac.new ad.new;clear hn;refine zK hK ⟨cW2 BS,cW2 BU⟩ ?_;clear hK K;have ST1:=trivial
    rotate_left
    focus
     go_simp;have az:=hid (HN.size);obtain ⟨cb,ak,aj,hn⟩:=laid1 cn 113 #[.int .i64 0,.slice none 0 0];rw[ak];clear ak;have BM:=hid aj;clear aj;obtain ⟨HN,BS,BU,ac,ad⟩:=zn5 hn HN BS.new BU.new ac.new ad.new;clear hn;refine zK hK ⟨cW2 BS,cW2 BU⟩ ?_;clear hK K;have ST2:=trivial
    rotate_left
    all_goals try
     clear ST1;refine zw2 2 6 (fun K hK=>?_) fun K hK=>?_
     focus
      go_simp;refine zN (bn _ _ ac) fun bf v6 hn hi=>?_;have au:=hid hi;clear hi;obtain ⟨HN,BS,BU,ac,ad⟩:=zn5 hn HN BS.new BU.new ac.new ad.new;clear hn;refine zK hK ⟨cW2 BS,cW2 BU⟩ ?_;clear hK K;have ST3:=trivial
     rotate_left
     focus
      go_simp;have az:=hid (HN.size);obtain ⟨bf,ak,aj,hn⟩:=laid1 cb 113 #[.int .i64 0,.slice none 0 0];rw[ak];clear ak;have BM:=hid aj;clear aj;obtain ⟨HN,BS,BU,ac,ad⟩:=zn5 hn HN BS.new BU.new ac.new ad.new;clear hn;refine zK hK ⟨cW2 BS,cW2 BU⟩ ?_;clear hK K;have ST4:=trivial
     rotate_left
    all_goals try
     clear ST2;refine tk1 1 fun K hK=>?_;go_simp;refine zM (of_calls 1000000 _) fun bf hn=>?_;obtain ⟨HN,BS,BU,ac,ad,BM⟩:=zn6 hn HN BS.new BU.new ac.new ad.new BM.new;clear hn;refine zK hK ⟨cW2 BS,cW2 BU⟩ ?_;clear hK K;have ST4:=trivial
    all_goals try
     clear ST3;refine zw2 4 6 (fun K hK=>?_) fun K hK=>?_
     focus
      go_simp;refine zN (bp _ _ _ au ad) fun bh v7 hn hf=>?_;clear au;have ar:=hid hf;clear hf;obtain ⟨HN,BS,BU,ac,ad⟩:=zn5 hn HN BS.new BU.new ac.new ad.new;clear hn;refine zK hK ⟨cW2 BS,cW2 BU⟩ ?_;clear hK K;have ST5:=trivial
     rotate_left
     focus
      go_simp;have az:=hid (HN.size);obtain ⟨bh,ak,aj,hn⟩:=laid1 bf 113 #[.int .i64 0,.slice none 0 0];rw[ak];clear ak;have BM:=hid aj;clear aj;obtain ⟨HN,BS,BU,ac,ad,au⟩:=zn6 hn HN BS.new BU.new ac.new ad.new au.new;clear hn;refine zK hK ⟨cW2 BS,cW2 BU⟩ ?_;clear hK K;have ST6:=trivial
     rotate_left
    all_goals try
     clear ST4;refine tk1 2 fun K hK=>?_;go_simp;refine zN (bn _ _ ac) fun bh v6 hn hi=>?_;have au:=hid hi;clear hi;obtain ⟨HN,BS,BU,ac,ad,BM⟩:=zn6 hn HN BS.new BU.new ac.new ad.new BM.new;clear hn;refine zK hK ⟨cW2 BS,cW2 BU⟩ ?_;clear hK K;have ST6:=trivial
    all_goals try
     clear ST5;refine zw2 5 6 (fun K hK=>?_) fun K hK=>?_
     focus
      go_simp;refine zO (bo _ _ ar) fun bi sb ab lb kb hn hi=>?_;clear ar;have a5:=hid hi;clear hi;obtain ⟨HN,BS,BU,ac,ad⟩:=zn5 hn HN BS.new BU.new ac.new ad.new;clear hn;refine zK hK ⟨cW2 BS,cW2 BU⟩ ?_;clear hK K;have ST7:=trivial
     rotate_left
     focus
      go_simp;have az:=hid (HN.size);obtain ⟨bi,ak,aj,hn⟩:=laid1 bh 113 #[.int .i64 0,.slice none 0 0];rw[ak];clear ak;have BM:=hid aj;clear aj;obtain ⟨HN,BS,BU,ac,ad,ar⟩:=zn6 hn HN BS.new BU.new ac.new ad.new ar.new;clear hn;refine zK hK ⟨cW2 BS,cW2 BU⟩ ?_;clear hK K;have ST8:=trivial
     rotate_left
    all_goals try
     clear ST6;refine tk1 4 fun K hK=>?_;go_simp;refine zN (bp _ _ _ au ad) fun bi v7 hn hf=>?_;clear au;have ar:=hid hf;clear hf;obtain ⟨HN,BS,BU,ac,ad,BM⟩:=zn6 hn HN BS.new BU.new ac.new ad.new BM.new;clear hn;refine zK hK ⟨cW2 BS,cW2 BU⟩ ?_;clear hK K;have ST8:=trivial
    all_goals try
     clear ST7;refine tk1 6 fun K hK=>?_;go_simp;have az:=hid (HN.size);obtain ⟨co,ak,aj,hn⟩:=laid1 bi 113 #[.int .i64 0,.slice none 0 0];rw[ak];clear ak;have BM:=hid aj;clear aj;obtain ⟨HN,BS,BU,ac,ad,a5⟩:=zn6 hn HN BS.new BU.new ac.new ad.new a5.new;clear hn;refine zK hK ⟨cW2 BS,cW2 BU⟩ ?_;clear hK K;have ST9:=trivial
    all_goals try
     clear ST8;refine tk1 5 fun K hK=>?_;go_simp;refine zO (bo _ _ ar) fun co sb ab lb kb hn hi=>?_;clear ar;have a5:=hid hi;clear hi;obtain ⟨HN,BS,BU,ac,ad,BM⟩:=zn6 hn HN BS.new BU.new ac.new ad.new BM.new;clear hn;refine zK hK ⟨cW2 BS,cW2 BU⟩ ?_;clear hK K;have ST9:=trivial
    all_goals
     clear ST9;refine tlW ?_;have xs:=BS.out.two;have xu:=BU.out.two;clear xs xu;obtain ⟨u0,u1,u2,u3,u4⟩:=BM.out.two;go_wp2_with fail
     go_meet
     exact ⟨_,rfl,HN.put2 az _ _,az,⟨_,_,_,_,BM.put2 _ _,a5.put2 BM _ _ _ _⟩⟩
  case rest=>
   obtain ⟨G,rfl,hn,hG,sg,ag,lg,kg,bg,ig⟩:=hcut;obtain ⟨wx,b9⟩:∃ x,x=wc:=⟨_,rfl⟩;rw[←b9] at hn bg ig⊢;clear b9 BS BU ac ad;obtain ⟨BP,BL,av⟩:=zm3 hn BP.new BL.new av.new;have HN:=hid (bq.trans hn);clear bq hn;replace bg:=hid bg;replace ig:=hid ig;have g:=bg.out.two;have xl:=BL.out.two
   go_step
   go_wp2_with fail;refine zM (ci _ _ _ av ig) fun wy hn=>?_;clear g xl;clear bg ig;obtain ⟨HN,BP,BL,av⟩:=zn4 hn HN BP.new BL.new av.new;clear hn;obtain ⟨cd,ce,cf,cg,ch⟩:=BL.out.two;obtain ⟨p0,p1,p2,p3,p4⟩:=BP.out.two;go_wp2_with fail;refine bodyPost_ret (v:=.agg #[.int .i64 s8,.slice a8 l8 k8]) (by simp[results,results213,go_sem,p0,p1]) rfl ?_;exact ⟨_,rfl,HN.putAt BP (by omega) _ _,av.put2 BP _ _ _ _⟩
def txtEs (l:List (ByteArray × ByteArray))(i:Nat):List MapEntry:=match l with
 | []=>[]
 | (k,v)::l=>{key:=.string k,val:=.string v,born:=i}::txtEs l (i+1)
theorem txtEs_snoc (l:List (ByteArray × ByteArray))(k v:ByteArray):∀ i,txtEs (l ++ [(k,v)]) i=txtEs l i ++ [{key:=.string k,val:=.string v,born:=i+l.length}]:=by
 induction l with
 | nil=>intro i;rfl
 | cons x l ih=>
  intro i;show _::txtEs (l ++ [(k,v)]) (i+1)=_::(txtEs l (i+1) ++ _);rw[ih]
  have e:i+1+l.length=i+(x::l).length:=by simp;omega
  rw[e]
def findS (x:ByteArray):List (ByteArray × ByteArray)→Nat→Option (Nat × Value)
 | [],_=>none
 | (k,v)::l,i=>if x==k then some (i,.string v) else findS x l (i+1)
theorem findNow_str (x:ByteArray):∀ (l:List (ByteArray × ByteArray)) (j i:Nat),Instr.findNow .string (.string x) (txtEs l j) i=some (findS x l i)
 | [],_,_=>rfl
 | (k,v)::l,j,i=>by
  show (match Instr.sameNow .string (.string x) (.string k) with
   | some true=>some (some (i,.string v))
   | some false=>Instr.findNow .string (.string x) (txtEs l (j+1)) (i+1)
   | none=>none)=some (if x==k then some (i,.string v) else findS x l (i+1))
  have e:Instr.sameNow .string (.string x) (.string k)=some (x==k):=rfl;rw[e]
  cases h:(x==k) with
  | true=>rfl
  | false=>exact findNow_str x l (j+1) (i+1)
theorem run_findKey_str {P:Program}{kt:TypeId}(ht:P.underlying kt=some .string)(w:World)(x:ByteArray)(l:List (ByteArray × ByteArray))(j:Nat):
  (Instr.findKey kt (.string x) (txtEs l j)).run P w=.ok (findS x l 0) w:=by
 unfold Instr.findKey;simp only[Sem.run_bind,run_underlying ht,Result.andThen,findNow_str];simp
theorem run_checkKey_str {P:Program}{kt:TypeId}(ht:P.underlying kt=some .string)(w:World)(x:ByteArray)(b:Bool):(Instr.checkKey b 10000 kt (.string x)).run P w=.ok () w:=by
 have h:=run_underlying ht w;unfold Instr.checkKey;simp[h,Result.andThen]
def TxtMap (w:World)(b:Nat)(l:List (ByteArray × ByteArray)):Prop:=∃ es:Array MapEntry,w.heap[b]?=some (.map es l.length)∧es.toList=txtEs l 0
theorem TxtMap.made (w:World):TxtMap (w.alloc (.map #[] 0)) w.heap.size []:=⟨#[],by show (w.heap.push _)[w.heap.size]?=_;simp,rfl⟩
theorem TxtMap.lt {w:World}{b:Nat}{l:List (ByteArray × ByteArray)}(h:TxtMap w b l):b < w.heap.size:=by
 obtain ⟨es,h1,_⟩:=h;rcases Nat.lt_or_ge b w.heap.size with h2 | h2
 ·exact h2
 ·rw[Array.getElem?_eq_none h2] at h1;cases h1
theorem TxtMap.new {w w':World}{b:Nat}{l:List (ByteArray × ByteArray)}(h:TxtMap w b l)(hn:New w w'):TxtMap w' b l:=by
 have hl:=h.lt;obtain ⟨es,h1,h2⟩:=h;exact ⟨es,by rw[Below.block hn b hl,h1],h2⟩
theorem TxtMap.put {P:Program}{t kt e:TypeId}(ht:P.underlying t=some (.map kt e))(hk:P.underlying kt=some .string){w:World}{b:Nat}{l:List (ByteArray × ByteArray)}(h:TxtMap w b l)(x v:ByteArray)(hx:findS x l 0=none):
  ∃ w',(Instr.mapUpdate t (.map (some b)) (.string x) (.string v)).run P w=.ok () w'∧TxtMap w' b (l ++ [(x,v)])∧w.grownBy w' (some b):=by
 obtain ⟨es,hb,he⟩:=h;have hf:=run_findKey_str hk w x l 0;rw[hx,←he] at hf;refine ⟨setBlock w b (.map (es.push {key:=.string x,val:=.string v,born:=l.length}) (l.length+1)),?_,⟨_,by rw[List.length_append];exact heap_setBlock_same hb _,by rw[Array.toList_push,he,txtEs_snoc,Nat.zero_add]⟩,⟨rfl,rfl,rfl,by simp[setBlock],fun i _ hi=>heap_setBlock_other hb _ (fun e=>hi (by rw[e]))⟩⟩;simp[Instr.mapUpdate,run_underlying ht,MapKept.run_getObj_map hb,run_checkKey_str hk,hf,MapKept.run_setObj_map _ hb,Result.andThen,setBlock]
theorem TxtMap.look {P:Program}{t kt e:TypeId}(ht:P.underlying t=some (.map kt e))(hk:P.underlying kt=some .string){w:World}(hz:(zeroValue e).run P w=.ok (.string ⟨#[]⟩) w){b:Nat}{l:List (ByteArray × ByteArray)}(h:TxtMap w b l)(x:ByteArray):
  (Instr.lookup t (.map (some b)) (.string x) true).run P w=.ok (match findS x l 0 with | some (_,v)=>.tuple #[v,.bool true] | none=>.tuple #[.string ⟨#[]⟩,.bool false]) w:=by
 obtain ⟨es,hb,he⟩:=h;have hf:=run_findKey_str hk w x l 0;rw[←he] at hf
 cases hfd:findS x l 0 with
 | none=>
  rw[hfd]at hf;simp[Instr.lookup,run_underlying ht,MapKept.run_getObj_map hb,run_checkKey_str hk,hf,hz,Result.andThen]
 | some p=>
  obtain ⟨i,v⟩:=p;rw[hfd] at hf;simp[Instr.lookup,run_underlying ht,MapKept.run_getObj_map hb,run_checkKey_str hk,hf,Result.andThen]
theorem wpList_txtPut {P:Program} (w:World) {ops:Array Oper} {rest:List Oper} {o:Oper} {a:Act} {Q:Exit→Act→World→Prop}
  (hg:o.guard=none) (m x v:Operand) (t:TypeId) (hop:o.op=Op.insert t m x v) (kt e:TypeId) (ht:P.underlying t=some (.map kt e)) (hk:P.underlying kt=some .string) (b:Nat) (l:List (ByteArray × ByteArray)) (X V:ByteArray)
  (hm:a.eval m=.map (some b)) (h:TxtMap w b l) (hx:a.eval x=.string X) (hv:a.eval v=.string V) (hd:findS X l 0=none)
  (hK:∀ w',TxtMap w' b (l ++ [(X,V)])→w.grownBy w' (some b)→wpList P ops Q rest (a.put o.dst undef) w'):
  wpList P ops Q (o::rest) a w:=by
 refine wpList_plain hg fun K' ab=>?_;obtain ⟨w',aa,r1,r2⟩:=h.put ht hk X V hd;unfold Oper.wp;simp[execOp,hop,hm,hx,hv,aa,Result.andThen];exact ab _ _ (hK w' r1 r2)
theorem New.grownAt {w wr w1:World}{b:Nat}(hn:New w wr)(hb:w.heap.size≤b)(hg:wr.grownBy w1 (some b)):New w w1:=by
 obtain ⟨a1,a2,a3,a4,a5⟩:=hn;refine ⟨hg.os.trans a1,?_,?_,Nat.le_trans a4 hg.size,fun j hj=>?_⟩
 ·first | exact hg.tape.trans a2 | exact hg.output.trans a2
 ·first | exact hg.output.trans a3 | exact hg.tape.trans a3
 ·refine (hg.block j (Nat.lt_of_lt_of_le hj a4) ?_).trans (a5 j hj);intro h;injection h with h;omega
def ratEs:List (ByteArray × ByteArray):=[(⟨#[48]⟩,⟨#[49]⟩),(⟨#[49,47,54]⟩,⟨#[49,47,50]⟩),(⟨#[49,47,52]⟩,⟨#[48]⟩),(⟨#[49,47,51]⟩,⟨#[45,49,47,50]⟩),(⟨#[49,47,50]⟩,⟨#[45,49]⟩),(⟨#[50,47,51]⟩,⟨#[45,49,47,50]⟩),(⟨#[51,47,52]⟩,⟨#[48]⟩),(⟨#[53,47,54]⟩,⟨#[49,47,50]⟩)]
theorem rational_calls (w:World):Calls prog 212 #[] w fun e w'=>∃ b,e=.returned (.map (some b))∧New w w'∧TxtMap w' b ratEs:=by
 have ad:TxtMap (w.alloc (.map #[] 0)) w.heap.size (ratEs.take 0):=TxtMap.made w;have ac:=(New.refl w).alloc (.map #[] 0)
 have ae:∀ W:World,(Instr.makeMap 212 none).run prog W=.ok (.map (some W.heap.size)) (W.alloc (.map #[] 0)):=fun W=>by
  simp[Instr.makeMap,run_underlying underlying212,Result.andThen]
 have TM:=hid ad;have HN:=hid ac;clear ad ac;go_in;go_wp2_with (refine wpList_txtPut _ rfl _ _ _ 212 rfl 23 23 underlying212 underlying23 w.heap.size (ratEs.take 0) ⟨#[48]⟩ ⟨#[49]⟩ rfl TM rfl rfl (by decide) ?_);intro w1 ab hg;have aa:=HN.out.grownAt (Nat.le_refl _) hg;clear TM HN hg;have TM:=hid ab;have HN:=hid aa;clear ab aa;go_wp2_with (refine wpList_txtPut _ rfl _ _ _ 212 rfl 23 23 underlying212 underlying23 w.heap.size (ratEs.take 1) ⟨#[49,47,54]⟩ ⟨#[49,47,50]⟩ rfl TM rfl rfl (by decide) ?_);intro w2 ab hg;have aa:=HN.out.grownAt (Nat.le_refl _) hg;clear TM HN hg;have TM:=hid ab;have HN:=hid aa;clear ab aa;go_wp2_with (refine wpList_txtPut _ rfl _ _ _ 212 rfl 23 23 underlying212 underlying23 w.heap.size (ratEs.take 2) ⟨#[49,47,52]⟩ ⟨#[48]⟩ rfl TM rfl rfl (by decide) ?_);intro w3 ab hg;have aa:=HN.out.grownAt (Nat.le_refl _) hg;clear TM HN hg;have TM:=hid ab;have HN:=hid aa;clear ab aa;go_wp2_with (refine wpList_txtPut _ rfl _ _ _ 212 rfl 23 23 underlying212 underlying23 w.heap.size (ratEs.take 3) ⟨#[49,47,51]⟩ ⟨#[45,49,47,50]⟩ rfl TM rfl rfl (by decide) ?_);intro w4 ab hg;have aa:=HN.out.grownAt (Nat.le_refl _) hg;clear TM HN hg;have TM:=hid ab;have HN:=hid aa;clear ab aa;go_wp2_with (refine wpList_txtPut _ rfl _ _ _ 212 rfl 23 23 underlying212 underlying23 w.heap.size (ratEs.take 4) ⟨#[49,47,50]⟩ ⟨#[45,49]⟩ rfl TM rfl rfl (by decide) ?_);intro w5 ab hg;have aa:=HN.out.grownAt (Nat.le_refl _) hg;clear TM HN hg;have TM:=hid ab;have HN:=hid aa;clear ab aa;go_wp2_with (refine wpList_txtPut _ rfl _ _ _ 212 rfl 23 23 underlying212 underlying23 w.heap.size (ratEs.take 5) ⟨#[50,47,51]⟩ ⟨#[45,49,47,50]⟩ rfl TM rfl rfl (by decide) ?_);intro w6 ab hg;have aa:=HN.out.grownAt (Nat.le_refl _) hg;clear TM HN hg;have TM:=hid ab;have HN:=hid aa;clear ab aa;go_wp2_with (refine wpList_txtPut _ rfl _ _ _ 212 rfl 23 23 underlying212 underlying23 w.heap.size (ratEs.take 6) ⟨#[51,47,52]⟩ ⟨#[48]⟩ rfl TM rfl rfl (by decide) ?_);intro w7 ab hg;have aa:=HN.out.grownAt (Nat.le_refl _) hg;clear TM HN hg;have TM:=hid ab;have HN:=hid aa;clear ab aa;go_wp2_with (refine wpList_txtPut _ rfl _ _ _ 212 rfl 23 23 underlying212 underlying23 w.heap.size (ratEs.take 7) ⟨#[53,47,54]⟩ ⟨#[49,47,50]⟩ rfl TM rfl rfl (by decide) ?_);intro w8 ab hg;have aa:=HN.out.grownAt (Nat.le_refl _) hg;clear TM HN hg;replace ab:=hid ab;replace aa:=hid aa;go_wp2_with fail;go_ret;exact ⟨_,rfl,aa,ab⟩
end Go.Proofs.YtnjonlnemagomaaGreatDoor
