/- Part B08. -/
import Derived.Test.YtnjonlnemagomaaGreatDoorB07
namespace Go.Proofs.YtnjonlnemagomaaGreatDoor
open Go.RowKit Big Tryz
open Go.Lib (hid)
set_option maxRecDepth 100000
set_option maxHeartbeats 8000000
set_option linter.all false
theorem ten_calls (k:Nat)(w:World)(hk:k≤100):Calls prog 214 #[.int .i64 (k:Int)] w (IntPost w (10^k)):=by
 have aa:=fun va W h=>pow_calls va 10 k 4 W h (by unfold BdK;decide) (by omega) (by omega);have s1:∀ W,IsInt W (.agg #[.int .i64 10,.slice none 0 0]) 10:=fun W=>.small rfl (by omega) (by omega);obtain ⟨z,hz⟩:∃ z,(10:Int)^k=z:=⟨_,rfl⟩;simp only[hz] at aa;rw[hz];clear hz hk;replace aa:=hid aa;replace s1:=hid s1;go_in;go_wp2_with fail;obtain ⟨BP,HN⟩:=lay1 w 113 #[.int .i64 0,.slice none 0 0];refine zM (of_calls 10 _) fun w1 hn=>?_;obtain ⟨HN,BP⟩:=zn2 hn HN BP.new;clear hn;go_wp2_with fail;refine zO (aa _ _ (s1 _)) fun w2 s2 a2 l2 k2 hn hi=>?_;replace hi:=hid hi;obtain ⟨HN,BP⟩:=zn2 hn HN BP.new;clear hn;obtain ⟨p0,p1,p2,p3,p4⟩:=BP.out.two;go_wp2_with fail;refine bodyPost_ret (v:=.agg #[.int .i64 s2,.slice a2 l2 k2]) (by simp[results,results214,go_sem,p0,p1]) rfl ?_;exact ⟨_,rfl,HN.putAt BP (by omega) _ _,hi.put2 BP _ _ _ _⟩
def IntBox (w:World)(P:Nat)(z:Int):Prop:=∃ (s:Int) (a:Option Addr) (l c:Nat),Box w P 113 #[.int .i64 s,.slice a l c]∧IsInt w (.agg #[.int .i64 s,.slice a l c]) z
abbrev piTxt:ByteArray:=⟨#[51,49,52,49,53,57,50,54,53,51,53,56,57,55,57,51,50,51,56,52,54,50,54,52,51,51,56,51,50,55,57,53,48,50,56,56,52,49,57,55,49,54,57,51,57,57,51,55,53,49,48]⟩
def pi51:Int:=314159265358979323846264338327950288419716939937510
theorem pi_dig:∀ c∈piTxt.data.toList,isDig c=true:=by decide +kernel
theorem pi_val:signed false (dval 0 piTxt.data.toList)=pi51:=by decide +kernel
theorem ang_val:(((pi51*2:Int):Rat)*Rat.divInt 1 8).floor=serAng:=by decide +kernel
theorem ser_round:(∀ K,K < 20→∀ va vb W,IsInt W va (serT K)→IsInt W vb serAng→Calls prog 164 #[va,vb] W (IntPost W (serU K)))∧(∀ K,K < 20→∀ va vb W,IsInt W va (serU K)→IsInt W vb serOne→Calls prog 180 #[va,vb] W (IntPost W (serV K)))∧
  (∀ K,K < 20→∀ va vb W,IsInt W va (serV K)→IsInt W vb serAng→Calls prog 164 #[va,vb] W (IntPost W (serW K)))∧(∀ K,K < 20→∀ va vb W,IsInt W va (serW K)→IsInt W vb serOne→Calls prog 180 #[va,vb] W (IntPost W (serX K)))∧
  (∀ K,K < 20→∀ va W,IsInt W va (serX K)→Calls prog 180 #[va,.agg #[.int .i64 (serD (K+1)),.slice none 0 0]] W (IntPost W (serT (K+1))))∧
  (∀ K,K < 20→∀ va vb W,IsInt W va (serS K)→IsInt W vb (serT (K+1))→Calls prog 211 #[va,vb] W (IntPost W (serS K - serT (K+1))))∧(∀ K,K < 20→∀ va vb W,IsInt W va (serS K)→IsInt W vb (serT (K+1))→Calls prog 120 #[va,vb] W (IntPost W (serS K+serT (K+1)))):=by
 have bd:∀ z:Int,z.natAbs < 2^400→Bd z:=fun z h=>⟨400,by omega,h⟩;have ba:Bd serAng:=bd _ (by decide +kernel);have bo:Bd serOne:=bd _ (by decide +kernel);refine ⟨fun K hK va vb W h1 h2=>?_,fun K hK va vb W h1 h2=>?_,fun K hK va vb W h1 h2=>?_,fun K hK va vb W h1 h2=>?_,fun K hK va W h1=>?_,fun K hK va vb W h1 h2=>?_,fun K hK va vb W h1 h2=>?_⟩
 ·exact mul_calls va vb _ _ W h1 h2 (bd _ (ser_bd K (by omega)).1) ba
 ·have h:=quo_calls va vb _ _ W h1 h2 (bd _ (ser_bd K (by omega)).2.1) bo (by decide);unfold quo at h;rw[if_neg (by decide)] at h;exact h
 ·exact mul_calls va vb _ _ W h1 h2 (bd _ (ser_bd K (by omega)).2.2.1) ba
 ·have h:=quo_calls va vb _ _ W h1 h2 (bd _ (ser_bd K (by omega)).2.2.2.1) bo (by decide);unfold quo at h;rw[if_neg (by decide)] at h;exact h
 ·obtain ⟨d0,d1⟩:=serD_pos K (by omega);have h:=quo_calls va _ _ (serD (K+1)) W h1 (.small rfl (by omega) (by omega)) (bd _ (ser_bd K (by omega)).2.2.2.2.1) (bd _ (Nat.lt_of_lt_of_le (show (serD (K+1)).natAbs < 2000 by omega) (by decide +kernel))) (by omega);unfold quo at h;rw[if_neg (by omega)] at h;exact h
 ·exact sub_calls va vb _ _ W h1 h2 (bd _ (ser_bd K (by omega)).2.2.2.2.2) (bd _ (ser_bd (K+1) (by omega)).1)
 ·exact add_calls va vb _ _ W h1 h2 (bd _ (ser_bd K (by omega)).2.2.2.2.2) (bd _ (ser_bd (K+1) (by omega)).1)
theorem ser_div (K:Nat)(h:K < 20):∃ D:Int,serD (K+1)=D∧(2*((K:Int)+1) - 1)*2*((K:Int)+1)=D∧0 < D∧D < 2000:=by
 obtain ⟨d0,d1⟩:=serD_pos K (by omega);refine ⟨_,rfl,?_,d0,d1⟩;unfold serD;rw[show ((K+1:Nat):Int)=(K:Int)+1 by omega]
theorem ser_wrap {Y:Nat}{D:Int}(h:Y < 20)(hD:(2*((Y:Int)+1) - 1)*2*((Y:Int)+1)=D)(h0:0 < D)(h1:D < 2000):IntKind.i64.wrap (IntKind.i64.wrap (IntKind.i64.wrap (IntKind.i64.wrap (2*((Y:Int)+1)) - 1)*2)*((Y:Int)+1))=D:=by
 have wr:∀ x:Int, -9223372036854775808≤x→x≤9223372036854775807→IntKind.i64.wrap x=x:=fun x a b=>by
  rw[IntKind.wrap_i64];omega
 rw[wr (2*((Y:Int)+1)) (by omega) (by omega),wr (2*((Y:Int)+1) - 1) (by omega) (by omega),wr ((2*((Y:Int)+1) - 1)*2) (by omega) (by omega),hD,wr D (by omega) (by omega)]
theorem series_calls (va:Value)(w:World)(hx:IsFrac w va (Rat.divInt 1 8)):Calls prog 253 #[va,.int .i64 50] w (IntPost w (serS 20)):=by
 obtain ⟨sa,aa,la,ca,ta,ba,ma,na,rfl⟩:=hx.shape;have bd:∀ z:Int,z.natAbs < 2^400→Bd z:=fun z h=>⟨400,by omega,h⟩;have bb:=fun W=>ten_calls 50 W (by omega);rw[ser_ten,show ((50:Nat):Int)=50 from rfl] at bb;have bj:=fun W=>read_calls piTxt false _ W rfl pi_dig (by decide);rw[pi_val] at bj;have s2:∀ W,IsInt W (.agg #[.int .i64 2,.slice none 0 0]) 2:=fun W=>.small rfl (by omega) (by omega);have bi:=fun va W h=>mul_calls va _ pi51 2 W h (s2 W) (bd _ (by decide +kernel)) (bd _ (by decide +kernel));have bk:=fun va W h=>whole_calls va (pi51*2) W h;have bh:=fun va vb W h1 h2=>fmul_calls va vb ((pi51*2:Int):Rat) (Rat.divInt 1 8) 400 10 W h1 h2 (FB.int (by unfold BdK;decide +kernel) (by omega)) (FB.divInt (by unfold BdK;decide +kernel) (by unfold BdK;decide +kernel) (by decide)) (by omega);have a6:=fun va W h=>floor_calls va (((pi51*2:Int):Rat)*Rat.divInt 1 8) 410 W h (FB.mul (j:=400) (k:=10) (FB.int (by unfold BdK;decide +kernel) (by omega)) (FB.divInt (by unfold BdK;decide +kernel) (by unfold BdK;decide +kernel) (by decide))) (by omega);rw[ang_val] at a6;obtain ⟨q1,cl⟩:∃ q,((pi51*2:Int):Rat)=q:=⟨_,rfl⟩;obtain ⟨z1,c0⟩:∃ q,pi51*2=q:=⟨_,rfl⟩;obtain ⟨q2,bu⟩:∃ q,Rat.divInt 1 8=q:=⟨_,rfl⟩;obtain ⟨z0,cz⟩:∃ q,pi51=q:=⟨_,rfl⟩;simp only[cl,bu] at bh a6 bk;obtain ⟨q3,cm⟩:∃ q,q1*q2=q:=⟨_,rfl⟩;simp only[cm] at bh a6;simp only[c0] at bi bk;simp only[cz] at bi bj;rw[bu] at hx;clear cl bu cm c0 cz s2;refine zh8 ?_ hx bb bj bi bk bh a6 bd;clear hx bb bj bi bk bh a6 bd;intro HX bm bq bp br bo bn BD;go_in;go_wp2_with fail;obtain ⟨BA,BP,HN⟩:=lay2 w 115 #[.int .i64 sa,.slice aa la ca,.int .i64 ta,.slice ba ma na] 113 #[.int .i64 0,.slice none 0 0];replace HX:=hid (HX.new HN);refine zO (bm _) fun w1 s1 a1 l1 k1 hn hi=>?_;have an:=hid hi;clear hi;obtain ⟨HN,BA,BP,HX⟩:=zn4 hn HN BA.new BP.new HX.new;clear hn;have dw:=BP.out.lt;go_upto_region 2 with (fail);obtain ⟨BO,hn⟩:=lay1 w1 113 #[.int .i64 s1,.slice a1 l1 k1];obtain ⟨HN,BA,BP,HX,an⟩:=zn5 hn HN BA.new BP.new HX.new an.new;clear hn;obtain ⟨w2,cu⟩:∃ u,w1.alloc (.cells #[.int .i64 s1,.slice a1 l1 k1] 113)=u:=⟨_,rfl⟩;rw[cu] at BO BA BP HN HX an⊢;clear cu;have a5:=HN;clear HN
 go_cut [6] (fun x wx=>∃ P:Nat,x=.pointer (some ⟨P,0,none⟩)∧New w2 wx∧w2.heap.size≤P∧IntBox wx P serAng)
 case first=>
  have HN:=hid (New.refl w2);obtain ⟨⟨dh,di,dj,dk⟩,dl,dm,dn,dp,dq⟩:=BA.out.four;refine zR 11 12 (fun W=>zF W w.heap.size sa aa la ca ta ba ma na) ?_;clear dh di dj dk dl dm dn dp dq;replace BA:=hid (BA.new (New.refl w2).drew);replace HX:=hid (HX.new (New.refl w2).drew);replace HN:=hid (HN.drew);obtain ⟨dr,cy⟩:∃ x,w2.drew=x:=⟨_,rfl⟩;rw[cy] at HN BA HX⊢;clear cy
  focus
   refine zT 0 (cW4 BA) ?_;refine zT 1 (cW4 BA) ?_;refine zT 2 (hy:=by (intro W hW;(try dsimp only at hW);(go_simp;refine (if_pos (by decide)).trans ?_;refine congrArg (a₂:=piTxt) (fun b:ByteArray=>Result.ok (Next.value (Value.string b)) W) ?_;decide +kernel);try with_reducible rfl)) (cW4 BA) ?_;refine zT 7 (cW4 BA) ?_;refine zw2 3 10 (fun K hK=>?_) fun K hK=>?_
   focus
    go_simp;refine zN (bq _) fun c2 v3 hn hi=>?_;have aj:=hid hi;clear hi;obtain ⟨HN,BA,HX⟩:=zn3 hn HN BA.new HX.new;clear hn;refine zK hK (cW4 BA) ?_;clear hK K;have ST1:=trivial
   rotate_left
   focus
    go_simp;have ax:=hid (HN.size);obtain ⟨c2,ah,af,hn⟩:=laid1 dr 113 #[.int .i64 0,.slice none 0 0];rw[ah];clear ah;have BM:=hid af;clear af;obtain ⟨HN,BA,HX⟩:=zn3 hn HN BA.new HX.new;clear hn;refine zK hK (cW4 BA) ?_;clear hK K;have ST2:=trivial
   rotate_left
   all_goals try
    clear ST1;refine zw2 4 10 (fun K hK=>?_) fun K hK=>?_
    focus
     go_simp;refine zM (of_calls 2 _) fun bw hn=>?_;obtain ⟨HN,BA,HX,aj⟩:=zn4 hn HN BA.new HX.new aj.new;clear hn;refine zK hK (cW4 BA) ?_;clear hK K;have ST3:=trivial
    rotate_left
    focus
     go_simp;have ax:=hid (HN.size);obtain ⟨bw,ah,af,hn⟩:=laid1 c2 113 #[.int .i64 0,.slice none 0 0];rw[ah];clear ah;have BM:=hid af;clear af;obtain ⟨HN,BA,HX,aj⟩:=zn4 hn HN BA.new HX.new aj.new;clear hn;refine zK hK (cW4 BA) ?_;clear hK K;have ST4:=trivial
    rotate_left
   all_goals try
    clear ST2;refine tk1 3 fun K hK=>?_;go_simp;refine zN (bq _) fun bw v3 hn hi=>?_;have aj:=hid hi;clear hi;obtain ⟨HN,BA,HX,BM⟩:=zn4 hn HN BA.new HX.new BM.new;clear hn;refine zK hK (cW4 BA) ?_;clear hK K;have ST4:=trivial
   all_goals try
    clear ST3;refine zw2 5 10 (fun K hK=>?_) fun K hK=>?_
    focus
     go_simp;refine zN (bp _ _ aj) fun bx v5 hn hi=>?_;clear aj;have a0:=hid hi;clear hi;obtain ⟨HN,BA,HX⟩:=zn3 hn HN BA.new HX.new;clear hn;refine zK hK (cW4 BA) ?_;clear hK K;have ST5:=trivial
    rotate_left
    focus
     go_simp;have ax:=hid (HN.size);obtain ⟨bx,ah,af,hn⟩:=laid1 bw 113 #[.int .i64 0,.slice none 0 0];rw[ah];clear ah;have BM:=hid af;clear af;obtain ⟨HN,BA,HX,aj⟩:=zn4 hn HN BA.new HX.new aj.new;clear hn;refine zK hK (cW4 BA) ?_;clear hK K;have ST6:=trivial
    rotate_left
   all_goals try
    clear ST4;refine tk1 4 fun K hK=>?_;go_simp;refine zM (of_calls 2 _) fun bx hn=>?_;obtain ⟨HN,BA,HX,BM,aj⟩:=zn5 hn HN BA.new HX.new BM.new aj.new;clear hn;refine zK hK (cW4 BA) ?_;clear hK K;have ST6:=trivial
   all_goals try
    clear ST5;refine zw2 6 10 (fun K hK=>?_) fun K hK=>?_
    focus
     go_simp;refine zN (br _ _ a0) fun bz v6 hn hf=>?_;clear a0;have ay:=hid hf;clear hf;obtain ⟨HN,BA,HX⟩:=zn3 hn HN BA.new HX.new;clear hn;refine zK hK (cW4 BA) ?_;clear hK K;have ST7:=trivial
    rotate_left
    focus
     go_simp;have ax:=hid (HN.size);obtain ⟨bz,ah,af,hn⟩:=laid1 bx 113 #[.int .i64 0,.slice none 0 0];rw[ah];clear ah;have BM:=hid af;clear af;obtain ⟨HN,BA,HX,a0⟩:=zn4 hn HN BA.new HX.new a0.new;clear hn;refine zK hK (cW4 BA) ?_;clear hK K;have ST8:=trivial
    rotate_left
   all_goals try
    clear ST6;refine tk1 5 fun K hK=>?_;go_simp;refine zN (bp _ _ aj) fun bz v5 hn hi=>?_;clear aj;have a0:=hid hi;clear hi;obtain ⟨HN,BA,HX,BM⟩:=zn4 hn HN BA.new HX.new BM.new;clear hn;refine zK hK (cW4 BA) ?_;clear hK K;have ST8:=trivial
   all_goals try
    clear ST7;refine zw2 8 10 (fun K hK=>?_) fun K hK=>?_
    focus
     go_simp;refine zN (bo _ _ _ ay HX) fun b5 v7 hn hf=>?_;clear ay;have az:=hid hf;clear hf;obtain ⟨HN,BA,HX⟩:=zn3 hn HN BA.new HX.new;clear hn;refine zK hK (cW4 BA) ?_;clear hK K;have ST9:=trivial
    rotate_left
    focus
     go_simp;have ax:=hid (HN.size);obtain ⟨b5,ah,af,hn⟩:=laid1 bz 113 #[.int .i64 0,.slice none 0 0];rw[ah];clear ah;have BM:=hid af;clear af;obtain ⟨HN,BA,HX,ay⟩:=zn4 hn HN BA.new HX.new ay.new;clear hn;refine zK hK (cW4 BA) ?_;clear hK K;have ST10:=trivial
    rotate_left
   all_goals try
    clear ST8;refine tk1 6 fun K hK=>?_;go_simp;refine zN (br _ _ a0) fun b5 v6 hn hf=>?_;clear a0;have ay:=hid hf;clear hf;obtain ⟨HN,BA,HX,BM⟩:=zn4 hn HN BA.new HX.new BM.new;clear hn;refine zK hK (cW4 BA) ?_;clear hK K;have ST10:=trivial
   all_goals try
    clear ST9;refine zw2 9 10 (fun K hK=>?_) fun K hK=>?_
    focus
     go_simp;refine zO (bn _ _ az) fun b6 s8 a8 l8 k8 hn hi=>?_;clear az;have a2:=hid hi;clear hi;obtain ⟨HN,BA,HX⟩:=zn3 hn HN BA.new HX.new;clear hn;refine zK hK (cW4 BA) ?_;clear hK K;have ST11:=trivial
    rotate_left
    focus
     go_simp;have ax:=hid (HN.size);obtain ⟨b6,ah,af,hn⟩:=laid1 b5 113 #[.int .i64 0,.slice none 0 0];rw[ah];clear ah;have BM:=hid af;clear af;obtain ⟨HN,BA,HX,az⟩:=zn4 hn HN BA.new HX.new az.new;clear hn;refine zK hK (cW4 BA) ?_;clear hK K;have ST12:=trivial
    rotate_left
   all_goals try
    clear ST10;refine tk1 8 fun K hK=>?_;go_simp;refine zN (bo _ _ _ ay HX) fun b6 v7 hn hf=>?_;clear ay;have az:=hid hf;clear hf;obtain ⟨HN,BA,HX,BM⟩:=zn4 hn HN BA.new HX.new BM.new;clear hn;refine zK hK (cW4 BA) ?_;clear hK K;have ST12:=trivial
   all_goals try
    clear ST11;refine tk1 10 fun K hK=>?_;go_simp;have ax:=hid (HN.size);obtain ⟨dt,ah,af,hn⟩:=laid1 b6 113 #[.int .i64 0,.slice none 0 0];rw[ah];clear ah;have BM:=hid af;clear af;obtain ⟨HN,BA,HX,a2⟩:=zn4 hn HN BA.new HX.new a2.new;clear hn;refine zK hK (cW4 BA) ?_;clear hK K;have ST13:=trivial
   all_goals try
    clear ST12;refine tk1 9 fun K hK=>?_;go_simp;refine zO (bn _ _ az) fun dt s8 a8 l8 k8 hn hi=>?_;clear az;have a2:=hid hi;clear hi;obtain ⟨HN,BA,HX,BM⟩:=zn4 hn HN BA.new HX.new BM.new;clear hn;refine zK hK (cW4 BA) ?_;clear hK K;have ST13:=trivial
   all_goals
    clear ST13;refine tlW ?_;have pa:=BA.out.four;clear pa;obtain ⟨u0,u1,u2,u3,u4⟩:=BM.out.two;go_wp2_with fail
    go_meet
    exact ⟨_,rfl,HN.put2 ax _ _,ax,⟨_,_,_,_,BM.put2 _ _,a2.put2 BM _ _ _ _⟩⟩
 case rest=>
  obtain ⟨G,rfl,hn,hG,sg,ag,lg,kg,bg,ig⟩:=hcut;obtain ⟨w3,cv⟩:∃ x,x=wc:=⟨_,rfl⟩;rw[←cv] at hn bg ig⊢;clear cv BA HX;have dx:=BO.out.lt;obtain ⟨BP,BO,an⟩:=zm3 hn BP.new BO.new an.new;have HN:=hid (a5.trans hn);clear a5 hn;have dy:=bg.lt;have BG:=hid bg;have IG:=hid ig;clear bg ig
  go_step
  go_upto_region 3 with (fail);have a5:=HN;clear HN
  go_cut [7,8] (fun x y wx=>∃ S T:Nat,x=.pointer (some ⟨S,0,none⟩)∧y=.pointer (some ⟨T,0,none⟩)∧New w3 wx∧w3.heap.size≤S∧w3.heap.size≤T∧S≠T∧Box wx S 113 #[.int .i64 s1,.slice a1 l1 k1]∧Box wx T 113 #[.int .i64 s1,.slice a1 l1 k1])
  case first=>
   have ci:New w3 (((w3.alloc (.cells #[.int .i64 s1,.slice a1 l1 k1] 113)).alloc (.cells #[.int .i64 s1,.slice a1 l1 k1] 113)).drew):=(((New.refl w3).alloc _).alloc _).drew;have cf:Box (((w3.alloc (.cells #[.int .i64 s1,.slice a1 l1 k1] 113)).alloc (.cells #[.int .i64 s1,.slice a1 l1 k1] 113)).drew) w3.heap.size 113 #[.int .i64 s1,.slice a1 l1 k1]:=(Box.alloc w3 _ _ _ rfl).new (((New.refl _).alloc _).drew);have cg:Box (((w3.alloc (.cells #[.int .i64 s1,.slice a1 l1 k1] 113)).alloc (.cells #[.int .i64 s1,.slice a1 l1 k1] 113)).drew) (w3.heap.size+1) 113 #[.int .i64 s1,.slice a1 l1 k1]:=(Box.alloc (w3.alloc (.cells #[.int .i64 s1,.slice a1 l1 k1] 113)) _ _ _ (by rw[size_alloc])).new ((New.refl _).drew);refine zh3 ?_ ci cf cg;clear ci cf cg;intro bf bc be;obtain ⟨b0,b1,b2,b3,b4⟩:=BO.out.two
   go_region
   ·go_wp2_with fail
    go_meet
    first | exact ⟨w3.heap.size+1,w3.heap.size,rfl,rfl,bf.out,by omega,by omega,by omega,be.out,bc.out⟩ | exact ⟨w3.heap.size,w3.heap.size+1,rfl,rfl,bf.out,by omega,by omega,by omega,bc.out,be.out⟩
   ·go_wp2_with fail
    go_meet
    first | exact ⟨w3.heap.size+1,w3.heap.size,rfl,rfl,bf.out,by omega,by omega,by omega,be.out,bc.out⟩ | exact ⟨w3.heap.size,w3.heap.size+1,rfl,rfl,bf.out,by omega,by omega,by omega,bc.out,be.out⟩
  case rest=>
   obtain ⟨S,T,rfl,rfl,hn,hS,hT,dv,bs,bt⟩:=hcut;obtain ⟨w4,cw⟩:∃ x,x=wc:=⟨_,rfl⟩;rw[←cw] at hn bs bt⊢;clear cw;obtain ⟨BP,BO,BG,an,IG⟩:=zm5 hn BP.new BO.new BG.new an.new IG.new;have HN:=hid (a5.trans hn);clear a5 hn;have i1:=an;have BS:=hid bs;have BT:=hid bt;clear bs bt;obtain ⟨cn,co,cp,cq,cr,cs,ct⟩:=ser_round;have ch:=ser_div;have ck:=ser_pos;have c1:=ser_zero;clear bn bo br bp bq bm;refine zh10 ?_ cn co cp cq cr cs ct ch ck c1;clear cn co cp cq cr cs ct ch ck c1;intro c6 c7 c8 c9 da db dc c3 c5 dd
   go_step
   go_wp2_with fail;have cd:=HN;have b9:=BP;have b8:=BO;have b7:=BG;have ce:=IG;clear HN BP BO BG IG
   go_loopw [9] (fun i wr=>∃ (Y:Nat) (sS:Int) (aS:Option Addr) (lS kS:Nat) (sT:Int) (aT:Option Addr) (lT kT:Nat),Y≤20∧i=.int .i64 ((Y:Int)+1)∧Hid (New w wr)∧Hid (Box wr (w.heap.size+1) 113 #[.int .i64 0,.slice none 0 0])∧Hid (Box wr w1.heap.size 113 #[.int .i64 s1,.slice a1 l1 k1])∧Hid (Box wr G 113 #[.int .i64 sg,.slice ag lg kg])∧
    Hid (Box wr S 113 #[.int .i64 sS,.slice aS lS kS])∧Hid (Box wr T 113 #[.int .i64 sT,.slice aT lT kT])∧Hid (IsInt wr (.agg #[.int .i64 s1,.slice a1 l1 k1]) serOne)∧Hid (IsInt wr (.agg #[.int .i64 sg,.slice ag lg kg]) serAng)∧Hid (IsInt wr (.agg #[.int .i64 sS,.slice aS lS kS]) (serS Y))∧Hid (IsInt wr (.agg #[.int .i64 sT,.slice aT lT kT]) (serT Y))) (fun i _=>(21 - RowKit.intOf i).toNat)
   case atStart=>exact ⟨0,_,_,_,_,_,_,_,_,by omega,rfl,cd,b9,b8,b7,BS,BT,an,ce,an,an⟩
   case round=>
    clear cd b9 b8 b7 ce BS BT an i1;obtain ⟨Y,sS,aS,lS,kS,sT,aT,lT,kT,hY,rfl,HN,BP,BO,BG,BS,BT,ac,ab,ad,a4⟩:=hrel;by_cases hlt:Y < 20
    ·have hp:=c5.out Y hlt;obtain ⟨t,ht,bv⟩:∃ t,(serT Y).sign=t∧t=1:=⟨_,rfl,Int.sign_eq_one_of_pos hp⟩;subst bv;obtain ⟨D,hD,dg,de,df⟩:=c3.out Y hlt
     have du:(Y:Int) < 20:=by omega
     clear hp;have HT:=hid ht;replace hD:=hid hD;clear ht;have t:=BT.out.two;go_wp2_with fail;refine zM (sign_calls _ (serT Y) _ a4) fun w5 hn=>?_;rw[HT.out];clear t;obtain ⟨HN,BP,BO,BG,BS,BT,ac,ab,ad,a4⟩:=zn10 hn HN BP.new BO.new BG.new BS.new BT.new ac.new ab.new ad.new a4.new;clear hn;go_upto_region 7 with (fail);have t:=BT.out.two;have g:=BG.out.two;have o:=BO.out.two;clear t;clear g;clear o;refine zR 17 18 (fun W=>zI W T sT aT lT kT∧zI W G sg ag lg kg∧zI W w1.heap.size s1 a1 l1 k1) ?_;refine zT 0 ⟨cW2 BT,cW2 BG,cW2 BO⟩ ?_;refine zT 1 ⟨cW2 BT,cW2 BG,cW2 BO⟩ ?_;refine zT 3 ⟨cW2 BT,cW2 BG,cW2 BO⟩ ?_;refine zT 5 ⟨cW2 BT,cW2 BG,cW2 BO⟩ ?_;refine zT 7 ⟨cW2 BT,cW2 BG,cW2 BO⟩ ?_;refine zT 9 ⟨cW2 BT,cW2 BG,cW2 BO⟩ ?_;refine zT 10 ⟨cW2 BT,cW2 BG,cW2 BO⟩ ?_;refine zT 11 ⟨cW2 BT,cW2 BG,cW2 BO⟩ ?_;refine zT 12 ⟨cW2 BT,cW2 BG,cW2 BO⟩ ?_;refine zT 13 ⟨cW2 BT,cW2 BG,cW2 BO⟩ ?_;refine zT 14 ⟨cW2 BT,cW2 BG,cW2 BO⟩ ?_;refine tk1 2 fun K hK=>?_;go_simp;refine zN (c6 Y hlt _ _ _ (a4.new (New.refl _).drew) (ab.new (New.refl _).drew)) fun w6 v6 hn hi=>?_;have hn:=hn.undrew;have cb:=hid hi;clear hi;obtain ⟨HN,BP,BO,BG,BS,BT,ac,ab,ad⟩:=zn9 hn HN BP.new BO.new BG.new BS.new BT.new ac.new ab.new ad.new;clear hn;refine zK hK ⟨cW2 BT,cW2 BG,cW2 BO⟩ ?_;clear hK K;refine tk1 4 fun K hK=>?_;go_simp;refine zN (c7 Y hlt _ _ _ cb ac) fun w7 v7 hn hi=>?_;clear cb;have ae:=hid hi;clear hi;obtain ⟨HN,BP,BO,BG,BS,BT,ac,ab,ad⟩:=zn9 hn HN BP.new BO.new BG.new BS.new BT.new ac.new ab.new ad.new;clear hn;refine zK hK ⟨cW2 BT,cW2 BG,cW2 BO⟩ ?_;clear hK K;refine tk1 6 fun K hK=>?_;go_simp;refine zN (c8 Y hlt _ _ _ ae ab) fun w8 v8 hn hi=>?_;clear ae;have a2:=hid hi;clear hi;obtain ⟨HN,BP,BO,BG,BS,BT,ac,ab,ad⟩:=zn9 hn HN BP.new BO.new BG.new BS.new BT.new ac.new ab.new ad.new;clear hn;refine zK hK ⟨cW2 BT,cW2 BG,cW2 BO⟩ ?_;clear hK K;refine tk1 8 fun K hK=>?_;go_simp;refine zN (c9 Y hlt _ _ _ a2 ac) fun w9 v9 hn hi=>?_;clear a2;have ai:=hid hi;clear hi;obtain ⟨HN,BP,BO,BG,BS,BT,ac,ab,ad⟩:=zn9 hn HN BP.new BO.new BG.new BS.new BT.new ac.new ab.new ad.new;clear hn;refine zK hK ⟨cW2 BT,cW2 BG,cW2 BO⟩ ?_;clear hK K;refine tk1 15 fun K hK=>?_;go_simp;rw[ser_wrap hlt dg de df];refine zM (of_calls D _) fun wa hn=>?_;rw[←hD.out];obtain ⟨HN,BP,BO,BG,BS,BT,ac,ab,ad,ai⟩:=zn10 hn HN BP.new BO.new BG.new BS.new BT.new ac.new ab.new ad.new ai.new;clear hn;refine zK hK ⟨cW2 BT,cW2 BG,cW2 BO⟩ ?_;clear hK K;refine tk1 16 fun K hK=>?_;go_simp;refine zO (da Y hlt _ _ ai) fun wb s7 a7 l7 k7 hn hi=>?_;clear ai;have ae:=hid hi;clear hi;obtain ⟨HN,BP,BO,BG,BS,BT,ac,ab,ad⟩:=zn9 hn HN BP.new BO.new BG.new BS.new BT.new ac.new ab.new ad.new;clear hn;refine zK hK ⟨cW2 BT,cW2 BG,cW2 BO⟩ ?_;clear hK K;refine tlW ?_;obtain ⟨t0,t1,t2,t3,t4⟩:=BT.out.two;have g:=BG.out.two;have o:=BO.out.two;clear g o;go_upto_region 8 with (fail);clear t0 t1 t2 t3 t4;have aq:=BP.out.away BT.out (by omega) (.int .i64 s7) (.slice a7 l7 k7);have ap:=BO.out.away BT.out (by omega) (.int .i64 s7) (.slice a7 l7 k7);have ao:=BG.out.away BT.out (by omega) (.int .i64 s7) (.slice a7 l7 k7);have ar:=BS.out.away BT.out (by omega) (.int .i64 s7) (.slice a7 l7 k7);have am:=ac.out.put2 BT.out s7 a7 l7 k7;have al:=ab.out.put2 BT.out s7 a7 l7 k7;have bl:=ad.out.put2 BT.out s7 a7 l7 k7;have ak:=ae.out.put2 BT.out s7 a7 l7 k7;have aw:=HN.out.putAt BT.out (by omega) (.int .i64 s7) (.slice a7 l7 k7);have au:=BT.out.put2 (.int .i64 s7) (.slice a7 l7 k7);clear BP BO BG BS ac ab ad ae HN BT;refine zh10 ?_ aq ap ao ar am al bl ak aw au;clear aq ap ao ar am al bl ak aw au;intro BP BO BG BS ac ab ad ae HN BT;obtain ⟨w5,cx⟩:∃ u,((wb.setCell ⟨T,0,none⟩ (.int .i64 s7)).setCell ⟨T,1,none⟩ (.slice a7 l7 k7))=u:=⟨_,rfl⟩;rw[cx] at BT BP BO BG BS HN ac ab ad ae⊢;clear cx;rcases Nat.mod_two_eq_zero_or_one (Y+1) with hm | hm
     ·have cj:((Y:Int)+1) % 2=0:=by omega
      have a3:serS (Y+1)=serS Y+serT (Y+1):=if_neg (by omega);clear hm;have c4:=hid a3;clear a3;obtain ⟨u0,u1,u2,u3,u4⟩:=BS.out.two;obtain ⟨t0,t1,t2,t3,t4⟩:=BT.out.two;go_wp2_with fail;refine zO (dc Y hlt _ _ _ ad ae) fun wd s9 a9 l9 k9 hn hi=>?_;rw[←c4.out] at hi;have ai:=hid hi;clear hi;clear u0 u1 u2 u3 u4 t0 t1 t2 t3 t4;obtain ⟨HN,BP,BO,BG,BS,BT,ac,ab,ae⟩:=zn9 hn HN BP.new BO.new BG.new BS.new BT.new ac.new ab.new ae.new;clear hn;obtain ⟨u0,u1,u2,u3,u4⟩:=BS.out.two;go_wp2_with fail;clear u0 u1 u2 u3 u4;have aq:=BP.out.away BS.out (by omega) (.int .i64 s9) (.slice a9 l9 k9);have ap:=BO.out.away BS.out (by omega) (.int .i64 s9) (.slice a9 l9 k9);have ao:=BG.out.away BS.out (by omega) (.int .i64 s9) (.slice a9 l9 k9);have au:=BT.out.away BS.out (by omega) (.int .i64 s9) (.slice a9 l9 k9);have am:=ac.out.put2 BS.out s9 a9 l9 k9;have al:=ab.out.put2 BS.out s9 a9 l9 k9;have ak:=ae.out.put2 BS.out s9 a9 l9 k9;have av:=ai.out.put2 BS.out s9 a9 l9 k9;have aw:=HN.out.putAt BS.out (by omega) (.int .i64 s9) (.slice a9 l9 k9);have ar:=BS.out.put2 (.int .i64 s9) (.slice a9 l9 k9);clear BP BO BG BT ac ab ae ai HN BS;refine zh10 ?_ aq ap ao au am al ak av aw ar;clear aq ap ao au am al ak av aw ar;intro BP BO BG BT ac ab ae ai HN BS;go_roundw
      case rel=>exact ⟨Y+1,s9,a9,l9,k9,s7,a7,l7,k7,by omega,by go_num,HN,BP,BO,BG,BS,BT,ac,ab,ai,ae⟩
      case measure=>simp[RowKit.intOf];omega
     ·have cj:((Y:Int)+1) % 2=1:=by omega
      have a3:serS (Y+1)=serS Y - serT (Y+1):=if_pos hm;clear hm;replace a3:=hid a3;obtain ⟨u0,u1,u2,u3,u4⟩:=BS.out.two;obtain ⟨t0,t1,t2,t3,t4⟩:=BT.out.two;go_wp2_with fail;refine zO (db Y hlt _ _ _ ad ae) fun wd s9 a9 l9 k9 hn hi=>?_;rw[←a3.out] at hi;have ai:=hid hi;clear hi;clear u0 u1 u2 u3 u4 t0 t1 t2 t3 t4;obtain ⟨HN,BP,BO,BG,BS,BT,ac,ab,ae⟩:=zn9 hn HN BP.new BO.new BG.new BS.new BT.new ac.new ab.new ae.new;clear hn;obtain ⟨u0,u1,u2,u3,u4⟩:=BS.out.two;go_wp2_with fail;clear u0 u1 u2 u3 u4;have aq:=BP.out.away BS.out (by omega) (.int .i64 s9) (.slice a9 l9 k9);have ap:=BO.out.away BS.out (by omega) (.int .i64 s9) (.slice a9 l9 k9);have ao:=BG.out.away BS.out (by omega) (.int .i64 s9) (.slice a9 l9 k9);have au:=BT.out.away BS.out (by omega) (.int .i64 s9) (.slice a9 l9 k9);have am:=ac.out.put2 BS.out s9 a9 l9 k9;have al:=ab.out.put2 BS.out s9 a9 l9 k9;have ak:=ae.out.put2 BS.out s9 a9 l9 k9;have av:=ai.out.put2 BS.out s9 a9 l9 k9;have aw:=HN.out.putAt BS.out (by omega) (.int .i64 s9) (.slice a9 l9 k9);have ar:=BS.out.put2 (.int .i64 s9) (.slice a9 l9 k9);clear BP BO BG BT ac ab ae ai HN BS;refine zh10 ?_ aq ap ao au am al ak av aw ar;clear aq ap ao au am al ak av aw ar;intro BP BO BG BT ac ab ae ai HN BS;go_roundw
      case rel=>exact ⟨Y+1,s9,a9,l9,k9,s7,a7,l7,k7,by omega,by go_num,HN,BP,BO,BG,BS,BT,ac,ab,ai,ae⟩
      case measure=>simp[RowKit.intOf];omega
    ·obtain rfl:Y=20:=by omega
     obtain ⟨t,ht,bv⟩:∃ t,(serT 20).sign=t∧t=0:=⟨_,rfl,by rw[dd.out];rfl⟩;subst bv;replace ht:=hid ht;have t:=BT.out.two;go_wp2_with fail;refine zM (sign_calls _ (serT 20) _ a4) fun w5 hn=>?_;rw[ht.out];clear t;obtain ⟨HN,BP,BS,ad⟩:=zn4 hn HN BP.new BS.new ad.new;clear hn;obtain ⟨u0,u1,u2,u3,u4⟩:=BS.out.two;obtain ⟨p0,p1,p2,p3,p4⟩:=BP.out.two;go_wp2_with fail;refine bodyPost_ret (v:=.agg #[.int .i64 sS,.slice aS lS kS]) (by simp[results,results253,go_sem,p0,p1]) rfl ?_;exact ⟨_,rfl,HN.putAt BP (by omega) _ _,ad.put2 BP _ _ _ _⟩
end Go.Proofs.YtnjonlnemagomaaGreatDoor
