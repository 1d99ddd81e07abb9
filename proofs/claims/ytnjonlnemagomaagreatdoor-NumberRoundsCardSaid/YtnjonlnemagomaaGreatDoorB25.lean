/- Part B25. -/
import Derived.Test.YtnjonlnemagomaaGreatDoorB11
import Derived.Test.YtnjonlnemagomaaGreatDoorB24
namespace Go.Proofs.YtnjonlnemagomaaGreatDoor
open Go.RowKit Big Tryz
open Go.Lib (hid)
set_option maxRecDepth 100000
set_option maxHeartbeats 8000000
set_option linter.all false
theorem rt_bd {x r:Int}{k:Nat}(h:IsRt x r)(hb:BdK k x):BdK k r:=by
 have h1:=h.2.1
 have h3:r.natAbs≤x.natAbs:=by
  have h4:r≤r*r:=by
   rcases Int.lt_or_le r 1 with h5 | h5
   ·have:r=0:=by have:=h.1;omega
    subst this;omega
   ·have:=Int.mul_le_mul_of_nonneg_right h5 (Int.le_trans (by omega) h5);omega
  have:=h.1;omega
 unfold BdK at *;omega
theorem nroot_near (s:ByteArray)(q:Rat)(n d m:Int)(hs:s.data.toList=ratText q)(hf:Fits q)(hb:FB 700 q)(hl:s.size≤100000)(q0:0≤q.num)(rtn:IsRt q.num n)(rtd:IsRt q.den d)(ar:¬(n*n=q.num∧d*d=q.den))(rtm:IsRt (q*((1000000:Int):Rat)).floor m)(w:World)(he:Env w):
  Calls prog 31 #[.string s] w (SpPost w (rs (Rat.divInt m 1000)) (rs (Rat.divInt (m+1) 1000)) 0):=by
 have bh:=fun W hW=>check_calls s W hW hl;rw[hs,ratErr_ratText hf] at bh;have b4:=fun W hW=>from_calls s q W hW hs (by omega);obtain ⟨t,ht,cl⟩:∃ t,q.num.sign=t∧¬t < 0:=⟨_,rfl,fun h=>by have:=Int.sign_neg_iff.1 h;omega⟩;have co:decide (t < 0)=false:=decide_eq_false cl;have bl:=fun W va hx=>fsqrt_calls va q n d 700 W hx q0 rtn rtd hb (by omega)
 rw[show (decide (n*n=q.num) && decide (d*d=(q.den:Int)))=false by
  rw[Bool.and_eq_false_iff,decide_eq_false_iff_not,decide_eq_false_iff_not]
  exact Decidable.not_and_iff_not_or_not.1 ar] at bl
 have kq:FB 21 ((1000000:Int):Rat):=FB.int (by unfold BdK;decide) (by omega);have hF:=fun W=>f_calls 1000000 W (by omega) (by omega);have ay:=fun W va vb h1 h2=>fmul_calls va vb q ((1000000:Int):Rat) 700 21 W h1 h2 hb kq (by omega);have kp:=hb.mul kq;have aq:=fun W va h=>floor_calls va (q*((1000000:Int):Rat)) 721 W h kp (by omega)
 have kf:BdK 722 (q*((1000000:Int):Rat)).floor:=by have:=(floor_fb kp (by omega)).num;rwa [Rat.num_intCast] at this
 have au:=fun W va h=>nsqrt_calls va (q*((1000000:Int):Rat)).floor m 722 W h rtm kf (by omega);have km:=rt_bd rtm kf
 have ah:BdK 10 1000:=by unfold BdK;decide
 have k1:BdK 10 1:=by unfold BdK;decide
 have bk:=fun W va vb h1 h2=>make_calls va vb m 1000 W h1 h2 (km.bd (by omega)) (ah.bd (by omega)) (by omega);have bf:=fun W va vb h1 h2=>add_calls va vb m 1 W h1 h2 (km.bd (by omega)) (k1.bd (by omega));have bo:BdK 723 (m+1):=km.add (k1.mono (by omega));have an:=fun W va vb h1 h2=>make_calls va vb (m+1) 1000 W h1 h2 (bo.bd (by omega)) (ah.bd (by omega)) (by omega);have am:=fun W va vb h1 h2 hW=>nspan_calls va vb (Rat.divInt m 1000) (Rat.divInt (m+1) 1000) W h1 h2 ((FB.divInt km (ah.mono (by omega)) (by omega)).mono (by omega)) ((FB.divInt bo (ah.mono (by omega)) (by omega)).mono (by omega)) hW;obtain ⟨q6,b7⟩:∃ x,((1000000:Int):Rat)=x:=⟨_,rfl⟩;simp only[b7] at hF ay aq au;obtain ⟨qm,b8⟩:∃ x,q*q6=x:=⟨_,rfl⟩;simp only[b8] at ay aq au;obtain ⟨z,hz⟩:∃ x,qm.floor=x:=⟨_,rfl⟩;simp only[hz] at aq au;obtain ⟨m1,bj⟩:∃ x,m+1=x:=⟨_,rfl⟩;simp only[bj] at bf an am;rw[bj];obtain ⟨x1,bm⟩:∃ x,Rat.divInt m 1000=x:=⟨_,rfl⟩;obtain ⟨x2,bn⟩:∃ x,Rat.divInt m1 1000=x:=⟨_,rfl⟩;simp only[bm] at bk am;simp only[bn] at an am;obtain ⟨X,hX⟩:∃ X,rs x1=X:=⟨_,rfl⟩;obtain ⟨Y,hY⟩:∃ X,rs x2=X:=⟨_,rfl⟩;unfold SpPost at am⊢;rw[hX,hY] at am;rw[bm,bn,hX,hY];have av:∀ W,IsInt W (.agg #[.int .i64 1000,.slice none 0 0]) 1000:=fun W=>.small rfl (by omega) (by omega);have i1:∀ W,IsInt W (.agg #[.int .i64 1,.slice none 0 0]) 1:=fun W=>.small rfl (by omega) (by omega);clear hX hY bm bn bj hz b8 b7 km bo ah k1 kf kp kq hs hf hb hl q0 rtn rtd ar rtm;refine zh12 ?_ he bh b4 ht bl am hF ay aq au bk bf;intro HE ce cf ci ck cj bv bz bw b2 cg cd;refine zh3 ?_ an av i1;clear he bh b4 ht bl am hF ay aq au bk bf an av i1;intro bx ap b3;go_in;go_upto_region 1 with (fail);obtain ⟨BP,HN⟩:=lay1 w 53 #[.string ⟨#[]⟩,.string ⟨#[]⟩];go_wp2_with fail;refine zM (ce _ (HE.new HN)) fun w1 hn=>?_;obtain ⟨HN,BP⟩:=zn2 hn HN BP.new;clear hn;go_upto_region 4 with (fail);go_wp2_with fail;refine zS (cf _ (HE.new HN)) fun w2 s2 a2 l2 c2 t2 d2 m2 k2 hn hf=>?_;have HF:=hid hf;clear hf;obtain ⟨HN,BP⟩:=zn2 hn HN BP.new;clear hn;go_upto_region 5 with (fail);obtain ⟨BX,hn⟩:=lay1 w2 115 #[.int .i64 s2,.slice a2 l2 c2,.int .i64 t2,.slice d2 m2 k2];obtain ⟨HN,BP,HF⟩:=zn3 hn HN BP.new HF.new;clear hn;have pa:=BX.out.four;go_wp2_with fail;refine zM (fsign_calls _ q _ HF) fun w3 hn=>?_;rw[ci.out];clear pa;obtain ⟨HN,BP,BX,HF⟩:=zn4 hn HN BP.new BX.new HF.new;clear hn;go_upto_region 7 with (fail);obtain ⟨⟨az,a0,a1,a3⟩,a4,a6,a7,a8,ba⟩:=BX.out.four;go_wp2_with fail;refine (ck _ _ HF).mono ?_;rintro e w4 ⟨s5,a5,l5,c5,t5,d5,m5,k5,rfl,hn,b5,b6⟩;clear az a0 a1 a3 a4 a6 a7 a8 ba;have bc:=hid b5;have be:=hid b6;clear b5 b6;obtain ⟨HN,BP,BX,HF⟩:=zn4 hn HN BP.new BX.new HF.new;clear hn;go_upto_region 8 with (fail);obtain ⟨BR,hn⟩:=lay1 w4 115 #[.int .i64 s5,.slice a5 l5 c5,.int .i64 t5,.slice d5 m5 k5];obtain ⟨HN,BP,BX,HF,bc,be⟩:=zn6 hn HN BP.new BX.new HF.new bc.new be.new;clear hn;clear BR bc be;obtain ⟨w5,b9⟩:∃ x,w4.alloc (.cells #[.int .i64 s5,.slice a5 l5 c5,.int .i64 t5,.slice d5 m5 k5] 115)=x:=⟨_,rfl⟩;rw[b9] at BP BX HF HN⊢;clear b9;go_upto_region 10 with (fail);have b0:=HN;clear HN;have bt:=hid BP.lt
 go_cut [8] (fun x wx=>∃ (P:Nat),x=.pointer (some ⟨P,0,none⟩)∧New w5 wx∧w5.heap.size≤P∧IntAt wx P m)
 case first=>
  have HN:=hid (New.refl w5);obtain ⟨⟨az,a0,a1,a3⟩,a4,a6,a7,a8,ba⟩:=BX.out.four;refine zR 6 7 (fun W=>zF W w2.heap.size s2 a2 l2 c2 t2 d2 m2 k2) ?_;clear az a0 a1 a3 a4 a6 a7 a8 ba;replace BX:=hid (BX.new (New.refl w5).drew);replace HF:=hid (HF.new (New.refl w5).drew);replace HN:=hid (HN.drew);obtain ⟨cm,ca⟩:∃ x,w5.drew=x:=⟨_,rfl⟩;rw[ca] at HN BX HF⊢;clear ca
  focus
   refine zT 0 (cW4 BX) ?_;refine zw2 1 5 (fun K hK=>?_) fun K hK=>?_
   focus
    go_simp;refine zN (bv _) fun cb v6 hn hf=>?_;have aj:=hid hf;clear hf;obtain ⟨HN,BX,HF⟩:=zn3 hn HN BX.new HF.new;clear hn;refine zK hK (cW4 BX) ?_;clear hK K;have ST1:=trivial
   rotate_left
   focus
    go_simp;have ao:=hid (HN.size);obtain ⟨cb,ag,ac,hn⟩:=laid1 cm 113 #[.int .i64 0,.slice none 0 0];rw[ag];clear ag;have BM:=hid ac;clear ac;obtain ⟨HN,BX,HF⟩:=zn3 hn HN BX.new HF.new;clear hn;refine zK hK (cW4 BX) ?_;clear hK K;have ST2:=trivial
   rotate_left
   all_goals try
    clear ST1;refine zw2 2 5 (fun K hK=>?_) fun K hK=>?_
    focus
     go_simp;refine zN (bz _ _ _ HF aj) fun bp v7 hn hf=>?_;clear aj;have ak:=hid hf;clear hf;obtain ⟨HN,BX,HF⟩:=zn3 hn HN BX.new HF.new;clear hn;refine zK hK (cW4 BX) ?_;clear hK K;have ST3:=trivial
    rotate_left
    focus
     go_simp;have ao:=hid (HN.size);obtain ⟨bp,ag,ac,hn⟩:=laid1 cb 113 #[.int .i64 0,.slice none 0 0];rw[ag];clear ag;have BM:=hid ac;clear ac;obtain ⟨HN,BX,HF,aj⟩:=zn4 hn HN BX.new HF.new aj.new;clear hn;refine zK hK (cW4 BX) ?_;clear hK K;have ST4:=trivial
    rotate_left
   all_goals try
    clear ST2;refine tk1 1 fun K hK=>?_;go_simp;refine zN (bv _) fun bp v6 hn hf=>?_;have aj:=hid hf;clear hf;obtain ⟨HN,BX,HF,BM⟩:=zn4 hn HN BX.new HF.new BM.new;clear hn;refine zK hK (cW4 BX) ?_;clear hK K;have ST4:=trivial
   all_goals try
    clear ST3;refine zw2 3 5 (fun K hK=>?_) fun K hK=>?_
    focus
     go_simp;refine zN (bw _ _ ak) fun bq v8 hn hi=>?_;clear ak;have al:=hid hi;clear hi;obtain ⟨HN,BX,HF⟩:=zn3 hn HN BX.new HF.new;clear hn;refine zK hK (cW4 BX) ?_;clear hK K;have ST5:=trivial
    rotate_left
    focus
     go_simp;have ao:=hid (HN.size);obtain ⟨bq,ag,ac,hn⟩:=laid1 bp 113 #[.int .i64 0,.slice none 0 0];rw[ag];clear ag;have BM:=hid ac;clear ac;obtain ⟨HN,BX,HF,ak⟩:=zn4 hn HN BX.new HF.new ak.new;clear hn;refine zK hK (cW4 BX) ?_;clear hK K;have ST6:=trivial
    rotate_left
   all_goals try
    clear ST4;refine tk1 2 fun K hK=>?_;go_simp;refine zN (bz _ _ _ HF aj) fun bq v7 hn hf=>?_;clear aj;have ak:=hid hf;clear hf;obtain ⟨HN,BX,HF,BM⟩:=zn4 hn HN BX.new HF.new BM.new;clear hn;refine zK hK (cW4 BX) ?_;clear hK K;have ST6:=trivial
   all_goals try
    clear ST5;refine zw2 4 5 (fun K hK=>?_) fun K hK=>?_
    focus
     go_simp;refine zO (b2 _ _ al) fun br s9 a9 l9 k9 hn hi=>?_;clear al;have ax:=hid hi;clear hi;obtain ⟨HN,BX,HF⟩:=zn3 hn HN BX.new HF.new;clear hn;refine zK hK (cW4 BX) ?_;clear hK K;have ST7:=trivial
    rotate_left
    focus
     go_simp;have ao:=hid (HN.size);obtain ⟨br,ag,ac,hn⟩:=laid1 bq 113 #[.int .i64 0,.slice none 0 0];rw[ag];clear ag;have BM:=hid ac;clear ac;obtain ⟨HN,BX,HF,al⟩:=zn4 hn HN BX.new HF.new al.new;clear hn;refine zK hK (cW4 BX) ?_;clear hK K;have ST8:=trivial
    rotate_left
   all_goals try
    clear ST6;refine tk1 3 fun K hK=>?_;go_simp;refine zN (bw _ _ ak) fun br v8 hn hi=>?_;clear ak;have al:=hid hi;clear hi;obtain ⟨HN,BX,HF,BM⟩:=zn4 hn HN BX.new HF.new BM.new;clear hn;refine zK hK (cW4 BX) ?_;clear hK K;have ST8:=trivial
   all_goals try
    clear ST7;refine tk1 5 fun K hK=>?_;go_simp;have ao:=hid (HN.size);obtain ⟨cn,ag,ac,hn⟩:=laid1 br 113 #[.int .i64 0,.slice none 0 0];rw[ag];clear ag;have BM:=hid ac;clear ac;obtain ⟨HN,BX,HF,ax⟩:=zn4 hn HN BX.new HF.new ax.new;clear hn;refine zK hK (cW4 BX) ?_;clear hK K;have ST9:=trivial
   all_goals try
    clear ST8;refine tk1 4 fun K hK=>?_;go_simp;refine zO (b2 _ _ al) fun cn s9 a9 l9 k9 hn hi=>?_;clear al;have ax:=hid hi;clear hi;obtain ⟨HN,BX,HF,BM⟩:=zn4 hn HN BX.new HF.new BM.new;clear hn;refine zK hK (cW4 BX) ?_;clear hK K;have ST9:=trivial
   all_goals
    clear ST9;refine tlW ?_;obtain ⟨⟨az,a0,a1,a3⟩,a4,a6,a7,a8,ba⟩:=BX.out.four;obtain ⟨u0,u1,u2,u3,u4⟩:=BM.out.two;go_wp2_with fail
    go_meet
    exact ⟨_,rfl,HN.putAt BM ao _ _,ao,⟨_,_,_,_,BM.put2 _ _,ax.put2 BM _ _ _ _⟩⟩
 case rest=>
  obtain ⟨P,rfl,hn,hP,s9,a9,l9,k9,bg,bi⟩:=hcut;obtain ⟨cs,bb⟩:∃ x,x=wc:=⟨_,rfl⟩;rw[←bb] at hn bg bi⊢;clear bb
  have ar:w.heap.size≠P:=by have:=bt.out;omega
  replace BP:=bW BP hn;have HN:=hid (b0.trans hn);clear b0 hn hP bt BX HF;refine zh3 ?_ bg bi ar;clear bg bi ar;intro BM IM ch;go_upto_region 11 with (fail);obtain ⟨aa,ab,ad,ae,af⟩:=BM.out.two;refine zR 12 13 (fun W=>zI W P s9 a9 l9 k9) ?_;refine zTE 0 ⟨aa,ab⟩ ?_;refine zTE 3 ⟨aa,ab⟩ ?_;refine tk1 1 fun K hK=>?_
  try simp only[PE]
  go_simp;refine zM (of_calls 1000 _) fun y1 hn=>?_;have hn:=hn.undrew;clear aa ab ad ae af;obtain ⟨HN,BP,BM,IM⟩:=zn4 hn HN BP.new BM.new IM.new;clear hn;obtain ⟨aa,ab,ad,ae,af⟩:=BM.out.two;refine zKE hK ⟨aa,ab⟩ ?_;clear hK K;refine tk1 2 fun K hK=>?_
  try simp only[PE]
  go_simp;refine zN (cg _ _ _ IM (ap _)) fun y2 cp hn hf=>?_;have ai:=hid hf;clear hf;clear aa ab ad ae af;obtain ⟨HN,BP,BM,IM⟩:=zn4 hn HN BP.new BM.new IM.new;clear hn;obtain ⟨aa,ab,ad,ae,af⟩:=BM.out.two;refine zKE hK ⟨aa,ab⟩ ?_;clear hK K;refine tk1 4 fun K hK=>?_
  try simp only[PE]
  go_simp;refine zM (of_calls 1 _) fun y3 hn=>?_;clear aa ab ad ae af;obtain ⟨HN,BP,BM,IM,ai⟩:=zn5 hn HN BP.new BM.new IM.new ai.new;clear hn;obtain ⟨aa,ab,ad,ae,af⟩:=BM.out.two;refine zKE hK ⟨aa,ab⟩ ?_;clear hK K;refine tk1 5 fun K hK=>?_
  try simp only[PE]
  go_simp;refine zN (cd _ _ _ IM (b3 _)) fun y4 cq hn hi=>?_;have aw:=hid hi;clear hi;clear aa ab ad ae af;obtain ⟨HN,BP,BM,IM,ai⟩:=zn5 hn HN BP.new BM.new IM.new ai.new;clear hn;obtain ⟨aa,ab,ad,ae,af⟩:=BM.out.two;refine zKE hK ⟨aa,ab⟩ ?_;clear hK K;refine tk1 6 fun K hK=>?_
  try simp only[PE]
  go_simp;refine zM (of_calls 1000 _) fun y5 hn=>?_;clear aa ab ad ae af;obtain ⟨HN,BP,BM,IM,ai,aw⟩:=zn6 hn HN BP.new BM.new IM.new ai.new aw.new;clear hn;obtain ⟨aa,ab,ad,ae,af⟩:=BM.out.two;refine zKE hK ⟨aa,ab⟩ ?_;clear hK K;refine tk1 7 fun K hK=>?_
  try simp only[PE]
  go_simp;refine zN (bx _ _ _ aw (ap _)) fun y6 cr hn hf=>?_;clear aw;replace hf:=hid hf;clear aa ab ad ae af;obtain ⟨HN,BP,BM,ai⟩:=zn4 hn HN BP.new BM.new ai.new;clear hn;obtain ⟨aa,ab,ad,ae,af⟩:=BM.out.two;refine zKE hK ⟨aa,ab⟩ ?_;clear hK K;refine tk1 8 fun K hK=>?_
  try simp only[PE]
  go_simp;refine zM (cj _ _ _ ai hf (HE.new HN)) fun y7 hn=>?_;clear ai hf;clear aa ab ad ae af;obtain ⟨HN,BP,BM⟩:=zn3 hn HN BP.new BM.new;clear hn;obtain ⟨aa,ab,ad,ae,af⟩:=BM.out.two;have p:=BP.out.two;refine zKE hK ⟨aa,ab⟩ ?_;clear hK K;refine zTE 9 ⟨aa,ab⟩ ?_;refine zTE 10 ⟨aa,ab⟩ ?_;refine tk1 11 fun K hK=>?_
  try simp only[PE]
  go_simp;clear aa ab ad ae af p;have ac:=BM.out.otheri ch.out (.string X) (.string Y);have bu:=BP.out.put2 (.string X) (.string Y);have b1:=HN.out.put2 (B:=w.heap.size) (by omega) (.string X) (.string Y);clear BM BP HN;refine zh3 ?_ ac bu b1;clear ac bu b1;intro BM BP HN;obtain ⟨aa,ab,ad,ae,af⟩:=BM.out.two;refine zKE hK ⟨aa,ab⟩ ?_;clear hK K;refine tlW ?_;clear aa ab ad ae af;obtain ⟨p0,p1,p2,p3,p4⟩:=BP.out.two;go_wp2_with fail;refine bodyPost_ret (v:=.tuple #[.agg #[.string X,.string Y],.int .i64 0]) (by simp[results,results31,go_sem,p0,p1]) rfl ?_;exact ⟨rfl,HN⟩
end Go.Proofs.YtnjonlnemagomaaGreatDoor
