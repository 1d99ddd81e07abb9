/- Part B04. -/
import Derived.Deep.RegionHeld
import Derived.Deep.RegionHeld3
import Derived.Test.YtnjonlnemagomaaGreatDoorB03
namespace Go.Proofs.YtnjonlnemagomaaGreatDoor
open Go.RowKit Big Tryz
open Go.Lib (hid)
set_option maxRecDepth 100000
set_option maxHeartbeats 8000000
set_option linter.all false
theorem shifted_top {k s B x:Nat} {g h:Nat→Nat} (hgl:∀ i,i < k+2→g i < W64) (hB:B=vf W64 g (k+2)) (hx:g (k+1)=x) (hs:s < 64) (hn:2^63≤x*2^s) (hlt:x*2^s < W64)
  (hl:∀ j,h j < W64) (hv:vf W64 h (k+3)=B*2^s):
  h (k+2)=0∧h (k+1)≠0∧vf W64 h (k+2)=B*2^s∧2^63*W64^(k+1)≤B*2^s:=by
 have aa:x < 2^(64 - s):=by
  rw[w64_split hs]at hlt;exact Nat.lt_of_mul_lt_mul_right hlt
 have h2:(x+1)*2^s≤W64:=by rw[w64_split hs];exact Nat.mul_le_mul_right _ aa
 exact shifted_any hgl hB hx (Nat.pow_pos (by omega)) (by decide) hn h2 hl hv
theorem dv_startW {m k mq A V s:Nat}{f g o:Nat→Nat}(hs:s < 64)(hm:m+1=mq+(k+2))(hfl:∀ i,i < m→f i < W64)(hA:A=vf W64 f m)(ho:∀ i,o i < W64)(hv:vf W64 o (m+1)=A*2^s)(hV:2^63*W64^(k+1)≤V):
  Dv W64 m k mq mq (A*2^s) V g o (fun _=>0):=
 Dv.start (K:=2^63) (by decide) (Nat.pow_le_pow_right (by omega) (by omega)) (Nat.pow_pos (by omega)) hm hfl hA ho hv hV
theorem Row.but {w w':World}{b B:Nat}{t:TypeId}{k:IntKind}{n:Nat}{f:Nat→Nat}(h:Row w b t k n f)(hb:But B w w')(hne:b≠B):Row w' b t k n f:=
 World.rowIs.of_block h (hb.block b h.lt (by intro e;injection e with e;exact hne e))
theorem divide_long (a b:Option Addr) (m k mq ca cb:Nat) (f g:Nat→Nat) (w:World) (hm:m≤1000000) (hmq:m+1=mq+(k+2)) (hmq0:0 < mq) (h1a:m≤ca) (h1b:ca≤281474976710656) (h1c:a=none→ca=0) (h2a:k+2≤cb) (h2b:cb≤281474976710656) (h2c:b=none→cb=0)
  (ha:Rd w a .u64 m f) (hb:Rd w b .u64 (k+2) g) (cf:Canon W64 f m) (cg:Canon W64 g (k+2)) (hge:vf W64 g (k+2)≤vf W64 f m):
  Calls prog 224 #[.slice a m ca,.slice b (k+2) cb] w (DivMod w (vf W64 f m) (vf W64 g (k+2))):=by
 have ai:=fun W=>run_make_row' (P:=prog) 111 198 (.int .u64 0) 8 underlying111 info_u64 rfl .i64 .i64 mq (by omega) (by omega) W
 have cd:(mq:Int)=(m:Int) - ((k:Int)+2)+1:=by omega
 rw[cd]at ai;obtain ⟨r,ck,hr⟩:∃ r:Int,0≤r∧cmpNat (vf W64 f m) (vf W64 g (k+2))=r:=⟨_,by unfold cmpNat;rw[if_neg (by omega)];split <;> omega,rfl⟩
 have ci:k+2≤m:=by omega
 refine zh3 ?_ hmq ai hr;intro ah b3 b8;have ce:g (k+1)≠0:=cg.top (by omega);have ch:g (k+1) < W64:=cg.lt (k+1) (by omega)
 have cl:¬r < 0:=by omega
 have cp:((k:Int)+2==1)=false:=by simp;omega
 have CF:=hid cf;have CG:=hid cg;obtain ⟨s,hs,bp,aq,bo⟩:=lz_calls (g (k+1)) ch ce;refine zh3 ?_ bp aq bo;clear hmq ai hr hge cf cg ck bp aq bo;intro b4 b5 b1;go_in;go_wp2_with fail;refine (compareWords_calls _ (.slice b (k+2) cb) m (k+2) f g w ⟨a,ca,⟨rfl,h1a,h1b,h1c⟩,ha,CF⟩ ⟨b,cb,⟨rfl,h2a,h2b,h2c⟩,hb,CG⟩).mono ?_;rintro e w1 ⟨hn,rfl⟩;rw[b8.out];have ha:=ha.new hn;have hb:=hb.new hn;replace hn:=hid hn;obtain ⟨b2,o2,rfl,e2⟩:=hb (k+1) (by omega);go_wp2_with fail;clear e2;refine (b1 _).mono ?_;rintro e w2 ⟨rfl,rfl⟩;obtain ⟨B1,ap⟩:∃ B,B=w1.heap.size:=⟨_,rfl⟩;have ba:=shiftUp_any (some ⟨b2,o2,none⟩) (k+2) cb s g w1 (by omega) hs hb CG.out.lt;rw[←ap] at ba;replace ap:=hid ap;go_wp2_with fail;refine ba.mono ?_;clear ba;rintro e w2 ⟨h1,rfl,aq,ac,a5,bw⟩;obtain ⟨hz,a8,hV,bn⟩:=shifted_top CG.lt rfl rfl hs b4 b5 a5 bw
 have bv:trimLen h1 (k+2+1)=k+2:=by rw[trimLen,if_pos hz,trimLen,if_neg a8]
 refine zh5 ?_ bv a8 hV bn a5;clear hz a8 hV bn bw bv a5;intro b9 b6 HV b0 bc;have ha:=ha.new aq;have bk:=ac.lt;obtain ⟨B2,aw⟩:∃ B,B=w2.heap.size:=⟨_,rfl⟩;have a9:=shiftUp_any a m ca s f w2 hm hs ha CF.out.lt;rw[←aw] at a9;replace aw:=hid aw;have bb:=trim_val (some ⟨B1,0,none⟩) (k+2+1) (k+2+1) h1 w2 (Nat.le_refl _) (by omega) (by simp) ac.rd;replace bb:=hid bb;go_wp2_with fail;refine bb.mono ?_;rintro e w3 ⟨rfl,rfl⟩;rw[b9.out];go_wp2_with fail;refine a9.mono ?_;clear a9;rintro e w3 ⟨o,rfl,a7,ag,ax,bq⟩;have hD:=dv_startW (V:=vf W64 g (k+2)*2^s) (g:=g) hs ah.out CF.out.lt rfl ax bq b0.out;have HD:=hid hD;clear hD ax bq;have ac:=ac.new a7;have bl:=ag.lt;have aa:=aq.trans a7;clear aq a7;obtain ⟨B3,a4⟩:∃ B,B=w3.heap.size:=⟨_,rfl⟩;have bx:=hid a4;have ae:=hid aa;have ai:=b3.out w3;rw[←bx.out] at ai;have ad:=Row.made w3 .u64 mq 198;have aj:=aa.alloc (.cells (madeCells #[.int .u64 0] mq) 198);have au:=ac.alloc (.cells (madeCells #[.int .u64 0] mq) 198);have av:=ag.alloc (.cells (madeCells #[.int .u64 0] mq) 198);rw[←a4] at ad bl;rw[←aw.out] at bk;clear a4 aa ac ag;generalize w3.alloc (.cells (madeCells #[.int .u64 0] mq) 198)=w4 at ai ad aj au av;have bt:Row w4 B3 198 .u64 mq fun _=>0:=ad;refine zh4 ?_ au av bt aj;clear au av bt aj ad ae;intro an ao af bf
 go_upto_block 2 with (fail)
 clear ai
 go_cut [] (fun wx=>∃ (p qf:Nat→Nat),New w1 wx∧Row wx B2 198 .u64 (m+1) p∧Row wx B3 198 .u64 mq qf∧(∀ i,p i < W64)∧(∀ i,qf i < W64)∧p (k+2)=0∧vf W64 p (k+2)+vf W64 g (k+2)*2^s*vf W64 qf mq=vf W64 f m*2^s∧vf W64 p (k+2) < vf W64 g (k+2)*2^s)
 case first=>
  go_wp2_with fail;go_loopw [14] (fun sj wx=>∃ (jj:Nat) (p qf:Nat→Nat),jj≤mq∧sj=.int .i64 ((jj:Int) - 1)∧New w1 wx∧Row wx B1 198 .u64 (k+2+1) h1∧Row wx B2 198 .u64 (m+1) p∧Row wx B3 198 .u64 mq qf∧Dv W64 m k mq jj (vf W64 f m*2^s) (vf W64 g (k+2)*2^s) g p qf) (fun sj _=>(intOf sj+1).toNat)
  case atStart=>exact ⟨mq,o,fun _=>0,Nat.le_refl _,by have:=ah.out;go_num,bf.out,an.out,ao.out,af.out,HD.out⟩
  case round=>
   clear an ao af bf HD;obtain ⟨jj,p,qf,co,rfl,aa,bu,ac,ag,hD⟩:=hrel;refine zh5 ?_ aa bu ac ag hD;clear aa bu ac ag hD;intro ae an ao af HD;by_cases hj0:jj=0
   ·subst hj0;obtain ⟨ay,ab,al⟩:=HD.out.finish ah.out hmq0;refine zh3 ?_ ay ab al;clear ay ab al;intro b7 bj be;go_wp2_with fail
    go_meet
    exact ⟨p,qf,ae,ao,af,HD.ol,HD.ql,b7,bj,be⟩
   ·obtain ⟨j,rfl⟩:∃ j,jj=j+1:=⟨jj - 1,by omega⟩;rw[show ((j+1:Nat):Int) - 1=(j:Int) by omega]
    have cm:(j:Int)≤(j:Int)+((k:Int)+2)+1:=by omega
    have cn:(j:Int)+((k:Int)+2)+1≤(m:Int)+1:=by have:=ah.out;omega
    have ff:=af.out.frozen j;have f1:=af.out.cell (i:=j) (by omega)
    have X:StepIn wr B2 (m+1) j k (m+1 - j) B1 0 p h1 (fun i=>p (j+i)):=by
     have hq:=ah.out;refine ⟨by omega,by omega,by omega,by omega,fun i hi=>?_,HD.out.ol,fun i _=>bc.out i,b6.out,rfl,?_⟩
     ·have:=an.out.cell (i:=i) (by omega);simpa using this
     ·rw[HV.out];have h1:=HD.out.low
      have h2:vf W64 (fun i=>p (j+1+i)) (k+2)=vf W64 (fun i=>p (j+(1+i))) (k+2):=vf_congr fun i _=>by congr 1;omega
      rw[←h2];exact h1
    have az:=step_any B2 j (m+1 - j) (m+1) k B1 0 (k+2+1) p h1 _ wr X ao.out;replace az:=hid az;clear X ff f1;go_wp2_with fail;rw[show j+(k+2)+1 - j=k+3 by omega];refine az.mono ?_;clear az;rintro e w5 ⟨q,p',rfl,hq,ak,a2,br,a0,ab,a6⟩;have am:=af.out.but ak (by omega);have a1:=an.out.but ak (by omega);have ar:=ak.new ae.out (by rw[←ap.out];omega);have ff:=am.frozen j;have f1:=am.cell (i:=j) (by omega);rw[HV.out] at ab a6;have bm:=HD.out.step ah.out (by omega) (by rw[←HV.out];exact Nat.le_of_lt (vf_lt fun i _=>bc.out i)) hq br a0 ab a6;have bz:=hid bm;have bg:=hid a1;have bh:=hid a2;have bi:=hid am;have a3:=hid ar;clear bm a1 a2 am ar ab a6 a0 br ak HD an ao af ae;go_wp2_with fail;clear ff f1;go_roundw
    case rel=>
     exact ⟨j,p',upd qf j q,by omega,by go_num,a3.out.setCell (by rw[←ap.out];show B1≤B3;omega) _,bg.out.other (by show B1≠B3;omega) _,bh.out.other (by show B2≠B3;omega) _,bi.out.set _ _,bz.out⟩
    case measure=>simp[intOf]
 case rest=>
  obtain ⟨p,qf,aa,ac,ag,ax,cj,ay,ab,al⟩:=hcut
  go_step
  exact divide_back B2 B3 m (k+2) mq s p qf w _ (vf W64 f m) (vf W64 g (k+2)) _ _ _ _ _ _ _ _ _ _ _ _ _ _ _ _ _ _ _ _ _ _ _ _ _ _ _ _ _ _ _ _ _ _ _ _ _ _ _ _ _ _ _ _ _ _ _ _ _ _ _ _ _ _ _ _ _ _ _ _ _ _ _ _ _ _ _ _ _ _ _ _ _ _ _ _ _ _ _ _ _ _ _ _ _ _ _ _ _ _ _ _ _ _ _ _ _ _ _ _ _ _ _ _ _ _ _ _ _ _ _ _ _ _ _ _ _ _ _ _ _ _ _ _ _ _ _ _ _ _ _ _ _ hs hm ci (by have:=ah.out;omega) (by omega) (by have:=hn.out.size;have:=ap.out;omega) (hn.trans aa) ac ag ax cj ay ab al
theorem divide_calls (va vb:Value)(m n:Nat)(f g:Nat→Nat)(w:World)(hm:m≤1000000)(ha:Wds w va m f)(hb:Wds w vb n g)(h0:0 < n):
  Calls prog 224 #[va,vb] w (DivMod w (vf W64 f m) (vf W64 g n)):=by
 rcases Nat.lt_or_ge (vf W64 f m) (vf W64 g n) with h | h
 ·exact divide_less va vb m n f g w ha hb h
 ·obtain ⟨a,ca,⟨rfl,aa,ab,ac⟩,ha,cf⟩:=ha;obtain ⟨b,cb,⟨rfl,ad,ae,af⟩,hb,cg⟩:=hb
  have ag:n≤m:=by
   rcases Nat.lt_or_ge m n with h3 | h3
   ·exfalso;have h4:vf W64 f m < W64^m:=vf_lt cf.lt;obtain ⟨i,rfl⟩:∃ i,n=i+1:=⟨n - 1,by omega⟩;have h5:W64^i≤vf W64 g (i+1):=vf_ge_top (cg.top (by omega));have h6:W64^m≤W64^i:=Nat.pow_le_pow_right (by decide) (by omega);omega
   ·exact h3
  rcases Nat.lt_or_ge n 2 with h3 | h3
  ·obtain rfl:n=1:=by omega
   exact divide_one a b m ca cb f g w hm (by omega) aa ab ac ad ae af ha hb cf cg h
  ·obtain ⟨k,rfl⟩:∃ k,n=k+2:=⟨n - 2,by omega⟩;exact divide_long a b m k (m+1 - (k+2)) ca cb f g w hm (by omega) (by omega) aa ab ac ad ae af ha hb cf cg h
inductive IsInt (w:World) (v:Value) (z:Int):Prop where
 | small (h:v=.agg #[.int .i64 z,.slice none 0 0]) (lo: -9223372036854775808≤z) (hi:z≤9223372036854775807)
 | big (b off n cap:Nat) (f:Nat→Nat) (s:Int) (h:v=.agg #[.int .i64 s,.slice (some ⟨b,off,none⟩) n cap]) (hs:s=1∨s= -1) (hw:Wds w (.slice (some ⟨b,off,none⟩) n cap) n f)
   (hn:0 < n) (hv:9223372036854775808≤vf W64 f n) (hz:z=s*vf W64 f n)
theorem IsInt.new {w w':World}{v:Value}{z:Int}(h:IsInt w v z)(hn:New w w'):IsInt w' v z:=by
 rcases h with ⟨h,lo,hi⟩ | ⟨b,ab,n,aa,f,s,h,hs,hw,h0,hv,hz⟩
 ·exact .small h lo hi
 ·exact .big b ab n aa f s h hs (hw.new hn) h0 hv hz
theorem size_val {s:Int}(lo: -9223372036854775808≤s)(hi:s≤9223372036854775807)(h:s < 0):IntKind.u64.wrap (wrap64 (-s))=(s.natAbs:Int):=by
 rw[IntKind.wrap_u64];unfold wrap64;omega
theorem size_calls (s:Int)(w:World)(lo: -9223372036854775808≤s)(hi:s≤9223372036854775807):
  Calls prog 216 #[.int .i64 s] w fun e w'=>e=.returned (.int .u64 s.natAbs)∧w=w':=by
 by_cases h:s < 0
 ·have hv:=hid (size_val lo hi h);go_in;go_wp2;go_ret;exact ⟨ret_u64 hv.out,rfl⟩
 ·have hv:s=(s.natAbs:Int):=by omega
  replace hv:=hid hv;go_in;go_wp2;go_ret;exact ⟨ret_u64 hv,rfl⟩
theorem of_calls (s:Int)(w:World):Calls prog 119 #[.int .i64 s] w fun e w'=>e=.returned (.agg #[.int .i64 s,.slice none 0 0])∧New w w':=by
 go_in;go_wp2;exact bodyPost_ret (v:=.agg #[.int .i64 s,.slice none 0 0]) (by simp[results,results119,go_sem]) rfl ⟨rfl,(New.refl w).alloc _⟩
def PartsPost (w:World)(z:Int)(e:Ending)(w':World):Prop:=∃ (vw:Value) (n:Nat) (f:Nat→Nat),e=.returned (.tuple #[.bool (decide (z < 0)),vw])∧New w w'∧Wds w' vw n f∧vf W64 f n=z.natAbs
theorem wds_none (w:World)(f:Nat→Nat):Wds w (.slice none 0 0) 0 f:=⟨none,0,⟨rfl,Nat.le_refl _,by omega,fun _=>rfl⟩,Rd.zero _ _ _ _,⟨fun i hi=>by omega,fun h=>absurd rfl h⟩⟩
theorem wds_one (w:World)(x:Nat)(t:TypeId)(B:Nat)(hB:B=w.heap.size)(h0:x≠0)(hx:x < W64):Wds (w.alloc (.cells #[.int .u64 x] t)).drew (.slice (some ⟨B,0,none⟩) 1 1) 1 fun _=>x:=by
 subst hB
 suffices h:Wds (w.alloc (.cells #[.int .u64 x] t)) (.slice (some ⟨w.heap.size,0,none⟩) 1 1) 1 fun _=>x from h.new (New.refl _).drew
 have hr:Row (w.alloc (.cells #[.int .u64 x] t)) w.heap.size t .u64 1 fun _=>x:=World.rowIs_alloc w #[.int .u64 x] t _ (fun i hi=>by
  have:i=0:=by simpa using hi
  subst this;rfl)
 exact ⟨_,1,⟨rfl,Nat.le_refl _,by omega,by simp⟩,hr.rd,⟨fun _ _=>hx,fun _=>h0⟩⟩
theorem parts_one (w:World)(z:Int)(t t':TypeId)(h0:z.natAbs≠0)(hl:z.natAbs < W64):
  PartsPost w z (.returned (.tuple #[.bool (decide (z < 0)),.slice (some ⟨w.heap.size+1,0,none⟩) 1 1])) (((w.alloc (.cells #[.int .i64 z,.slice none 0 0] t)).alloc (.cells #[.int .u64 z.natAbs] t')).drew):=by
 refine ⟨_,1,fun _=>z.natAbs,rfl,(((New.refl w).alloc _).alloc _).drew,wds_one _ _ _ _ ?_ h0 hl,by simp[vf]⟩;show w.heap.size+1=(w.heap.push _).size;rw[Array.size_push]
theorem parts_calls (v:Value)(z:Int)(w:World)(h:IsInt w v z):Calls prog 181 #[v] w (PartsPost w z):=by
 rcases h with ⟨rfl,lo,hi⟩ | ⟨b,ae,n,ac,f,s,rfl,hs,hw,h0,hv,hz⟩
 ·by_cases hz:z=0
  ·subst hz;go_in;go_wp2_with fail;go_ret2;exact ⟨_,0,fun _=>0,rfl,(New.refl w).alloc _,wds_none _ _,rfl⟩
  ·have ad:(z==0)=false:=by simpa using hz
   have ab:z.natAbs≠0:=by omega
   have aa:z.natAbs < W64:=by unfold W64;omega
   have HP:=hid (parts_one w z 113 198 ab aa);clear aa ab hz;go_in;go_wp2_with fail
   go_region_with (go_at_call 216;refine (size_calls _ _ lo hi).mono ?_;rintro e w' ⟨rfl,rfl⟩)
   all_goals go_wp2_with fail
   all_goals go_ret2
   all_goals exact HP.out
 ·have hd:decide (s < 0)=decide (z < 0):=by
   rcases hs with rfl | rfl
   ·simp;omega
   ·simp;omega
  have ha:vf W64 f n=z.natAbs:=by
   rcases hs with rfl | rfl <;> omega
  refine zh3 ?_ hw hd ha;clear hw hd ha hv hz;intro HW HD HA;go_in;go_wp2_with fail
  go_quiet (fail)
  go_wp2_with fail;go_ret2;exact ⟨_,n,f,by rw[←HD.out];rfl,((New.refl w).alloc _).drewN _,HW.out.new (((New.refl w).alloc _).drewN _),HA.out⟩
def IntPost (w:World)(z:Int)(e:Ending)(w':World):Prop:=∃ v:Value,e=.returned v∧New w w'∧IsInt w' v z
def signed (neg:Bool)(x:Nat):Int:=if neg then -(x:Int) else x
theorem made_small {w w':World}{s:Int}(hn:New w w')(lo: -9223372036854775808≤s)(hi:s≤9223372036854775807)(z:Int)(hz:z=s):IntPost w z (.returned (.agg #[.int .i64 s,.slice none 0 0])) w':=
 ⟨_,rfl,hn,.small (by rw[hz]) (by omega) (by omega)⟩
theorem made_big {neg:Bool}{w w':World}{b off n cap:Nat}{f:Nat→Nat}{s:Int}(hn:New w w')(hr:Rd w (some ⟨b,off,none⟩) .u64 n f)(cf:Canon W64 f n)(h1:n≤cap)(h2:cap≤281474976710656)(h0:0 < n)(hv:9223372036854775808≤vf W64 f n)(hs:s=if neg then -1 else 1):
  IntPost w (signed neg (vf W64 f n)) (.returned (.agg #[.int .i64 s,.slice (some ⟨b,off,none⟩) n cap])) w':=by
 subst hs;refine ⟨_,rfl,hn,.big b off n cap f (if neg then -1 else 1) rfl ?_ ⟨_,cap,⟨rfl,h1,h2,by simp⟩,hr.new hn,cf⟩ h0 hv ?_⟩
 ·cases neg <;> simp
 ·cases neg <;> simp[signed]
theorem made_calls (neg:Bool)(vw:Value)(n:Nat)(f:Nat→Nat)(w:World)(h:Wds w vw n f):Calls prog 182 #[.bool neg,vw] w (IntPost w (signed neg (vf W64 f n))):=by
 obtain ⟨a,ab,⟨rfl,h1,h2,h3⟩,hr,cf⟩:=h;rcases Nat.lt_or_ge n 2 with hn | hn
 ·rcases Nat.eq_zero_or_pos n with h0 | h0
  ·subst h0;have HP:=hid fun w' (hn:New w w')=>made_small hn (s:=0) (by omega) (by omega) (signed neg (vf W64 f 0)) (by cases neg <;> rfl);clear hr cf;go_in;go_wp2_with fail;refine bodyPost_ret (v:=.agg #[.int .i64 0,.slice none 0 0]) (by simp[results,results182,go_sem]) rfl ?_;exact (HP _ ((New.refl w).alloc _))
  ·obtain rfl:n=1:=by omega
   obtain ⟨b,aa,rfl,e0⟩:=hr 0 (by omega);simp only[Nat.add_zero] at e0;have e0:=((New.refl w).alloc (.cells #[.int .i64 0,.slice none 0 0] 113)).cell e0;have hx:=cf.lt 0 (by omega);have ad:f 0≠0:=cf.top (by omega)
   have ev:vf W64 f 1=f 0:=by simp[vf]
   by_cases hs:f 0≤9223372036854775807
   ·have ae:(f 0:Int)≤9223372036854775807:=by omega
    have hc:IntKind.i64.wrap (f 0:Int)=(f 0:Int):=by rw[IntKind.wrap_i64];omega
    have HP:=hid fun w' (hn:New w w')=>made_small hn (s:=if neg then -(f 0:Int) else f 0) (by split <;> omega) (by split <;> omega) (signed neg (vf W64 f 1)) (by rw[ev];rfl);clear hr cf ev hs hx ad
    cases neg
    ·go_in;go_wp2_with fail;refine bodyPost_ret (v:=.agg #[.int .i64 (f 0),.slice none 0 0]) (by simp[results,results182,go_sem]) rfl ?_;exact (HP _ ((New.refl w).alloc _))
    ·go_in;go_wp2_with fail;refine bodyPost_ret (v:=.agg #[.int .i64 (-(f 0:Int)),.slice none 0 0]) (by simp[results,results182,go_sem]) rfl ?_;exact (HP _ ((New.refl w).alloc _))
   ·have ae:(9223372036854775807:Int) < f 0:=by omega
    have HP:=hid fun w' (hn:New w w') (s:Int) (hs:s=if neg then -1 else 1)=>made_big (neg:=neg) hn hr cf h1 h2 (by omega) (by rw[ev];omega) hs;clear hr cf ev hs hx ad
    cases neg
    ·go_in;go_wp2_with fail;refine bodyPost_ret (v:=.agg #[.int .i64 1,.slice (some ⟨b,aa,none⟩) 1 ab]) (by simp[results,results182,go_sem]) rfl ?_;exact (HP _ ((New.refl w).alloc _) _ rfl)
    ·go_in;go_wp2_with fail;refine bodyPost_ret (v:=.agg #[.int .i64 (-1),.slice (some ⟨b,aa,none⟩) 1 ab]) (by simp[results,results182,go_sem]) rfl ?_;exact (HP _ ((New.refl w).alloc _) _ rfl)
 ·obtain ⟨b,aa,rfl,e0⟩:=hr 0 (by omega)
  have ag:((n:Int)==1)=false:=by simp;omega
  have af:((n:Int)==0)=false:=by simp;omega
  have ac:9223372036854775808≤vf W64 f n:=by
   have h5:=cf.ge (by omega);have h6:W64^1≤W64^(n - 1):=Nat.pow_le_pow_right (by decide) (by omega);rw[Nat.pow_one] at h6
   have h7:9223372036854775808≤W64:=by decide
   omega
  have HP:=hid fun w' (hn:New w w') (s:Int) (hs:s=if neg then -1 else 1)=>made_big (neg:=neg) hn hr cf h1 h2 (by omega) ac hs;clear hr cf ac e0 hn
  cases neg
  ·go_in;go_wp2_with fail;refine bodyPost_ret (v:=.agg #[.int .i64 1,.slice (some ⟨b,aa,none⟩) n ab]) (by simp[results,results182,go_sem]) rfl ?_;exact (HP _ ((New.refl w).alloc _) _ rfl)
  ·go_in;go_wp2_with fail;refine bodyPost_ret (v:=.agg #[.int .i64 (-1),.slice (some ⟨b,aa,none⟩) n ab]) (by simp[results,results182,go_sem]) rfl ?_;exact (HP _ ((New.refl w).alloc _) _ rfl)
def Bd (z:Int):Prop:=∃ k:Nat,k≤60000000∧z.natAbs < 2^k
theorem Bd.neg {z:Int}(h:Bd z):Bd (-z):=by
 obtain ⟨k,h1,h2⟩:=h;exact ⟨k,h1,by rwa [Int.natAbs_neg]⟩
theorem words_le {n k:Nat}{f:Nat→Nat}(cf:Canon W64 f n)(hk:k≤60000000)(hl:vf W64 f n < 2^k):n≤1000000:=by
 rcases Nat.eq_zero_or_pos n with h | h
 ·omega
 ·have h1:=cf.ge (by omega)
  have h2:W64^(n - 1)=2^(64*(n - 1)):=by rw[Nat.pow_mul]
  rw[h2]at h1;have h3:2^(64*(n - 1)) < 2^k:=Nat.lt_of_le_of_lt h1 hl;have h4:=(Nat.pow_lt_pow_iff_right (by omega:1 < 2)).1 h3;omega
theorem Wds.le {w:World}{v:Value}{n:Nat}{f:Nat→Nat}{z:Int}(h:Wds w v n f)(hb:Bd z)(hv:vf W64 f n=z.natAbs):n≤1000000:=by
 obtain ⟨k,h1,h2⟩:=hb;obtain ⟨_,_,_,_,cf⟩:=h;exact words_le cf h1 (by rwa [hv])
def Own2 (w:World)(B:Nat)(t:TypeId)(x y:Value):Prop:=w.rowIs B t 2 fun i=>if i=0 then x else y
theorem Own2.alloc (w:World)(B:Nat)(t:TypeId)(x y:Value)(hB:B=w.heap.size):Own2 (w.alloc (.cells #[x,y] t)) B t x y:=by
 subst hB
 exact World.rowIs_alloc w #[x,y] t _ (fun i hi=>by
  have:i=0∨i=1:=by
   have:i < 2:=hi;omega
  rcases this with rfl | rfl <;> rfl)
theorem Own2.new {w w':World}{B:Nat}{t:TypeId}{x y:Value}(h:Own2 w B t x y)(hn:New w w'):Own2 w' B t x y:=hn.row h
theorem Own2.cells {w:World}{B:Nat}{t:TypeId}{x y:Value}(h:Own2 w B t x y):
  w.cell? ⟨B,0,none⟩=some x∧w.cell? ⟨B,1,none⟩=some y∧w.frozen? ⟨B,0,none⟩=false∧w.frozen? ⟨B,1,none⟩=false:=
 ⟨World.rowIs.cell h (by omega:0 < 2),World.rowIs.cell h (by omega:1 < 2),World.rowIs.frozen h 0,World.rowIs.frozen h 1⟩
theorem Own2.set0 {w:World}{B:Nat}{t:TypeId}{x y:Value}(h:Own2 w B t x y)(u:Value):Own2 (w.setCell ⟨B,0,none⟩ u) B t u y:=
 World.rowIs.congr (World.rowIs.set h 0 u) fun j hj=>by
  have:j=0∨j=1:=by omega
  rcases this with rfl | rfl <;> simp
theorem Own2.set1 {w:World}{B:Nat}{t:TypeId}{x y:Value}(h:Own2 w B t x y)(u:Value):Own2 (w.setCell ⟨B,1,none⟩ u) B t x u:=
 World.rowIs.congr (World.rowIs.set h 1 u) fun j hj=>by
  have:j=0∨j=1:=by omega
  rcases this with rfl | rfl <;> simp
theorem Own2.apart {w:World}{B:Nat}{t:TypeId}{s:Int}{a:Option Addr}{l c:Nat}(h:Own2 w B t (.int .i64 s) (.slice a l c)){b off:Nat}{x:Int}(hc:w.cell? ⟨b,off,none⟩=some (.int .u64 x)):b≠B:=by
 rintro rfl;obtain ⟨aa,h1,h2,h3⟩:=h;rcases Nat.lt_or_ge off 2 with h4 | h4
 ·have h5:=World.rowIs.cell (w:=w) (b:=b) (t:=t) (n:=2) ⟨aa,h1,h2,h3⟩ h4;rw[h5] at hc
  have:off=0∨off=1:=by omega
  rcases this with rfl | rfl <;> simp at hc
 ·have h5:aa[off]?=none:=by simp;omega
  simp[World.cell?,h1,h5]at hc
theorem IsInt.set2 {w:World}{B:Nat}{t:TypeId}{s:Int}{a:Option Addr}{l c:Nat}{v u u':Value}{z:Int}(h:IsInt w v z)(ho:Own2 w B t (.int .i64 s) (.slice a l c)):
  IsInt ((w.setCell ⟨B,0,none⟩ u).setCell ⟨B,1,none⟩ u') v z:=by
 rcases h with ⟨h,lo,hi⟩ | ⟨b,ae,n,ad,f,s,h,hs,hw,h0,hv,hz⟩
 ·exact .small h lo hi
 ·refine .big b ae n ad f s h hs ?_ h0 hv hz;obtain ⟨a',aa,h1,h2,h3⟩:=hw;refine ⟨a',aa,h1,fun i hi=>?_,h3⟩;obtain ⟨b',ac,e,hc⟩:=h2 i hi;have ab:=ho.apart hc;refine ⟨b',ac,e,?_⟩;rw[World.cell?_setCell_far _ _ _ _ (by exact Ne.symm ab),World.cell?_setCell_far _ _ _ _ (by exact Ne.symm ab)];exact hc
theorem IsInt.shape {w:World}{v:Value}{z:Int}(h:IsInt w v z):∃ (s:Int) (a:Option Addr) (l c:Nat),v=.agg #[.int .i64 s,.slice a l c]:=by
 rcases h with ⟨h,lo,hi⟩ | ⟨b,ab,n,aa,f,s,h,hs,hw,h0,hv,hz⟩ <;> exact ⟨_,_,_,_,h⟩
theorem sign_small {z:Int}:max (-1) (min 1 z)=Int.sign z:=by
 rcases Int.lt_trichotomy z 0 with h | h | h
 ·rw[Int.sign_eq_neg_one_of_neg h];omega
 ·subst h;rfl
 ·rw[Int.sign_eq_one_of_pos h];omega
theorem sign_calls (v:Value)(z:Int)(w:World)(h:IsInt w v z):Calls prog 176 #[v] w fun e w'=>e=.returned (.int .i64 z.sign)∧New w w':=by
 have hs:∃ (s:Int) (sl:Value),v=.agg #[.int .i64 s,sl]∧max (-1) (min 1 s)=z.sign:=by
  rcases h with ⟨rfl,lo,hi⟩ | ⟨b,ab,n,aa,f,s,rfl,hs,hw,h0,hv,hz⟩
  ·exact ⟨_,_,rfl,sign_small⟩
  ·refine ⟨_,_,rfl,?_⟩;rw[sign_small];rcases hs with rfl | rfl
   ·rw[Int.sign_eq_one_of_pos (show (0:Int) < z by omega)];rfl
   ·rw[Int.sign_eq_neg_one_of_neg (show z < 0 by omega)];rfl
 clear h;obtain ⟨s,sl,rfl,hs⟩:=hs;replace hs:=hid hs;go_in;go_wp2_with fail;go_ret;exact ⟨by rw[←hs.out];rfl,(New.refl w).alloc _⟩
theorem eql_nil (w:World)(a:Option Addr)(l c:Nat):Sem.run prog (binOp .eql 111 (.slice a l c) (.slice none 0 0)) w=.ok (.bool a.isNone) w:=Lib.run_eql_slice_nil w _ _ a l c 0 0 underlying111
theorem signed_neg {z:Int}{x:Nat}(h:x=z.natAbs):signed (!decide (z < 0)) x= -z:=by
 unfold signed;by_cases h1:z < 0
 ·simp[h1];omega
 ·simp[h1];omega
theorem neg_calls (v:Value)(z:Int)(w:World)(h:IsInt w v z):Calls prog 179 #[v] w (IntPost w (-z)):=by
 have q1:=eql_nil;rcases h with ⟨rfl,lo,hi⟩ | ⟨b,ag,n,ae,f,s,hv,hs,hw,h0,ad,hz⟩
 ·by_cases hm:z= -9223372036854775808
  ·have hh:=hid (IsInt.small (w:=w) (v:=.agg #[.int .i64 z,.slice none 0 0]) rfl lo hi);clear lo hi
   have af:(z != -9223372036854775808)=false:=by simpa using hm
   have HM:=hid hm;clear hm;go_in;go_wp2_with fail;refine (parts_calls _ z _ (hh.out.new (((New.refl w).alloc _).alloc _))).mono ?_;rintro e w1 ⟨vw,n1,f1,rfl,hn,hw,hv⟩;have ho:=(Own2.alloc _ _ 113 (.int .i64 0) (.slice none 0 0) (size_alloc w _)).new hn;have hN:=(((New.refl w).alloc _).alloc _).trans hn;refine zh4 ?_ ho hw hv hN;clear hn hw hv ho hN;intro HO HW HV HN;go_wp2_with fail;refine (made_calls _ vw n1 f1 w1 HW).mono ?_;rintro e w2 ⟨v',rfl,ab,hi⟩;rw[signed_neg HV.out] at hi;have aa:=HO.out.new ab;obtain ⟨c0,c1,c2,c3⟩:=aa.cells;obtain ⟨s',a',l',c',rfl⟩:=hi.shape;have ac:=aa.set0 (.int .i64 s');obtain ⟨d0,d1, -,d3⟩:=ac.cells;replace d0:=hid d0;obtain ⟨-,e1, -, -⟩:=(ac.set1 (.slice a' l' c')).cells;replace e1:=hid e1;clear ac
   have hp:(IntPost w (-z) (.returned (.agg #[.int .i64 s',.slice a' l' c'])) ((w2.setCell ⟨w.heap.size+1,0,none⟩ (.int .i64 s')).setCell ⟨w.heap.size+1,1,none⟩ (.slice a' l' c'))):=
    ⟨_,rfl,((HN.out.trans ab).setCell (Nat.le_succ _) _).setCell (Nat.le_succ _) _,hi.set2 aa⟩
   have HP:=hid hp;clear hi aa ab hp;go_wp2_with fail;refine bodyPost_ret (v:=.agg #[.int .i64 s',.slice a' l' c']) (by simp[results,results179,go_sem,d0.out,e1.out]) rfl ?_;exact HP
  ·have af:(z != -9223372036854775808)=true:=by simpa using hm
   have ah:wrap64 (-z)= -z:=by unfold wrap64;omega
   have HP:=hid fun w' (hn:New w w')=>made_small hn (s:= -z) (by omega) (by omega) (-z) rfl;clear lo hi hm;go_in;go_wp2_with fail;refine bodyPost_ret (v:=.agg #[.int .i64 (-z),.slice none 0 0]) (by simp[results,results179,go_sem]) rfl ?_;exact HP _ (((New.refl w).alloc _).alloc _)
 ·have hh:=hid (IsInt.big (v:=v) (z:=z) b ag n ae f s hv hs hw h0 ad hz);clear hs hw h0 ad hz;subst hv;go_in;go_wp2_with fail;refine (parts_calls _ z _ (hh.out.new (((New.refl w).alloc _).alloc _))).mono ?_;rintro e w1 ⟨vw,n1,f1,rfl,hn,hw,hv⟩;have ho:=(Own2.alloc _ _ 113 (.int .i64 0) (.slice none 0 0) (size_alloc w _)).new hn;have hN:=(((New.refl w).alloc _).alloc _).trans hn;refine zh4 ?_ ho hw hv hN;clear hn hw hv ho hN;intro HO HW HV HN;go_wp2_with fail;refine (made_calls _ vw n1 f1 w1 HW).mono ?_;rintro e w2 ⟨v',rfl,ab,hi⟩;rw[signed_neg HV.out] at hi;have aa:=HO.out.new ab;obtain ⟨c0,c1,c2,c3⟩:=aa.cells;obtain ⟨s',a',l',c',rfl⟩:=hi.shape;have ac:=aa.set0 (.int .i64 s');obtain ⟨d0,d1, -,d3⟩:=ac.cells;replace d0:=hid d0;obtain ⟨-,e1, -, -⟩:=(ac.set1 (.slice a' l' c')).cells;replace e1:=hid e1;clear ac
  have hp:(IntPost w (-z) (.returned (.agg #[.int .i64 s',.slice a' l' c'])) ((w2.setCell ⟨w.heap.size+1,0,none⟩ (.int .i64 s')).setCell ⟨w.heap.size+1,1,none⟩ (.slice a' l' c'))):=
   ⟨_,rfl,((HN.out.trans ab).setCell (Nat.le_succ _) _).setCell (Nat.le_succ _) _,hi.set2 aa⟩
  replace hp:=hid hp;clear hi aa ab;go_wp2_with fail;refine bodyPost_ret (v:=.agg #[.int .i64 s',.slice a' l' c']) (by simp[results,results179,go_sem,d0.out,e1.out]) rfl ?_;exact hp
theorem stored_post {w w2:World}{B:Nat}{t:TypeId}{z s s':Int}{a a':Option Addr}{l c l' c':Nat}(hN:New w w2)(hi:IsInt w2 (.agg #[.int .i64 s',.slice a' l' c']) z)(ho:Own2 w2 B t (.int .i64 s) (.slice a l c))(hB:w.heap.size≤B):
  IntPost w z (.returned (.agg #[.int .i64 s',.slice a' l' c'])) ((w2.setCell ⟨B,0,none⟩ (.int .i64 s')).setCell ⟨B,1,none⟩ (.slice a' l' c')):=
 ⟨_,rfl,(hN.setCell hB _).setCell hB _,hi.set2 ho⟩
theorem abs_calls (v:Value)(z:Int)(w:World)(h:IsInt w v z):Calls prog 127 #[v] w (IntPost w z.natAbs):=by
 obtain ⟨s,a,l,c,rfl⟩:=h.shape
 have hs:s < 0 ↔ z < 0:=by
  rcases h with ⟨h,lo,hi⟩ | ⟨b,af,n,ae,f,s,h,hs,hw,h0,hv,hz⟩
  ·injection h with h;injection h with h;simp at h;omega
  ·injection h with h;injection h with h;simp at h;obtain ⟨rfl, -⟩:=h;rcases hs with rfl | rfl <;> omega
 by_cases hz:z < 0
 ·have ad:s < 0:=hs.2 hz
  have e: -z=(z.natAbs:Int):=by omega
  have E:=hid e;have H:=hid h;clear h hs hz e;go_in;go_wp2_with fail;refine (neg_calls _ z _ (H.new (((New.refl w).alloc _).alloc _))).mono ?_;rintro e w2 ⟨v',rfl,hn,hi⟩;rw[E.out] at hi;have ac:=(((New.refl w).alloc _).alloc _).trans hn;have aa:=(Own2.alloc _ _ 113 (.int .i64 0) (.slice none 0 0) (size_alloc w _)).new hn;clear hn;obtain ⟨c0,c1,c2,c3⟩:=aa.cells;obtain ⟨s',a',l',c',rfl⟩:=hi.shape;have ab:=aa.set0 (.int .i64 s');obtain ⟨d0,d1, -,d3⟩:=ab.cells;replace d0:=hid d0;obtain ⟨-,e1, -, -⟩:=(ab.set1 (.slice a' l' c')).cells;replace e1:=hid e1;clear ab;have HP:=hid (stored_post ac hi aa (by omega));clear hi aa ac;go_wp2_with fail;refine bodyPost_ret (v:=.agg #[.int .i64 s',.slice a' l' c']) (by simp[results,results127,go_sem,d0.out,e1.out]) rfl ?_;exact HP
 ·have ad:¬s < 0:=fun x=>hz (hs.1 x)
  have e:z=(z.natAbs:Int):=by omega
  have HP:=hid fun w' (hn:New w w')=>(show IntPost w z.natAbs (.returned (.agg #[.int .i64 s,.slice a l c])) w' from ⟨_,rfl,hn,by rw[←e];exact h.new hn⟩);clear h hs hz e;go_in;go_wp2_with fail;refine bodyPost_ret (v:=.agg #[.int .i64 s,.slice a l c]) (by simp[results,results127,go_sem]) rfl ?_;exact HP _ (((New.refl w).alloc _).alloc _)
theorem add_same {x y:Int}(h:decide (x < 0)=decide (y < 0)){k:Nat}(hk:k=x.natAbs+y.natAbs):signed (decide (x < 0)) k=x+y:=by
 have h:(x < 0) ↔ (y < 0):=by simpa using h
 unfold signed;by_cases hx:x < 0
 ·have:=h.1 hx;simp[hx];omega
 ·have:¬y < 0:=fun c=>hx (h.2 c);simp[hx];omega
theorem add_more {x y:Int}(h:decide (x < 0)≠decide (y < 0))(hle:y.natAbs≤x.natAbs){k:Nat}(hk:k=x.natAbs - y.natAbs):signed (decide (x < 0)) k=x+y:=by
 have h:¬((x < 0) ↔ (y < 0)):=by simpa using h
 unfold signed;by_cases hx:x < 0
 ·have:¬y < 0:=fun c=>h ⟨fun _=>c,fun _=>hx⟩;simp[hx];omega
 ·have:y < 0:=by
   rcases Decidable.em (y < 0) with c | c
   ·exact c
   ·exact absurd ⟨fun a=>absurd a hx,fun a=>absurd a c⟩ h
  simp[hx];omega
theorem size_alloc2 (w:World)(o o':Obj):w.heap.size+1+1=((w.alloc o).alloc o').heap.size:=by rw[←size_alloc,←size_alloc]
theorem add_calls (va vb:Value)(x y:Int)(w:World)(hx:IsInt w va x)(hy:IsInt w vb y)(bx:Bd x)(by':Bd y):Calls prog 120 #[va,vb] w (IntPost w (x+y)):=by
 have q1:=eql_nil;refine zh4 ?_ hx hy bx by';clear bx by';intro HX HY BX BY;rcases hx with ⟨rfl,lo,hi⟩ | ⟨b,bc,n,ba,f,s,rfl,hs,hw,h0,hv,hz⟩
 ·rcases hy with ⟨rfl,a2,a1⟩ | ⟨b',a9,n',a8,f',s',rfl,a4,a6,a3,a5,a7⟩
  ·by_cases hov: -9223372036854775808≤x+y∧x+y≤9223372036854775807
   ·have bb:wrap64 (x+y)=x+y:=by unfold wrap64;omega
    have ht:(decide (x < x+y)==decide (0 < y))=true:=by
     have:(x < x+y) ↔ (0 < y):=by omega
     simp[this]
    have HP:=hid fun w' (hn:New w w')=>made_small hn (s:=x+y) hov.1 hov.2 (x+y) rfl;clear lo hi a2 a1 hov HX HY;go_in;go_wp2_with fail;refine bodyPost_ret (v:=.agg #[.int .i64 (x+y),.slice none 0 0]) (by simp[results,results120,go_sem]) rfl ?_;exact HP _ ((((New.refl w).alloc _).alloc _).alloc _)
   ·obtain ⟨r,hr,ht⟩:∃ r,wrap64 (x+y)=r∧(decide (x < r)==decide (0 < y))=false:=by
     refine ⟨_,rfl,?_⟩;rcases Int.lt_or_le 0 y with h | h
     ·have:¬x < wrap64 (x+y):=by unfold wrap64;omega
      simp[h,this]
     ·have:x < wrap64 (x+y):=by unfold wrap64;omega
      have h':¬0 < y:=by omega
      simp[h',this]
    clear lo hi a2 a1 hov;go_in;go_wp2_with fail;have ao:=fun o o' a0=>(((New.refl w).alloc o).alloc o').alloc a0;replace ao:=hid ao;refine (parts_calls _ x _ (HX.new (ao _ _ _))).mono ?_;rintro e w1 ⟨va,n1,f1,rfl,hn,hw,hv⟩;have ho:=(Own2.alloc _ _ 113 (.int .i64 0) (.slice none 0 0) (size_alloc2 w _ _)).new hn;have hN:=(ao.out _ _ _).trans hn;have av:=((Own2.alloc _ _ 113 _ _ (size_alloc w _)).new ((New.refl _).alloc _)).new hn;obtain ⟨i0,i1, -, -⟩:=av.cells;refine zh4 ?_ ho hw hv hN;clear hn hw hv ho hN ao av;intro HO HW HV HN;go_wp2_with fail;clear i0 i1;refine (parts_calls _ y _ (HY.new HN)).mono ?_;rintro e w2 ⟨vb,n2,f2,rfl,hn,hw,hv⟩;have ak:=HW.out.new hn;have la:=ak.le BX.out HV.out;have lb:=hw.le BY.out hv;have ho:=HO.out.new hn;have hN:=HN.out.trans hn;refine zh5 ?_ ak hw hv ho hN;clear hn hw hv ho hN ak HO HW HN;intro ah ai ag ad ac;by_cases af:decide (x < 0)=decide (y < 0)
    ·have aw:(decide (x < 0)==decide (y < 0))=true:=by rw[af];simp
     have au:=hid af;clear af;go_wp2_with fail;refine (addWords_calls va vb n1 n2 f1 f2 _ la lb ah ai).mono ?_;rintro e w3 ⟨vc,n3,f3,hn,rfl,hw,hv⟩;have ho:=ad.out.new hn;have hN:=ac.out.trans hn;refine zh4 ?_ hw hv ho hN;clear hn hw hv ho hN ad ac;intro an ay am al;go_wp2_with fail;refine (made_calls _ vc n3 f3 _ an).mono ?_;rintro e w4 ⟨v',rfl,hn,hi⟩;rw[add_same au.out (by rw[ay.out,HV.out,ag.out])] at hi;have aa:=am.out.new hn;have ae:=al.out.trans hn;clear hn;obtain ⟨c0,c1,c2,c3⟩:=aa.cells;obtain ⟨s',a',l',c',rfl⟩:=hi.shape;have ab:=aa.set0 (.int .i64 s');obtain ⟨d0,d1, -,d3⟩:=ab.cells;have D0:=hid d0;clear d0;obtain ⟨-,e1, -, -⟩:=(ab.set1 (.slice a' l' c')).cells;have E1:=hid e1;clear ab e1;have HP:=hid (stored_post ae hi aa (by omega));clear hi aa ae;go_wp2_with fail;refine bodyPost_ret (v:=.agg #[.int .i64 s',.slice a' l' c']) (by simp[results,results120,go_sem,D0.out,E1.out]) rfl ?_;exact HP
    ·have aw:(decide (x < 0)==decide (y < 0))=false:=by simpa using af
     have au:=hid af;clear af;go_wp2_with fail;refine (compareWords_calls va vb n1 n2 f1 f2 _ ah ai).mono ?_;rintro e w3 ⟨hn,rfl⟩;rw[HV.out,ag.out];have ak:=ah.out.new hn;have ax:=ai.out.new hn;have ho:=ad.out.new hn;have hN:=ac.out.trans hn;refine zh4 ?_ ak ax ho hN;clear hn ak ax ho hN;intro ah ai ad ac;by_cases ap:y.natAbs≤x.natAbs
     ·obtain ⟨r,hr,az⟩:∃ r:Int,cmpNat x.natAbs y.natAbs=r∧0≤r:=⟨_,rfl,by unfold cmpNat;rw[if_neg (by omega)];split <;> omega⟩;rw[hr];have aq:=hid ap;clear hr ap;go_wp2_with fail;refine (subWords_calls va vb n1 n2 f1 f2 _ la ah ai (by rw[HV.out,ag.out];exact aq.out)).mono ?_;rintro e w3 ⟨vc,n3,f3,hn,rfl,hw,hv⟩;have aj:=add_more (k:=vf W64 f3 n3) au.out aq.out (by rw[hv,HV.out,ag.out]);have ho:=ad.out.new hn;have hN:=ac.out.trans hn;refine zh4 ?_ hw aj ho hN;clear hn hw hv ho hN aj ad ac;intro an ar am al;go_wp2_with fail;refine (made_calls _ vc n3 f3 _ an).mono ?_;rintro e w4 ⟨v',rfl,hn,hi⟩;rw[ar.out] at hi;have aa:=am.out.new hn;have ae:=al.out.trans hn;clear hn;obtain ⟨c0,c1,c2,c3⟩:=aa.cells;obtain ⟨s',a',l',c',rfl⟩:=hi.shape;have ab:=aa.set0 (.int .i64 s');obtain ⟨d0,d1, -,d3⟩:=ab.cells;have D0:=hid d0;clear d0;obtain ⟨-,e1, -, -⟩:=(ab.set1 (.slice a' l' c')).cells;have E1:=hid e1;clear ab e1;have HP:=hid (stored_post ae hi aa (by omega));clear hi aa ae;go_wp2_with fail;refine bodyPost_ret (v:=.agg #[.int .i64 s',.slice a' l' c']) (by simp[results,results120,go_sem,D0.out,E1.out]) rfl ?_;exact HP
     ·obtain ⟨r,hr,az⟩:∃ r:Int,cmpNat x.natAbs y.natAbs=r∧¬0≤r:=⟨_,rfl,by unfold cmpNat;rw[if_pos (by omega)];omega⟩;rw[hr];have aq:=hid ap;clear hr ap;go_wp2_with fail;refine (subWords_calls vb va n2 n1 f2 f1 _ lb ai ah (by rw[HV.out,ag.out];have:=aq.out;omega)).mono ?_;rintro e w3 ⟨vc,n3,f3,hn,rfl,hw,hv⟩;have aj:=add_more (k:=vf W64 f3 n3) (Ne.symm au.out) (by have:=aq.out;omega) (by rw[hv,HV.out,ag.out]);rw[Int.add_comm y x] at aj;have ho:=ad.out.new hn;have hN:=ac.out.trans hn;refine zh4 ?_ hw aj ho hN;clear hn hw hv ho hN aj ad ac;intro an ar am al;go_wp2_with fail;refine (made_calls _ vc n3 f3 _ an).mono ?_;rintro e w4 ⟨v',rfl,hn,hi⟩;rw[ar.out] at hi;have aa:=am.out.new hn;have ae:=al.out.trans hn;clear hn;obtain ⟨c0,c1,c2,c3⟩:=aa.cells;obtain ⟨s',a',l',c',rfl⟩:=hi.shape;have ab:=aa.set0 (.int .i64 s');obtain ⟨d0,d1, -,d3⟩:=ab.cells;replace d0:=hid d0;obtain ⟨-,e1, -, -⟩:=(ab.set1 (.slice a' l' c')).cells;replace e1:=hid e1;clear ab;have HP:=hid (stored_post ae hi aa (by omega));clear hi aa ae;go_wp2_with fail;refine bodyPost_ret (v:=.agg #[.int .i64 s',.slice a' l' c']) (by simp[results,results120,go_sem,d0.out,e1.out]) rfl ?_;exact HP
  ·clear lo hi a4 a6 a3 a5 a7;go_in;go_wp2_with fail;have ao:=fun o o' a0=>(((New.refl w).alloc o).alloc o').alloc a0;replace ao:=hid ao;refine (parts_calls _ x _ (HX.new (ao _ _ _))).mono ?_;rintro e w1 ⟨va,n1,f1,rfl,hn,hw,hv⟩;have ho:=(Own2.alloc _ _ 113 (.int .i64 0) (.slice none 0 0) (size_alloc2 w _ _)).new hn;have hN:=(ao.out _ _ _).trans hn;have av:=((Own2.alloc _ _ 113 _ _ (size_alloc w _)).new ((New.refl _).alloc _)).new hn;obtain ⟨i0,i1, -, -⟩:=av.cells;refine zh4 ?_ ho hw hv hN;clear hn hw hv ho hN ao av;intro HO HW HV HN;go_wp2_with fail;clear i0 i1;refine (parts_calls _ y _ (HY.new HN)).mono ?_;rintro e w2 ⟨vb,n2,f2,rfl,hn,hw,hv⟩;have ak:=HW.out.new hn;have la:=ak.le BX.out HV.out;have lb:=hw.le BY.out hv;have ho:=HO.out.new hn;have hN:=HN.out.trans hn;refine zh5 ?_ ak hw hv ho hN;clear hn hw hv ho hN ak HO HW HN;intro ah ai ag ad ac;by_cases af:decide (x < 0)=decide (y < 0)
   ·have aw:(decide (x < 0)==decide (y < 0))=true:=by rw[af];simp
    have au:=hid af;clear af;go_wp2_with fail;refine (addWords_calls va vb n1 n2 f1 f2 _ la lb ah ai).mono ?_;rintro e w3 ⟨vc,n3,f3,hn,rfl,hw,hv⟩;have ho:=ad.out.new hn;have hN:=ac.out.trans hn;refine zh4 ?_ hw hv ho hN;clear hn hw hv ho hN ad ac;intro an ay am al;go_wp2_with fail;refine (made_calls _ vc n3 f3 _ an).mono ?_;rintro e w4 ⟨v',rfl,hn,hi⟩;rw[add_same au.out (by rw[ay.out,HV.out,ag.out])] at hi;have aa:=am.out.new hn;have ae:=al.out.trans hn;clear hn;obtain ⟨c0,c1,c2,c3⟩:=aa.cells;obtain ⟨s',a',l',c',rfl⟩:=hi.shape;have ab:=aa.set0 (.int .i64 s');obtain ⟨d0,d1, -,d3⟩:=ab.cells;have D0:=hid d0;clear d0;obtain ⟨-,e1, -, -⟩:=(ab.set1 (.slice a' l' c')).cells;have E1:=hid e1;clear ab e1;have HP:=hid (stored_post ae hi aa (by omega));clear hi aa ae;go_wp2_with fail;refine bodyPost_ret (v:=.agg #[.int .i64 s',.slice a' l' c']) (by simp[results,results120,go_sem,D0.out,E1.out]) rfl ?_;exact HP
   ·have aw:(decide (x < 0)==decide (y < 0))=false:=by simpa using af
    have au:=hid af;clear af;go_wp2_with fail;refine (compareWords_calls va vb n1 n2 f1 f2 _ ah ai).mono ?_;rintro e w3 ⟨hn,rfl⟩;rw[HV.out,ag.out];have ak:=ah.out.new hn;have ax:=ai.out.new hn;have ho:=ad.out.new hn;have hN:=ac.out.trans hn;refine zh4 ?_ ak ax ho hN;clear hn ak ax ho hN;intro ah ai ad ac;by_cases ap:y.natAbs≤x.natAbs
    ·obtain ⟨r,hr,az⟩:∃ r:Int,cmpNat x.natAbs y.natAbs=r∧0≤r:=⟨_,rfl,by unfold cmpNat;rw[if_neg (by omega)];split <;> omega⟩;rw[hr];have aq:=hid ap;clear hr ap;go_wp2_with fail;refine (subWords_calls va vb n1 n2 f1 f2 _ la ah ai (by rw[HV.out,ag.out];exact aq.out)).mono ?_;rintro e w3 ⟨vc,n3,f3,hn,rfl,hw,hv⟩;have aj:=add_more (k:=vf W64 f3 n3) au.out aq.out (by rw[hv,HV.out,ag.out]);have ho:=ad.out.new hn;have hN:=ac.out.trans hn;refine zh4 ?_ hw aj ho hN;clear hn hw hv ho hN aj ad ac;intro an ar am al;go_wp2_with fail;refine (made_calls _ vc n3 f3 _ an).mono ?_;rintro e w4 ⟨v',rfl,hn,hi⟩;rw[ar.out] at hi;have aa:=am.out.new hn;have ae:=al.out.trans hn;clear hn;obtain ⟨c0,c1,c2,c3⟩:=aa.cells;obtain ⟨s',a',l',c',rfl⟩:=hi.shape;have ab:=aa.set0 (.int .i64 s');obtain ⟨d0,d1, -,d3⟩:=ab.cells;have D0:=hid d0;clear d0;obtain ⟨-,e1, -, -⟩:=(ab.set1 (.slice a' l' c')).cells;have E1:=hid e1;clear ab e1;have HP:=hid (stored_post ae hi aa (by omega));clear hi aa ae;go_wp2_with fail;refine bodyPost_ret (v:=.agg #[.int .i64 s',.slice a' l' c']) (by simp[results,results120,go_sem,D0.out,E1.out]) rfl ?_;exact HP
    ·obtain ⟨r,hr,az⟩:∃ r:Int,cmpNat x.natAbs y.natAbs=r∧¬0≤r:=⟨_,rfl,by unfold cmpNat;rw[if_pos (by omega)];omega⟩;rw[hr];have aq:=hid ap;clear hr ap;go_wp2_with fail;refine (subWords_calls vb va n2 n1 f2 f1 _ lb ai ah (by rw[HV.out,ag.out];have:=aq.out;omega)).mono ?_;rintro e w3 ⟨vc,n3,f3,hn,rfl,hw,hv⟩;have aj:=add_more (k:=vf W64 f3 n3) (Ne.symm au.out) (by have:=aq.out;omega) (by rw[hv,HV.out,ag.out]);rw[Int.add_comm y x] at aj;have ho:=ad.out.new hn;have hN:=ac.out.trans hn;refine zh4 ?_ hw aj ho hN;clear hn hw hv ho hN aj ad ac;intro an ar am al;go_wp2_with fail;refine (made_calls _ vc n3 f3 _ an).mono ?_;rintro e w4 ⟨v',rfl,hn,hi⟩;rw[ar.out] at hi;have aa:=am.out.new hn;have ae:=al.out.trans hn;clear hn;obtain ⟨c0,c1,c2,c3⟩:=aa.cells;obtain ⟨s',a',l',c',rfl⟩:=hi.shape;have ab:=aa.set0 (.int .i64 s');obtain ⟨d0,d1, -,d3⟩:=ab.cells;replace d0:=hid d0;obtain ⟨-,e1, -, -⟩:=(ab.set1 (.slice a' l' c')).cells;replace e1:=hid e1;clear ab;have HP:=hid (stored_post ae hi aa (by omega));clear hi aa ae;go_wp2_with fail;refine bodyPost_ret (v:=.agg #[.int .i64 s',.slice a' l' c']) (by simp[results,results120,go_sem,d0.out,e1.out]) rfl ?_;exact HP
 ·clear hs hw h0 hv hz hy;obtain ⟨s',a',l',c',rfl⟩:=HY.out.shape;go_in;go_wp2_with fail;have ao:=fun o o' a0=>(((New.refl w).alloc o).alloc o').alloc a0;replace ao:=hid ao;refine (parts_calls _ x _ (HX.new (ao _ _ _))).mono ?_;rintro e w1 ⟨va,n1,f1,rfl,hn,hw,hv⟩;have ho:=(Own2.alloc _ _ 113 (.int .i64 0) (.slice none 0 0) (size_alloc2 w _ _)).new hn;have hN:=(ao.out _ _ _).trans hn;have av:=((Own2.alloc _ _ 113 _ _ (size_alloc w _)).new ((New.refl _).alloc _)).new hn;obtain ⟨i0,i1, -, -⟩:=av.cells;refine zh4 ?_ ho hw hv hN;clear hn hw hv ho hN ao av;intro HO HW HV HN;go_wp2_with fail;clear i0 i1;refine (parts_calls _ y _ (HY.new HN)).mono ?_;rintro e w2 ⟨vb,n2,f2,rfl,hn,hw,hv⟩;have ak:=HW.out.new hn;have la:=ak.le BX.out HV.out;have lb:=hw.le BY.out hv;have ho:=HO.out.new hn;have hN:=HN.out.trans hn;refine zh5 ?_ ak hw hv ho hN;clear hn hw hv ho hN ak HO HW HN;intro ah ai ag ad ac;by_cases af:decide (x < 0)=decide (y < 0)
  ·have aw:(decide (x < 0)==decide (y < 0))=true:=by rw[af];simp
   have au:=hid af;clear af;go_wp2_with fail;refine (addWords_calls va vb n1 n2 f1 f2 _ la lb ah ai).mono ?_;rintro e w3 ⟨vc,n3,f3,hn,rfl,hw,hv⟩;have ho:=ad.out.new hn;have hN:=ac.out.trans hn;refine zh4 ?_ hw hv ho hN;clear hn hw hv ho hN ad ac;intro an ay am al;go_wp2_with fail;refine (made_calls _ vc n3 f3 _ an).mono ?_;rintro e w4 ⟨v',rfl,hn,hi⟩;rw[add_same au.out (by rw[ay.out,HV.out,ag.out])] at hi;have aa:=am.out.new hn;have ae:=al.out.trans hn;clear hn;obtain ⟨c0,c1,c2,c3⟩:=aa.cells;obtain ⟨s',a',l',c',rfl⟩:=hi.shape;have ab:=aa.set0 (.int .i64 s');obtain ⟨d0,d1, -,d3⟩:=ab.cells;have D0:=hid d0;clear d0;obtain ⟨-,e1, -, -⟩:=(ab.set1 (.slice a' l' c')).cells;have E1:=hid e1;clear ab e1;have HP:=hid (stored_post ae hi aa (by omega));clear hi aa ae;go_wp2_with fail;refine bodyPost_ret (v:=.agg #[.int .i64 s',.slice a' l' c']) (by simp[results,results120,go_sem,D0.out,E1.out]) rfl ?_;exact HP
  ·have aw:(decide (x < 0)==decide (y < 0))=false:=by simpa using af
   replace af:=hid af;go_wp2_with fail;refine (compareWords_calls va vb n1 n2 f1 f2 _ ah ai).mono ?_;rintro e w3 ⟨hn,rfl⟩;rw[HV.out,ag.out];have ak:=ah.out.new hn;have ax:=ai.out.new hn;have ho:=ad.out.new hn;have hN:=ac.out.trans hn;refine zh4 ?_ ak ax ho hN;clear hn ak ax ho hN;intro ah ai ad ac;by_cases ap:y.natAbs≤x.natAbs
   ·obtain ⟨r,hr,az⟩:∃ r:Int,cmpNat x.natAbs y.natAbs=r∧0≤r:=⟨_,rfl,by unfold cmpNat;rw[if_neg (by omega)];split <;> omega⟩;rw[hr];have aq:=hid ap;clear hr ap;go_wp2_with fail;refine (subWords_calls va vb n1 n2 f1 f2 _ la ah ai (by rw[HV.out,ag.out];exact aq.out)).mono ?_;rintro e w3 ⟨vc,n3,f3,hn,rfl,hw,hv⟩;have aj:=add_more (k:=vf W64 f3 n3) af.out aq.out (by rw[hv,HV.out,ag.out]);have ho:=ad.out.new hn;have hN:=ac.out.trans hn;refine zh4 ?_ hw aj ho hN;clear hn hw hv ho hN aj ad ac;intro an ar am al;go_wp2_with fail;refine (made_calls _ vc n3 f3 _ an).mono ?_;rintro e w4 ⟨v',rfl,hn,hi⟩;rw[ar.out] at hi;have aa:=am.out.new hn;have ae:=al.out.trans hn;clear hn;obtain ⟨c0,c1,c2,c3⟩:=aa.cells;obtain ⟨s',a',l',c',rfl⟩:=hi.shape;have ab:=aa.set0 (.int .i64 s');obtain ⟨d0,d1, -,d3⟩:=ab.cells;have D0:=hid d0;clear d0;obtain ⟨-,e1, -, -⟩:=(ab.set1 (.slice a' l' c')).cells;have E1:=hid e1;clear ab e1;have HP:=hid (stored_post ae hi aa (by omega));clear hi aa ae;go_wp2_with fail;refine bodyPost_ret (v:=.agg #[.int .i64 s',.slice a' l' c']) (by simp[results,results120,go_sem,D0.out,E1.out]) rfl ?_;exact HP
   ·obtain ⟨r,hr,az⟩:∃ r:Int,cmpNat x.natAbs y.natAbs=r∧¬0≤r:=⟨_,rfl,by unfold cmpNat;rw[if_pos (by omega)];omega⟩;rw[hr];replace ap:=hid ap;clear hr;go_wp2_with fail;refine (subWords_calls vb va n2 n1 f2 f1 _ lb ai ah (by rw[HV.out,ag.out];have:=ap.out;omega)).mono ?_;rintro e w3 ⟨vc,n3,f3,hn,rfl,hw,hv⟩;have aj:=add_more (k:=vf W64 f3 n3) (Ne.symm af.out) (by have:=ap.out;omega) (by rw[hv,HV.out,ag.out]);rw[Int.add_comm y x] at aj;have ho:=ad.out.new hn;have hN:=ac.out.trans hn;refine zh4 ?_ hw aj ho hN;clear hn hw hv ho hN aj ad ac;intro an ar am al;go_wp2_with fail;refine (made_calls _ vc n3 f3 _ an).mono ?_;rintro e w4 ⟨v',rfl,hn,hi⟩;rw[ar.out] at hi;have aa:=am.out.new hn;have ae:=al.out.trans hn;clear hn;obtain ⟨c0,c1,c2,c3⟩:=aa.cells;obtain ⟨s',a',l',c',rfl⟩:=hi.shape;have ab:=aa.set0 (.int .i64 s');obtain ⟨d0,d1, -,d3⟩:=ab.cells;replace d0:=hid d0;obtain ⟨-,e1, -, -⟩:=(ab.set1 (.slice a' l' c')).cells;replace e1:=hid e1;clear ab;have HP:=hid (stored_post ae hi aa (by omega));clear hi aa ae;go_wp2_with fail;refine bodyPost_ret (v:=.agg #[.int .i64 s',.slice a' l' c']) (by simp[results,results120,go_sem,d0.out,e1.out]) rfl ?_;exact HP
theorem sub_calls (va vb:Value)(x y:Int)(w:World)(hx:IsInt w va x)(hy:IsInt w vb y)(bx:Bd x)(by':Bd y):Calls prog 211 #[va,vb] w (IntPost w (x - y)):=by
  refine zh4 ?_ hx hy bx by';clear bx by';intro HX HY BX BY;obtain ⟨sa,aa,la,ca,rfl⟩:=hx.shape;obtain ⟨sb,ab,lb,cb,rfl⟩:=hy.shape;clear hx hy;go_in;go_wp2_with fail;have ad:=hid fun o o' ah=>((((New.refl w).alloc o).alloc o').alloc ah).drew
  go_region_with (first
    | (go_at_call 179
       refine zN (neg_calls _ y _ (HY.new (ad _ _ _))) fun w1 v1 hn hi=>?_;have ho:=(Own2.alloc _ _ 113 (.int .i64 0) (.slice none 0 0) (size_alloc2 w _ _)).new ((New.refl _).drew.trans hn);have ag:=(((Own2.alloc w _ 113 (.int .i64 sa) (.slice aa la ca) rfl).new ((New.refl _).alloc _)).new ((New.refl _).alloc _).drew).new hn;obtain ⟨i0,i1, -, -⟩:=ag.cells;have hN:=(ad.out _ _ _).trans hn;refine zh3 ?_ hi ho hN;intro HI HO HN
       clear hn hi ho ag hN ad)
    | (go_at_call 120
       refine (add_calls _ v1 x (-y) w1 (HX.new HN) HI BX BY.neg).mono ?_;rintro e w2 ⟨v',rfl,hn,hi⟩;have ac:=HO.out.new hn;have af:=HN.out.trans hn;clear hn HO HN HI i0 i1;obtain ⟨c0,c1,c2,c3⟩:=ac.cells;obtain ⟨s',a',l',c',rfl⟩:=hi.shape;have ae:=ac.set0 (.int .i64 s');obtain ⟨d0,d1, -,d3⟩:=ae.cells;have D0:=hid d0;clear d0;obtain ⟨-,e1, -, -⟩:=(ae.set1 (.slice a' l' c')).cells;have E1:=hid e1;clear ae e1;have HP:=hid (stored_post af hi ac (by omega))
       clear hi ac af))
  all_goals go_wp2_with fail
  all_goals
    refine bodyPost_ret (v:=.agg #[.int .i64 s',.slice a' l' c']) (by simp[results,results211,go_sem,D0.out,E1.out]) rfl ?_;rw[Int.sub_eq_add_neg];exact HP
theorem cmp_small_lt {x y:Int}(h:x < y):(-1:Int)=(x - y).sign:=(Int.sign_eq_neg_one_of_neg (by omega)).symm
theorem cmp_small_gt {x y:Int}(h:y < x):(1:Int)=(x - y).sign:=(Int.sign_eq_one_of_pos (by omega)).symm
theorem cmp_small_eq {x y:Int}(h1:¬x < y)(h2:¬y < x):(0:Int)=(x - y).sign:=by
 have:x - y=0:=by omega
 rw[this];rfl
def SignPost (w:World)(z:Int)(e:Ending)(w':World):Prop:=e=.returned (.int .i64 z.sign)∧New w w'
theorem cmp_calls (va vb:Value)(x y:Int)(w:World)(hx:IsInt w va x)(hy:IsInt w vb y)(bx:Bd x)(by':Bd y):Calls prog 160 #[va,vb] w (SignPost w (x - y)):=by
 have q1:=eql_nil;refine zh4 ?_ hx hy bx by';clear bx by';intro HX HY BX BY;rcases hx with ⟨rfl,lo,hi⟩ | ⟨b,al,n,ak,f,s,rfl,hs,hw,h0,hv,hz⟩
 ·rcases hy with ⟨rfl,ah,ac⟩ | ⟨b',aj,n',ai,f',s',rfl,ad,af,ab,ae,ag⟩
  ·clear lo hi ah ac HX HY;rcases Int.lt_trichotomy x y with h | h | h
   ·have HS:=hid (cmp_small_lt h);go_in;go_wp2_with fail;go_ret;exact ⟨by rw[←HS.out];rfl,((New.refl w).alloc _).alloc _⟩
   ·have HS:=hid (cmp_small_eq (x:=x) (y:=y) (by omega) (by omega))
    have h1:¬x < y:=by omega
    have h2:¬y < x:=by omega
    clear h;go_in;go_wp2_with fail;go_ret;exact ⟨by rw[←HS.out];rfl,((New.refl w).alloc _).alloc _⟩
   ·have HS:=hid (cmp_small_gt h)
    have h1:¬x < y:=by omega
    go_in;go_wp2_with fail;go_ret;exact ⟨by rw[←HS.out];rfl,((New.refl w).alloc _).alloc _⟩
  ·clear lo hi ad af ab ae ag;go_in;go_wp2_with fail;have aa:=hid fun o o'=>((New.refl w).alloc o).alloc o';refine zN (sub_calls _ _ x y _ (HX.new (aa _ _)) (HY.new (aa _ _)) BX BY) fun w1 v1 hn hi=>?_;have HN:=hid ((aa _ _).trans hn);replace hi:=hid hi;clear hn aa;go_wp2_with fail;refine zM (sign_calls _ _ _ hi) fun w2 hn=>?_;go_wp2_with fail;go_ret;exact ⟨rfl,HN.trans hn⟩
 ·clear hs hw h0 hv hz hy;obtain ⟨s',a',l',c',rfl⟩:=HY.out.shape;go_in;go_wp2_with fail;have aa:=hid fun o o'=>((New.refl w).alloc o).alloc o';refine zN (sub_calls _ _ x y _ (HX.new (aa _ _)) (HY.new (aa _ _)) BX BY) fun w1 v1 hn hi=>?_;have HN:=hid ((aa _ _).trans hn);replace hi:=hid hi;clear hn aa;go_wp2_with fail;refine zM (sign_calls _ _ _ hi) fun w2 hn=>?_;go_wp2_with fail;go_ret;exact ⟨rfl,HN.trans hn⟩
theorem mul_signed {x y:Int}{k:Nat}(hk:k=x.natAbs*y.natAbs):signed (decide (x < 0) != decide (y < 0)) k=x*y:=by
 subst hk;unfold signed;rcases Int.lt_or_le x 0 with hx | hx <;> rcases Int.lt_or_le y 0 with hy | hy
 ·have e1:(x.natAbs:Int)= -x:=by omega
  have e2:(y.natAbs:Int)= -y:=by omega
  simp only[hx,hy,Int.natCast_mul,e1,e2];simp[Int.neg_mul,Int.mul_neg]
 ·have e1:(x.natAbs:Int)= -x:=by omega
  have e2:(y.natAbs:Int)=y:=by omega
  have ab:¬y < 0:=by omega
  simp only[hx,ab,Int.natCast_mul,e1,e2];simp[Int.neg_mul,Int.mul_neg]
 ·have e1:(x.natAbs:Int)=x:=by omega
  have e2:(y.natAbs:Int)= -y:=by omega
  have aa:¬x < 0:=by omega
  simp only[aa,hy,Int.natCast_mul,e1,e2];simp[Int.neg_mul,Int.mul_neg]
 ·have e1:(x.natAbs:Int)=x:=by omega
  have e2:(y.natAbs:Int)=y:=by omega
  have ab:¬y < 0:=by omega
  have aa:¬x < 0:=by omega
  simp only[aa,ab,Int.natCast_mul,e1,e2];simp[Int.neg_mul,Int.mul_neg]
theorem new3 {w:World}{o o' o'':Obj}:New w (((w.alloc o).alloc o').alloc o''):=(((New.refl w).alloc o).alloc o').alloc o''
theorem new3d {w:World}{o o' o'':Obj}{n:Nat}:New w ((((w.alloc o).alloc o').alloc o'').drewN n):=new3.drewN n
theorem sel0 {a b:World}(h:New a b):New a b:=h
theorem sel1 {a b:World}{n:Nat}(h:New (a.drewN n) b):New a b:=((New.refl a).drewN n).trans h
theorem mul_calls (va vb:Value)(x y:Int)(w:World)(hx:IsInt w va x)(hy:IsInt w vb y)(bx:Bd x)(by':Bd y):Calls prog 164 #[va,vb] w (IntPost w (x*y)):=by
 have q1:=eql_nil;refine zh4 ?_ hx hy bx by';clear bx by';intro HX HY BX BY;rcases hx with ⟨rfl,lo,hi⟩ | ⟨b,a9,n,a6,f,s,rfl,hs,hw,h0,hv,hz⟩
 ·rcases hy with ⟨rfl,ax,au⟩ | ⟨b',a5,n',a4,f',s',rfl,a0,a2,ar,a1,a3⟩
  ·obtain ⟨hh,ll,a8,a7,av,ap⟩:=mul64_ex x.natAbs y.natAbs (by unfold W64;omega) (by unfold W64;omega);have s1:=fun w=>(size_calls x w lo hi).mono fun e w' ⟨h1,h2⟩=>(⟨h1,h2.symm⟩:e=_∧w'=w);have s2:=fun w=>(size_calls y w ax au).mono fun e w' ⟨h1,h2⟩=>(⟨h1,h2.symm⟩:e=_∧w'=w);have ap:=fun w=>(ap w).mono fun e w' ⟨h1,h2⟩=>(⟨h1,h2.symm⟩:e=_∧w'=w);refine zh4 ?_ s1 s2 av ap;clear s1 s2 av ap lo hi ax au;intro S1 S2 HM ay;go_in;go_wp2_with fail
   go_quiet ((first
    | (go_at_call_of 216 (Value.int .i64 x);exact Calls.quiet_of_same (S1.out _))
    | (go_at_call_of 216 (Value.int .i64 y);exact Calls.quiet_of_same (S2.out _))
    | (go_at_call 215;exact Calls.quiet_of_same (ay.out _))))
   by_cases hs:hh=0∧ll≤9223372036854775807
   ·obtain ⟨rfl,hl⟩:=hs
    have az:(ll:Int)≤9223372036854775807:=by omega
    have hk:ll=x.natAbs*y.natAbs:=by have:=HM.out;omega
    have aw:signed (!(decide (x < 0)==decide (y < 0))) ll=x*y:=mul_signed hk;have HP:=hid fun w' (hn:New w w') (s:Int) (hs:s=signed (!(decide (x < 0)==decide (y < 0))) ll)=>made_small hn (s:=s) (by rw[hs];unfold signed;split <;> omega) (by rw[hs];unfold signed;split <;> omega) (x*y) (by rw[hs,aw]);clear hl hk aw;by_cases hd:decide (x < 0)=decide (y < 0)
    ·have aq:(decide (x < 0)==decide (y < 0))=true:=by rw[hd];simp
     have hc:IntKind.i64.wrap (ll:Int)=(ll:Int):=by rw[IntKind.wrap_i64];omega
     clear hd;go_wp2_with fail;have ho:=(Own2.alloc ((w.alloc (.cells #[.int .i64 x,.slice none 0 0] 113)).alloc (.cells #[.int .i64 y,.slice none 0 0] 113)) _ 113 (.int .i64 0) (.slice none 0 0) (size_alloc2 w _ _)).new ((New.refl _).drewN nq);have d0:=(ho.set0 (.int .i64 ll)).cells.1;have e1:=((ho.set0 (.int .i64 ll)).set1 (.slice none 0 0)).cells.2.1;refine bodyPost_ret (v:=.agg #[.int .i64 ll,.slice none 0 0]) (by simp[results,results164,go_sem,d0,e1]) rfl ?_;exact HP _ ((new3d.setCell (by simp;omega) _).setCell (by simp;omega) _) _ (by rw[aq];rfl)
    ·have aq:(decide (x < 0)==decide (y < 0))=false:=by simpa using hd
     have hc:IntKind.i64.wrap (ll:Int)=(ll:Int):=by rw[IntKind.wrap_i64];omega
     clear hd;go_wp2_with fail;have ho:=(Own2.alloc ((w.alloc (.cells #[.int .i64 x,.slice none 0 0] 113)).alloc (.cells #[.int .i64 y,.slice none 0 0] 113)) _ 113 (.int .i64 0) (.slice none 0 0) (size_alloc2 w _ _)).new ((New.refl _).drewN nq);have d0:=(ho.set0 (.int .i64 (-(ll:Int)))).cells.1;have e1:=((ho.set0 (.int .i64 (-(ll:Int)))).set1 (.slice none 0 0)).cells.2.1;refine bodyPost_ret (v:=.agg #[.int .i64 (-(ll:Int)),.slice none 0 0]) (by simp[results,results164,go_sem,d0,e1]) rfl ?_;exact HP _ ((new3d.setCell (by simp;omega) _).setCell (by simp;omega) _) _ (by rw[aq];rfl)
   ·clear HM;by_cases h0:hh=0
    ·have az:¬(ll:Int)≤9223372036854775807:=by omega
     subst h0;clear hs;go_wp2_with fail;refine (parts_calls _ x _ (HX.new new3d)).mono ?_;rintro e w1 ⟨va,n1,f1,rfl,hn,hw,hv⟩;have hn:=sel1 hn;have ho:=(Own2.alloc _ _ 113 (.int .i64 0) (.slice none 0 0) (size_alloc2 w _ _)).new hn;have hN:=new3.trans hn;have ag:=((Own2.alloc _ _ 113 _ _ (size_alloc w _)).new ((New.refl _).alloc _)).new hn;obtain ⟨i0,i1, -, -⟩:=ag.cells;refine zh4 ?_ ho hw hv hN;clear hn hw hv ho hN ag;intro HO HW HV HN;go_wp2_with fail;clear i0 i1;refine (parts_calls _ y _ (HY.new HN)).mono ?_;rintro e w2 ⟨vb,n2,f2,rfl,hn,hw,hv⟩;have ac:=HW.out.new hn;have la:=ac.le BX.out HV.out;have lb:=hw.le BY.out hv;have ho:=HO.out.new hn;have hN:=HN.out.trans hn;refine zh5 ?_ ac hw hv ho hN;clear hn hw hv ho hN ac HO HW HN;intro am an al ae ad;go_wp2_with fail;refine (mulWords_calls va vb n1 n2 f1 f2 _ la lb am an).mono ?_;rintro e w3 ⟨vc,n3,f3,hn,rfl,hw,hv⟩;have ah:signed (!(decide (x < 0)==decide (y < 0))) (vf W64 f3 n3)=x*y:=mul_signed (by rw[hv,HV.out,al.out]);have ho:=ae.out.new hn;have hN:=ad.out.trans hn;refine zh4 ?_ hw ah ho hN;clear hn hw hv ho hN ah ae ad;intro ao ak aj ai;go_wp2_with fail;refine (made_calls _ vc n3 f3 _ ao).mono ?_;rintro e w4 ⟨v',rfl,hn,hi⟩;rw[ak.out] at hi;have aa:=aj.out.new hn;have af:=ai.out.trans hn;clear hn;obtain ⟨c0,c1,c2,c3⟩:=aa.cells;obtain ⟨s',a',l',c',rfl⟩:=hi.shape;have ab:=aa.set0 (.int .i64 s');obtain ⟨d0,d1, -,d3⟩:=ab.cells;have D0:=hid d0;clear d0;obtain ⟨-,e1, -, -⟩:=(ab.set1 (.slice a' l' c')).cells;have E1:=hid e1;clear ab e1;have HP:=hid (stored_post af hi aa (by omega));clear hi aa af;go_wp2_with fail;refine bodyPost_ret (v:=.agg #[.int .i64 s',.slice a' l' c']) (by simp[results,results164,go_sem,D0.out,E1.out]) rfl ?_;exact HP
    ·have ar:((hh:Int)==0)=false:=by simp;omega
     clear hs h0;go_wp2_with fail;refine (parts_calls _ x _ (HX.new new3d)).mono ?_;rintro e w1 ⟨va,n1,f1,rfl,hn,hw,hv⟩;have hn:=sel1 hn;have ho:=(Own2.alloc _ _ 113 (.int .i64 0) (.slice none 0 0) (size_alloc2 w _ _)).new hn;have hN:=new3.trans hn;have ag:=((Own2.alloc _ _ 113 _ _ (size_alloc w _)).new ((New.refl _).alloc _)).new hn;obtain ⟨i0,i1, -, -⟩:=ag.cells;refine zh4 ?_ ho hw hv hN;clear hn hw hv ho hN ag;intro HO HW HV HN;go_wp2_with fail;clear i0 i1;refine (parts_calls _ y _ (HY.new HN)).mono ?_;rintro e w2 ⟨vb,n2,f2,rfl,hn,hw,hv⟩;have ac:=HW.out.new hn;have la:=ac.le BX.out HV.out;have lb:=hw.le BY.out hv;have ho:=HO.out.new hn;have hN:=HN.out.trans hn;refine zh5 ?_ ac hw hv ho hN;clear hn hw hv ho hN ac HO HW HN;intro am an al ae ad;go_wp2_with fail;refine (mulWords_calls va vb n1 n2 f1 f2 _ la lb am an).mono ?_;rintro e w3 ⟨vc,n3,f3,hn,rfl,hw,hv⟩;have ah:signed (!(decide (x < 0)==decide (y < 0))) (vf W64 f3 n3)=x*y:=mul_signed (by rw[hv,HV.out,al.out]);have ho:=ae.out.new hn;have hN:=ad.out.trans hn;refine zh4 ?_ hw ah ho hN;clear hn hw hv ho hN ah ae ad;intro ao ak aj ai;go_wp2_with fail;refine (made_calls _ vc n3 f3 _ ao).mono ?_;rintro e w4 ⟨v',rfl,hn,hi⟩;rw[ak.out] at hi;have aa:=aj.out.new hn;have af:=ai.out.trans hn;clear hn;obtain ⟨c0,c1,c2,c3⟩:=aa.cells;obtain ⟨s',a',l',c',rfl⟩:=hi.shape;have ab:=aa.set0 (.int .i64 s');obtain ⟨d0,d1, -,d3⟩:=ab.cells;replace d0:=hid d0;obtain ⟨-,e1, -, -⟩:=(ab.set1 (.slice a' l' c')).cells;replace e1:=hid e1;clear ab;have HP:=hid (stored_post af hi aa (by omega));clear hi aa af;go_wp2_with fail;refine bodyPost_ret (v:=.agg #[.int .i64 s',.slice a' l' c']) (by simp[results,results164,go_sem,d0.out,e1.out]) rfl ?_;exact HP
  ·clear lo hi a0 a2 ar a1 a3;go_in;go_wp2_with fail;refine (parts_calls _ x _ (HX.new new3)).mono ?_;rintro e w1 ⟨va,n1,f1,rfl,hn,hw,hv⟩;have hn:=sel0 hn;have ho:=(Own2.alloc _ _ 113 (.int .i64 0) (.slice none 0 0) (size_alloc2 w _ _)).new hn;have hN:=new3.trans hn;have ag:=((Own2.alloc _ _ 113 _ _ (size_alloc w _)).new ((New.refl _).alloc _)).new hn;obtain ⟨i0,i1, -, -⟩:=ag.cells;refine zh4 ?_ ho hw hv hN;clear hn hw hv ho hN ag;intro HO HW HV HN;go_wp2_with fail;clear i0 i1;refine (parts_calls _ y _ (HY.new HN)).mono ?_;rintro e w2 ⟨vb,n2,f2,rfl,hn,hw,hv⟩;have ac:=HW.out.new hn;have la:=ac.le BX.out HV.out;have lb:=hw.le BY.out hv;have ho:=HO.out.new hn;have hN:=HN.out.trans hn;refine zh5 ?_ ac hw hv ho hN;clear hn hw hv ho hN ac HO HW HN;intro am an al ae ad;go_wp2_with fail;refine (mulWords_calls va vb n1 n2 f1 f2 _ la lb am an).mono ?_;rintro e w3 ⟨vc,n3,f3,hn,rfl,hw,hv⟩;have ah:signed (!(decide (x < 0)==decide (y < 0))) (vf W64 f3 n3)=x*y:=mul_signed (by rw[hv,HV.out,al.out]);have ho:=ae.out.new hn;have hN:=ad.out.trans hn;refine zh4 ?_ hw ah ho hN;clear hn hw hv ho hN ah ae ad;intro ao ak aj ai;go_wp2_with fail;refine (made_calls _ vc n3 f3 _ ao).mono ?_;rintro e w4 ⟨v',rfl,hn,hi⟩;rw[ak.out] at hi;have aa:=aj.out.new hn;have af:=ai.out.trans hn;clear hn;obtain ⟨c0,c1,c2,c3⟩:=aa.cells;obtain ⟨s',a',l',c',rfl⟩:=hi.shape;have ab:=aa.set0 (.int .i64 s');obtain ⟨d0,d1, -,d3⟩:=ab.cells;replace d0:=hid d0;obtain ⟨-,e1, -, -⟩:=(ab.set1 (.slice a' l' c')).cells;replace e1:=hid e1;clear ab;have HP:=hid (stored_post af hi aa (by omega));clear hi aa af;go_wp2_with fail;refine bodyPost_ret (v:=.agg #[.int .i64 s',.slice a' l' c']) (by simp[results,results164,go_sem,d0.out,e1.out]) rfl ?_;exact HP
 ·clear hs hw h0 hv hz hy;obtain ⟨s',a',l',c',rfl⟩:=HY.out.shape;go_in;go_wp2_with fail;refine (parts_calls _ x _ (HX.new new3)).mono ?_;rintro e w1 ⟨va,n1,f1,rfl,hn,hw,hv⟩;have hn:=sel0 hn;have ho:=(Own2.alloc _ _ 113 (.int .i64 0) (.slice none 0 0) (size_alloc2 w _ _)).new hn;have hN:=new3.trans hn;have ag:=((Own2.alloc _ _ 113 _ _ (size_alloc w _)).new ((New.refl _).alloc _)).new hn;obtain ⟨i0,i1, -, -⟩:=ag.cells;refine zh4 ?_ ho hw hv hN;clear hn hw hv ho hN ag;intro HO HW HV HN;go_wp2_with fail;clear i0 i1;refine (parts_calls _ y _ (HY.new HN)).mono ?_;rintro e w2 ⟨vb,n2,f2,rfl,hn,hw,hv⟩;have ac:=HW.out.new hn;have la:=ac.le BX.out HV.out;have lb:=hw.le BY.out hv;have ho:=HO.out.new hn;have hN:=HN.out.trans hn;refine zh5 ?_ ac hw hv ho hN;clear hn hw hv ho hN ac HO HW HN;intro am an al ae ad;go_wp2_with fail;refine (mulWords_calls va vb n1 n2 f1 f2 _ la lb am an).mono ?_;rintro e w3 ⟨vc,n3,f3,hn,rfl,hw,hv⟩;have ah:signed (!(decide (x < 0)==decide (y < 0))) (vf W64 f3 n3)=x*y:=mul_signed (by rw[hv,HV.out,al.out]);have ho:=ae.out.new hn;have hN:=ad.out.trans hn;refine zh4 ?_ hw ah ho hN;clear hn hw hv ho hN ah ae ad;intro ao ak aj ai;go_wp2_with fail;refine (made_calls _ vc n3 f3 _ ao).mono ?_;rintro e w4 ⟨v',rfl,hn,hi⟩;rw[ak.out] at hi;have aa:=aj.out.new hn;have af:=ai.out.trans hn;clear hn;obtain ⟨c0,c1,c2,c3⟩:=aa.cells;obtain ⟨s',a',l',c',rfl⟩:=hi.shape;have ab:=aa.set0 (.int .i64 s');obtain ⟨d0,d1, -,d3⟩:=ab.cells;replace d0:=hid d0;obtain ⟨-,e1, -, -⟩:=(ab.set1 (.slice a' l' c')).cells;replace e1:=hid e1;clear ab;have HP:=hid (stored_post af hi aa (by omega));clear hi aa af;go_wp2_with fail;refine bodyPost_ret (v:=.agg #[.int .i64 s',.slice a' l' c']) (by simp[results,results164,go_sem,d0.out,e1.out]) rfl ?_;exact HP
theorem New.undrew {a b:World}(h:New a.drew b):New a b:=((New.refl a).drew).trans h
def NotU (v:Value):Prop:=∀ x:Int,v≠.int .u64 x
theorem NotU.slice (a:Option Addr)(l c:Nat):NotU (.slice a l c):=fun _ h=>by cases h
theorem NotU.i64 (n:Int):NotU (.int .i64 n):=fun _ h=>by cases h
theorem NotU.string (s:ByteArray):NotU (.string s):=fun _ h=>by cases h
theorem NotU.bool (b:Bool):NotU (.bool b):=fun _ h=>by cases h
theorem NotU.float (k:FloatKind)(b:Nat):NotU (.float k b):=fun _ h=>by cases h
theorem NotU.pointer (a:Option Addr):NotU (.pointer a):=fun _ h=>by cases h
theorem NotU.map (a:Option Nat):NotU (.map a):=fun _ h=>by cases h
theorem NotU.func (f:Fn)(a b:Array Value):NotU (.func f a b):=fun _ h=>by cases h
def NoDig (w:World)(B:Nat):Prop:=B < w.heap.size∧∀ o x,w.cell? ⟨B,o,none⟩≠some (.int .u64 x)
theorem NoDig.new {a b:World}{B:Nat}(h:NoDig a B)(hn:New a b):NoDig b B:=
 ⟨Nat.lt_of_lt_of_le h.1 hn.size,fun o x=>by rw[hn.cells B o h.1];exact h.2 o x⟩
theorem noDig_alloc (w:World)(cs:Array Value)(t:TypeId)(hc:∀ v,v∈cs→NotU v):NoDig (w.alloc (.cells cs t)) w.heap.size:=by
 refine ⟨by rw[←size_alloc];omega,fun o x h=>?_⟩;have:(w.alloc (.cells cs t)).cell? ⟨w.heap.size,o,none⟩=cs[o]?:=World.cell?_alloc_new w cs t o;rw[this] at h;exact hc _ (Array.mem_of_getElem? h) x rfl
theorem cell?_setCell_or (w:World)(p q:Addr)(u v:Value)(h:(w.setCell p u).cell? q=some v):v=u∨w.cell? q=some v:=by
 by_cases e:p=q
 ·subst e
  cases hc:w.cell? p with
  | some x=>
   rw[World.cell?_setCell_same' w p u (by rw[hc];rfl)] at h;exact .inl (Option.some.inj h).symm
  | none=>
   obtain ⟨x,hx⟩:∃ x,w.heap[p.block]?=x:=⟨_,rfl⟩;simp only[World.cell?,World.setCell,Array.getElem?_modify,if_true,hx] at h hc
   cases x with
   | none=>simp at h
   | some o=>
    cases o with
    | cells c t f=>
     simp only[Option.map_some]at h hc;split at h
     ·simp at h
     ·rename_i hs;rw[if_neg hs] at hc;simp only[Array.getElem?_setIfInBounds] at h
      have:¬p.off < c.size:=by
       have:c.size≤p.off:=by simpa using hc
       omega
      simp[this]at h
    | _=>simp at h
 ·right
  rwa [World.cell?_setCell_other (h:=e)] at h
theorem NoDig.set {w:World}{B:Nat}(h:NoDig w B)(p:Addr){u:Value}(hu:NotU u):NoDig (w.setCell p u) B:=by
 refine ⟨by simpa using h.1,fun o x hc=>?_⟩;rcases cell?_setCell_or w p _ u _ hc with h1 | h1
 ·exact hu x h1.symm
 ·exact h.2 o x h1
theorem Rd.set {w:World}{a:Option Addr}{n:Nat}{f:Nat→Nat}(h:Rd w a .u64 n f){p:Addr}(hp:NoDig w p.block)(u:Value):Rd (w.setCell p u) a .u64 n f:=fun i hi=>by
 obtain ⟨b,aa,e,hc⟩:=h i hi;refine ⟨b,aa,e,?_⟩
 have:p.block≠b:=by
  rintro rfl;exact hp.2 _ _ hc
 rw[World.cell?_setCell_far _ _ _ _ (by exact this)];exact hc
theorem IsInt.set {w:World}{v:Value}{z:Int}(h:IsInt w v z){p:Addr}(hp:NoDig w p.block)(u:Value):IsInt (w.setCell p u) v z:=by
 rcases h with ⟨h,lo,hi⟩ | ⟨b,ac,n,ab,f,s,h,hs,hw,h0,hv,hz⟩
 ·exact .small h lo hi
 ·obtain ⟨a,aa,h1,h2,h3⟩:=hw;exact .big b ac n ab f s h hs ⟨a,aa,h1,h2.set hp u,h3⟩ h0 hv hz
theorem Box.noDig {w:World}{B:Nat}{t:TypeId}{cs:Array Value}(h:Box w B t cs)(hc:∀ v,v∈cs→NotU v):NoDig w B:=
 ⟨h.lt,fun o x e=>by
  rw[h.cell o]at e
  exact hc _ (Array.mem_of_getElem? e) x rfl⟩
theorem Box.noDig2 {w:World}{B:Nat}{t:TypeId}{s:Int}{a:Option Addr}{l c:Nat}(h:Box w B t #[.int .i64 s,.slice a l c]):NoDig w B:=
 h.noDig fun v hv=>by
  simp at hv;rcases hv with rfl | rfl
  ·exact .i64 s
  ·exact .slice a l c
theorem Box.noDig4 {w:World}{B:Nat}{t:TypeId}{s:Int}{a:Option Addr}{l c:Nat}{s':Int}{a':Option Addr}{l' c':Nat}(h:Box w B t #[.int .i64 s,.slice a l c,.int .i64 s',.slice a' l' c']):NoDig w B:=
 h.noDig fun v hv=>by
  simp at hv;rcases hv with rfl | rfl | rfl | rfl
  ·exact .i64 s
  ·exact .slice a l c
  ·exact .i64 s'
  ·exact .slice a' l' c'
theorem IsInt.put2 {w:World}{v:Value}{z:Int}(h:IsInt w v z){B:Nat}{t:TypeId}{s:Int}{a:Option Addr}{l c:Nat}(hb:Box w B t #[.int .i64 s,.slice a l c])(n:Int)(b:Option Addr)(m k:Nat):
  IsInt ((w.setCell ⟨B,0,none⟩ (.int .i64 n)).setCell ⟨B,1,none⟩ (.slice b m k)) v z:=
 (h.set (p:=⟨B,0,none⟩) hb.noDig2 _).set (p:=⟨B,1,none⟩) (hb.noDig2.set _ (.i64 n)) _
theorem IsInt.put4 {w:World}{v:Value}{z:Int}(h:IsInt w v z){B:Nat}{t:TypeId}{s s':Int}{a a':Option Addr}{l c l' c':Nat}(hb:Box w B t #[.int .i64 s,.slice a l c,.int .i64 s',.slice a' l' c'])(n n':Int)(b b':Option Addr)(m k m' k':Nat):
  IsInt ((((w.setCell ⟨B,0,none⟩ (.int .i64 n)).setCell ⟨B,1,none⟩ (.slice b m k)).setCell ⟨B,2,none⟩ (.int .i64 n')).setCell ⟨B,3,none⟩ (.slice b' m' k')) v z:=
 (((h.set (p:=⟨B,0,none⟩) hb.noDig4 _).set (p:=⟨B,1,none⟩) (hb.noDig4.set _ (.i64 n)) _).set (p:=⟨B,2,none⟩) ((hb.noDig4.set _ (.i64 n)).set _ (.slice b m k)) _).set (p:=⟨B,3,none⟩) (((hb.noDig4.set _ (.i64 n)).set _ (.slice b m k)).set _ (.i64 n')) _
theorem New.put2 {a w:World}(h:New a w){B:Nat}(hB:a.heap.size≤B)(u u':Value):New a ((w.setCell ⟨B,0,none⟩ u).setCell ⟨B,1,none⟩ u'):=(h.setCell hB _).setCell hB _
theorem New.put4 {a w:World}(h:New a w){B:Nat}(hB:a.heap.size≤B)(u u' v v':Value):New a ((((w.setCell ⟨B,0,none⟩ u).setCell ⟨B,1,none⟩ u').setCell ⟨B,2,none⟩ v).setCell ⟨B,3,none⟩ v'):=(((h.setCell hB _).setCell hB _).setCell hB _).setCell hB _
theorem Bd.le {z z':Int}(h:Bd z)(hl:z'.natAbs≤z.natAbs):Bd z':=by
 obtain ⟨k,h1,h2⟩:=h;exact ⟨k,h1,by omega⟩
theorem Bd.small {z:Int}(lo: -9223372036854775808≤z)(hi:z≤9223372036854775807):Bd z:=⟨64,by omega,by
 have:(2:Nat)^64=18446744073709551616:=by decide
 omega⟩
theorem Box.other2 {w:World}{B B':Nat}{t:TypeId}{cs:Array Value}(h:Box w B t cs)(hp:B'≠B)(u u':Value):Box ((w.setCell ⟨B',0,none⟩ u).setCell ⟨B',1,none⟩ u') B t cs:=
 (h.other (p:=⟨B',0,none⟩) hp u).other (p:=⟨B',1,none⟩) hp u'
theorem Box.away {w:World}{B B':Nat}{t t':TypeId}{cs cs':Array Value}(h:Box w B t cs)(_h':Box w B' t' cs')(hp:B'≠B)(u u':Value):Box ((w.setCell ⟨B',0,none⟩ u).setCell ⟨B',1,none⟩ u') B t cs:=
 h.other2 hp u u'
theorem New.putAt {a w:World}(h:New a w){B:Nat}{t:TypeId}{cs:Array Value}(_hb:Box w B t cs)(hB:a.heap.size≤B)(u u':Value):New a ((w.setCell ⟨B,0,none⟩ u).setCell ⟨B,1,none⟩ u'):=h.put2 hB u u'
end Go.Proofs.YtnjonlnemagomaaGreatDoor
