/- Part B05. -/
import Derived.Deep.RegionHeld
import Derived.Test.YtnjonlnemagomaaGreatDoorB04
namespace Go.Proofs.YtnjonlnemagomaaGreatDoor
open Go.RowKit Big
open Go.Lib (hid)
set_option maxRecDepth 100000
set_option maxHeartbeats 8000000
theorem Row.but {w w':World}{b B:Nat}{t:TypeId}{k:IntKind}{n:Nat}{f:Nat->Nat}(h:Row w b t k n f)(hb:But B w w')(hne:b≠B):Row w' b t k n f:=
 World.rowIs.of_block h (hb.block b h.lt (by intro e;injection e with e;exact hne e))
theorem yg1 (a b:Option Addr) (m k mq ca cb:Nat) (f g:Nat->Nat) (w:World) (hm:m<=1000000) (hmq:m+1=mq+(k+2)) (hmq0:0 < mq) (h1a:m<=ca) (h1b:ca<=281474976710656) (h1c:a=none->ca=0) (h2a:k+2<=cb) (h2b:cb<=281474976710656) (h2c:b=none->cb=0)
  (ha:Rd w a .u64 m f) (hb:Rd w b .u64 (k+2) g) (cf:Canon W64 f m) (cg:Canon W64 g (k+2)) (hge:vf W64 g (k+2)<=vf W64 f m):
  Calls Tryz.prog 224 #[.slice a m ca,.slice b (k+2) cb] w (yeh w (vf W64 f m) (vf W64 g (k+2))):=by
 have hmk:=fun W=>run_make_row' (P:=Tryz.prog) 111 198 (.int .u64 0) 8 Tryz.underlying111 y5c rfl .i64 .i64 mq (by omega) (by omega) W
 have emq:(mq:Int)=(m:Int) - ((k:Int)+2)+1:=by omega
 rw[emq]at hmk;obtain ⟨r,hr0,hr⟩:∃ r:Int,0<=r/\y1a (vf W64 f m) (vf W64 g (k+2))=r:=⟨_,by unfold y1a;rw[if_neg (by omega)];split <;> omega,rfl⟩
 have hkm:k+2<=m:=by omega
 have HMQ:=hid hmq;have HMK:=hid hmk;have HRR:=hid hr;have hg0:g (k+1)≠0:=cg.top (by omega);have hgt:g (k+1) < W64:=cg.lt (k+1) (by omega)
 have hr0':¬r < 0:=by omega
 have hk1:((k:Int)+2==1)=false:=by simp;omega
 have CF:=hid cf;have CG:=hid cg;obtain ⟨s,hs,hn1,hn2,hlz⟩:=ygj (g (k+1)) hgt hg0;have HN1:=hid hn1;have HN2:=hid hn2;have HLZ:=hid hlz;clear hmq hmk hr hge cf cg hr0 hn1 hn2 hlz;go_enter Tryz.func224,Tryz.ntmps224;go_wp2_with fail;refine (y0n _ (.slice b (k+2) cb) m (k+2) f g w ⟨a,ca,⟨rfl,h1a,h1b,h1c⟩,ha,CF.out⟩ ⟨b,cb,⟨rfl,h2a,h2b,h2c⟩,hb,CG.out⟩).mono ?_;rintro e w1 ⟨hn,rfl⟩;rw[HRR.out];have ha:=ha.new hn;have hb:=hb.new hn;have HN:=hid hn;clear hn;obtain ⟨b2,o2,rfl,e2⟩:=hb (k+1) (by omega);go_wp2_with fail;clear e2;refine (HLZ.out _).mono ?_;rintro e w2 ⟨rfl,rfl⟩;obtain ⟨B1,hB1⟩:∃ B,B=w1.heap.size:=⟨_,rfl⟩;have hsb:=y9j (some ⟨b2,o2,none⟩) (k+2) cb s g w1 (by omega) hs hb CG.out.lt;rw[<-hB1] at hsb;have HB1:=hid hB1;clear hB1;go_wp2_with fail;refine hsb.mono ?_;clear hsb;rintro e w2 ⟨h1,rfl,hn2,hr2,hl2,hv2⟩;obtain ⟨hz,hnz,hV,hKV⟩:=yf8 CG.out.lt rfl rfl hs HN1.out HN2.out hl2 hv2
 have htl:trimLen h1 (k+2+1)=k+2:=by rw[trimLen,if_pos hz,trimLen,if_neg hnz]
 have HTL:=hid htl;have HNZ:=hid hnz;have HV:=hid hV;have HKV:=hid hKV;have HL2:=hid hl2;clear hz hnz hV hKV hv2 htl hl2;have ha:=ha.new hn2;have hB12:=hr2.lt;obtain ⟨B2,hB2⟩:∃ B,B=w2.heap.size:=⟨_,rfl⟩;have hsa:=y9j a m ca s f w2 hm hs ha CF.out.lt;rw[<-hB2] at hsa;have HB2:=hid hB2;clear hB2;have htr:=y46 (some ⟨B1,0,none⟩) (k+2+1) (k+2+1) h1 w2 (Nat.le_refl _) (by omega) (by simp) hr2.rd;have HTR:=hid htr;clear htr;go_wp2_with fail;refine HTR.out.mono ?_;rintro e w3 ⟨rfl,rfl⟩;rw[HTL.out];go_wp2_with fail;refine hsa.mono ?_;clear hsa;rintro e w3 ⟨o,rfl,hn3,hr3,hol,hov⟩;have hD:=ykn (V:=vf W64 g (k+2)*2^s) (g:=g) hs HMQ.out CF.out.lt rfl hol hov HKV.out;have HD:=hid hD;clear hD hol hov;have hr2:=hr2.new hn3;have hB23:=hr3.lt;have hnew:=hn2.trans hn3;clear hn2 hn3;obtain ⟨B3,hB3⟩:∃ B,B=w3.heap.size:=⟨_,rfl⟩;have HB3:=hid hB3;have HNEW:=hid hnew;have hmk:=HMK.out w3;rw[<-HB3.out] at hmk;have hrow0:=Row.made w3 .u64 mq 198;have hnew0:=hnew.alloc (.cells (madeCells #[.int .u64 0] mq) 198);have hr20:=hr2.alloc (.cells (madeCells #[.int .u64 0] mq) 198);have hr30:=hr3.alloc (.cells (madeCells #[.int .u64 0] mq) 198);rw[<-hB3] at hrow0 hB23;rw[<-HB2.out] at hB12;clear hB3 hnew hr2 hr3;generalize w3.alloc (.cells (madeCells #[.int .u64 0] mq) 198)=w4 at hmk hrow0 hnew0 hr20 hr30;have hq0:Row w4 B3 198 .u64 mq fun _=>0:=hrow0;have HR1:=hid hr20;have HR2:=hid hr30;have HR3:=hid hq0;have HNE:=hid hnew0;clear hr20 hr30 hq0 hnew0 hrow0 HNEW
 go_upto_block 2 with (fail)
 clear hmk
 go_cut [] (fun wx=>∃ (p qf:Nat->Nat),New w1 wx/\Row wx B2 198 .u64 (m+1) p/\Row wx B3 198 .u64 mq qf/\(∀ i,p i < W64)/\(∀ i,qf i < W64)/\p (k+2)=0/\vf W64 p (k+2)+vf W64 g (k+2)*2^s*vf W64 qf mq=vf W64 f m*2^s/\vf W64 p (k+2) < vf W64 g (k+2)*2^s)
 case first=>
  go_wp2_with fail;go_loopw [14] (fun sj wx=>∃ (jj:Nat) (p qf:Nat->Nat),jj<=mq/\sj=.int .i64 ((jj:Int) - 1)/\New w1 wx/\Row wx B1 198 .u64 (k+2+1) h1/\Row wx B2 198 .u64 (m+1) p/\Row wx B3 198 .u64 mq qf/\Dv W64 m k mq jj (vf W64 f m*2^s) (vf W64 g (k+2)*2^s) g p qf) (fun sj _=>(intOf sj+1).toNat)
  case atStart=>exact ⟨mq,o,fun _=>0,Nat.le_refl _,by have:=HMQ.out;go_num,HNE.out,HR1.out,HR2.out,HR3.out,HD.out⟩
  case round=>
   clear HR1 HR2 HR3 HNE HD;obtain ⟨jj,p,qf,hjj,rfl,hnew,hr1,hr2,hr3,hD⟩:=hrel;have HNEW:=hid hnew;have HR1:=hid hr1;have HR2:=hid hr2;have HR3:=hid hr3;have HD:=hid hD;clear hnew hr1 hr2 hr3 hD;by_cases hj0:jj=0
   ·subst hj0;obtain ⟨hon,hval,hlow⟩:=HD.out.finish HMQ.out hmq0;have HON:=hid hon;have HVAL:=hid hval;have HLOW:=hid hlow;clear hon hval hlow;go_wp2_with fail
    go_meet
    exact ⟨p,qf,HNEW.out,HR2.out,HR3.out,HD.out.ol,HD.out.ql,HON.out,HVAL.out,HLOW.out⟩
   ·obtain ⟨j,rfl⟩:∃ j,jj=j+1:=⟨jj - 1,by omega⟩;rw[show ((j+1:Nat):Int) - 1=(j:Int) by omega]
    have gs1:(j:Int)<=(j:Int)+((k:Int)+2)+1:=by omega
    have gs2:(j:Int)+((k:Int)+2)+1<=(m:Int)+1:=by have:=HMQ.out;omega
    have ff:=HR3.out.frozen j;have f1:=HR3.out.cell (i:=j) (by omega)
    have X:y84 wr B2 (m+1) j k (m+1 - j) B1 0 p h1 (fun i=>p (j+i)):=by
     have hq:=HMQ.out;refine ⟨by omega,by omega,by omega,by omega,fun i hi=>?_,HD.out.ol,fun i _=>HL2.out i,HNZ.out,rfl,?_⟩
     ·have:=HR1.out.cell (i:=i) (by omega);simpa using this
     ·rw[HV.out];have h1:=HD.out.low
      have h2:vf W64 (fun i=>p (j+1+i)) (k+2)=vf W64 (fun i=>p (j+(1+i))) (k+2):=y0s fun i _=>by congr 1;omega
      rw[<-h2];exact h1
    have hst:=ymr B2 j (m+1 - j) (m+1) k B1 0 (k+2+1) p h1 _ wr X HR2.out;have HST:=hid hst;clear hst X ff f1;go_wp2_with fail;rw[show j+(k+2)+1 - j=k+3 by omega];refine HST.out.mono ?_;clear HST;rintro e w5 ⟨q,p',rfl,hq,hbut,hr2',hpl,hout,hval,hlt⟩;have hr3':=HR3.out.but hbut (by omega);have hr1':=HR1.out.but hbut (by omega);have hnew':=hbut.new HNEW.out (by rw[<-HB1.out];omega);have ff:=hr3'.frozen j;have f1:=hr3'.cell (i:=j) (by omega);rw[HV.out] at hval hlt;have hD':=HD.out.step HMQ.out (by omega) (by rw[<-HV.out];exact Nat.le_of_lt (y4t fun i _=>HL2.out i)) hq hpl hout hval hlt;have HD':=hid hD';have HR1':=hid hr1';have HR2':=hid hr2';have HR3':=hid hr3';have HNEW':=hid hnew';clear hD' hr1' hr2' hr3' hnew' hval hlt hout hpl hbut HD HR1 HR2 HR3 HNEW;go_wp2_with fail;clear ff f1;go_roundw
    case rel=>
     exact ⟨j,p',upd qf j q,by omega,by go_num,HNEW'.out.setCell (by rw[<-HB1.out];show B1<=B3;omega) _,HR1'.out.other (by show B1≠B3;omega) _,HR2'.out.other (by show B2≠B3;omega) _,HR3'.out.set _ _,HD'.out⟩
    case measure=>simp[intOf]
 case rest=>
  obtain ⟨p,qf,hnew,hr2,hr3,hol,hql,hon,hval,hlow⟩:=hcut
  go_step
  exact yfk B2 B3 m (k+2) mq s p qf w _ (vf W64 f m) (vf W64 g (k+2)) _ _ _ _ _ _ _ _ _ _ _ _ _ _ _ _ _ _ _ _ _ _ _ _ _ _ _ _ _ _ _ _ _ _ _ _ _ _ _ _ _ _ _ _ _ _ _ _ _ _ _ _ _ _ _ _ _ _ _ _ _ _ _ _ _ _ _ _ _ _ _ _ _ _ _ _ _ _ _ _ _ _ _ _ _ _ _ _ _ _ _ _ _ _ _ _ _ _ _ _ _ _ _ _ _ _ _ _ _ _ _ _ _ _ _ _ _ _ _ _ _ _ _ _ _ _ _ _ _ _ _ _ _ hs hm hkm (by have:=HMQ.out;omega) (by omega) (by have:=HN.out.size;have:=HB1.out;omega) (HN.out.trans hnew) hr2 hr3 hol hql hon hval hlow
theorem y60 (va vb:Value)(m n:Nat)(f g:Nat->Nat)(w:World)(hm:m<=1000000)(ha:Wds w va m f)(hb:Wds w vb n g)(h0:0 < n):
  Calls Tryz.prog 224 #[va,vb] w (yeh w (vf W64 f m) (vf W64 g n)):=by
 rcases Nat.lt_or_ge (vf W64 f m) (vf W64 g n) with h | h
 ·exact yfa va vb m n f g w ha hb h
 ·obtain ⟨a,ca,⟨rfl,h1a,h1b,h1c⟩,ha,cf⟩:=ha;obtain ⟨b,cb,⟨rfl,h2a,h2b,h2c⟩,hb,cg⟩:=hb
  have hnm:n<=m:=by
   rcases Nat.lt_or_ge m n with h3 | h3
   ·exfalso;have h4:vf W64 f m < W64^m:=y4t cf.lt;obtain ⟨i,rfl⟩:∃ i,n=i+1:=⟨n - 1,by omega⟩;have h5:W64^i<=vf W64 g (i+1):=yek (cg.top (by omega));have h6:W64^m<=W64^i:=Nat.pow_le_pow_right (by decide) (by omega);omega
   ·exact h3
  rcases Nat.lt_or_ge n 2 with h3 | h3
  ·obtain rfl:n=1:=by omega
   exact yi7 a b m ca cb f g w hm (by omega) h1a h1b h1c h2a h2b h2c ha hb cf cg h
  ·obtain ⟨k,rfl⟩:∃ k,n=k+2:=⟨n - 2,by omega⟩;exact yg1 a b m k (m+1 - (k+2)) ca cb f g w hm (by omega) (by omega) h1a h1b h1c h2a h2b h2c ha hb cf cg h
inductive y06 (w:World) (v:Value) (z:Int):Prop where
 | small (h:v=.agg #[.int .i64 z,.slice none 0 0]) (lo: -9223372036854775808<=z) (hi:z<=9223372036854775807)
 | big (b off n cap:Nat) (f:Nat->Nat) (s:Int) (h:v=.agg #[.int .i64 s,.slice (some ⟨b,off,none⟩) n cap]) (hs:s=1\/s= -1) (hw:Wds w (.slice (some ⟨b,off,none⟩) n cap) n f)
   (hn:0 < n) (hv:9223372036854775808<=vf W64 f n) (hz:z=s*vf W64 f n)
theorem y06.new {w w':World}{v:Value}{z:Int}(h:y06 w v z)(hn:New w w'):y06 w' v z:=by
 rcases h with ⟨h,lo,hi⟩ | ⟨b,off,n,cap,f,s,h,hs,hw,h0,hv,hz⟩
 ·exact .small h lo hi
 ·exact .big b off n cap f s h hs (hw.new hn) h0 hv hz
theorem ylz {s:Int}(lo: -9223372036854775808<=s)(hi:s<=9223372036854775807)(h:s < 0):IntKind.u64.wrap (wrap64 (-s))=(s.natAbs:Int):=by
 rw[IntKind.wrap_u64];unfold wrap64;omega
theorem y81 (s:Int)(w:World)(lo: -9223372036854775808<=s)(hi:s<=9223372036854775807):
  Calls Tryz.prog 216 #[.int .i64 s] w fun e w'=>e=.returned (.int .u64 s.natAbs)/\w=w':=by
 by_cases h:s < 0
 ·have hv:=hid (ylz lo hi h);go_enter Tryz.func216,Tryz.ntmps216;go_wp2;go_ret;exact ⟨yfo hv.out,rfl⟩
 ·have hv:s=(s.natAbs:Int):=by omega
  have HV:=hid hv;clear hv;go_enter Tryz.func216,Tryz.ntmps216;go_wp2;go_ret;exact ⟨yfo HV.out,rfl⟩
theorem y09 (s:Int)(w:World):Calls Tryz.prog 119 #[.int .i64 s] w fun e w'=>e=.returned (.agg #[.int .i64 s,.slice none 0 0])/\New w w':=by
 go_enter Tryz.func119,Tryz.ntmps119;go_wp2;exact bodyPost_ret (v:=.agg #[.int .i64 s,.slice none 0 0]) (by simp[results,Tryz.results119,go_sem]) rfl ⟨rfl,(New.refl w).alloc _⟩
def yd4 (w:World)(z:Int)(e:Ending)(w':World):Prop:=∃ (vw:Value) (n:Nat) (f:Nat->Nat),e=.returned (.tuple #[.bool (decide (z < 0)),vw])/\New w w'/\Wds w' vw n f/\vf W64 f n=z.natAbs
theorem ylk (w:World)(f:Nat->Nat):Wds w (.slice none 0 0) 0 f:=⟨none,0,⟨rfl,Nat.le_refl _,by omega,fun _=>rfl⟩,Rd.zero _ _ _ _,⟨fun i hi=>by omega,fun h=>absurd rfl h⟩⟩
theorem yo4 (w:World)(x:Nat)(t:TypeId)(B:Nat)(hB:B=w.heap.size)(h0:x≠0)(hx:x < W64):Wds (w.alloc (.cells #[.int .u64 x] t)).drew (.slice (some ⟨B,0,none⟩) 1 1) 1 fun _=>x:=by
 subst hB
 suffices h:Wds (w.alloc (.cells #[.int .u64 x] t)) (.slice (some ⟨w.heap.size,0,none⟩) 1 1) 1 fun _=>x from h.new (New.refl _).drew
 have hr:Row (w.alloc (.cells #[.int .u64 x] t)) w.heap.size t .u64 1 fun _=>x:=World.rowIs_alloc w #[.int .u64 x] t _ (fun i hi=>by
  have:i=0:=by simpa using hi
  subst this;rfl)
 exact ⟨_,1,⟨rfl,Nat.le_refl _,by omega,by simp⟩,hr.rd,⟨fun _ _=>hx,fun _=>h0⟩⟩
theorem yl3 (w:World)(z:Int)(t t':TypeId)(h0:z.natAbs≠0)(hl:z.natAbs < W64):
  yd4 w z (.returned (.tuple #[.bool (decide (z < 0)),.slice (some ⟨w.heap.size+1,0,none⟩) 1 1])) (((w.alloc (.cells #[.int .i64 z,.slice none 0 0] t)).alloc (.cells #[.int .u64 z.natAbs] t')).drew):=by
 refine ⟨_,1,fun _=>z.natAbs,rfl,(((New.refl w).alloc _).alloc _).drew,yo4 _ _ _ _ ?_ h0 hl,by simp[vf]⟩;show w.heap.size+1=(w.heap.push _).size;rw[Array.size_push]
theorem y0d (v:Value)(z:Int)(w:World)(h:y06 w v z):Calls Tryz.prog 181 #[v] w (yd4 w z):=by
 rcases h with ⟨rfl,lo,hi⟩ | ⟨b,off,n,cap,f,s,rfl,hs,hw,h0,hv,hz⟩
 ·by_cases hz:z=0
  ·subst hz;go_enter Tryz.func181,Tryz.ntmps181;go_wp2_with fail;go_ret2;exact ⟨_,0,fun _=>0,rfl,(New.refl w).alloc _,ylk _ _,rfl⟩
  ·have hz1:(z==0)=false:=by simpa using hz
   have hzn:z.natAbs≠0:=by omega
   have hzl:z.natAbs < W64:=by unfold W64;omega
   have HP:=hid (yl3 w z 113 198 hzn hzl);clear hzl hzn hz;go_enter Tryz.func181,Tryz.ntmps181;go_wp2_with fail
   go_region_with (go_at_call 216;refine (y81 _ _ lo hi).mono ?_;rintro e w' ⟨rfl,rfl⟩)
   all_goals go_wp2_with fail
   all_goals go_ret2
   all_goals exact HP.out
 ·have hd:decide (s < 0)=decide (z < 0):=by
   rcases hs with rfl | rfl
   ·simp;omega
   ·simp;omega
  have ha:vf W64 f n=z.natAbs:=by
   rcases hs with rfl | rfl <;> omega
  have HW:=hid hw;have HD:=hid hd;have HA:=hid ha;clear hw hd ha hv hz;go_enter Tryz.func181,Tryz.ntmps181;go_wp2_with fail
  go_quiet (fail)
  go_wp2_with fail;go_ret2;exact ⟨_,n,f,by rw[<-HD.out];rfl,((New.refl w).alloc _).drewN _,HW.out.new (((New.refl w).alloc _).drewN _),HA.out⟩
def y0l (w:World)(z:Int)(e:Ending)(w':World):Prop:=∃ v:Value,e=.returned v/\New w w'/\y06 w' v z
def signed (neg:Bool)(x:Nat):Int:=if neg then -(x:Int) else x
theorem y52 {w w':World}{s:Int}(hn:New w w')(lo: -9223372036854775808<=s)(hi:s<=9223372036854775807)(z:Int)(hz:z=s):y0l w z (.returned (.agg #[.int .i64 s,.slice none 0 0])) w':=
 ⟨_,rfl,hn,.small (by rw[hz]) (by omega) (by omega)⟩
theorem ygm {neg:Bool}{w w':World}{b off n cap:Nat}{f:Nat->Nat}{s:Int}(hn:New w w')(hr:Rd w (some ⟨b,off,none⟩) .u64 n f)(cf:Canon W64 f n)(h1:n<=cap)(h2:cap<=281474976710656)(h0:0 < n)(hv:9223372036854775808<=vf W64 f n)(hs:s=if neg then -1 else 1):
  y0l w (signed neg (vf W64 f n)) (.returned (.agg #[.int .i64 s,.slice (some ⟨b,off,none⟩) n cap])) w':=by
 subst hs;refine ⟨_,rfl,hn,.big b off n cap f (if neg then -1 else 1) rfl ?_ ⟨_,cap,⟨rfl,h1,h2,by simp⟩,hr.new hn,cf⟩ h0 hv ?_⟩
 ·cases neg <;> simp
 ·cases neg <;> simp[signed]
theorem y0k (neg:Bool)(vw:Value)(n:Nat)(f:Nat->Nat)(w:World)(h:Wds w vw n f):Calls Tryz.prog 182 #[.bool neg,vw] w (y0l w (signed neg (vf W64 f n))):=by
 obtain ⟨a,cap,⟨rfl,h1,h2,h3⟩,hr,cf⟩:=h;rcases Nat.lt_or_ge n 2 with hn | hn
 ·rcases Nat.eq_zero_or_pos n with h0 | h0
  ·subst h0;have HP:=hid fun w' (hn:New w w')=>y52 hn (s:=0) (by omega) (by omega) (signed neg (vf W64 f 0)) (by cases neg <;> rfl);clear hr cf;go_enter Tryz.func182,Tryz.ntmps182;go_wp2_with fail;refine bodyPost_ret (v:=.agg #[.int .i64 0,.slice none 0 0]) (by simp[results,Tryz.results182,go_sem]) rfl ?_;exact (HP.out _ ((New.refl w).alloc _))
  ·obtain rfl:n=1:=by omega
   obtain ⟨b,off,rfl,e0⟩:=hr 0 (by omega);simp only[Nat.add_zero] at e0;have e0:=((New.refl w).alloc (.cells #[.int .i64 0,.slice none 0 0] 113)).cell e0;have hx:=cf.lt 0 (by omega);have hx0:f 0≠0:=cf.top (by omega)
   have ev:vf W64 f 1=f 0:=by simp[vf]
   by_cases hs:f 0<=9223372036854775807
   ·have hi1:(f 0:Int)<=9223372036854775807:=by omega
    have hc:IntKind.i64.wrap (f 0:Int)=(f 0:Int):=by rw[IntKind.wrap_i64];omega
    have HP:=hid fun w' (hn:New w w')=>y52 hn (s:=if neg then -(f 0:Int) else f 0) (by split <;> omega) (by split <;> omega) (signed neg (vf W64 f 1)) (by rw[ev];rfl);clear hr cf ev hs hx hx0
    cases neg
    ·go_enter Tryz.func182,Tryz.ntmps182;go_wp2_with fail;refine bodyPost_ret (v:=.agg #[.int .i64 (f 0),.slice none 0 0]) (by simp[results,Tryz.results182,go_sem]) rfl ?_;exact (HP.out _ ((New.refl w).alloc _))
    ·go_enter Tryz.func182,Tryz.ntmps182;go_wp2_with fail;refine bodyPost_ret (v:=.agg #[.int .i64 (-(f 0:Int)),.slice none 0 0]) (by simp[results,Tryz.results182,go_sem]) rfl ?_;exact (HP.out _ ((New.refl w).alloc _))
   ·have hi1:(9223372036854775807:Int) < f 0:=by omega
    have HP:=hid fun w' (hn:New w w') (s:Int) (hs:s=if neg then -1 else 1)=>ygm (neg:=neg) hn hr cf h1 h2 (by omega) (by rw[ev];omega) hs;clear hr cf ev hs hx hx0
    cases neg
    ·go_enter Tryz.func182,Tryz.ntmps182;go_wp2_with fail;refine bodyPost_ret (v:=.agg #[.int .i64 1,.slice (some ⟨b,off,none⟩) 1 cap]) (by simp[results,Tryz.results182,go_sem]) rfl ?_;exact (HP.out _ ((New.refl w).alloc _) _ rfl)
    ·go_enter Tryz.func182,Tryz.ntmps182;go_wp2_with fail;refine bodyPost_ret (v:=.agg #[.int .i64 (-1),.slice (some ⟨b,off,none⟩) 1 cap]) (by simp[results,Tryz.results182,go_sem]) rfl ?_;exact (HP.out _ ((New.refl w).alloc _) _ rfl)
 ·obtain ⟨b,off,rfl,e0⟩:=hr 0 (by omega)
  have hn1:((n:Int)==1)=false:=by simp;omega
  have hn0:((n:Int)==0)=false:=by simp;omega
  have hge:9223372036854775808<=vf W64 f n:=by
   have h5:=cf.ge (by omega);have h6:W64^1<=W64^(n - 1):=Nat.pow_le_pow_right (by decide) (by omega);rw[Nat.pow_one] at h6
   have h7:9223372036854775808<=W64:=by decide
   omega
  have HP:=hid fun w' (hn:New w w') (s:Int) (hs:s=if neg then -1 else 1)=>ygm (neg:=neg) hn hr cf h1 h2 (by omega) hge hs;clear hr cf hge e0 hn
  cases neg
  ·go_enter Tryz.func182,Tryz.ntmps182;go_wp2_with fail;refine bodyPost_ret (v:=.agg #[.int .i64 1,.slice (some ⟨b,off,none⟩) n cap]) (by simp[results,Tryz.results182,go_sem]) rfl ?_;exact (HP.out _ ((New.refl w).alloc _) _ rfl)
  ·go_enter Tryz.func182,Tryz.ntmps182;go_wp2_with fail;refine bodyPost_ret (v:=.agg #[.int .i64 (-1),.slice (some ⟨b,off,none⟩) n cap]) (by simp[results,Tryz.results182,go_sem]) rfl ?_;exact (HP.out _ ((New.refl w).alloc _) _ rfl)
def Bd (z:Int):Prop:=∃ k:Nat,k<=60000000/\z.natAbs < 2^k
theorem Bd.neg {z:Int}(h:Bd z):Bd (-z):=by
 obtain ⟨k,h1,h2⟩:=h;exact ⟨k,h1,by rwa [Int.natAbs_neg]⟩
theorem yn9 {n k:Nat}{f:Nat->Nat}(cf:Canon W64 f n)(hk:k<=60000000)(hl:vf W64 f n < 2^k):n<=1000000:=by
 rcases Nat.eq_zero_or_pos n with h | h
 ·omega
 ·have h1:=cf.ge (by omega)
  have h2:W64^(n - 1)=2^(64*(n - 1)):=by rw[Nat.pow_mul]
  rw[h2]at h1;have h3:2^(64*(n - 1)) < 2^k:=Nat.lt_of_le_of_lt h1 hl;have h4:=(Nat.pow_lt_pow_iff_right (by omega:1 < 2)).1 h3;omega
theorem Wds.le {w:World}{v:Value}{n:Nat}{f:Nat->Nat}{z:Int}(h:Wds w v n f)(hb:Bd z)(hv:vf W64 f n=z.natAbs):n<=1000000:=by
 obtain ⟨k,h1,h2⟩:=hb;obtain ⟨_,_,_,_,cf⟩:=h;exact yn9 cf h1 (by rwa [hv])
def Own2 (w:World)(B:Nat)(t:TypeId)(x y:Value):Prop:=w.rowIs B t 2 fun i=>if i=0 then x else y
theorem Own2.alloc (w:World)(B:Nat)(t:TypeId)(x y:Value)(hB:B=w.heap.size):Own2 (w.alloc (.cells #[x,y] t)) B t x y:=by
 subst hB
 exact World.rowIs_alloc w #[x,y] t _ (fun i hi=>by
  have:i=0\/i=1:=by
   have:i < 2:=hi;omega
  rcases this with rfl | rfl <;> rfl)
theorem Own2.new {w w':World}{B:Nat}{t:TypeId}{x y:Value}(h:Own2 w B t x y)(hn:New w w'):Own2 w' B t x y:=hn.row h
theorem Own2.cells {w:World}{B:Nat}{t:TypeId}{x y:Value}(h:Own2 w B t x y):
  w.cell? ⟨B,0,none⟩=some x/\w.cell? ⟨B,1,none⟩=some y/\w.frozen? ⟨B,0,none⟩=false/\w.frozen? ⟨B,1,none⟩=false:=
 ⟨World.rowIs.cell h (by omega:0 < 2),World.rowIs.cell h (by omega:1 < 2),World.rowIs.frozen h 0,World.rowIs.frozen h 1⟩
theorem Own2.set0 {w:World}{B:Nat}{t:TypeId}{x y:Value}(h:Own2 w B t x y)(u:Value):Own2 (w.setCell ⟨B,0,none⟩ u) B t u y:=
 World.rowIs.congr (World.rowIs.set h 0 u) fun j hj=>by
  have:j=0\/j=1:=by omega
  rcases this with rfl | rfl <;> simp
theorem Own2.set1 {w:World}{B:Nat}{t:TypeId}{x y:Value}(h:Own2 w B t x y)(u:Value):Own2 (w.setCell ⟨B,1,none⟩ u) B t x u:=
 World.rowIs.congr (World.rowIs.set h 1 u) fun j hj=>by
  have:j=0\/j=1:=by omega
  rcases this with rfl | rfl <;> simp
theorem Own2.apart {w:World}{B:Nat}{t:TypeId}{s:Int}{a:Option Addr}{l c:Nat}(h:Own2 w B t (.int .i64 s) (.slice a l c)){b off:Nat}{x:Int}(hc:w.cell? ⟨b,off,none⟩=some (.int .u64 x)):b≠B:=by
 rintro rfl;obtain ⟨arr,h1,h2,h3⟩:=h;rcases Nat.lt_or_ge off 2 with h4 | h4
 ·have h5:=World.rowIs.cell (w:=w) (b:=b) (t:=t) (n:=2) ⟨arr,h1,h2,h3⟩ h4;rw[h5] at hc
  have:off=0\/off=1:=by omega
  rcases this with rfl | rfl <;> simp at hc
 ·have h5:arr[off]?=none:=by simp;omega
  simp[World.cell?,h1,h5]at hc
theorem y06.set2 {w:World}{B:Nat}{t:TypeId}{s:Int}{a:Option Addr}{l c:Nat}{v u u':Value}{z:Int}(h:y06 w v z)(ho:Own2 w B t (.int .i64 s) (.slice a l c)):
  y06 ((w.setCell ⟨B,0,none⟩ u).setCell ⟨B,1,none⟩ u') v z:=by
 rcases h with ⟨h,lo,hi⟩ | ⟨b,off,n,cap,f,s,h,hs,hw,h0,hv,hz⟩
 ·exact .small h lo hi
 ·refine .big b off n cap f s h hs ?_ h0 hv hz;obtain ⟨a',cap',h1,h2,h3⟩:=hw;refine ⟨a',cap',h1,fun i hi=>?_,h3⟩;obtain ⟨b',off',e,hc⟩:=h2 i hi;have hne:=ho.apart hc;refine ⟨b',off',e,?_⟩;rw[World.cell?_setCell_far _ _ _ _ (by exact Ne.symm hne),World.cell?_setCell_far _ _ _ _ (by exact Ne.symm hne)];exact hc
theorem y06.shape {w:World}{v:Value}{z:Int}(h:y06 w v z):∃ (s:Int) (a:Option Addr) (l c:Nat),v=.agg #[.int .i64 s,.slice a l c]:=by
 rcases h with ⟨h,lo,hi⟩ | ⟨b,off,n,cap,f,s,h,hs,hw,h0,hv,hz⟩ <;> exact ⟨_,_,_,_,h⟩
theorem yal {z:Int}:max (-1) (min 1 z)=Int.sign z:=by
 rcases Int.lt_trichotomy z 0 with h | h | h
 ·rw[Int.sign_eq_neg_one_of_neg h];omega
 ·subst h;rfl
 ·rw[Int.sign_eq_one_of_pos h];omega
theorem y0y (v:Value)(z:Int)(w:World)(h:y06 w v z):Calls Tryz.prog 176 #[v] w fun e w'=>e=.returned (.int .i64 z.sign)/\New w w':=by
 have hs:∃ (s:Int) (sl:Value),v=.agg #[.int .i64 s,sl]/\max (-1) (min 1 s)=z.sign:=by
  rcases h with ⟨rfl,lo,hi⟩ | ⟨b,off,n,cap,f,s,rfl,hs,hw,h0,hv,hz⟩
  ·exact ⟨_,_,rfl,yal⟩
  ·refine ⟨_,_,rfl,?_⟩;rw[yal];rcases hs with rfl | rfl
   ·rw[Int.sign_eq_one_of_pos (show (0:Int) < z by omega)];rfl
   ·rw[Int.sign_eq_neg_one_of_neg (show z < 0 by omega)];rfl
 clear h;obtain ⟨s,sl,rfl,hs⟩:=hs;have HS:=hid hs;clear hs;go_enter Tryz.func176,Tryz.ntmps176;go_wp2_with fail;go_ret;exact ⟨by rw[<-HS.out];rfl,(New.refl w).alloc _⟩
theorem y4d (w:World)(a:Option Addr)(l c:Nat):Sem.run Tryz.prog (binOp .eql 111 (.slice a l c) (.slice none 0 0)) w=.ok (.bool a.isNone) w:=Lib.run_eql_slice_nil w _ _ a l c 0 0 Tryz.underlying111
theorem yap {z:Int}{x:Nat}(h:x=z.natAbs):signed (!decide (z < 0)) x= -z:=by
 unfold signed;by_cases h1:z < 0
 ·simp[h1];omega
 ·simp[h1];omega
theorem y3g (v:Value)(z:Int)(w:World)(h:y06 w v z):Calls Tryz.prog 179 #[v] w (y0l w (-z)):=by
 have q1:=y4d;rcases h with ⟨rfl,lo,hi⟩ | ⟨b,off,n,cap,f,s,hv,hs,hw,h0,hv',hz⟩
 ·by_cases hm:z= -9223372036854775808
  ·have hh:=hid (y06.small (w:=w) (v:=.agg #[.int .i64 z,.slice none 0 0]) rfl lo hi);clear lo hi
   have hm1:(z != -9223372036854775808)=false:=by simpa using hm
   have HM:=hid hm;clear hm;go_enter Tryz.func179,Tryz.ntmps179;go_wp2_with fail;refine (y0d _ z _ (hh.out.new (((New.refl w).alloc _).alloc _))).mono ?_;rintro e w1 ⟨vw,n1,f1,rfl,hn,hw,hv⟩;have ho:=(Own2.alloc _ _ 113 (.int .i64 0) (.slice none 0 0) (size_alloc w _)).new hn;have hN:=(((New.refl w).alloc _).alloc _).trans hn;have HO:=hid ho;have HW:=hid hw;have HV:=hid hv;have HN:=hid hN;clear hn hw hv ho hN;go_wp2_with fail;refine (y0k _ vw n1 f1 w1 HW.out).mono ?_;rintro e w2 ⟨v',rfl,hn2,hi⟩;rw[yap HV.out] at hi;have ho2:=HO.out.new hn2;obtain ⟨c0,c1,c2,c3⟩:=ho2.cells;obtain ⟨s',a',l',c',rfl⟩:=hi.shape;have ho3:=ho2.set0 (.int .i64 s');obtain ⟨d0,d1, -,d3⟩:=ho3.cells;have D0:=hid d0;clear d0;obtain ⟨-,e1, -, -⟩:=(ho3.set1 (.slice a' l' c')).cells;have E1:=hid e1;clear ho3 e1
   have hp:(y0l w (-z) (.returned (.agg #[.int .i64 s',.slice a' l' c'])) ((w2.setCell ⟨w.heap.size+1,0,none⟩ (.int .i64 s')).setCell ⟨w.heap.size+1,1,none⟩ (.slice a' l' c'))):=
    ⟨_,rfl,((HN.out.trans hn2).setCell (Nat.le_succ _) _).setCell (Nat.le_succ _) _,hi.set2 ho2⟩
   have HP:=hid hp;clear hi ho2 hn2 hp;go_wp2_with fail;refine bodyPost_ret (v:=.agg #[.int .i64 s',.slice a' l' c']) (by simp[results,Tryz.results179,go_sem,D0.out,E1.out]) rfl ?_;exact HP.out
  ·have hm1:(z != -9223372036854775808)=true:=by simpa using hm
   have hwr:wrap64 (-z)= -z:=by unfold wrap64;omega
   have HP:=hid fun w' (hn:New w w')=>y52 hn (s:= -z) (by omega) (by omega) (-z) rfl;clear lo hi hm;go_enter Tryz.func179,Tryz.ntmps179;go_wp2_with fail;refine bodyPost_ret (v:=.agg #[.int .i64 (-z),.slice none 0 0]) (by simp[results,Tryz.results179,go_sem]) rfl ?_;exact HP.out _ (((New.refl w).alloc _).alloc _)
 ·have hh:=hid (y06.big (v:=v) (z:=z) b off n cap f s hv hs hw h0 hv' hz);clear hs hw h0 hv' hz;subst hv;go_enter Tryz.func179,Tryz.ntmps179;go_wp2_with fail;refine (y0d _ z _ (hh.out.new (((New.refl w).alloc _).alloc _))).mono ?_;rintro e w1 ⟨vw,n1,f1,rfl,hn,hw,hv⟩;have ho:=(Own2.alloc _ _ 113 (.int .i64 0) (.slice none 0 0) (size_alloc w _)).new hn;have hN:=(((New.refl w).alloc _).alloc _).trans hn;have HO:=hid ho;have HW:=hid hw;have HV:=hid hv;have HN:=hid hN;clear hn hw hv ho hN;go_wp2_with fail;refine (y0k _ vw n1 f1 w1 HW.out).mono ?_;rintro e w2 ⟨v',rfl,hn2,hi⟩;rw[yap HV.out] at hi;have ho2:=HO.out.new hn2;obtain ⟨c0,c1,c2,c3⟩:=ho2.cells;obtain ⟨s',a',l',c',rfl⟩:=hi.shape;have ho3:=ho2.set0 (.int .i64 s');obtain ⟨d0,d1, -,d3⟩:=ho3.cells;have D0:=hid d0;clear d0;obtain ⟨-,e1, -, -⟩:=(ho3.set1 (.slice a' l' c')).cells;have E1:=hid e1;clear ho3 e1
  have hp:(y0l w (-z) (.returned (.agg #[.int .i64 s',.slice a' l' c'])) ((w2.setCell ⟨w.heap.size+1,0,none⟩ (.int .i64 s')).setCell ⟨w.heap.size+1,1,none⟩ (.slice a' l' c'))):=
   ⟨_,rfl,((HN.out.trans hn2).setCell (Nat.le_succ _) _).setCell (Nat.le_succ _) _,hi.set2 ho2⟩
  have HP:=hid hp;clear hi ho2 hn2 hp;go_wp2_with fail;refine bodyPost_ret (v:=.agg #[.int .i64 s',.slice a' l' c']) (by simp[results,Tryz.results179,go_sem,D0.out,E1.out]) rfl ?_;exact HP.out
theorem y0t {w w2:World}{B:Nat}{t:TypeId}{z s s':Int}{a a':Option Addr}{l c l' c':Nat}(hN:New w w2)(hi:y06 w2 (.agg #[.int .i64 s',.slice a' l' c']) z)(ho:Own2 w2 B t (.int .i64 s) (.slice a l c))(hB:w.heap.size<=B):
  y0l w z (.returned (.agg #[.int .i64 s',.slice a' l' c'])) ((w2.setCell ⟨B,0,none⟩ (.int .i64 s')).setCell ⟨B,1,none⟩ (.slice a' l' c')):=
 ⟨_,rfl,(hN.setCell hB _).setCell hB _,hi.set2 ho⟩
theorem y9n (v:Value)(z:Int)(w:World)(h:y06 w v z):Calls Tryz.prog 127 #[v] w (y0l w z.natAbs):=by
 obtain ⟨s,a,l,c,rfl⟩:=h.shape
 have hs:s < 0 ↔ z < 0:=by
  rcases h with ⟨h,lo,hi⟩ | ⟨b,off,n,cap,f,s,h,hs,hw,h0,hv,hz⟩
  ·injection h with h;injection h with h;simp at h;omega
  ·injection h with h;injection h with h;simp at h;obtain ⟨rfl, -⟩:=h;rcases hs with rfl | rfl <;> omega
 by_cases hz:z < 0
 ·have hs0:s < 0:=hs.2 hz
  have e: -z=(z.natAbs:Int):=by omega
  have E:=hid e;have H:=hid h;clear h hs hz e;go_enter Tryz.func127,Tryz.ntmps127;go_wp2_with fail;refine (y3g _ z _ (H.out.new (((New.refl w).alloc _).alloc _))).mono ?_;rintro e w2 ⟨v',rfl,hn,hi⟩;rw[E.out] at hi;have hN2:=(((New.refl w).alloc _).alloc _).trans hn;have ho2:=(Own2.alloc _ _ 113 (.int .i64 0) (.slice none 0 0) (size_alloc w _)).new hn;clear hn;obtain ⟨c0,c1,c2,c3⟩:=ho2.cells;obtain ⟨s',a',l',c',rfl⟩:=hi.shape;have ho3:=ho2.set0 (.int .i64 s');obtain ⟨d0,d1, -,d3⟩:=ho3.cells;have D0:=hid d0;clear d0;obtain ⟨-,e1, -, -⟩:=(ho3.set1 (.slice a' l' c')).cells;have E1:=hid e1;clear ho3 e1;have HP:=hid (y0t hN2 hi ho2 (by omega));clear hi ho2 hN2;go_wp2_with fail;refine bodyPost_ret (v:=.agg #[.int .i64 s',.slice a' l' c']) (by simp[results,Tryz.results127,go_sem,D0.out,E1.out]) rfl ?_;exact HP.out
 ·have hs0:¬s < 0:=fun x=>hz (hs.1 x)
  have e:z=(z.natAbs:Int):=by omega
  have HP:=hid fun w' (hn:New w w')=>(show y0l w z.natAbs (.returned (.agg #[.int .i64 s,.slice a l c])) w' from ⟨_,rfl,hn,by rw[<-e];exact h.new hn⟩);clear h hs hz e;go_enter Tryz.func127,Tryz.ntmps127;go_wp2_with fail;refine bodyPost_ret (v:=.agg #[.int .i64 s,.slice a l c]) (by simp[results,Tryz.results127,go_sem]) rfl ?_;exact HP.out _ (((New.refl w).alloc _).alloc _)
theorem ycj {x y:Int}(h:decide (x < 0)=decide (y < 0)){k:Nat}(hk:k=x.natAbs+y.natAbs):signed (decide (x < 0)) k=x+y:=by
 have h:(x < 0) ↔ (y < 0):=by simpa using h
 unfold signed;by_cases hx:x < 0
 ·have:=h.1 hx;simp[hx];omega
 ·have:¬y < 0:=fun c=>hx (h.2 c);simp[hx];omega
theorem y62 {x y:Int}(h:decide (x < 0)≠decide (y < 0))(hle:y.natAbs<=x.natAbs){k:Nat}(hk:k=x.natAbs - y.natAbs):signed (decide (x < 0)) k=x+y:=by
 have h:¬((x < 0) ↔ (y < 0)):=by simpa using h
 unfold signed;by_cases hx:x < 0
 ·have:¬y < 0:=fun c=>h ⟨fun _=>c,fun _=>hx⟩;simp[hx];omega
 ·have:y < 0:=by
   rcases Decidable.em (y < 0) with c | c
   ·exact c
   ·exact absurd ⟨fun a=>absurd a hx,fun a=>absurd a c⟩ h
  simp[hx];omega
theorem y1s (w:World)(o o':Obj):w.heap.size+1+1=((w.alloc o).alloc o').heap.size:=by rw[<-size_alloc,<-size_alloc]
theorem y1r (va vb:Value)(x y:Int)(w:World)(hx:y06 w va x)(hy:y06 w vb y)(bx:Bd x)(by':Bd y):Calls Tryz.prog 120 #[va,vb] w (y0l w (x+y)):=by
 have q1:=y4d;have HX:=hid hx;have HY:=hid hy;have BX:=hid bx;have BY:=hid by';clear bx by';rcases hx with ⟨rfl,lo,hi⟩ | ⟨b,off,n,cap,f,s,rfl,hs,hw,h0,hv,hz⟩
 ·rcases hy with ⟨rfl,lo',hi'⟩ | ⟨b',off',n',cap',f',s',rfl,hs',hw',h0',hv',hz'⟩
  ·by_cases hov: -9223372036854775808<=x+y/\x+y<=9223372036854775807
   ·have hwr:wrap64 (x+y)=x+y:=by unfold wrap64;omega
    have ht:(decide (x < x+y)==decide (0 < y))=true:=by
     have:(x < x+y) ↔ (0 < y):=by omega
     simp[this]
    have HP:=hid fun w' (hn:New w w')=>y52 hn (s:=x+y) hov.1 hov.2 (x+y) rfl;clear lo hi lo' hi' hov HX HY;go_enter Tryz.func120,Tryz.ntmps120;go_wp2_with fail;refine bodyPost_ret (v:=.agg #[.int .i64 (x+y),.slice none 0 0]) (by simp[results,Tryz.results120,go_sem]) rfl ?_;exact HP.out _ ((((New.refl w).alloc _).alloc _).alloc _)
   ·obtain ⟨r,hr,ht⟩:∃ r,wrap64 (x+y)=r/\(decide (x < r)==decide (0 < y))=false:=by
     refine ⟨_,rfl,?_⟩;rcases Int.lt_or_le 0 y with h | h
     ·have:¬x < wrap64 (x+y):=by unfold wrap64;omega
      simp[h,this]
     ·have:x < wrap64 (x+y):=by unfold wrap64;omega
      have h':¬0 < y:=by omega
      simp[h',this]
    clear lo hi lo' hi' hov;go_enter Tryz.func120,Tryz.ntmps120;go_wp2_with fail;have hN0:=fun o o' o''=>(((New.refl w).alloc o).alloc o').alloc o'';have HN0:=hid hN0;clear hN0;refine (y0d _ x _ (HX.out.new (HN0.out _ _ _))).mono ?_;rintro e w1 ⟨va,n1,f1,rfl,hn,hw,hv⟩;have ho:=(Own2.alloc _ _ 113 (.int .i64 0) (.slice none 0 0) (y1s w _ _)).new hn;have hN:=(HN0.out _ _ _).trans hn;have hob:=((Own2.alloc _ _ 113 _ _ (size_alloc w _)).new ((New.refl _).alloc _)).new hn;obtain ⟨i0,i1, -, -⟩:=hob.cells;have HO:=hid ho;have HW:=hid hw;have HV:=hid hv;have HN:=hid hN;clear hn hw hv ho hN HN0 hob;go_wp2_with fail;clear i0 i1;refine (y0d _ y _ (HY.out.new HN.out)).mono ?_;rintro e w2 ⟨vb,n2,f2,rfl,hn,hw,hv⟩;have hw1:=HW.out.new hn;have la:=hw1.le BX.out HV.out;have lb:=hw.le BY.out hv;have ho:=HO.out.new hn;have hN:=HN.out.trans hn;have HW1:=hid hw1;have HW2:=hid hw;have HV2:=hid hv;have HO2:=hid ho;have HN2:=hid hN;clear hn hw hv ho hN hw1 HO HW HN;by_cases hsg:decide (x < 0)=decide (y < 0)
    ·have hsg1:(decide (x < 0)==decide (y < 0))=true:=by rw[hsg];simp
     have HSG:=hid hsg;clear hsg;go_wp2_with fail;refine (y4r va vb n1 n2 f1 f2 _ la lb HW1.out HW2.out).mono ?_;rintro e w3 ⟨vc,n3,f3,hn,rfl,hw,hv⟩;have ho:=HO2.out.new hn;have hN:=HN2.out.trans hn;have HW3:=hid hw;have HV3:=hid hv;have HO3:=hid ho;have HN3:=hid hN;clear hn hw hv ho hN HO2 HN2;go_wp2_with fail;refine (y0k _ vc n3 f3 _ HW3.out).mono ?_;rintro e w4 ⟨v',rfl,hn,hi⟩;rw[ycj HSG.out (by rw[HV3.out,HV.out,HV2.out])] at hi;have ho2:=HO3.out.new hn;have hN2:=HN3.out.trans hn;clear hn;obtain ⟨c0,c1,c2,c3⟩:=ho2.cells;obtain ⟨s',a',l',c',rfl⟩:=hi.shape;have ho3:=ho2.set0 (.int .i64 s');obtain ⟨d0,d1, -,d3⟩:=ho3.cells;have D0:=hid d0;clear d0;obtain ⟨-,e1, -, -⟩:=(ho3.set1 (.slice a' l' c')).cells;have E1:=hid e1;clear ho3 e1;have HP:=hid (y0t hN2 hi ho2 (by omega));clear hi ho2 hN2;go_wp2_with fail;refine bodyPost_ret (v:=.agg #[.int .i64 s',.slice a' l' c']) (by simp[results,Tryz.results120,go_sem,D0.out,E1.out]) rfl ?_;exact HP.out
    ·have hsg1:(decide (x < 0)==decide (y < 0))=false:=by simpa using hsg
     have HSG:=hid hsg;clear hsg;go_wp2_with fail;refine (y0n va vb n1 n2 f1 f2 _ HW1.out HW2.out).mono ?_;rintro e w3 ⟨hn,rfl⟩;rw[HV.out,HV2.out];have hw1:=HW1.out.new hn;have hw2:=HW2.out.new hn;have ho:=HO2.out.new hn;have hN:=HN2.out.trans hn;have HW1:=hid hw1;have HW2:=hid hw2;have HO2:=hid ho;have HN2:=hid hN;clear hn hw1 hw2 ho hN;by_cases hle:y.natAbs<=x.natAbs
     ·obtain ⟨r,hr,hr0⟩:∃ r:Int,y1a x.natAbs y.natAbs=r/\0<=r:=⟨_,rfl,by unfold y1a;rw[if_neg (by omega)];split <;> omega⟩;rw[hr];have HLE:=hid hle;clear hr hle;go_wp2_with fail;refine (y2d va vb n1 n2 f1 f2 _ la HW1.out HW2.out (by rw[HV.out,HV2.out];exact HLE.out)).mono ?_;rintro e w3 ⟨vc,n3,f3,hn,rfl,hw,hv⟩;have hs3:=y62 (k:=vf W64 f3 n3) HSG.out HLE.out (by rw[hv,HV.out,HV2.out]);have ho:=HO2.out.new hn;have hN:=HN2.out.trans hn;have HW3:=hid hw;have HS3:=hid hs3;have HO3:=hid ho;have HN3:=hid hN;clear hn hw hv ho hN hs3 HO2 HN2;go_wp2_with fail;refine (y0k _ vc n3 f3 _ HW3.out).mono ?_;rintro e w4 ⟨v',rfl,hn,hi⟩;rw[HS3.out] at hi;have ho2:=HO3.out.new hn;have hN2:=HN3.out.trans hn;clear hn;obtain ⟨c0,c1,c2,c3⟩:=ho2.cells;obtain ⟨s',a',l',c',rfl⟩:=hi.shape;have ho3:=ho2.set0 (.int .i64 s');obtain ⟨d0,d1, -,d3⟩:=ho3.cells;have D0:=hid d0;clear d0;obtain ⟨-,e1, -, -⟩:=(ho3.set1 (.slice a' l' c')).cells;have E1:=hid e1;clear ho3 e1;have HP:=hid (y0t hN2 hi ho2 (by omega));clear hi ho2 hN2;go_wp2_with fail;refine bodyPost_ret (v:=.agg #[.int .i64 s',.slice a' l' c']) (by simp[results,Tryz.results120,go_sem,D0.out,E1.out]) rfl ?_;exact HP.out
     ·obtain ⟨r,hr,hr0⟩:∃ r:Int,y1a x.natAbs y.natAbs=r/\¬0<=r:=⟨_,rfl,by unfold y1a;rw[if_pos (by omega)];omega⟩;rw[hr];have HLE:=hid hle;clear hr hle;go_wp2_with fail;refine (y2d vb va n2 n1 f2 f1 _ lb HW2.out HW1.out (by rw[HV.out,HV2.out];have:=HLE.out;omega)).mono ?_;rintro e w3 ⟨vc,n3,f3,hn,rfl,hw,hv⟩;have hs3:=y62 (k:=vf W64 f3 n3) (Ne.symm HSG.out) (by have:=HLE.out;omega) (by rw[hv,HV.out,HV2.out]);rw[Int.add_comm y x] at hs3;have ho:=HO2.out.new hn;have hN:=HN2.out.trans hn;have HW3:=hid hw;have HS3:=hid hs3;have HO3:=hid ho;have HN3:=hid hN;clear hn hw hv ho hN hs3 HO2 HN2;go_wp2_with fail;refine (y0k _ vc n3 f3 _ HW3.out).mono ?_;rintro e w4 ⟨v',rfl,hn,hi⟩;rw[HS3.out] at hi;have ho2:=HO3.out.new hn;have hN2:=HN3.out.trans hn;clear hn;obtain ⟨c0,c1,c2,c3⟩:=ho2.cells;obtain ⟨s',a',l',c',rfl⟩:=hi.shape;have ho3:=ho2.set0 (.int .i64 s');obtain ⟨d0,d1, -,d3⟩:=ho3.cells;have D0:=hid d0;clear d0;obtain ⟨-,e1, -, -⟩:=(ho3.set1 (.slice a' l' c')).cells;have E1:=hid e1;clear ho3 e1;have HP:=hid (y0t hN2 hi ho2 (by omega));clear hi ho2 hN2;go_wp2_with fail;refine bodyPost_ret (v:=.agg #[.int .i64 s',.slice a' l' c']) (by simp[results,Tryz.results120,go_sem,D0.out,E1.out]) rfl ?_;exact HP.out
  ·clear lo hi hs' hw' h0' hv' hz';go_enter Tryz.func120,Tryz.ntmps120;go_wp2_with fail;have hN0:=fun o o' o''=>(((New.refl w).alloc o).alloc o').alloc o'';have HN0:=hid hN0;clear hN0;refine (y0d _ x _ (HX.out.new (HN0.out _ _ _))).mono ?_;rintro e w1 ⟨va,n1,f1,rfl,hn,hw,hv⟩;have ho:=(Own2.alloc _ _ 113 (.int .i64 0) (.slice none 0 0) (y1s w _ _)).new hn;have hN:=(HN0.out _ _ _).trans hn;have hob:=((Own2.alloc _ _ 113 _ _ (size_alloc w _)).new ((New.refl _).alloc _)).new hn;obtain ⟨i0,i1, -, -⟩:=hob.cells;have HO:=hid ho;have HW:=hid hw;have HV:=hid hv;have HN:=hid hN;clear hn hw hv ho hN HN0 hob;go_wp2_with fail;clear i0 i1;refine (y0d _ y _ (HY.out.new HN.out)).mono ?_;rintro e w2 ⟨vb,n2,f2,rfl,hn,hw,hv⟩;have hw1:=HW.out.new hn;have la:=hw1.le BX.out HV.out;have lb:=hw.le BY.out hv;have ho:=HO.out.new hn;have hN:=HN.out.trans hn;have HW1:=hid hw1;have HW2:=hid hw;have HV2:=hid hv;have HO2:=hid ho;have HN2:=hid hN;clear hn hw hv ho hN hw1 HO HW HN;by_cases hsg:decide (x < 0)=decide (y < 0)
   ·have hsg1:(decide (x < 0)==decide (y < 0))=true:=by rw[hsg];simp
    have HSG:=hid hsg;clear hsg;go_wp2_with fail;refine (y4r va vb n1 n2 f1 f2 _ la lb HW1.out HW2.out).mono ?_;rintro e w3 ⟨vc,n3,f3,hn,rfl,hw,hv⟩;have ho:=HO2.out.new hn;have hN:=HN2.out.trans hn;have HW3:=hid hw;have HV3:=hid hv;have HO3:=hid ho;have HN3:=hid hN;clear hn hw hv ho hN HO2 HN2;go_wp2_with fail;refine (y0k _ vc n3 f3 _ HW3.out).mono ?_;rintro e w4 ⟨v',rfl,hn,hi⟩;rw[ycj HSG.out (by rw[HV3.out,HV.out,HV2.out])] at hi;have ho2:=HO3.out.new hn;have hN2:=HN3.out.trans hn;clear hn;obtain ⟨c0,c1,c2,c3⟩:=ho2.cells;obtain ⟨s',a',l',c',rfl⟩:=hi.shape;have ho3:=ho2.set0 (.int .i64 s');obtain ⟨d0,d1, -,d3⟩:=ho3.cells;have D0:=hid d0;clear d0;obtain ⟨-,e1, -, -⟩:=(ho3.set1 (.slice a' l' c')).cells;have E1:=hid e1;clear ho3 e1;have HP:=hid (y0t hN2 hi ho2 (by omega));clear hi ho2 hN2;go_wp2_with fail;refine bodyPost_ret (v:=.agg #[.int .i64 s',.slice a' l' c']) (by simp[results,Tryz.results120,go_sem,D0.out,E1.out]) rfl ?_;exact HP.out
   ·have hsg1:(decide (x < 0)==decide (y < 0))=false:=by simpa using hsg
    have HSG:=hid hsg;clear hsg;go_wp2_with fail;refine (y0n va vb n1 n2 f1 f2 _ HW1.out HW2.out).mono ?_;rintro e w3 ⟨hn,rfl⟩;rw[HV.out,HV2.out];have hw1:=HW1.out.new hn;have hw2:=HW2.out.new hn;have ho:=HO2.out.new hn;have hN:=HN2.out.trans hn;have HW1:=hid hw1;have HW2:=hid hw2;have HO2:=hid ho;have HN2:=hid hN;clear hn hw1 hw2 ho hN;by_cases hle:y.natAbs<=x.natAbs
    ·obtain ⟨r,hr,hr0⟩:∃ r:Int,y1a x.natAbs y.natAbs=r/\0<=r:=⟨_,rfl,by unfold y1a;rw[if_neg (by omega)];split <;> omega⟩;rw[hr];have HLE:=hid hle;clear hr hle;go_wp2_with fail;refine (y2d va vb n1 n2 f1 f2 _ la HW1.out HW2.out (by rw[HV.out,HV2.out];exact HLE.out)).mono ?_;rintro e w3 ⟨vc,n3,f3,hn,rfl,hw,hv⟩;have hs3:=y62 (k:=vf W64 f3 n3) HSG.out HLE.out (by rw[hv,HV.out,HV2.out]);have ho:=HO2.out.new hn;have hN:=HN2.out.trans hn;have HW3:=hid hw;have HS3:=hid hs3;have HO3:=hid ho;have HN3:=hid hN;clear hn hw hv ho hN hs3 HO2 HN2;go_wp2_with fail;refine (y0k _ vc n3 f3 _ HW3.out).mono ?_;rintro e w4 ⟨v',rfl,hn,hi⟩;rw[HS3.out] at hi;have ho2:=HO3.out.new hn;have hN2:=HN3.out.trans hn;clear hn;obtain ⟨c0,c1,c2,c3⟩:=ho2.cells;obtain ⟨s',a',l',c',rfl⟩:=hi.shape;have ho3:=ho2.set0 (.int .i64 s');obtain ⟨d0,d1, -,d3⟩:=ho3.cells;have D0:=hid d0;clear d0;obtain ⟨-,e1, -, -⟩:=(ho3.set1 (.slice a' l' c')).cells;have E1:=hid e1;clear ho3 e1;have HP:=hid (y0t hN2 hi ho2 (by omega));clear hi ho2 hN2;go_wp2_with fail;refine bodyPost_ret (v:=.agg #[.int .i64 s',.slice a' l' c']) (by simp[results,Tryz.results120,go_sem,D0.out,E1.out]) rfl ?_;exact HP.out
    ·obtain ⟨r,hr,hr0⟩:∃ r:Int,y1a x.natAbs y.natAbs=r/\¬0<=r:=⟨_,rfl,by unfold y1a;rw[if_pos (by omega)];omega⟩;rw[hr];have HLE:=hid hle;clear hr hle;go_wp2_with fail;refine (y2d vb va n2 n1 f2 f1 _ lb HW2.out HW1.out (by rw[HV.out,HV2.out];have:=HLE.out;omega)).mono ?_;rintro e w3 ⟨vc,n3,f3,hn,rfl,hw,hv⟩;have hs3:=y62 (k:=vf W64 f3 n3) (Ne.symm HSG.out) (by have:=HLE.out;omega) (by rw[hv,HV.out,HV2.out]);rw[Int.add_comm y x] at hs3;have ho:=HO2.out.new hn;have hN:=HN2.out.trans hn;have HW3:=hid hw;have HS3:=hid hs3;have HO3:=hid ho;have HN3:=hid hN;clear hn hw hv ho hN hs3 HO2 HN2;go_wp2_with fail;refine (y0k _ vc n3 f3 _ HW3.out).mono ?_;rintro e w4 ⟨v',rfl,hn,hi⟩;rw[HS3.out] at hi;have ho2:=HO3.out.new hn;have hN2:=HN3.out.trans hn;clear hn;obtain ⟨c0,c1,c2,c3⟩:=ho2.cells;obtain ⟨s',a',l',c',rfl⟩:=hi.shape;have ho3:=ho2.set0 (.int .i64 s');obtain ⟨d0,d1, -,d3⟩:=ho3.cells;have D0:=hid d0;clear d0;obtain ⟨-,e1, -, -⟩:=(ho3.set1 (.slice a' l' c')).cells;have E1:=hid e1;clear ho3 e1;have HP:=hid (y0t hN2 hi ho2 (by omega));clear hi ho2 hN2;go_wp2_with fail;refine bodyPost_ret (v:=.agg #[.int .i64 s',.slice a' l' c']) (by simp[results,Tryz.results120,go_sem,D0.out,E1.out]) rfl ?_;exact HP.out
 ·clear hs hw h0 hv hz hy;obtain ⟨s',a',l',c',rfl⟩:=HY.out.shape;go_enter Tryz.func120,Tryz.ntmps120;go_wp2_with fail;have hN0:=fun o o' o''=>(((New.refl w).alloc o).alloc o').alloc o'';have HN0:=hid hN0;clear hN0;refine (y0d _ x _ (HX.out.new (HN0.out _ _ _))).mono ?_;rintro e w1 ⟨va,n1,f1,rfl,hn,hw,hv⟩;have ho:=(Own2.alloc _ _ 113 (.int .i64 0) (.slice none 0 0) (y1s w _ _)).new hn;have hN:=(HN0.out _ _ _).trans hn;have hob:=((Own2.alloc _ _ 113 _ _ (size_alloc w _)).new ((New.refl _).alloc _)).new hn;obtain ⟨i0,i1, -, -⟩:=hob.cells;have HO:=hid ho;have HW:=hid hw;have HV:=hid hv;have HN:=hid hN;clear hn hw hv ho hN HN0 hob;go_wp2_with fail;clear i0 i1;refine (y0d _ y _ (HY.out.new HN.out)).mono ?_;rintro e w2 ⟨vb,n2,f2,rfl,hn,hw,hv⟩;have hw1:=HW.out.new hn;have la:=hw1.le BX.out HV.out;have lb:=hw.le BY.out hv;have ho:=HO.out.new hn;have hN:=HN.out.trans hn;have HW1:=hid hw1;have HW2:=hid hw;have HV2:=hid hv;have HO2:=hid ho;have HN2:=hid hN;clear hn hw hv ho hN hw1 HO HW HN;by_cases hsg:decide (x < 0)=decide (y < 0)
  ·have hsg1:(decide (x < 0)==decide (y < 0))=true:=by rw[hsg];simp
   have HSG:=hid hsg;clear hsg;go_wp2_with fail;refine (y4r va vb n1 n2 f1 f2 _ la lb HW1.out HW2.out).mono ?_;rintro e w3 ⟨vc,n3,f3,hn,rfl,hw,hv⟩;have ho:=HO2.out.new hn;have hN:=HN2.out.trans hn;have HW3:=hid hw;have HV3:=hid hv;have HO3:=hid ho;have HN3:=hid hN;clear hn hw hv ho hN HO2 HN2;go_wp2_with fail;refine (y0k _ vc n3 f3 _ HW3.out).mono ?_;rintro e w4 ⟨v',rfl,hn,hi⟩;rw[ycj HSG.out (by rw[HV3.out,HV.out,HV2.out])] at hi;have ho2:=HO3.out.new hn;have hN2:=HN3.out.trans hn;clear hn;obtain ⟨c0,c1,c2,c3⟩:=ho2.cells;obtain ⟨s',a',l',c',rfl⟩:=hi.shape;have ho3:=ho2.set0 (.int .i64 s');obtain ⟨d0,d1, -,d3⟩:=ho3.cells;have D0:=hid d0;clear d0;obtain ⟨-,e1, -, -⟩:=(ho3.set1 (.slice a' l' c')).cells;have E1:=hid e1;clear ho3 e1;have HP:=hid (y0t hN2 hi ho2 (by omega));clear hi ho2 hN2;go_wp2_with fail;refine bodyPost_ret (v:=.agg #[.int .i64 s',.slice a' l' c']) (by simp[results,Tryz.results120,go_sem,D0.out,E1.out]) rfl ?_;exact HP.out
  ·have hsg1:(decide (x < 0)==decide (y < 0))=false:=by simpa using hsg
   have HSG:=hid hsg;clear hsg;go_wp2_with fail;refine (y0n va vb n1 n2 f1 f2 _ HW1.out HW2.out).mono ?_;rintro e w3 ⟨hn,rfl⟩;rw[HV.out,HV2.out];have hw1:=HW1.out.new hn;have hw2:=HW2.out.new hn;have ho:=HO2.out.new hn;have hN:=HN2.out.trans hn;have HW1:=hid hw1;have HW2:=hid hw2;have HO2:=hid ho;have HN2:=hid hN;clear hn hw1 hw2 ho hN;by_cases hle:y.natAbs<=x.natAbs
   ·obtain ⟨r,hr,hr0⟩:∃ r:Int,y1a x.natAbs y.natAbs=r/\0<=r:=⟨_,rfl,by unfold y1a;rw[if_neg (by omega)];split <;> omega⟩;rw[hr];have HLE:=hid hle;clear hr hle;go_wp2_with fail;refine (y2d va vb n1 n2 f1 f2 _ la HW1.out HW2.out (by rw[HV.out,HV2.out];exact HLE.out)).mono ?_;rintro e w3 ⟨vc,n3,f3,hn,rfl,hw,hv⟩;have hs3:=y62 (k:=vf W64 f3 n3) HSG.out HLE.out (by rw[hv,HV.out,HV2.out]);have ho:=HO2.out.new hn;have hN:=HN2.out.trans hn;have HW3:=hid hw;have HS3:=hid hs3;have HO3:=hid ho;have HN3:=hid hN;clear hn hw hv ho hN hs3 HO2 HN2;go_wp2_with fail;refine (y0k _ vc n3 f3 _ HW3.out).mono ?_;rintro e w4 ⟨v',rfl,hn,hi⟩;rw[HS3.out] at hi;have ho2:=HO3.out.new hn;have hN2:=HN3.out.trans hn;clear hn;obtain ⟨c0,c1,c2,c3⟩:=ho2.cells;obtain ⟨s',a',l',c',rfl⟩:=hi.shape;have ho3:=ho2.set0 (.int .i64 s');obtain ⟨d0,d1, -,d3⟩:=ho3.cells;have D0:=hid d0;clear d0;obtain ⟨-,e1, -, -⟩:=(ho3.set1 (.slice a' l' c')).cells;have E1:=hid e1;clear ho3 e1;have HP:=hid (y0t hN2 hi ho2 (by omega));clear hi ho2 hN2;go_wp2_with fail;refine bodyPost_ret (v:=.agg #[.int .i64 s',.slice a' l' c']) (by simp[results,Tryz.results120,go_sem,D0.out,E1.out]) rfl ?_;exact HP.out
   ·obtain ⟨r,hr,hr0⟩:∃ r:Int,y1a x.natAbs y.natAbs=r/\¬0<=r:=⟨_,rfl,by unfold y1a;rw[if_pos (by omega)];omega⟩;rw[hr];have HLE:=hid hle;clear hr hle;go_wp2_with fail;refine (y2d vb va n2 n1 f2 f1 _ lb HW2.out HW1.out (by rw[HV.out,HV2.out];have:=HLE.out;omega)).mono ?_;rintro e w3 ⟨vc,n3,f3,hn,rfl,hw,hv⟩;have hs3:=y62 (k:=vf W64 f3 n3) (Ne.symm HSG.out) (by have:=HLE.out;omega) (by rw[hv,HV.out,HV2.out]);rw[Int.add_comm y x] at hs3;have ho:=HO2.out.new hn;have hN:=HN2.out.trans hn;have HW3:=hid hw;have HS3:=hid hs3;have HO3:=hid ho;have HN3:=hid hN;clear hn hw hv ho hN hs3 HO2 HN2;go_wp2_with fail;refine (y0k _ vc n3 f3 _ HW3.out).mono ?_;rintro e w4 ⟨v',rfl,hn,hi⟩;rw[HS3.out] at hi;have ho2:=HO3.out.new hn;have hN2:=HN3.out.trans hn;clear hn;obtain ⟨c0,c1,c2,c3⟩:=ho2.cells;obtain ⟨s',a',l',c',rfl⟩:=hi.shape;have ho3:=ho2.set0 (.int .i64 s');obtain ⟨d0,d1, -,d3⟩:=ho3.cells;have D0:=hid d0;clear d0;obtain ⟨-,e1, -, -⟩:=(ho3.set1 (.slice a' l' c')).cells;have E1:=hid e1;clear ho3 e1;have HP:=hid (y0t hN2 hi ho2 (by omega));clear hi ho2 hN2;go_wp2_with fail;refine bodyPost_ret (v:=.agg #[.int .i64 s',.slice a' l' c']) (by simp[results,Tryz.results120,go_sem,D0.out,E1.out]) rfl ?_;exact HP.out
theorem y3v (va vb:Value)(x y:Int)(w:World)(hx:y06 w va x)(hy:y06 w vb y)(bx:Bd x)(by':Bd y):Calls Tryz.prog 211 #[va,vb] w (y0l w (x - y)):=by
  have HX:=hid hx;have HY:=hid hy;have BX:=hid bx;have BY:=hid by';clear bx by';obtain ⟨sa,aa,la,ca,rfl⟩:=hx.shape;obtain ⟨sb,ab,lb,cb,rfl⟩:=hy.shape;clear hx hy;go_enter Tryz.func211,Tryz.ntmps211;go_wp2_with fail;have HN0:=hid fun o o' o''=>((((New.refl w).alloc o).alloc o').alloc o'').drew
  go_region_with (first
    | (go_at_call 179
       refine (y3g _ y _ (HY.out.new (HN0.out _ _ _))).mono ?_;rintro e w1 ⟨v1,rfl,hn,hi⟩;have ho:=(Own2.alloc _ _ 113 (.int .i64 0) (.slice none 0 0) (y1s w _ _)).new ((New.refl _).drew.trans hn);have hoa:=(((Own2.alloc w _ 113 (.int .i64 sa) (.slice aa la ca) rfl).new ((New.refl _).alloc _)).new ((New.refl _).alloc _).drew).new hn;obtain ⟨i0,i1, -, -⟩:=hoa.cells;have hN:=(HN0.out _ _ _).trans hn;have HI:=hid hi;have HO:=hid ho;have HN:=hid hN
       clear hn hi ho hoa hN HN0)
    | (go_at_call 120
       refine (y1r _ v1 x (-y) w1 (HX.out.new HN.out) HI.out BX.out BY.out.neg).mono ?_;rintro e w2 ⟨v',rfl,hn,hi⟩;have ho2:=HO.out.new hn;have hN2:=HN.out.trans hn;clear hn HO HN HI i0 i1;obtain ⟨c0,c1,c2,c3⟩:=ho2.cells;obtain ⟨s',a',l',c',rfl⟩:=hi.shape;have ho3:=ho2.set0 (.int .i64 s');obtain ⟨d0,d1, -,d3⟩:=ho3.cells;have D0:=hid d0;clear d0;obtain ⟨-,e1, -, -⟩:=(ho3.set1 (.slice a' l' c')).cells;have E1:=hid e1;clear ho3 e1;have HP:=hid (y0t hN2 hi ho2 (by omega))
       clear hi ho2 hN2))
  all_goals go_wp2_with fail
  all_goals
    refine bodyPost_ret (v:=.agg #[.int .i64 s',.slice a' l' c']) (by simp[results,Tryz.results211,go_sem,D0.out,E1.out]) rfl ?_;rw[Int.sub_eq_add_neg];exact HP.out
theorem ydr {x y:Int}(h:x < y):(-1:Int)=(x - y).sign:=(Int.sign_eq_neg_one_of_neg (by omega)).symm
theorem ydv {x y:Int}(h:y < x):(1:Int)=(x - y).sign:=(Int.sign_eq_one_of_pos (by omega)).symm
theorem yf2 {x y:Int}(h1:¬x < y)(h2:¬y < x):(0:Int)=(x - y).sign:=by
 have:x - y=0:=by omega
 rw[this];rfl
def y1t (w:World)(z:Int)(e:Ending)(w':World):Prop:=e=.returned (.int .i64 z.sign)/\New w w'
theorem y3x (va vb:Value)(x y:Int)(w:World)(hx:y06 w va x)(hy:y06 w vb y)(bx:Bd x)(by':Bd y):Calls Tryz.prog 160 #[va,vb] w (y1t w (x - y)):=by
 have q1:=y4d;have HX:=hid hx;have HY:=hid hy;have BX:=hid bx;have BY:=hid by';clear bx by';rcases hx with ⟨rfl,lo,hi⟩ | ⟨b,off,n,cap,f,s,rfl,hs,hw,h0,hv,hz⟩
 ·rcases hy with ⟨rfl,lo',hi'⟩ | ⟨b',off',n',cap',f',s',rfl,hs',hw',h0',hv',hz'⟩
  ·clear lo hi lo' hi' HX HY;rcases Int.lt_trichotomy x y with h | h | h
   ·have HS:=hid (ydr h);go_enter Tryz.func160,Tryz.ntmps160;go_wp2_with fail;go_ret;exact ⟨by rw[<-HS.out];rfl,((New.refl w).alloc _).alloc _⟩
   ·have HS:=hid (yf2 (x:=x) (y:=y) (by omega) (by omega))
    have h1:¬x < y:=by omega
    have h2:¬y < x:=by omega
    clear h;go_enter Tryz.func160,Tryz.ntmps160;go_wp2_with fail;go_ret;exact ⟨by rw[<-HS.out];rfl,((New.refl w).alloc _).alloc _⟩
   ·have HS:=hid (ydv h)
    have h1:¬x < y:=by omega
    go_enter Tryz.func160,Tryz.ntmps160;go_wp2_with fail;go_ret;exact ⟨by rw[<-HS.out];rfl,((New.refl w).alloc _).alloc _⟩
  ·clear lo hi hs' hw' h0' hv' hz';go_enter Tryz.func160,Tryz.ntmps160;go_wp2_with fail;have HN0:=hid fun o o'=>((New.refl w).alloc o).alloc o';refine (y3v _ _ x y _ (HX.out.new (HN0.out _ _)) (HY.out.new (HN0.out _ _)) BX.out BY.out).mono ?_;rintro e w1 ⟨v1,rfl,hn,hi⟩;have HN:=hid ((HN0.out _ _).trans hn);have HI:=hid hi;clear hn hi HN0;go_wp2_with fail;refine (y0y _ _ _ HI.out).mono ?_;rintro e w2 ⟨rfl,hn⟩;go_wp2_with fail;go_ret;exact ⟨rfl,HN.out.trans hn⟩
 ·clear hs hw h0 hv hz hy;obtain ⟨s',a',l',c',rfl⟩:=HY.out.shape;go_enter Tryz.func160,Tryz.ntmps160;go_wp2_with fail;have HN0:=hid fun o o'=>((New.refl w).alloc o).alloc o';refine (y3v _ _ x y _ (HX.out.new (HN0.out _ _)) (HY.out.new (HN0.out _ _)) BX.out BY.out).mono ?_;rintro e w1 ⟨v1,rfl,hn,hi⟩;have HN:=hid ((HN0.out _ _).trans hn);have HI:=hid hi;clear hn hi HN0;go_wp2_with fail;refine (y0y _ _ _ HI.out).mono ?_;rintro e w2 ⟨rfl,hn⟩;go_wp2_with fail;go_ret;exact ⟨rfl,HN.out.trans hn⟩
end Go.Proofs.YtnjonlnemagomaaGreatDoor
