/- Part A06. -/
import Derived.Deep.RegionHeld
import Derived.Test.YtnjonlnemagomaaGreatDoorA05
namespace Go.Proofs.YtnjonlnemagomaaGreatDoor
open Go.RowKit Big
open Go.Lib (hid)
set_option maxRecDepth 100000
set_option maxHeartbeats 8000000
inductive IsInt (w:World) (v:Value) (z:Int):Prop where
 | small (h:v=.agg #[.int .i64 z,.slice none 0 0]) (lo: -9223372036854775808≤z) (hi:z≤9223372036854775807)
 | big (b off n cap:Nat) (f:Nat→Nat) (s:Int) (h:v=.agg #[.int .i64 s,.slice (some ⟨b,off,none⟩) n cap]) (hs:s=1∨s= -1) (hw:Wds w (.slice (some ⟨b,off,none⟩) n cap) n f)
   (hn:0 < n) (hv:9223372036854775808≤vf W64 f n) (hz:z=s*vf W64 f n)
theorem IsInt.new {w w':World}{v:Value}{z:Int}(h:IsInt w v z)(hn:New w w'):IsInt w' v z:=by
 rcases h with ⟨h,lo,hi⟩ | ⟨b,off,n,cap,f,s,h,hs,hw,h0,hv,hz⟩
 ·exact .small h lo hi
 ·exact .big b off n cap f s h hs (hw.new hn) h0 hv hz
theorem size_val {s:Int}(lo: -9223372036854775808≤s)(hi:s≤9223372036854775807)(h:s < 0):IntKind.u64.wrap (wrap64 (-s))=(s.natAbs:Int):=by
 rw[IntKind.wrap_u64];unfold wrap64;omega
theorem size_calls (s:Int)(w:World)(lo: -9223372036854775808≤s)(hi:s≤9223372036854775807):
  Calls Tryz.prog 216 #[.int .i64 s] w fun e w'=>e=.returned (.int .u64 s.natAbs)∧w=w':=by
 by_cases h:s < 0
 ·have hv:=hid (size_val lo hi h);go_enter Tryz.func216,Tryz.ntmps216;go_wp2;go_ret;exact ⟨ret_u64 hv.out,rfl⟩
 ·have hv:s=(s.natAbs:Int):=by omega
  have HV:=hid hv;clear hv;go_enter Tryz.func216,Tryz.ntmps216;go_wp2;go_ret;exact ⟨ret_u64 HV.out,rfl⟩
theorem of_calls (s:Int)(w:World):Calls Tryz.prog 119 #[.int .i64 s] w fun e w'=>e=.returned (.agg #[.int .i64 s,.slice none 0 0])∧New w w':=by
 go_enter Tryz.func119,Tryz.ntmps119;go_wp2;exact bodyPost_ret (v:=.agg #[.int .i64 s,.slice none 0 0]) (by simp[results,Tryz.results119,go_sem]) rfl ⟨rfl,(New.refl w).alloc _⟩
def PartsPost (w:World)(z:Int)(e:Ending)(w':World):Prop:=∃ (vw:Value) (n:Nat) (f:Nat→Nat),e=.returned (.tuple #[.bool (decide (z < 0)),vw])∧New w w'∧Wds w' vw n f∧vf W64 f n=z.natAbs
theorem wds_none (w:World)(f:Nat→Nat):Wds w (.slice none 0 0) 0 f:=⟨none,0,⟨rfl,Nat.le_refl _,by omega,fun _=>rfl⟩,Rd.zero _ _ _ _,⟨fun i hi=>by omega,fun h=>absurd rfl h⟩⟩
theorem wds_one (w:World)(x:Nat)(t:TypeId)(B:Nat)(hB:B=w.heap.size)(h0:x≠0)(hx:x < W64):Wds (w.alloc (.cells #[.int .u64 x] t)).drew (.slice (some ⟨B,0,none⟩) 1 1) 1 fun _=>x:=by
 subst hB
 suffices h:Wds (w.alloc (.cells #[.int .u64 x] t)) (.slice (some ⟨w.heap.size,0,none⟩) 1 1) 1 fun _=>x from h.new (New.refl _).drew
 have hr:Row (w.alloc (.cells #[.int .u64 x] t)) w.heap.size t .u64 1 fun _=>x:=World.rowIs_alloc w #[.int .u64 x] t _ (fun i hi=>by
  have:i=0:=by simpa using hi
  subst this;rfl)
 exact ⟨_,1,⟨rfl,Nat.le_refl _,by omega,by simp⟩,hr.rd,⟨fun _ _=>hx,fun _=>h0⟩⟩
theorem parts_one (w:World)(z:Int)(t t':TypeId)(h0:z.natAbs≠0)(hl:z.natAbs < W64):
  PartsPost w z (.returned (.tuple #[.bool (decide (z < 0)),.slice (some ⟨w.heap.size+1,0,none⟩) 1 1])) (((w.alloc (.cells #[.int .i64 z,.slice none 0 0] t)).alloc (.cells #[.int .u64 z.natAbs] t')).drew):=by
 refine ⟨_,1,fun _=>z.natAbs,rfl,(((New.refl w).alloc _).alloc _).drew,wds_one _ _ _ _ ?_ h0 hl,by simp[vf]⟩;show w.heap.size+1=(w.heap.push _).size;rw[Array.size_push]
theorem parts_calls (v:Value)(z:Int)(w:World)(h:IsInt w v z):Calls Tryz.prog 181 #[v] w (PartsPost w z):=by
 rcases h with ⟨rfl,lo,hi⟩ | ⟨b,off,n,cap,f,s,rfl,hs,hw,h0,hv,hz⟩
 ·by_cases hz:z=0
  ·subst hz;go_enter Tryz.func181,Tryz.ntmps181;go_wp2_with fail;go_ret2;exact ⟨_,0,fun _=>0,rfl,(New.refl w).alloc _,wds_none _ _,rfl⟩
  ·have hz1:(z==0)=false:=by simpa using hz
   have hzn:z.natAbs≠0:=by omega
   have hzl:z.natAbs < W64:=by unfold W64;omega
   have HP:=hid (parts_one w z 113 198 hzn hzl);clear hzl hzn hz;go_enter Tryz.func181,Tryz.ntmps181;go_wp2_with fail
   go_region_with (go_at_call 216;refine (size_calls _ _ lo hi).mono ?_;rintro e w' ⟨rfl,rfl⟩)
   all_goals go_wp2_with fail
   all_goals go_ret2
   all_goals exact HP.out
 ·have hd:decide (s < 0)=decide (z < 0):=by
   rcases hs with rfl | rfl
   ·simp;omega
   ·simp;omega
  have ha:vf W64 f n=z.natAbs:=by
   rcases hs with rfl | rfl <;> omega
  have HW:=hid hw;have HD:=hid hd;have HA:=hid ha;clear hw hd ha hv hz;go_enter Tryz.func181,Tryz.ntmps181;go_wp2_with fail
  go_quiet (fail)
  go_wp2_with fail;go_ret2;exact ⟨_,n,f,by rw[←HD.out];rfl,((New.refl w).alloc _).drewN _,HW.out.new (((New.refl w).alloc _).drewN _),HA.out⟩
def IntPost (w:World)(z:Int)(e:Ending)(w':World):Prop:=∃ v:Value,e=.returned v∧New w w'∧IsInt w' v z
def signed (neg:Bool)(x:Nat):Int:=if neg then -(x:Int) else x
theorem made_small {w w':World}{s:Int}(hn:New w w')(lo: -9223372036854775808≤s)(hi:s≤9223372036854775807)(z:Int)(hz:z=s):IntPost w z (.returned (.agg #[.int .i64 s,.slice none 0 0])) w':=
 ⟨_,rfl,hn,.small (by rw[hz]) (by omega) (by omega)⟩
theorem made_big {neg:Bool}{w w':World}{b off n cap:Nat}{f:Nat→Nat}{s:Int}(hn:New w w')(hr:Rd w (some ⟨b,off,none⟩) .u64 n f)(cf:Canon W64 f n)(h1:n≤cap)(h2:cap≤281474976710656)(h0:0 < n)(hv:9223372036854775808≤vf W64 f n)(hs:s=if neg then -1 else 1):
  IntPost w (signed neg (vf W64 f n)) (.returned (.agg #[.int .i64 s,.slice (some ⟨b,off,none⟩) n cap])) w':=by
 subst hs;refine ⟨_,rfl,hn,.big b off n cap f (if neg then -1 else 1) rfl ?_ ⟨_,cap,⟨rfl,h1,h2,by simp⟩,hr.new hn,cf⟩ h0 hv ?_⟩
 ·cases neg <;> simp
 ·cases neg <;> simp[signed]
theorem made_calls (neg:Bool)(vw:Value)(n:Nat)(f:Nat→Nat)(w:World)(h:Wds w vw n f):Calls Tryz.prog 182 #[.bool neg,vw] w (IntPost w (signed neg (vf W64 f n))):=by
 obtain ⟨a,cap,⟨rfl,h1,h2,h3⟩,hr,cf⟩:=h;rcases Nat.lt_or_ge n 2 with hn | hn
 ·rcases Nat.eq_zero_or_pos n with h0 | h0
  ·subst h0;have HP:=hid fun w' (hn:New w w')=>made_small hn (s:=0) (by omega) (by omega) (signed neg (vf W64 f 0)) (by cases neg <;> rfl);clear hr cf;go_enter Tryz.func182,Tryz.ntmps182;go_wp2_with fail;refine bodyPost_ret (v:=.agg #[.int .i64 0,.slice none 0 0]) (by simp[results,Tryz.results182,go_sem]) rfl ?_;exact (HP.out _ ((New.refl w).alloc _))
  ·obtain rfl:n=1:=by omega
   obtain ⟨b,off,rfl,e0⟩:=hr 0 (by omega);simp only[Nat.add_zero] at e0;have e0:=((New.refl w).alloc (.cells #[.int .i64 0,.slice none 0 0] 113)).cell e0;have hx:=cf.lt 0 (by omega);have hx0:f 0≠0:=cf.top (by omega)
   have ev:vf W64 f 1=f 0:=by simp[vf]
   by_cases hs:f 0≤9223372036854775807
   ·have hi1:(f 0:Int)≤9223372036854775807:=by omega
    have hc:IntKind.i64.wrap (f 0:Int)=(f 0:Int):=by rw[IntKind.wrap_i64];omega
    have HP:=hid fun w' (hn:New w w')=>made_small hn (s:=if neg then -(f 0:Int) else f 0) (by split <;> omega) (by split <;> omega) (signed neg (vf W64 f 1)) (by rw[ev];rfl);clear hr cf ev hs hx hx0
    cases neg
    ·go_enter Tryz.func182,Tryz.ntmps182;go_wp2_with fail;refine bodyPost_ret (v:=.agg #[.int .i64 (f 0),.slice none 0 0]) (by simp[results,Tryz.results182,go_sem]) rfl ?_;exact (HP.out _ ((New.refl w).alloc _))
    ·go_enter Tryz.func182,Tryz.ntmps182;go_wp2_with fail;refine bodyPost_ret (v:=.agg #[.int .i64 (-(f 0:Int)),.slice none 0 0]) (by simp[results,Tryz.results182,go_sem]) rfl ?_;exact (HP.out _ ((New.refl w).alloc _))
   ·have hi1:(9223372036854775807:Int) < f 0:=by omega
    have HP:=hid fun w' (hn:New w w') (s:Int) (hs:s=if neg then -1 else 1)=>made_big (neg:=neg) hn hr cf h1 h2 (by omega) (by rw[ev];omega) hs;clear hr cf ev hs hx hx0
    cases neg
    ·go_enter Tryz.func182,Tryz.ntmps182;go_wp2_with fail;refine bodyPost_ret (v:=.agg #[.int .i64 1,.slice (some ⟨b,off,none⟩) 1 cap]) (by simp[results,Tryz.results182,go_sem]) rfl ?_;exact (HP.out _ ((New.refl w).alloc _) _ rfl)
    ·go_enter Tryz.func182,Tryz.ntmps182;go_wp2_with fail;refine bodyPost_ret (v:=.agg #[.int .i64 (-1),.slice (some ⟨b,off,none⟩) 1 cap]) (by simp[results,Tryz.results182,go_sem]) rfl ?_;exact (HP.out _ ((New.refl w).alloc _) _ rfl)
 ·obtain ⟨b,off,rfl,e0⟩:=hr 0 (by omega)
  have hn1:((n:Int)==1)=false:=by simp;omega
  have hn0:((n:Int)==0)=false:=by simp;omega
  have hge:9223372036854775808≤vf W64 f n:=by
   have h5:=cf.ge (by omega);have h6:W64^1≤W64^(n - 1):=Nat.pow_le_pow_right (by decide) (by omega);rw[Nat.pow_one] at h6
   have h7:9223372036854775808≤W64:=by decide
   omega
  have HP:=hid fun w' (hn:New w w') (s:Int) (hs:s=if neg then -1 else 1)=>made_big (neg:=neg) hn hr cf h1 h2 (by omega) hge hs;clear hr cf hge e0 hn
  cases neg
  ·go_enter Tryz.func182,Tryz.ntmps182;go_wp2_with fail;refine bodyPost_ret (v:=.agg #[.int .i64 1,.slice (some ⟨b,off,none⟩) n cap]) (by simp[results,Tryz.results182,go_sem]) rfl ?_;exact (HP.out _ ((New.refl w).alloc _) _ rfl)
  ·go_enter Tryz.func182,Tryz.ntmps182;go_wp2_with fail;refine bodyPost_ret (v:=.agg #[.int .i64 (-1),.slice (some ⟨b,off,none⟩) n cap]) (by simp[results,Tryz.results182,go_sem]) rfl ?_;exact (HP.out _ ((New.refl w).alloc _) _ rfl)
def Bd (z:Int):Prop:=∃ k:Nat,k≤60000000∧z.natAbs < 2^k
theorem Bd.neg {z:Int}(h:Bd z):Bd (-z):=by
 obtain ⟨k,h1,h2⟩:=h;exact ⟨k,h1,by rwa [Int.natAbs_neg]⟩
theorem words_le {n k:Nat}{f:Nat→Nat}(cf:Canon W64 f n)(hk:k≤60000000)(hl:vf W64 f n < 2^k):n≤1000000:=by
 rcases Nat.eq_zero_or_pos n with h | h
 ·omega
 ·have h1:=cf.ge (by omega)
  have h2:W64^(n - 1)=2^(64*(n - 1)):=by rw[Nat.pow_mul]
  rw[h2]at h1;have h3:2^(64*(n - 1)) < 2^k:=Nat.lt_of_le_of_lt h1 hl;have h4:=(Nat.pow_lt_pow_iff_right (by omega:1 < 2)).1 h3;omega
theorem Wds.le {w:World}{v:Value}{n:Nat}{f:Nat→Nat}{z:Int}(h:Wds w v n f)(hb:Bd z)(hv:vf W64 f n=z.natAbs):n≤1000000:=by
 obtain ⟨k,h1,h2⟩:=hb;obtain ⟨_,_,_,_,cf⟩:=h;exact words_le cf h1 (by rwa [hv])
def Own2 (w:World)(B:Nat)(t:TypeId)(x y:Value):Prop:=w.rowIs B t 2 fun i=>if i=0 then x else y
theorem Own2.alloc (w:World)(B:Nat)(t:TypeId)(x y:Value)(hB:B=w.heap.size):Own2 (w.alloc (.cells #[x,y] t)) B t x y:=by
 subst hB
 exact World.rowIs_alloc w #[x,y] t _ (fun i hi=>by
  have:i=0∨i=1:=by
   have:i < 2:=hi;omega
  rcases this with rfl | rfl <;> rfl)
theorem Own2.new {w w':World}{B:Nat}{t:TypeId}{x y:Value}(h:Own2 w B t x y)(hn:New w w'):Own2 w' B t x y:=hn.row h
theorem Own2.cells {w:World}{B:Nat}{t:TypeId}{x y:Value}(h:Own2 w B t x y):
  w.cell? ⟨B,0,none⟩=some x∧w.cell? ⟨B,1,none⟩=some y∧w.frozen? ⟨B,0,none⟩=false∧w.frozen? ⟨B,1,none⟩=false:=
 ⟨World.rowIs.cell h (by omega:0 < 2),World.rowIs.cell h (by omega:1 < 2),World.rowIs.frozen h 0,World.rowIs.frozen h 1⟩
theorem Own2.set0 {w:World}{B:Nat}{t:TypeId}{x y:Value}(h:Own2 w B t x y)(u:Value):Own2 (w.setCell ⟨B,0,none⟩ u) B t u y:=
 World.rowIs.congr (World.rowIs.set h 0 u) fun j hj=>by
  have:j=0∨j=1:=by omega
  rcases this with rfl | rfl <;> simp
theorem Own2.set1 {w:World}{B:Nat}{t:TypeId}{x y:Value}(h:Own2 w B t x y)(u:Value):Own2 (w.setCell ⟨B,1,none⟩ u) B t x u:=
 World.rowIs.congr (World.rowIs.set h 1 u) fun j hj=>by
  have:j=0∨j=1:=by omega
  rcases this with rfl | rfl <;> simp
theorem Own2.apart {w:World}{B:Nat}{t:TypeId}{s:Int}{a:Option Addr}{l c:Nat}(h:Own2 w B t (.int .i64 s) (.slice a l c)){b off:Nat}{x:Int}(hc:w.cell? ⟨b,off,none⟩=some (.int .u64 x)):b≠B:=by
 rintro rfl;obtain ⟨arr,h1,h2,h3⟩:=h;rcases Nat.lt_or_ge off 2 with h4 | h4
 ·have h5:=World.rowIs.cell (w:=w) (b:=b) (t:=t) (n:=2) ⟨arr,h1,h2,h3⟩ h4;rw[h5] at hc
  have:off=0∨off=1:=by omega
  rcases this with rfl | rfl <;> simp at hc
 ·have h5:arr[off]?=none:=by simp;omega
  simp[World.cell?,h1,h5]at hc
theorem IsInt.set2 {w:World}{B:Nat}{t:TypeId}{s:Int}{a:Option Addr}{l c:Nat}{v u u':Value}{z:Int}(h:IsInt w v z)(ho:Own2 w B t (.int .i64 s) (.slice a l c)):
  IsInt ((w.setCell ⟨B,0,none⟩ u).setCell ⟨B,1,none⟩ u') v z:=by
 rcases h with ⟨h,lo,hi⟩ | ⟨b,off,n,cap,f,s,h,hs,hw,h0,hv,hz⟩
 ·exact .small h lo hi
 ·refine .big b off n cap f s h hs ?_ h0 hv hz;obtain ⟨a',cap',h1,h2,h3⟩:=hw;refine ⟨a',cap',h1,fun i hi=>?_,h3⟩;obtain ⟨b',off',e,hc⟩:=h2 i hi;have hne:=ho.apart hc;refine ⟨b',off',e,?_⟩;rw[World.cell?_setCell_far _ _ _ _ (by exact Ne.symm hne),World.cell?_setCell_far _ _ _ _ (by exact Ne.symm hne)];exact hc
theorem IsInt.shape {w:World}{v:Value}{z:Int}(h:IsInt w v z):∃ (s:Int) (a:Option Addr) (l c:Nat),v=.agg #[.int .i64 s,.slice a l c]:=by
 rcases h with ⟨h,lo,hi⟩ | ⟨b,off,n,cap,f,s,h,hs,hw,h0,hv,hz⟩ <;> exact ⟨_,_,_,_,h⟩
theorem sign_small {z:Int}:max (-1) (min 1 z)=Int.sign z:=by
 rcases Int.lt_trichotomy z 0 with h | h | h
 ·rw[Int.sign_eq_neg_one_of_neg h];omega
 ·subst h;rfl
 ·rw[Int.sign_eq_one_of_pos h];omega
theorem sign_calls (v:Value)(z:Int)(w:World)(h:IsInt w v z):Calls Tryz.prog 176 #[v] w fun e w'=>e=.returned (.int .i64 z.sign)∧New w w':=by
 have hs:∃ (s:Int) (sl:Value),v=.agg #[.int .i64 s,sl]∧max (-1) (min 1 s)=z.sign:=by
  rcases h with ⟨rfl,lo,hi⟩ | ⟨b,off,n,cap,f,s,rfl,hs,hw,h0,hv,hz⟩
  ·exact ⟨_,_,rfl,sign_small⟩
  ·refine ⟨_,_,rfl,?_⟩;rw[sign_small];rcases hs with rfl | rfl
   ·rw[Int.sign_eq_one_of_pos (show (0:Int) < z by omega)];rfl
   ·rw[Int.sign_eq_neg_one_of_neg (show z < 0 by omega)];rfl
 clear h;obtain ⟨s,sl,rfl,hs⟩:=hs;have HS:=hid hs;clear hs;go_enter Tryz.func176,Tryz.ntmps176;go_wp2_with fail;go_ret;exact ⟨by rw[←HS.out];rfl,(New.refl w).alloc _⟩
theorem eql_nil (w:World)(a:Option Addr)(l c:Nat):Sem.run Tryz.prog (binOp .eql 111 (.slice a l c) (.slice none 0 0)) w=.ok (.bool a.isNone) w:=Lib.run_eql_slice_nil w _ _ a l c 0 0 Tryz.underlying111
theorem signed_neg {z:Int}{x:Nat}(h:x=z.natAbs):signed (!decide (z < 0)) x= -z:=by
 unfold signed;by_cases h1:z < 0
 ·simp[h1];omega
 ·simp[h1];omega
theorem neg_calls (v:Value)(z:Int)(w:World)(h:IsInt w v z):Calls Tryz.prog 179 #[v] w (IntPost w (-z)):=by
 have q1:=eql_nil;rcases h with ⟨rfl,lo,hi⟩ | ⟨b,off,n,cap,f,s,hv,hs,hw,h0,hv',hz⟩
 ·by_cases hm:z= -9223372036854775808
  ·have hh:=hid (IsInt.small (w:=w) (v:=.agg #[.int .i64 z,.slice none 0 0]) rfl lo hi);clear lo hi
   have hm1:(z != -9223372036854775808)=false:=by simpa using hm
   have HM:=hid hm;clear hm;go_enter Tryz.func179,Tryz.ntmps179;go_wp2_with fail;refine (parts_calls _ z _ (hh.out.new (((New.refl w).alloc _).alloc _))).mono ?_;rintro e w1 ⟨vw,n1,f1,rfl,hn,hw,hv⟩;have ho:=(Own2.alloc _ _ 113 (.int .i64 0) (.slice none 0 0) (size_alloc w _)).new hn;have hN:=(((New.refl w).alloc _).alloc _).trans hn;have HO:=hid ho;have HW:=hid hw;have HV:=hid hv;have HN:=hid hN;clear hn hw hv ho hN;go_wp2_with fail;refine (made_calls _ vw n1 f1 w1 HW.out).mono ?_;rintro e w2 ⟨v',rfl,hn2,hi⟩;rw[signed_neg HV.out] at hi;have ho2:=HO.out.new hn2;obtain ⟨c0,c1,c2,c3⟩:=ho2.cells;obtain ⟨s',a',l',c',rfl⟩:=hi.shape;have ho3:=ho2.set0 (.int .i64 s');obtain ⟨d0,d1, -,d3⟩:=ho3.cells;have D0:=hid d0;clear d0;obtain ⟨-,e1, -, -⟩:=(ho3.set1 (.slice a' l' c')).cells;have E1:=hid e1;clear ho3 e1
   have hp:(IntPost w (-z) (.returned (.agg #[.int .i64 s',.slice a' l' c'])) ((w2.setCell ⟨w.heap.size+1,0,none⟩ (.int .i64 s')).setCell ⟨w.heap.size+1,1,none⟩ (.slice a' l' c'))):=
    ⟨_,rfl,((HN.out.trans hn2).setCell (Nat.le_succ _) _).setCell (Nat.le_succ _) _,hi.set2 ho2⟩
   have HP:=hid hp;clear hi ho2 hn2 hp;go_wp2_with fail;refine bodyPost_ret (v:=.agg #[.int .i64 s',.slice a' l' c']) (by simp[results,Tryz.results179,go_sem,D0.out,E1.out]) rfl ?_;exact HP.out
  ·have hm1:(z != -9223372036854775808)=true:=by simpa using hm
   have hwr:wrap64 (-z)= -z:=by unfold wrap64;omega
   have HP:=hid fun w' (hn:New w w')=>made_small hn (s:= -z) (by omega) (by omega) (-z) rfl;clear lo hi hm;go_enter Tryz.func179,Tryz.ntmps179;go_wp2_with fail;refine bodyPost_ret (v:=.agg #[.int .i64 (-z),.slice none 0 0]) (by simp[results,Tryz.results179,go_sem]) rfl ?_;exact HP.out _ (((New.refl w).alloc _).alloc _)
 ·have hh:=hid (IsInt.big (v:=v) (z:=z) b off n cap f s hv hs hw h0 hv' hz);clear hs hw h0 hv' hz;subst hv;go_enter Tryz.func179,Tryz.ntmps179;go_wp2_with fail;refine (parts_calls _ z _ (hh.out.new (((New.refl w).alloc _).alloc _))).mono ?_;rintro e w1 ⟨vw,n1,f1,rfl,hn,hw,hv⟩;have ho:=(Own2.alloc _ _ 113 (.int .i64 0) (.slice none 0 0) (size_alloc w _)).new hn;have hN:=(((New.refl w).alloc _).alloc _).trans hn;have HO:=hid ho;have HW:=hid hw;have HV:=hid hv;have HN:=hid hN;clear hn hw hv ho hN;go_wp2_with fail;refine (made_calls _ vw n1 f1 w1 HW.out).mono ?_;rintro e w2 ⟨v',rfl,hn2,hi⟩;rw[signed_neg HV.out] at hi;have ho2:=HO.out.new hn2;obtain ⟨c0,c1,c2,c3⟩:=ho2.cells;obtain ⟨s',a',l',c',rfl⟩:=hi.shape;have ho3:=ho2.set0 (.int .i64 s');obtain ⟨d0,d1, -,d3⟩:=ho3.cells;have D0:=hid d0;clear d0;obtain ⟨-,e1, -, -⟩:=(ho3.set1 (.slice a' l' c')).cells;have E1:=hid e1;clear ho3 e1
  have hp:(IntPost w (-z) (.returned (.agg #[.int .i64 s',.slice a' l' c'])) ((w2.setCell ⟨w.heap.size+1,0,none⟩ (.int .i64 s')).setCell ⟨w.heap.size+1,1,none⟩ (.slice a' l' c'))):=
   ⟨_,rfl,((HN.out.trans hn2).setCell (Nat.le_succ _) _).setCell (Nat.le_succ _) _,hi.set2 ho2⟩
  have HP:=hid hp;clear hi ho2 hn2 hp;go_wp2_with fail;refine bodyPost_ret (v:=.agg #[.int .i64 s',.slice a' l' c']) (by simp[results,Tryz.results179,go_sem,D0.out,E1.out]) rfl ?_;exact HP.out
theorem stored_post {w w2:World}{B:Nat}{t:TypeId}{z s s':Int}{a a':Option Addr}{l c l' c':Nat}(hN:New w w2)(hi:IsInt w2 (.agg #[.int .i64 s',.slice a' l' c']) z)(ho:Own2 w2 B t (.int .i64 s) (.slice a l c))(hB:w.heap.size≤B):
  IntPost w z (.returned (.agg #[.int .i64 s',.slice a' l' c'])) ((w2.setCell ⟨B,0,none⟩ (.int .i64 s')).setCell ⟨B,1,none⟩ (.slice a' l' c')):=
 ⟨_,rfl,(hN.setCell hB _).setCell hB _,hi.set2 ho⟩
theorem abs_calls (v:Value)(z:Int)(w:World)(h:IsInt w v z):Calls Tryz.prog 127 #[v] w (IntPost w z.natAbs):=by
 obtain ⟨s,a,l,c,rfl⟩:=h.shape
 have hs:s < 0 ↔ z < 0:=by
  rcases h with ⟨h,lo,hi⟩ | ⟨b,off,n,cap,f,s,h,hs,hw,h0,hv,hz⟩
  ·injection h with h;injection h with h;simp at h;omega
  ·injection h with h;injection h with h;simp at h;obtain ⟨rfl, -⟩:=h;rcases hs with rfl | rfl <;> omega
 by_cases hz:z < 0
 ·have hs0:s < 0:=hs.2 hz
  have e: -z=(z.natAbs:Int):=by omega
  have E:=hid e;have H:=hid h;clear h hs hz e;go_enter Tryz.func127,Tryz.ntmps127;go_wp2_with fail;refine (neg_calls _ z _ (H.out.new (((New.refl w).alloc _).alloc _))).mono ?_;rintro e w2 ⟨v',rfl,hn,hi⟩;rw[E.out] at hi;have hN2:=(((New.refl w).alloc _).alloc _).trans hn;have ho2:=(Own2.alloc _ _ 113 (.int .i64 0) (.slice none 0 0) (size_alloc w _)).new hn;clear hn;obtain ⟨c0,c1,c2,c3⟩:=ho2.cells;obtain ⟨s',a',l',c',rfl⟩:=hi.shape;have ho3:=ho2.set0 (.int .i64 s');obtain ⟨d0,d1, -,d3⟩:=ho3.cells;have D0:=hid d0;clear d0;obtain ⟨-,e1, -, -⟩:=(ho3.set1 (.slice a' l' c')).cells;have E1:=hid e1;clear ho3 e1;have HP:=hid (stored_post hN2 hi ho2 (by omega));clear hi ho2 hN2;go_wp2_with fail;refine bodyPost_ret (v:=.agg #[.int .i64 s',.slice a' l' c']) (by simp[results,Tryz.results127,go_sem,D0.out,E1.out]) rfl ?_;exact HP.out
 ·have hs0:¬s < 0:=fun x=>hz (hs.1 x)
  have e:z=(z.natAbs:Int):=by omega
  have HP:=hid fun w' (hn:New w w')=>(show IntPost w z.natAbs (.returned (.agg #[.int .i64 s,.slice a l c])) w' from ⟨_,rfl,hn,by rw[←e];exact h.new hn⟩);clear h hs hz e;go_enter Tryz.func127,Tryz.ntmps127;go_wp2_with fail;refine bodyPost_ret (v:=.agg #[.int .i64 s,.slice a l c]) (by simp[results,Tryz.results127,go_sem]) rfl ?_;exact HP.out _ (((New.refl w).alloc _).alloc _)
theorem add_same {x y:Int}(h:decide (x < 0)=decide (y < 0)){k:Nat}(hk:k=x.natAbs+y.natAbs):signed (decide (x < 0)) k=x+y:=by
 have h:(x < 0) ↔ (y < 0):=by simpa using h
 unfold signed;by_cases hx:x < 0
 ·have:=h.1 hx;simp[hx];omega
 ·have:¬y < 0:=fun c=>hx (h.2 c);simp[hx];omega
theorem add_more {x y:Int}(h:decide (x < 0)≠decide (y < 0))(hle:y.natAbs≤x.natAbs){k:Nat}(hk:k=x.natAbs - y.natAbs):signed (decide (x < 0)) k=x+y:=by
 have h:¬((x < 0) ↔ (y < 0)):=by simpa using h
 unfold signed;by_cases hx:x < 0
 ·have:¬y < 0:=fun c=>h ⟨fun _=>c,fun _=>hx⟩;simp[hx];omega
 ·have:y < 0:=by
   rcases Decidable.em (y < 0) with c | c
   ·exact c
   ·exact absurd ⟨fun a=>absurd a hx,fun a=>absurd a c⟩ h
  simp[hx];omega
theorem size_alloc2 (w:World)(o o':Obj):w.heap.size+1+1=((w.alloc o).alloc o').heap.size:=by rw[←size_alloc,←size_alloc]
theorem add_calls (va vb:Value)(x y:Int)(w:World)(hx:IsInt w va x)(hy:IsInt w vb y)(bx:Bd x)(by':Bd y):Calls Tryz.prog 120 #[va,vb] w (IntPost w (x+y)):=by
 have q1:=eql_nil;have HX:=hid hx;have HY:=hid hy;have BX:=hid bx;have BY:=hid by';clear bx by';rcases hx with ⟨rfl,lo,hi⟩ | ⟨b,off,n,cap,f,s,rfl,hs,hw,h0,hv,hz⟩
 ·rcases hy with ⟨rfl,lo',hi'⟩ | ⟨b',off',n',cap',f',s',rfl,hs',hw',h0',hv',hz'⟩
  ·by_cases hov: -9223372036854775808≤x+y∧x+y≤9223372036854775807
   ·have hwr:wrap64 (x+y)=x+y:=by unfold wrap64;omega
    have ht:(decide (x < x+y)==decide (0 < y))=true:=by
     have:(x < x+y) ↔ (0 < y):=by omega
     simp[this]
    have HP:=hid fun w' (hn:New w w')=>made_small hn (s:=x+y) hov.1 hov.2 (x+y) rfl;clear lo hi lo' hi' hov HX HY;go_enter Tryz.func120,Tryz.ntmps120;go_wp2_with fail;refine bodyPost_ret (v:=.agg #[.int .i64 (x+y),.slice none 0 0]) (by simp[results,Tryz.results120,go_sem]) rfl ?_;exact HP.out _ ((((New.refl w).alloc _).alloc _).alloc _)
   ·obtain ⟨r,hr,ht⟩:∃ r,wrap64 (x+y)=r∧(decide (x < r)==decide (0 < y))=false:=by
     refine ⟨_,rfl,?_⟩;rcases Int.lt_or_le 0 y with h | h
     ·have:¬x < wrap64 (x+y):=by unfold wrap64;omega
      simp[h,this]
     ·have:x < wrap64 (x+y):=by unfold wrap64;omega
      have h':¬0 < y:=by omega
      simp[h',this]
    clear lo hi lo' hi' hov;go_enter Tryz.func120,Tryz.ntmps120;go_wp2_with fail;have hN0:=fun o o' o''=>(((New.refl w).alloc o).alloc o').alloc o'';have HN0:=hid hN0;clear hN0;refine (parts_calls _ x _ (HX.out.new (HN0.out _ _ _))).mono ?_;rintro e w1 ⟨va,n1,f1,rfl,hn,hw,hv⟩;have ho:=(Own2.alloc _ _ 113 (.int .i64 0) (.slice none 0 0) (size_alloc2 w _ _)).new hn;have hN:=(HN0.out _ _ _).trans hn;have hob:=((Own2.alloc _ _ 113 _ _ (size_alloc w _)).new ((New.refl _).alloc _)).new hn;obtain ⟨i0,i1, -, -⟩:=hob.cells;have HO:=hid ho;have HW:=hid hw;have HV:=hid hv;have HN:=hid hN;clear hn hw hv ho hN HN0 hob;go_wp2_with fail;clear i0 i1;refine (parts_calls _ y _ (HY.out.new HN.out)).mono ?_;rintro e w2 ⟨vb,n2,f2,rfl,hn,hw,hv⟩;have hw1:=HW.out.new hn;have la:=hw1.le BX.out HV.out;have lb:=hw.le BY.out hv;have ho:=HO.out.new hn;have hN:=HN.out.trans hn;have HW1:=hid hw1;have HW2:=hid hw;have HV2:=hid hv;have HO2:=hid ho;have HN2:=hid hN;clear hn hw hv ho hN hw1 HO HW HN;by_cases hsg:decide (x < 0)=decide (y < 0)
    ·have hsg1:(decide (x < 0)==decide (y < 0))=true:=by rw[hsg];simp
     have HSG:=hid hsg;clear hsg;go_wp2_with fail;refine (addWords_calls va vb n1 n2 f1 f2 _ la lb HW1.out HW2.out).mono ?_;rintro e w3 ⟨vc,n3,f3,hn,rfl,hw,hv⟩;have ho:=HO2.out.new hn;have hN:=HN2.out.trans hn;have HW3:=hid hw;have HV3:=hid hv;have HO3:=hid ho;have HN3:=hid hN;clear hn hw hv ho hN HO2 HN2;go_wp2_with fail;refine (made_calls _ vc n3 f3 _ HW3.out).mono ?_;rintro e w4 ⟨v',rfl,hn,hi⟩;rw[add_same HSG.out (by rw[HV3.out,HV.out,HV2.out])] at hi;have ho2:=HO3.out.new hn;have hN2:=HN3.out.trans hn;clear hn;obtain ⟨c0,c1,c2,c3⟩:=ho2.cells;obtain ⟨s',a',l',c',rfl⟩:=hi.shape;have ho3:=ho2.set0 (.int .i64 s');obtain ⟨d0,d1, -,d3⟩:=ho3.cells;have D0:=hid d0;clear d0;obtain ⟨-,e1, -, -⟩:=(ho3.set1 (.slice a' l' c')).cells;have E1:=hid e1;clear ho3 e1;have HP:=hid (stored_post hN2 hi ho2 (by omega));clear hi ho2 hN2;go_wp2_with fail;refine bodyPost_ret (v:=.agg #[.int .i64 s',.slice a' l' c']) (by simp[results,Tryz.results120,go_sem,D0.out,E1.out]) rfl ?_;exact HP.out
    ·have hsg1:(decide (x < 0)==decide (y < 0))=false:=by simpa using hsg
     have HSG:=hid hsg;clear hsg;go_wp2_with fail;refine (compareWords_calls va vb n1 n2 f1 f2 _ HW1.out HW2.out).mono ?_;rintro e w3 ⟨hn,rfl⟩;rw[HV.out,HV2.out];have hw1:=HW1.out.new hn;have hw2:=HW2.out.new hn;have ho:=HO2.out.new hn;have hN:=HN2.out.trans hn;have HW1:=hid hw1;have HW2:=hid hw2;have HO2:=hid ho;have HN2:=hid hN;clear hn hw1 hw2 ho hN;by_cases hle:y.natAbs≤x.natAbs
     ·obtain ⟨r,hr,hr0⟩:∃ r:Int,cmpNat x.natAbs y.natAbs=r∧0≤r:=⟨_,rfl,by unfold cmpNat;rw[if_neg (by omega)];split <;> omega⟩;rw[hr];have HLE:=hid hle;clear hr hle;go_wp2_with fail;refine (subWords_calls va vb n1 n2 f1 f2 _ la HW1.out HW2.out (by rw[HV.out,HV2.out];exact HLE.out)).mono ?_;rintro e w3 ⟨vc,n3,f3,hn,rfl,hw,hv⟩;have hs3:=add_more (k:=vf W64 f3 n3) HSG.out HLE.out (by rw[hv,HV.out,HV2.out]);have ho:=HO2.out.new hn;have hN:=HN2.out.trans hn;have HW3:=hid hw;have HS3:=hid hs3;have HO3:=hid ho;have HN3:=hid hN;clear hn hw hv ho hN hs3 HO2 HN2;go_wp2_with fail;refine (made_calls _ vc n3 f3 _ HW3.out).mono ?_;rintro e w4 ⟨v',rfl,hn,hi⟩;rw[HS3.out] at hi;have ho2:=HO3.out.new hn;have hN2:=HN3.out.trans hn;clear hn;obtain ⟨c0,c1,c2,c3⟩:=ho2.cells;obtain ⟨s',a',l',c',rfl⟩:=hi.shape;have ho3:=ho2.set0 (.int .i64 s');obtain ⟨d0,d1, -,d3⟩:=ho3.cells;have D0:=hid d0;clear d0;obtain ⟨-,e1, -, -⟩:=(ho3.set1 (.slice a' l' c')).cells;have E1:=hid e1;clear ho3 e1;have HP:=hid (stored_post hN2 hi ho2 (by omega));clear hi ho2 hN2;go_wp2_with fail;refine bodyPost_ret (v:=.agg #[.int .i64 s',.slice a' l' c']) (by simp[results,Tryz.results120,go_sem,D0.out,E1.out]) rfl ?_;exact HP.out
     ·obtain ⟨r,hr,hr0⟩:∃ r:Int,cmpNat x.natAbs y.natAbs=r∧¬0≤r:=⟨_,rfl,by unfold cmpNat;rw[if_pos (by omega)];omega⟩;rw[hr];have HLE:=hid hle;clear hr hle;go_wp2_with fail;refine (subWords_calls vb va n2 n1 f2 f1 _ lb HW2.out HW1.out (by rw[HV.out,HV2.out];have:=HLE.out;omega)).mono ?_;rintro e w3 ⟨vc,n3,f3,hn,rfl,hw,hv⟩;have hs3:=add_more (k:=vf W64 f3 n3) (Ne.symm HSG.out) (by have:=HLE.out;omega) (by rw[hv,HV.out,HV2.out]);rw[Int.add_comm y x] at hs3;have ho:=HO2.out.new hn;have hN:=HN2.out.trans hn;have HW3:=hid hw;have HS3:=hid hs3;have HO3:=hid ho;have HN3:=hid hN;clear hn hw hv ho hN hs3 HO2 HN2;go_wp2_with fail;refine (made_calls _ vc n3 f3 _ HW3.out).mono ?_;rintro e w4 ⟨v',rfl,hn,hi⟩;rw[HS3.out] at hi;have ho2:=HO3.out.new hn;have hN2:=HN3.out.trans hn;clear hn;obtain ⟨c0,c1,c2,c3⟩:=ho2.cells;obtain ⟨s',a',l',c',rfl⟩:=hi.shape;have ho3:=ho2.set0 (.int .i64 s');obtain ⟨d0,d1, -,d3⟩:=ho3.cells;have D0:=hid d0;clear d0;obtain ⟨-,e1, -, -⟩:=(ho3.set1 (.slice a' l' c')).cells;have E1:=hid e1;clear ho3 e1;have HP:=hid (stored_post hN2 hi ho2 (by omega));clear hi ho2 hN2;go_wp2_with fail;refine bodyPost_ret (v:=.agg #[.int .i64 s',.slice a' l' c']) (by simp[results,Tryz.results120,go_sem,D0.out,E1.out]) rfl ?_;exact HP.out
  ·clear lo hi hs' hw' h0' hv' hz';go_enter Tryz.func120,Tryz.ntmps120;go_wp2_with fail;have hN0:=fun o o' o''=>(((New.refl w).alloc o).alloc o').alloc o'';have HN0:=hid hN0;clear hN0;refine (parts_calls _ x _ (HX.out.new (HN0.out _ _ _))).mono ?_;rintro e w1 ⟨va,n1,f1,rfl,hn,hw,hv⟩;have ho:=(Own2.alloc _ _ 113 (.int .i64 0) (.slice none 0 0) (size_alloc2 w _ _)).new hn;have hN:=(HN0.out _ _ _).trans hn;have hob:=((Own2.alloc _ _ 113 _ _ (size_alloc w _)).new ((New.refl _).alloc _)).new hn;obtain ⟨i0,i1, -, -⟩:=hob.cells;have HO:=hid ho;have HW:=hid hw;have HV:=hid hv;have HN:=hid hN;clear hn hw hv ho hN HN0 hob;go_wp2_with fail;clear i0 i1;refine (parts_calls _ y _ (HY.out.new HN.out)).mono ?_;rintro e w2 ⟨vb,n2,f2,rfl,hn,hw,hv⟩;have hw1:=HW.out.new hn;have la:=hw1.le BX.out HV.out;have lb:=hw.le BY.out hv;have ho:=HO.out.new hn;have hN:=HN.out.trans hn;have HW1:=hid hw1;have HW2:=hid hw;have HV2:=hid hv;have HO2:=hid ho;have HN2:=hid hN;clear hn hw hv ho hN hw1 HO HW HN;by_cases hsg:decide (x < 0)=decide (y < 0)
   ·have hsg1:(decide (x < 0)==decide (y < 0))=true:=by rw[hsg];simp
    have HSG:=hid hsg;clear hsg;go_wp2_with fail;refine (addWords_calls va vb n1 n2 f1 f2 _ la lb HW1.out HW2.out).mono ?_;rintro e w3 ⟨vc,n3,f3,hn,rfl,hw,hv⟩;have ho:=HO2.out.new hn;have hN:=HN2.out.trans hn;have HW3:=hid hw;have HV3:=hid hv;have HO3:=hid ho;have HN3:=hid hN;clear hn hw hv ho hN HO2 HN2;go_wp2_with fail;refine (made_calls _ vc n3 f3 _ HW3.out).mono ?_;rintro e w4 ⟨v',rfl,hn,hi⟩;rw[add_same HSG.out (by rw[HV3.out,HV.out,HV2.out])] at hi;have ho2:=HO3.out.new hn;have hN2:=HN3.out.trans hn;clear hn;obtain ⟨c0,c1,c2,c3⟩:=ho2.cells;obtain ⟨s',a',l',c',rfl⟩:=hi.shape;have ho3:=ho2.set0 (.int .i64 s');obtain ⟨d0,d1, -,d3⟩:=ho3.cells;have D0:=hid d0;clear d0;obtain ⟨-,e1, -, -⟩:=(ho3.set1 (.slice a' l' c')).cells;have E1:=hid e1;clear ho3 e1;have HP:=hid (stored_post hN2 hi ho2 (by omega));clear hi ho2 hN2;go_wp2_with fail;refine bodyPost_ret (v:=.agg #[.int .i64 s',.slice a' l' c']) (by simp[results,Tryz.results120,go_sem,D0.out,E1.out]) rfl ?_;exact HP.out
   ·have hsg1:(decide (x < 0)==decide (y < 0))=false:=by simpa using hsg
    have HSG:=hid hsg;clear hsg;go_wp2_with fail;refine (compareWords_calls va vb n1 n2 f1 f2 _ HW1.out HW2.out).mono ?_;rintro e w3 ⟨hn,rfl⟩;rw[HV.out,HV2.out];have hw1:=HW1.out.new hn;have hw2:=HW2.out.new hn;have ho:=HO2.out.new hn;have hN:=HN2.out.trans hn;have HW1:=hid hw1;have HW2:=hid hw2;have HO2:=hid ho;have HN2:=hid hN;clear hn hw1 hw2 ho hN;by_cases hle:y.natAbs≤x.natAbs
    ·obtain ⟨r,hr,hr0⟩:∃ r:Int,cmpNat x.natAbs y.natAbs=r∧0≤r:=⟨_,rfl,by unfold cmpNat;rw[if_neg (by omega)];split <;> omega⟩;rw[hr];have HLE:=hid hle;clear hr hle;go_wp2_with fail;refine (subWords_calls va vb n1 n2 f1 f2 _ la HW1.out HW2.out (by rw[HV.out,HV2.out];exact HLE.out)).mono ?_;rintro e w3 ⟨vc,n3,f3,hn,rfl,hw,hv⟩;have hs3:=add_more (k:=vf W64 f3 n3) HSG.out HLE.out (by rw[hv,HV.out,HV2.out]);have ho:=HO2.out.new hn;have hN:=HN2.out.trans hn;have HW3:=hid hw;have HS3:=hid hs3;have HO3:=hid ho;have HN3:=hid hN;clear hn hw hv ho hN hs3 HO2 HN2;go_wp2_with fail;refine (made_calls _ vc n3 f3 _ HW3.out).mono ?_;rintro e w4 ⟨v',rfl,hn,hi⟩;rw[HS3.out] at hi;have ho2:=HO3.out.new hn;have hN2:=HN3.out.trans hn;clear hn;obtain ⟨c0,c1,c2,c3⟩:=ho2.cells;obtain ⟨s',a',l',c',rfl⟩:=hi.shape;have ho3:=ho2.set0 (.int .i64 s');obtain ⟨d0,d1, -,d3⟩:=ho3.cells;have D0:=hid d0;clear d0;obtain ⟨-,e1, -, -⟩:=(ho3.set1 (.slice a' l' c')).cells;have E1:=hid e1;clear ho3 e1;have HP:=hid (stored_post hN2 hi ho2 (by omega));clear hi ho2 hN2;go_wp2_with fail;refine bodyPost_ret (v:=.agg #[.int .i64 s',.slice a' l' c']) (by simp[results,Tryz.results120,go_sem,D0.out,E1.out]) rfl ?_;exact HP.out
    ·obtain ⟨r,hr,hr0⟩:∃ r:Int,cmpNat x.natAbs y.natAbs=r∧¬0≤r:=⟨_,rfl,by unfold cmpNat;rw[if_pos (by omega)];omega⟩;rw[hr];have HLE:=hid hle;clear hr hle;go_wp2_with fail;refine (subWords_calls vb va n2 n1 f2 f1 _ lb HW2.out HW1.out (by rw[HV.out,HV2.out];have:=HLE.out;omega)).mono ?_;rintro e w3 ⟨vc,n3,f3,hn,rfl,hw,hv⟩;have hs3:=add_more (k:=vf W64 f3 n3) (Ne.symm HSG.out) (by have:=HLE.out;omega) (by rw[hv,HV.out,HV2.out]);rw[Int.add_comm y x] at hs3;have ho:=HO2.out.new hn;have hN:=HN2.out.trans hn;have HW3:=hid hw;have HS3:=hid hs3;have HO3:=hid ho;have HN3:=hid hN;clear hn hw hv ho hN hs3 HO2 HN2;go_wp2_with fail;refine (made_calls _ vc n3 f3 _ HW3.out).mono ?_;rintro e w4 ⟨v',rfl,hn,hi⟩;rw[HS3.out] at hi;have ho2:=HO3.out.new hn;have hN2:=HN3.out.trans hn;clear hn;obtain ⟨c0,c1,c2,c3⟩:=ho2.cells;obtain ⟨s',a',l',c',rfl⟩:=hi.shape;have ho3:=ho2.set0 (.int .i64 s');obtain ⟨d0,d1, -,d3⟩:=ho3.cells;have D0:=hid d0;clear d0;obtain ⟨-,e1, -, -⟩:=(ho3.set1 (.slice a' l' c')).cells;have E1:=hid e1;clear ho3 e1;have HP:=hid (stored_post hN2 hi ho2 (by omega));clear hi ho2 hN2;go_wp2_with fail;refine bodyPost_ret (v:=.agg #[.int .i64 s',.slice a' l' c']) (by simp[results,Tryz.results120,go_sem,D0.out,E1.out]) rfl ?_;exact HP.out
 ·clear hs hw h0 hv hz hy;obtain ⟨s',a',l',c',rfl⟩:=HY.out.shape;go_enter Tryz.func120,Tryz.ntmps120;go_wp2_with fail;have hN0:=fun o o' o''=>(((New.refl w).alloc o).alloc o').alloc o'';have HN0:=hid hN0;clear hN0;refine (parts_calls _ x _ (HX.out.new (HN0.out _ _ _))).mono ?_;rintro e w1 ⟨va,n1,f1,rfl,hn,hw,hv⟩;have ho:=(Own2.alloc _ _ 113 (.int .i64 0) (.slice none 0 0) (size_alloc2 w _ _)).new hn;have hN:=(HN0.out _ _ _).trans hn;have hob:=((Own2.alloc _ _ 113 _ _ (size_alloc w _)).new ((New.refl _).alloc _)).new hn;obtain ⟨i0,i1, -, -⟩:=hob.cells;have HO:=hid ho;have HW:=hid hw;have HV:=hid hv;have HN:=hid hN;clear hn hw hv ho hN HN0 hob;go_wp2_with fail;clear i0 i1;refine (parts_calls _ y _ (HY.out.new HN.out)).mono ?_;rintro e w2 ⟨vb,n2,f2,rfl,hn,hw,hv⟩;have hw1:=HW.out.new hn;have la:=hw1.le BX.out HV.out;have lb:=hw.le BY.out hv;have ho:=HO.out.new hn;have hN:=HN.out.trans hn;have HW1:=hid hw1;have HW2:=hid hw;have HV2:=hid hv;have HO2:=hid ho;have HN2:=hid hN;clear hn hw hv ho hN hw1 HO HW HN;by_cases hsg:decide (x < 0)=decide (y < 0)
  ·have hsg1:(decide (x < 0)==decide (y < 0))=true:=by rw[hsg];simp
   have HSG:=hid hsg;clear hsg;go_wp2_with fail;refine (addWords_calls va vb n1 n2 f1 f2 _ la lb HW1.out HW2.out).mono ?_;rintro e w3 ⟨vc,n3,f3,hn,rfl,hw,hv⟩;have ho:=HO2.out.new hn;have hN:=HN2.out.trans hn;have HW3:=hid hw;have HV3:=hid hv;have HO3:=hid ho;have HN3:=hid hN;clear hn hw hv ho hN HO2 HN2;go_wp2_with fail;refine (made_calls _ vc n3 f3 _ HW3.out).mono ?_;rintro e w4 ⟨v',rfl,hn,hi⟩;rw[add_same HSG.out (by rw[HV3.out,HV.out,HV2.out])] at hi;have ho2:=HO3.out.new hn;have hN2:=HN3.out.trans hn;clear hn;obtain ⟨c0,c1,c2,c3⟩:=ho2.cells;obtain ⟨s',a',l',c',rfl⟩:=hi.shape;have ho3:=ho2.set0 (.int .i64 s');obtain ⟨d0,d1, -,d3⟩:=ho3.cells;have D0:=hid d0;clear d0;obtain ⟨-,e1, -, -⟩:=(ho3.set1 (.slice a' l' c')).cells;have E1:=hid e1;clear ho3 e1;have HP:=hid (stored_post hN2 hi ho2 (by omega));clear hi ho2 hN2;go_wp2_with fail;refine bodyPost_ret (v:=.agg #[.int .i64 s',.slice a' l' c']) (by simp[results,Tryz.results120,go_sem,D0.out,E1.out]) rfl ?_;exact HP.out
  ·have hsg1:(decide (x < 0)==decide (y < 0))=false:=by simpa using hsg
   have HSG:=hid hsg;clear hsg;go_wp2_with fail;refine (compareWords_calls va vb n1 n2 f1 f2 _ HW1.out HW2.out).mono ?_;rintro e w3 ⟨hn,rfl⟩;rw[HV.out,HV2.out];have hw1:=HW1.out.new hn;have hw2:=HW2.out.new hn;have ho:=HO2.out.new hn;have hN:=HN2.out.trans hn;have HW1:=hid hw1;have HW2:=hid hw2;have HO2:=hid ho;have HN2:=hid hN;clear hn hw1 hw2 ho hN;by_cases hle:y.natAbs≤x.natAbs
   ·obtain ⟨r,hr,hr0⟩:∃ r:Int,cmpNat x.natAbs y.natAbs=r∧0≤r:=⟨_,rfl,by unfold cmpNat;rw[if_neg (by omega)];split <;> omega⟩;rw[hr];have HLE:=hid hle;clear hr hle;go_wp2_with fail;refine (subWords_calls va vb n1 n2 f1 f2 _ la HW1.out HW2.out (by rw[HV.out,HV2.out];exact HLE.out)).mono ?_;rintro e w3 ⟨vc,n3,f3,hn,rfl,hw,hv⟩;have hs3:=add_more (k:=vf W64 f3 n3) HSG.out HLE.out (by rw[hv,HV.out,HV2.out]);have ho:=HO2.out.new hn;have hN:=HN2.out.trans hn;have HW3:=hid hw;have HS3:=hid hs3;have HO3:=hid ho;have HN3:=hid hN;clear hn hw hv ho hN hs3 HO2 HN2;go_wp2_with fail;refine (made_calls _ vc n3 f3 _ HW3.out).mono ?_;rintro e w4 ⟨v',rfl,hn,hi⟩;rw[HS3.out] at hi;have ho2:=HO3.out.new hn;have hN2:=HN3.out.trans hn;clear hn;obtain ⟨c0,c1,c2,c3⟩:=ho2.cells;obtain ⟨s',a',l',c',rfl⟩:=hi.shape;have ho3:=ho2.set0 (.int .i64 s');obtain ⟨d0,d1, -,d3⟩:=ho3.cells;have D0:=hid d0;clear d0;obtain ⟨-,e1, -, -⟩:=(ho3.set1 (.slice a' l' c')).cells;have E1:=hid e1;clear ho3 e1;have HP:=hid (stored_post hN2 hi ho2 (by omega));clear hi ho2 hN2;go_wp2_with fail;refine bodyPost_ret (v:=.agg #[.int .i64 s',.slice a' l' c']) (by simp[results,Tryz.results120,go_sem,D0.out,E1.out]) rfl ?_;exact HP.out
   ·obtain ⟨r,hr,hr0⟩:∃ r:Int,cmpNat x.natAbs y.natAbs=r∧¬0≤r:=⟨_,rfl,by unfold cmpNat;rw[if_pos (by omega)];omega⟩;rw[hr];have HLE:=hid hle;clear hr hle;go_wp2_with fail;refine (subWords_calls vb va n2 n1 f2 f1 _ lb HW2.out HW1.out (by rw[HV.out,HV2.out];have:=HLE.out;omega)).mono ?_;rintro e w3 ⟨vc,n3,f3,hn,rfl,hw,hv⟩;have hs3:=add_more (k:=vf W64 f3 n3) (Ne.symm HSG.out) (by have:=HLE.out;omega) (by rw[hv,HV.out,HV2.out]);rw[Int.add_comm y x] at hs3;have ho:=HO2.out.new hn;have hN:=HN2.out.trans hn;have HW3:=hid hw;have HS3:=hid hs3;have HO3:=hid ho;have HN3:=hid hN;clear hn hw hv ho hN hs3 HO2 HN2;go_wp2_with fail;refine (made_calls _ vc n3 f3 _ HW3.out).mono ?_;rintro e w4 ⟨v',rfl,hn,hi⟩;rw[HS3.out] at hi;have ho2:=HO3.out.new hn;have hN2:=HN3.out.trans hn;clear hn;obtain ⟨c0,c1,c2,c3⟩:=ho2.cells;obtain ⟨s',a',l',c',rfl⟩:=hi.shape;have ho3:=ho2.set0 (.int .i64 s');obtain ⟨d0,d1, -,d3⟩:=ho3.cells;have D0:=hid d0;clear d0;obtain ⟨-,e1, -, -⟩:=(ho3.set1 (.slice a' l' c')).cells;have E1:=hid e1;clear ho3 e1;have HP:=hid (stored_post hN2 hi ho2 (by omega));clear hi ho2 hN2;go_wp2_with fail;refine bodyPost_ret (v:=.agg #[.int .i64 s',.slice a' l' c']) (by simp[results,Tryz.results120,go_sem,D0.out,E1.out]) rfl ?_;exact HP.out
theorem sub_calls (va vb:Value)(x y:Int)(w:World)(hx:IsInt w va x)(hy:IsInt w vb y)(bx:Bd x)(by':Bd y):Calls Tryz.prog 211 #[va,vb] w (IntPost w (x - y)):=by
  have HX:=hid hx;have HY:=hid hy;have BX:=hid bx;have BY:=hid by';clear bx by';obtain ⟨sa,aa,la,ca,rfl⟩:=hx.shape;obtain ⟨sb,ab,lb,cb,rfl⟩:=hy.shape;clear hx hy;go_enter Tryz.func211,Tryz.ntmps211;go_wp2_with fail;have HN0:=hid fun o o' o''=>((((New.refl w).alloc o).alloc o').alloc o'').drew
  go_region_with (first
    | (go_at_call 179
       refine (neg_calls _ y _ (HY.out.new (HN0.out _ _ _))).mono ?_;rintro e w1 ⟨v1,rfl,hn,hi⟩;have ho:=(Own2.alloc _ _ 113 (.int .i64 0) (.slice none 0 0) (size_alloc2 w _ _)).new ((New.refl _).drew.trans hn);have hoa:=(((Own2.alloc w _ 113 (.int .i64 sa) (.slice aa la ca) rfl).new ((New.refl _).alloc _)).new ((New.refl _).alloc _).drew).new hn;obtain ⟨i0,i1, -, -⟩:=hoa.cells;have hN:=(HN0.out _ _ _).trans hn;have HI:=hid hi;have HO:=hid ho;have HN:=hid hN
       clear hn hi ho hoa hN HN0)
    | (go_at_call 120
       refine (add_calls _ v1 x (-y) w1 (HX.out.new HN.out) HI.out BX.out BY.out.neg).mono ?_;rintro e w2 ⟨v',rfl,hn,hi⟩;have ho2:=HO.out.new hn;have hN2:=HN.out.trans hn;clear hn HO HN HI i0 i1;obtain ⟨c0,c1,c2,c3⟩:=ho2.cells;obtain ⟨s',a',l',c',rfl⟩:=hi.shape;have ho3:=ho2.set0 (.int .i64 s');obtain ⟨d0,d1, -,d3⟩:=ho3.cells;have D0:=hid d0;clear d0;obtain ⟨-,e1, -, -⟩:=(ho3.set1 (.slice a' l' c')).cells;have E1:=hid e1;clear ho3 e1;have HP:=hid (stored_post hN2 hi ho2 (by omega))
       clear hi ho2 hN2))
  all_goals go_wp2_with fail
  all_goals
    refine bodyPost_ret (v:=.agg #[.int .i64 s',.slice a' l' c']) (by simp[results,Tryz.results211,go_sem,D0.out,E1.out]) rfl ?_;rw[Int.sub_eq_add_neg];exact HP.out
theorem cmp_small_lt {x y:Int}(h:x < y):(-1:Int)=(x - y).sign:=(Int.sign_eq_neg_one_of_neg (by omega)).symm
theorem cmp_small_gt {x y:Int}(h:y < x):(1:Int)=(x - y).sign:=(Int.sign_eq_one_of_pos (by omega)).symm
theorem cmp_small_eq {x y:Int}(h1:¬x < y)(h2:¬y < x):(0:Int)=(x - y).sign:=by
 have:x - y=0:=by omega
 rw[this];rfl
def SignPost (w:World)(z:Int)(e:Ending)(w':World):Prop:=e=.returned (.int .i64 z.sign)∧New w w'
theorem cmp_calls (va vb:Value)(x y:Int)(w:World)(hx:IsInt w va x)(hy:IsInt w vb y)(bx:Bd x)(by':Bd y):Calls Tryz.prog 160 #[va,vb] w (SignPost w (x - y)):=by
 have q1:=eql_nil;have HX:=hid hx;have HY:=hid hy;have BX:=hid bx;have BY:=hid by';clear bx by';rcases hx with ⟨rfl,lo,hi⟩ | ⟨b,off,n,cap,f,s,rfl,hs,hw,h0,hv,hz⟩
 ·rcases hy with ⟨rfl,lo',hi'⟩ | ⟨b',off',n',cap',f',s',rfl,hs',hw',h0',hv',hz'⟩
  ·clear lo hi lo' hi' HX HY;rcases Int.lt_trichotomy x y with h | h | h
   ·have HS:=hid (cmp_small_lt h);go_enter Tryz.func160,Tryz.ntmps160;go_wp2_with fail;go_ret;exact ⟨by rw[←HS.out];rfl,((New.refl w).alloc _).alloc _⟩
   ·have HS:=hid (cmp_small_eq (x:=x) (y:=y) (by omega) (by omega))
    have h1:¬x < y:=by omega
    have h2:¬y < x:=by omega
    clear h;go_enter Tryz.func160,Tryz.ntmps160;go_wp2_with fail;go_ret;exact ⟨by rw[←HS.out];rfl,((New.refl w).alloc _).alloc _⟩
   ·have HS:=hid (cmp_small_gt h)
    have h1:¬x < y:=by omega
    go_enter Tryz.func160,Tryz.ntmps160;go_wp2_with fail;go_ret;exact ⟨by rw[←HS.out];rfl,((New.refl w).alloc _).alloc _⟩
  ·clear lo hi hs' hw' h0' hv' hz';go_enter Tryz.func160,Tryz.ntmps160;go_wp2_with fail;have HN0:=hid fun o o'=>((New.refl w).alloc o).alloc o';refine (sub_calls _ _ x y _ (HX.out.new (HN0.out _ _)) (HY.out.new (HN0.out _ _)) BX.out BY.out).mono ?_;rintro e w1 ⟨v1,rfl,hn,hi⟩;have HN:=hid ((HN0.out _ _).trans hn);have HI:=hid hi;clear hn hi HN0;go_wp2_with fail;refine (sign_calls _ _ _ HI.out).mono ?_;rintro e w2 ⟨rfl,hn⟩;go_wp2_with fail;go_ret;exact ⟨rfl,HN.out.trans hn⟩
 ·clear hs hw h0 hv hz hy;obtain ⟨s',a',l',c',rfl⟩:=HY.out.shape;go_enter Tryz.func160,Tryz.ntmps160;go_wp2_with fail;have HN0:=hid fun o o'=>((New.refl w).alloc o).alloc o';refine (sub_calls _ _ x y _ (HX.out.new (HN0.out _ _)) (HY.out.new (HN0.out _ _)) BX.out BY.out).mono ?_;rintro e w1 ⟨v1,rfl,hn,hi⟩;have HN:=hid ((HN0.out _ _).trans hn);have HI:=hid hi;clear hn hi HN0;go_wp2_with fail;refine (sign_calls _ _ _ HI.out).mono ?_;rintro e w2 ⟨rfl,hn⟩;go_wp2_with fail;go_ret;exact ⟨rfl,HN.out.trans hn⟩
end Go.Proofs.YtnjonlnemagomaaGreatDoor
