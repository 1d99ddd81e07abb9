/- Part CardBn07. -/
import Derived.Deep.SlicePairs
import Derived.Lib.SmallJoins
import Derived.Maps.AppendAt
import Derived.Laws.AppendOwnNone
import Derived.JoinedOf
import Derived.Test.YtnjonlnemagomaaGreatDoorCardBn01
import Derived.Test.YtnjonlnemagomaaGreatDoorCardBn02
import Derived.Test.YtnjonlnemagomaaGreatDoorCardBn06
namespace Go.Proofs.YtnjonlnemagomaaGreatDoor
open Go.RowKit Big Go.Lib Go.ChangeShapes Go.WideShapes Go.Deep Go.Proofs.Tryz
set_option maxRecDepth 100000
set_option maxHeartbeats 8000000
set_option linter.all false
theorem rs_one':rs 1=⟨#[49]⟩:=by decide +kernel
theorem fb_half:FB 10 (1 / 2):=by
 have e:(1 / 2:Rat)=Rat.divInt 1 2:=by rw[Rat.divInt_eq_div];rfl
 rw[e];exact FB.divInt (by unfold BdK;decide) (by unfold BdK;decide) (by decide)
theorem rfb_one:RFB 10 1:=rfb_int (z:=1) (by decide) (by omega)
theorem fb_one:FB 10 1:=FB.int (x:=1) (by unfold BdK;decide) (by omega)
theorem mean_bd {p r:Rat}(h:p < r):p≤(p+r)*(1 / 2)∧(p+r)*(1 / 2)≤r:=⟨by grind,by grind⟩
theorem part_bd {p r t:Rat}(h:p < r)(h0:0≤t)(h1:t≤1):p≤p+t*(r - p)∧p+t*(r - p)≤r:=by
 have hd:0≤r - p:=by grind
 have e1:=Rat.mul_nonneg h0 hd;have e2:=Rat.mul_nonneg (show (0:Rat)≤1 - t by grind) hd;exact ⟨by grind,by grind⟩
theorem mid_all (pts:List (ByteArray × ByteArray))(xs ys:Nat→Rat)(b off cap m p1:Nat)(hp1:p1≤255)(hn:pts.length=m+1)(hl:m+1≤6)(hP:∀ (k:Nat) (h:k < pts.length),pts[k].1=rs (xs k)∧pts[k].2=rs (ys k)∧FB 56 (xs k)∧FB 56 (ys k))(hinc:∀ k,k+1 < pts.length→xs k < xs (k+1))(k:Nat)(hk:k+1 < m+1):
  ∃ MX M MY T V AY D1 D2 D3 D4 P:ByteArray,BdMid pts b off (m+1) cap p1 (rs (xs k)) (rs (ys k)) (rs (xs (k+1))) (rs (ys (k+1))) MX M MY T V AY D1 D2 D3 D4 P:=by
 have ah:∀ (k:Nat) (h:k < pts.length),pts[k].1=rs (xs k)∧pts[k].2=rs (ys k)∧FB 60 (xs k)∧FB 60 (ys k):=fun k h=>⟨(hP k h).1,(hP k h).2.1,(hP k h).2.2.1.mono (by omega),(hP k h).2.2.2.mono (by omega)⟩;have h0:=hP k (by omega);have h1:=hP (k+1) (by omega);have af:=hinc k (by omega);have ad:=fun q (hq:FB 200 q) (l1:xs k≤q) (l2:q≤xs (k+1)) (W:World) (hW:Env W) (hR:RdP W (some ⟨b,off,none⟩) pts)=>blend_any pts xs ys ah hinc (by omega) k (by omega) q hq l1 l2 (some ⟨b,off,none⟩) cap W hW hR;rw[hn] at ad;clear hP ah hinc;obtain ⟨-, -,aa,ac⟩:=h0;obtain ⟨-, -,ab,ae⟩:=h1;generalize xs k=x0 at *;generalize xs (k+1)=x1 at *;generalize ys k=y0 at *;generalize ys (k+1)=y1 at *;have ag:=RFB.of aa;have ai:=RFB.of ab;have aj:=RFB.of ac;have an:=RFB.of ae;have al:=sub_ne af;have ak:=mean_bd af;obtain ⟨t0,t1⟩:=partQ_bd hp1;have am:=part_bd af t0 t1;have fp:FB 10 (partQ p1):=FB.divInt (by unfold BdK;rw[Int.natAbs_natCast];exact Nat.lt_of_le_of_lt hp1 (by decide)) (by unfold BdK;decide) (by decide);have fT:FB 200 (x0+partQ p1*(x1 - x0)):=(aa.add (fp.mul (ab.sub aa))).mono (by omega);have fM:FB 200 ((x0+x1)*(1 / 2)):=((aa.add ab).mul fb_half).mono (by omega);have bM:=ad _ fM ak.1 ak.2;have bT:=ad _ fT am.1 am.2;rw[blendQ_mean y0 y1 x0 x1 af] at bM;have ao:=blendQ_slope y0 y1 (x0+partQ p1*(x1 - x0)) x0 x1 al;have fV:FB 800 (blendQ y0 y1 (x0+partQ p1*(x1 - x0)) x0 x1):=(ac.add (((ae.sub ac).mul (fT.sub aa)).div (ab.sub aa) al)).mono (by omega);have rV:=RFB.of fV;have rT:=RFB.of fT
 refine ⟨rs (x0+x1),rs ((x0+x1)*(1 / 2)),rs ((y0+y1)*(1 / 2)),rs (x0+partQ p1*(x1 - x0)),rs (blendQ y0 y1 (x0+partQ p1*(x1 - x0)) x0 x1),rs (y0+y1),rs (blendQ y0 y1 (x0+partQ p1*(x1 - x0)) x0 x1 - y0),rs (x1 - x0),rs (y1 - y0),rs (x0+partQ p1*(x1 - x0) - x0),
  rs ((blendQ y0 y1 (x0+partQ p1*(x1 - x0)) x0 x1 - y0)*(x1 - x0)),⟨fun W=>?_,fun W=>?_,bM,fun W=>?_,bT,fun W=>?_,fun W=>?_,fun W=>?_,fun W=>?_,fun W=>?_,fun W=>?_,fun W=>?_,fun W=>?_,fun W=>?_⟩⟩
 ·exact (raddQ_calls 56 56 x0 x1 W ag ai (by omega)).mono fun e w' h=>RetS.to rfl h
 ·exact (rhalf_calls 113 (x0+x1) W (RFB.of (aa.add ab)) (by omega)).mono fun e w' h=>RetS.to rfl h
 ·exact (lwithin_calls x0 x1 p1 W hp1 ag ai).mono fun e w' h=>RetS.to rfl h
 ·exact (raddQ_calls 56 56 y0 y1 W aj an (by omega)).mono fun e w' h=>RetS.to rfl h
 ·exact (rhalf_calls 113 (y0+y1) W (RFB.of (ac.add ae)) (by omega)).mono fun e w' h=>RetS.to rfl h
 ·have h:=rcheck_calls (rs (blendQ y0 y1 (x0+partQ p1*(x1 - x0)) x0 x1)) W (by have:=fbs_len fV (by omega);omega);rw[rs_list,ratErr_ratText (fV.fitsN (by omega))] at h;exact h
 ·exact (rsubQ_calls 800 56 _ y0 W rV aj (by omega)).mono fun e w' h=>RetS.to rfl h
 ·exact (rsubQ_calls 56 56 x1 x0 W ai ag (by omega)).mono fun e w' h=>RetS.to rfl h
 ·exact (rmulQ_calls 857 113 _ _ W (RFB.of (fV.sub ac)) (RFB.of (ab.sub aa)) (by omega)).mono fun e w' h=>RetS.to rfl h
 ·exact (rsubQ_calls 56 56 y1 y0 W an aj (by omega)).mono fun e w' h=>RetS.to rfl h
 ·exact (rsubQ_calls 200 56 _ x0 W rT ag (by omega)).mono fun e w' h=>RetS.to rfl h
 ·rw[ao];exact (rmulQ_calls 113 257 _ _ W (RFB.of (ae.sub ac)) (RFB.of (fT.sub aa)) (by omega)).mono fun e w' h=>RetS.to rfl h
theorem blends_law (pts:List (ByteArray × ByteArray))(a:Option Addr)(n cap p1:Nat)(w:World)(he:Env w)(hr:RdP w a pts)(hn:pts.length=n)(hp:p1≤255)(hsz:∀ (k:Nat) (h:k < pts.length),pts[k].1.size≤9223372036854775807∧pts[k].2.size≤9223372036854775807):
  Calls prog 6 #[.slice a n cap,.int .u8 (p1:Int)] w fun e w'=>e=.returned (.bool true)∧New w w':=by
 have hx:∀ (k:Nat) (h:k < pts.length),(fun k=>if h:k < pts.length then pts[k].1 else ⟨#[]⟩) k=pts[k].1:=fun k h=>by show (if h:k < pts.length then pts[k].1 else ⟨#[]⟩)=_;rw[dif_pos h]
 have hy:∀ (k:Nat) (h:k < pts.length),(fun k=>if h:k < pts.length then pts[k].2 else ⟨#[]⟩) k=pts[k].2:=fun k h=>by show (if h:k < pts.length then pts[k].2 else ⟨#[]⟩)=_;rw[dif_pos h]
 generalize (fun k=>if h:k < pts.length then pts[k].1 else (⟨#[]⟩:ByteArray))=xf at hx;generalize (fun k=>if h:k < pts.length then pts[k].2 else (⟨#[]⟩:ByteArray))=yf at hy;refine blends_walk pts a n cap p1 xf yf (BrkUp pts n) w he hr (fun h0=>?_) (fun h6 W hW=>rbreaks_calls pts a cap n W hn h6 hW hsz) (fun k hk W=>?_) (fun k hk W=>?_) ?_
 ·obtain ⟨b,ab,e, -, -⟩:=hr 0 (by omega);refine ⟨b,ab,e,fun k hk=>?_⟩;obtain ⟨b',af,e',h1,h2⟩:=hr k (by omega);rw[e] at e';injection e' with e';injection e' with e1 e2;subst e1 e2;rw[hx k (by omega),hy k (by omega)];exact ⟨h1,h2⟩
 ·rw[hx k (by omega)];exact rfew6_calls _ W (by have:=(hsz k (by omega)).1;omega)
 ·rw[hy k (by omega)];exact rfew6_calls _ W (by have:=(hsz k (by omega)).2;omega)
 intro b ab m _ hm h6 hB hF;subst hm;obtain ⟨xs,ys,ae,ad⟩:=hB
 have hP:∀ (k:Nat) (h:k < pts.length),pts[k].1=rs (xs k)∧pts[k].2=rs (ys k)∧FB 56 (xs k)∧FB 56 (ys k):=fun k h=>by
  have e:=ae k h (by omega);obtain ⟨f1,f2⟩:=hF k (by omega);rw[hx k h,e.1] at f1;rw[hy k h,e.2.1] at f2;obtain ⟨q1,g1,b1⟩:=short_num (n:=14) f1.1 f1.2 (by omega);obtain ⟨q2,g2,b2⟩:=short_num (n:=14) f2.1 f2.2 (by omega);rw[rs_inj g1,rs_inj g2];exact ⟨by rw[e.1,rs_inj g1],by rw[e.2.1,rs_inj g2],b1,b2⟩
 have aa:∀ k,k+1 < pts.length→xs k < xs (k+1):=fun k hk=>ad k (by omega)
 have ac:∀ j k,j < k→k < pts.length→xs j < xs k:=by
  intro j k ag hk
  induction k with
  | zero=>omega
  | succ k ih=>
   by_cases e:j=k
   ·rw[e];exact aa k hk
   ·exact lt_tr (ih (by omega) (by omega)) (aa k hk)
 have ht:TabOk pts xs ys:=⟨fun k hk=>by rw[(hP k hk).1];exact TxtIs.rs (hP k hk).2.2.1 (by omega),fun k hk=>by rw[(hP k hk).2.1];exact TxtIs.rs (hP k hk).2.2.2 (by omega),aa⟩;have f0:=(hP 0 (by omega)).2.2.1;have fm:=(hP m (by omega)).2.2.1;have x0:xf 0=rs (xs 0):=(hx 0 (by omega)).trans (hP 0 (by omega)).1;have xm:xf m=rs (xs m):=(hx m (by omega)).trans (hP m (by omega)).1;refine ⟨rs (xs 0 - 1),rs (xs m+1 / 2),⟨fun W=>?_,fun W hW hR=>?_,fun W=>?_,fun W hW hR=>?_,fun k hk W hW hR=>?_,fun k hk=>?_⟩⟩
 ·rw[x0,←rs_one'];exact (rsubQ_calls 56 10 (xs 0) 1 W (RFB.of f0) rfb_one (by omega)).mono fun e w' h=>RetS.to rfl h
 ·rw[←hn];exact blend_low pts xs ys ht (by omega) (by omega) (rs (xs 0 - 1)) (xs 0 - 1) (TxtIs.rs (f0.sub fb_one) (by omega)) (by grind) (some ⟨b,ab,none⟩) cap W hW hR
 ·rw[xm,←rs_half];exact (raddQ_calls 56 2 (xs m) (1 / 2) W (RFB.of fm) rfb_half (by omega)).mono fun e w' h=>RetS.to rfl h
 ·rw[←hn];refine blend_high pts xs ys ht (by omega) (by omega) (rs (xs m+1 / 2)) (xs m+1 / 2) (TxtIs.rs (fm.add fb_half) (by omega)) (fun j hj=>?_) (some ⟨b,ab,none⟩) cap W hW hR;by_cases e:j=m
  ·rw[e];grind
  ·have:=ac j m (by omega) (by omega)
   grind
 ·rw[hx k (by omega),hy k (by omega),←hn];have h:=blend_at pts xs ys ht (by omega) k (by omega) (rs (xs k)) (by rw[←(hP k (by omega)).1];exact ht.x k (by omega)) (fun j hj=>ac j k hj (by omega)) (some ⟨b,ab,none⟩) cap W hW hR;rw[←(hP k (by omega)).1] at h;exact h
 ·rw[(hx k (by omega)).trans (hP k (by omega)).1,(hy k (by omega)).trans (hP k (by omega)).2.1,(hx (k+1) (by omega)).trans (hP (k+1) (by omega)).1,(hy (k+1) (by omega)).trans (hP (k+1) (by omega)).2.1];exact mid_all pts xs ys b ab cap m p1 hp hn h6 hP aa k hk
theorem blends_lifted (os:Os)(started:os.Started)(H:Type)(enc:TypeId × Value→H):
  ReturnsInHanded {} Tryz.checked os 6 .any (fun w aa=>(Rows.numberBlendsSpec.pre enc prog Tryz.f6 [] false w aa∧laidMetH prog Listed w)∧sizedMet enc prog Tryz.f6 (OpenSpec.ofChange Rows.numberBlendsSpec) false w aa)
   (Rows.numberBlendsSpec.post enc prog Tryz.f6 false true false false):=by
 refine returns_and_shaped (C:=Tryz.checked) (X:=fun w _=>laidMetH prog Listed w) (fun _ _ _ hh h=>h.of_heap hh) own started (by kernel_rfl) func6
  (ChangeSpec.witness_shaped (enc:=enc) (C:=Tryz.checked) (os:=os) (X:=fun w _=>laidMetH prog Listed w) false (World.laidAll prog os Listed) #[.slice none 0 0,.int .u8 0] 8 (World.laidAll_os _ _ _)
   (World.shaped_of_ZipB (by kernel_rfl) (by kernel_rfl)) (by kernel_rfl) (by kernel_rfl) (by kernel_rfl) (witness_laid os _)) ?_
 intro W ad aa ds gs before ac hW hL aj;have ab:∀ (j:Nat) t v,Tryz.f6.params[j]?=some t→aa[j]?=some v→Value.okWide prog W .any ad t v:=ac;have af:=hW;obtain ⟨p,q,ae,hV,rfl,_,_⟩:=hW;have hA:DataW.TrodAll enc prog W 0 (fun _=>true) true Tryz.f6.params.toList aa.toList ds p:=ae;rw[Tryz.params6] at hA ab;obtain ⟨v0,v1,d0,d1,p0,p1,rfl,rfl,rfl,h0,h1⟩:=trodAll_two hA;obtain ⟨rfl,rfl⟩:=trodVars_none hV;have he:=env_of hL aj
 have ag:∀ x∈p0 ++ p1,x.block < W.heap.size:=fun x hx=>by simpa using af.lt x (by simpa using hx)
 have al:=ab 0 _ _ rfl rfl;have am:=ab 1 _ _ rfl rfl;clear ae ac ab hA
 have up:∀ W',New W W'→DataW.TrodAll enc prog W' 0 (fun b=>decide (b < W.heap.size)) true [22,5] [v0,v1] [d0,d1] (p0 ++ p1):=fun W' hn=>
  trodAll_mk2 (Below.trod laidOut (by kernel_rfl) (of_decide_eq_true (by kernel_rfl)) h0 hn fun x hx=>ag x (by simp[hx]))
   (Below.trod laidOut (by kernel_rfl) (of_decide_eq_true (by kernel_rfl)) h1 hn fun x hx=>ag x (by simp[hx]))
 obtain ⟨a,ah,an,rfl,hr,ak⟩:=in_points underlying22 underlying30 (by kernel_rfl) rfl rfl (by kernel_rfl) (by kernel_rfl) underlying23 underlying23 al h0;obtain ⟨k0,rfl,ai⟩:=in_u8 underlying5 am h1;refine (blends_law an a _ ah k0 W he hr rfl ai ak).mono fun e W' hp=>?_;obtain ⟨rfl,hn⟩:=hp;exact ⟨_,rfl,_,_,_,[],p0 ++ p1,[],af,trodAll_mk1 (shut_bool underlying4 _),up W' hn,rfl,Below.frame hn _,fun h=>by cases h⟩
theorem blends_holds:Rows.NumberBlendsSaid:=
 OpenClaim.holds_of_wide 6 Tryz.f6 rfl rfl rfl rfl rfl rfl rfl ⟨rfl,rfl,rfl,rfl,rfl⟩ rfl rfl rfl rfl rfl blends_named func6 blends_closed
  (of_decide_eq_true (by kernel_rfl)) (by unfold Func.isWrapper;first | (rw[if_pos (by decide +kernel)];kernel_rfl) | (rw[if_neg (by decide +kernel)];exact ⟨rfl,rfl⟩))
  (fun os started H enc _=>blends_lifted os started H enc)
end Go.Proofs.YtnjonlnemagomaaGreatDoor
