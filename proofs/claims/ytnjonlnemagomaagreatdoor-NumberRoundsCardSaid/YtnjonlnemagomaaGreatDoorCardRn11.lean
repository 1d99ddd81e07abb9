/- Part CardRn11. -/
import Derived.Maps.OwnOps
import Derived.Deep.DeepCutAuto
import Derived.Lib.SmallJoins
import Derived.Maps.AppendAt
import Derived.Laws.AppendOwnNone
import Derived.JoinedOf
import Derived.Test.YtnjonlnemagomaaGreatDoorCardRn10
namespace Go.Proofs.YtnjonlnemagomaaGreatDoor
open Go.RowKit Big Go.Lib Go.ChangeShapes Go.WideShapes Go.Deep Go.Proofs.Tryz
set_option maxRecDepth 100000
set_option maxHeartbeats 8000000
set_option linter.all false
theorem nfloat_any (q:Rat)(R:Nat)(hf:FB 600 q)(hR:NearF q R)(w:World)(he:Env w):Calls prog 41 #[.string (rs q)] w (FltPost w (fltBits (decide (q.num < 0)) R) (fltErr R)):=by
 have aa:=hf.fitsN (by omega);have ab:=fbs_len hf (by omega);by_cases h0:q.num=0
 ·have e0:q=0:=Rat.num_eq_zero.1 h0;subst e0;obtain rfl:=hR.zero;exact nfloat_zero (rs 0) 0 (rs_list _) aa ab h0 w he
 ·exact nfloat_calls (rs q) q R (rs_list _) aa ab h0 hR w he
theorem num_neg {q:Rat}:q.num < 0 ↔ q < 0:=by
 have:=Rat.num_nonneg (q:=q);constructor
 ·intro h;exact Rat.not_le.1 fun h2=>by have:=this.2 h2;omega
 ·intro h;rcases Int.lt_or_le q.num 0 with g | g
  ·exact g
  ·exact absurd (this.1 g) (Rat.not_le.2 h)
theorem absQ_R (q:Rat):absQ q=absR q:=by
 unfold absQ absR;by_cases h:q < 0
 ·rw[if_pos h,if_pos (num_neg.2 h)]
 ·rw[if_neg h,if_neg (fun g=>h (num_neg.1 g))]
theorem rfb_abs {q:Rat}{k:Nat}(h:RFB k q):RFB k (absQ q):=by
 unfold absQ;split
 ·exact h.neg
 ·exact h
theorem sign_geR {x y:Rat}(h:0≤(x - y).num.sign):y≤x:=Rat.not_lt.1 fun g=>by rw[cmp_ltF g] at h;omega
theorem flt_sw (s:Bool){R:Nat}(h:R < 2139095040):fltBits s R=Flo.sw (s && R != 0) R:=by
 unfold fltBits Flo.sw;rw[if_pos h]
 cases (s && R != 0)
 ·rfl
 ·rw[if_pos rfl,if_pos rfl,Nat.add_comm]
theorem sg_zero (s:Bool):sg s 0=0:=by
 have e:Flo.V Ieee.single 0=0:=by decide +kernel
 unfold sg;rw[e]
 cases s <;> rfl
theorem flt_val (s:Bool){R:Nat}(h:R < 2139095040):Flo.Fin Ieee.single (fltBits s R)∧Flo.sval Ieee.single (fltBits s R)=sg s R:=by
 rw[flt_sw s h];obtain ⟨-, -,a,b⟩:=Flo.sw_fin (s && R != 0) h;refine ⟨a,?_⟩;rw[b];by_cases h0:R=0
 ·subst h0;rw[sg_zero]
  cases s <;> decide +kernel
 ·have e:(R != 0)=true:=by simpa using h0
  rw[e,Bool.and_true];rfl
theorem fq_sg {x:Nat}{s:Bool}{R:Nat}(h:Flo.sval Ieee.single x=sg s R):fq x=((sg s R:Int):Rat)*twoQ (-149):=by
 unfold fq;rw[h,Rat.divInt_eq_div,Rat.div_def,twoQ_neg]
 have e:twoQ 149=(((2:Int)^149:Int):Rat):=by
  rw[show (149:Int)=((149:Nat):Int) from rfl,twoQ_cast];rfl
 rw[e]
theorem flt_lt32 (s:Bool){R:Nat}(h:R < 2139095040):fltBits s R < 4294967296:=by
 unfold fltBits;rw[if_pos h];split <;> omega
theorem isFin_sw (s:Bool){R:Nat}(h:R < 2139095040):isFin (Flo.sw s R)=true:=by
 unfold isFin;obtain ⟨m,k,e, -⟩:=Flo.sread_sw s h;rw[e]
theorem isFin_flt (s:Bool){R:Nat}(h:R < 2139095040):isFin (fltBits s R)=true:=by
 rw[flt_sw s h];exact isFin_sw _ h
theorem fltErr_zero {R:Nat}(h:fltErr R=0):R < 2139095040:=by
 unfold fltErr at h;split at h
 ·assumption
 ·cases h
theorem fltErr_two (R:Nat):fltErr R=0∨fltErr R=4:=by
 unfold fltErr;split
 ·exact .inl rfl
 ·exact .inr rfl
theorem dist_sc (a:Rat)(z:Int):absR (a - (z:Rat)*twoQ (-149))*twoQ 149=absR (a*twoQ 149 - (z:Rat)):=by
 have p:=twoQ_pos 149
 have e1:(a - (z:Rat)*twoQ (-149))*twoQ 149=a*twoQ 149 - (z:Rat):=by
  rw[Rat.sub_eq_add_neg,Rat.add_mul,Rat.neg_mul,Rat.mul_assoc,←twoQ_add,show (-149:Int)+149=0 by omega,show twoQ 0=1 from rfl,Rat.mul_one,←Rat.sub_eq_add_neg]
 rw[←e1,Rat.mul_comm,←absR_mul p,Rat.mul_comm]
theorem best_q {a:Rat}{R:Nat}(h:NearF a R)(s:Bool)(r:Nat):absR (a - ((sg (decide (a.num < 0)) R:Int):Rat)*twoQ (-149))≤absR (a - ((sg s r:Int):Rat)*twoQ (-149)):=by
 refine Rat.le_of_mul_le_mul_right ?_ (twoQ_pos 149);rw[dist_sc,dist_sc,show decide (a.num < 0)=decide (a < 0) from decide_eq_decide.2 num_neg];exact h.best s r
theorem own_sign (s:Bool){u:Nat}(h:u < 2139095040):sg (decide ((fq (Flo.sw s u)).num < 0)) u=sg s u:=by
 have hv:=(Flo.sw_fin s h).2.2.2;have e:fq (Flo.sw s u)=((sg s u:Int):Rat)*twoQ (-149):=fq_sg (x:=Flo.sw s u) (s:=s) (R:=u) hv;have p:=twoQ_pos (-149)
 have aa:(fq (Flo.sw s u)).num < 0 ↔ sg s u < 0:=by
  rw[num_neg,e];constructor
  ·intro hh;rcases Int.lt_or_le (sg s u) 0 with g | g
   ·exact g
   ·have g2:(0:Rat)≤((sg s u:Int):Rat):=Rat.intCast_le_intCast.2 g;exact absurd (Rat.mul_nonneg g2 (Rat.le_of_lt p)) (Rat.not_le.2 hh)
  ·intro hh;have g2:((sg s u:Int):Rat) < 0:=Rat.intCast_lt_intCast.2 hh;have:=Rat.mul_lt_mul_of_pos_right g2 p
   rwa [Rat.zero_mul] at this
 rw[decide_eq_decide.2 aa];by_cases h0:u=0
 ·subst h0;rw[sg_zero,sg_zero]
 ·have hp:=Flo.V_lt Ieee.single (r:=0) (r':=u) (by omega);rw[Flo.V_zero] at hp
  cases s
  ·have:¬sg false u < 0:=by show ¬((Flo.V Ieee.single u:Nat):Int) < 0;omega
   rw[decide_eq_false this]
  ·have:sg true u < 0:=by show -((Flo.V Ieee.single u:Nat):Int) < 0;omega
   rw[decide_eq_true this]
theorem order_val {x y:Nat}(hx:Flo.Fin Ieee.single x)(hy:Flo.Fin Ieee.single y):FloatKind.f32.format.order x y=some (compare (Flo.sval Ieee.single x) (Flo.sval Ieee.single y)):=Flo.order_fin Ieee.single hx hy
theorem not_gt {x y:Nat}(hx:Flo.Fin Ieee.single x)(hy:Flo.Fin Ieee.single y)(h:Flo.sval Ieee.single x≤Flo.sval Ieee.single y):(FloatKind.f32.format.order x y==some .gt)=false:=by
 rw[order_val hx hy,cmp_gt];exact decide_eq_false (by omega)
theorem not_lt {x y:Nat}(hx:Flo.Fin Ieee.single x)(hy:Flo.Fin Ieee.single y)(h:Flo.sval Ieee.single y≤Flo.sval Ieee.single x):(FloatKind.f32.format.order x y==some .lt)=false:=by
 rw[order_val hx hy,cmp_lt];exact decide_eq_false (by omega)
theorem not_neF {x y:Nat}(hx:Flo.Fin Ieee.single x)(hy:Flo.Fin Ieee.single y)(h:Flo.sval Ieee.single x=Flo.sval Ieee.single y):(FloatKind.f32.format.order x y != some .eq)=false:=by
 unfold bne;rw[order_val hx hy,cmp_eq,decide_eq_true h];rfl
theorem middle_le {a f r:Rat}(hb:absR (a - f)≤absR (a - r))(h:f < r):a≤(f+r)*(1 / 2):=by
 unfold absR at hb;split at hb <;> split at hb <;> grind
theorem neg_flt (s:Bool){R:Nat}(h:R < 2139095040):Op.negFloat .f32 (fltBits s R)=Flo.sw (!(s && R != 0)) R:=by
 rw[flt_sw s h];exact Flo.neg_sw _ (by omega)
theorem rounds_above {a:Rat}{R:Nat}(fa:FB 330 a)(hR:NearF a R)(hr:R < 2139095040)(hs:(FloatKind.f32.format.order (fltBits (decide (a.num < 0)) R) 0==some .lt)=false):
  RoC (rs a) (fltBits (decide (a.num < 0)) R) (rs (fq (fltBits (decide (a.num < 0)) R))):=by
 have hb:=fun r=>best_q hR false r;obtain ⟨hF,hv⟩:=flt_val (decide (a.num < 0)) hr;have hq:=fq_sg hv;obtain ⟨f,hf⟩:∃ f,fltBits (decide (a.num < 0)) R=f:=⟨_,rfl⟩;have hz:=pos_float (show 0 < 2139095040 by decide);rw[hf] at hs hq hv hF⊢;rw[order_val hF hz.2.2.1,cmp_lt,hz.2.2.2,Flo.V_zero] at hs;have aa:=of_decide_eq_false hs
 have ae:f=R:=by
  rw[hv]at aa;rw[←hf,flt_sw _ hr]
  cases hsg:(decide (a.num < 0) && R != 0)
  ·rfl
  ·rw[Bool.and_eq_true] at hsg;obtain ⟨g1,g2⟩:=hsg;rw[g1] at aa
   have g3:R≠0:=by simpa using g2
   have hp:=Flo.V_lt Ieee.single (r:=0) (r':=R) (by omega);rw[Flo.V_zero] at hp;exact absurd (show -((Flo.V Ieee.single R:Nat):Int) < ((0:Nat):Int) by omega) aa
 have ad:f < 2139095040:=by rw[ae];exact hr
 rw[←hq]at hb;refine ⟨fun W=>(rabove_calls f W ad).mono fun e w' h=>⟨?_,h.2⟩⟩;rcases h.1 with h1 | ⟨r,ab,af,h1⟩
 ·exact .inl h1
 ·have ac:=hb r;have er:fq r=((sg false r:Int):Rat)*twoQ (-149):=fq_sg (x:=r) (s:=false) (R:=r) (pos_float ab).2.2.2;rw[←er] at ac;have r1:RFB 280 (fq f):=fq_rfb ad;have r2:RFB 280 (fq r):=fq_rfb ab;have hm:=middle_le ac af;refine .inr ⟨r,rs (fq r),rs (fq f+fq r),rs ((fq f+fq r)*(1 / 2)),(a - (fq f+fq r)*(1 / 2)).num.sign,h1,sign_le.2 hm,fun W=>?_,fun W=>?_,fun W=>?_,fun W=>?_⟩
  ·exact (rexact_pos r W ab).mono fun e w' h=>RetS.to rfl h
  ·exact (raddQ_calls 280 280 _ _ W r1 r2 (by omega)).mono fun e w' h=>RetS.to rfl h
  ·exact (rhalf_calls 561 _ W (r1.add r2) (by omega)).mono fun e w' h=>RetS.to rfl h
  ·exact rcmpQ_calls 330 563 a _ W (RFB.of fa) ((r1.add r2).mul rfb_half) (by omega)
theorem rounds_both {a b:Rat}{Ra Rb u:Nat}{s:Bool}(fa:FB 330 a)(fb:FB 330 b)(hA:NearF a Ra)(hB:NearF b Rb)(hu:u < 2139095040)(ha:Ra < 2139095040)(hb:Rb < 2139095040):
  ∃ (o nf:Nat) (X D1 D2 D3 D4 NA:ByteArray) (c1 c2:Int) (t:Bool),RoB (rs a) (rs b) (fltBits (decide (a.num < 0)) Ra) (fltBits (decide (b.num < 0)) Rb) o nf (rs (fq (Flo.sw s u))) X D1 D2 D3 D4 NA c1 c2 t∧(t=false→RoC (rs a) (fltBits (decide (a.num < 0)) Ra) X):=by
 have best:=best_q hA s u;obtain ⟨F1,v1⟩:=flt_val (decide (a.num < 0)) ha;obtain ⟨F2,v2⟩:=flt_val (decide (b.num < 0)) hb;have q1:=fq_sg v1;have e1:fq (Flo.sw s u)=((sg s u:Int):Rat)*twoQ (-149):=fq_sg (x:=Flo.sw s u) (s:=s) (R:=u) (Flo.sw_fin s hu).2.2.2;rw[←q1,←e1] at best;have i1:=isFin_flt (decide (a.num < 0)) ha;have i2:=isFin_flt (decide (b.num < 0)) hb;have l1:=flt_lt32 (decide (a.num < 0)) ha;have ra:=RFB.of fa;have rf:=fq_rfbF l1 i1;have ro:=RFB.of (fq_fb s hu)
 have aa:FB 280 (fq (fltBits (decide (a.num < 0)) Ra)):=by rw[flt_sw _ ha];exact fq_fb _ ha
 have ab:=fun h=>hA.mono hB h;have ac:=fun h=>hB.mono hA h;have dn:∀ q:Rat,decide (q.num < 0)=decide (q < 0):=fun q=>decide_eq_decide.2 num_neg
 refine ⟨fltBits (decide ((-a).num < 0)) Ra,Op.negFloat .f32 (fltBits (decide (a.num < 0)) Ra),rs (fq (fltBits (decide (a.num < 0)) Ra)),rs (a - fq (fltBits (decide (a.num < 0)) Ra)),rs (absQ (a - fq (fltBits (decide (a.num < 0)) Ra))),rs (a - fq (Flo.sw s u)),rs (absQ (a - fq (Flo.sw s u))),rs (-a),(absQ (a - fq (fltBits (decide (a.num < 0)) Ra)) - absQ (a - fq (Flo.sw s u))).num.sign,(a - b).num.sign,
  (FloatKind.f32.format.order (fltBits (decide (a.num < 0)) Ra) 0==some .lt),⟨?_,?_,?_,?_,?_,?_,?_,?_,?_,?_,?_,?_,?_,?_,?_,rfl,?_,rfl⟩,fun h=>rounds_above fa hA ha h⟩
 ·intro W;have:=rfin_new (fltBits (decide (a.num < 0)) Ra) W
  rwa [i1] at this
 ·intro W;have:=rfin_new (fltBits (decide (b.num < 0)) Rb) W
  rwa [i2] at this
 ·exact fun W hW=>nexact_calls _ l1 i1 W hW
 ·intro W;have h:=rcheck_calls (rs (fq (fltBits (decide (a.num < 0)) Ra))) W (by have:=fbs_len aa (by omega);omega);rw[rs_list,ratErr_ratText (aa.fitsN (by omega))] at h;exact h
 ·exact fun W=>(rsubQ_calls 330 280 a _ W ra rf (by omega)).mono fun e w' h=>RetS.to rfl h
 ·exact fun W=>(rabs_calls _ W (by have:=(ra.sub rf).len;omega)).mono fun e w' h=>RetS.to rfl h
 ·exact fun W=>(rsubQ_calls 330 280 a _ W ra ro (by omega)).mono fun e w' h=>RetS.to rfl h
 ·exact fun W=>(rabs_calls _ W (by have:=(ra.sub ro).len;omega)).mono fun e w' h=>RetS.to rfl h
 ·exact fun W=>rcmpQ_calls 611 611 _ _ W (rfb_abs (ra.sub rf)) (rfb_abs (ra.sub ro)) (by omega)
 ·rw[absQ_R,absQ_R];exact sign_le.2 best
 ·exact fun W=>rcmpQ_calls 330 330 a b W ra (RFB.of fb) (by omega)
 ·intro h;refine not_gt F1 F2 ?_;rw[v1,v2,dn,dn];exact ab (sign_le.1 h)
 ·intro h;refine not_lt F1 F2 ?_;rw[v1,v2,dn,dn];exact ac (sign_geR h)
 ·exact fun W=>(rneg_calls a W (by have:=ra.len;omega)).mono fun e w' h=>RetS.to rfl h
 ·intro W hW;have h:=nfloat_any (-a) Ra (fa.neg.mono (by omega)) hA.neg W hW;rw[show fltErr Ra=0 by unfold fltErr;rw[if_pos ha]] at h;exact h
 ·obtain ⟨F3,v3⟩:=flt_val (decide ((-a).num < 0)) ha;have hs:=Flo.sw_fin (!(decide (a.num < 0) && Ra != 0)) ha;rw[neg_flt _ ha];refine not_neF F3 hs.2.2.1 ?_;rw[v3,hs.2.2.2];by_cases h0:Ra=0
  ·subst h0;rw[sg_zero,Flo.V_zero];split <;> rfl
  ·have e0:(Ra != 0)=true:=by simpa using h0
   have an:a≠0:=fun h=>h0 (by subst h;exact hA.zero);rw[e0,Bool.and_true]
   have:decide ((-a).num < 0)=!decide (a.num < 0):=by
    rw[Rat.neg_num];have:a.num≠0:=fun h=>an (Rat.num_eq_zero.1 h);by_cases g:a.num < 0
    ·rw[decide_eq_true g,decide_eq_false (by omega)];rfl
    ·rw[decide_eq_false g,decide_eq_true (by omega)];rfl
   rw[this];rfl
theorem rounds_law (x y:ByteArray)(z:Nat)(w:World)(he:Env w)(hx:x.size≤9223372036854775807)(hy:y.size≤9223372036854775807)(hz:z < 4294967296):
  Calls prog 5 #[.string x,.string y,.float .f32 z] w fun e w'=>e=.returned (.bool true)∧New w w':=by
 refine rounds_walk x y z (isFin z) w he (fun W=>rfew40_calls x W (by omega)) (fun W=>rfew40_calls y W (by omega)) (fun W=>rfin_new z W) fun h1 h2 aa=>?_;obtain ⟨a,rfl,fa⟩:=short_num (n:=82) h1.1 h1.2 (by omega);obtain ⟨b,rfl,fb⟩:=short_num (n:=82) h2.1 h2.2 (by omega);have fa:=fa.mono (show 4*82≤330 by omega);have fb:=fb.mono (show 4*82≤330 by omega);obtain ⟨s,u,hu,rfl⟩:=fin_sw hz aa;obtain ⟨Ra,hA⟩:=nearF_ex a;obtain ⟨Rb,hB⟩:=nearF_ex b;obtain ⟨Ru,hU⟩:=nearF_ex (fq (Flo.sw s u));obtain rfl:=hU.own hu;have fo:=fq_fb s hu;refine ⟨fltBits (decide ((fq (Flo.sw s Ru)).num < 0)) Ru,fltBits (decide (a.num < 0)) Ra,fltBits (decide (b.num < 0)) Rb,rs (fq (Flo.sw s Ru)),fltErr Ra,fltErr Rb,⟨fun W hW=>nexact_calls _ hz aa W hW,fun W=>?_,fun W hW=>?_,?_,fun W hW=>nfloat_any a Ra (fa.mono (by omega)) hA W hW,fun W hW=>nfloat_any b Rb (fb.mono (by omega)) hB W hW,fltErr_two Ra,fltErr_two Rb⟩,fun g1 g2=>rounds_both fa fb hA hB hu (fltErr_zero g1) (fltErr_zero g2)⟩
 ·have h:=rcheck_calls (rs (fq (Flo.sw s Ru))) W (by have:=fbs_len fo (by omega);omega);rw[rs_list,ratErr_ratText (fo.fitsN (by omega))] at h;exact h
 ·have h:=nfloat_any (fq (Flo.sw s Ru)) Ru (fo.mono (by omega)) hU W hW;rw[show fltErr Ru=0 by unfold fltErr;rw[if_pos hu]] at h;exact h
 ·obtain ⟨F1,v1⟩:=flt_val (decide ((fq (Flo.sw s Ru)).num < 0)) hu;have hs:=Flo.sw_fin s hu;refine not_neF F1 hs.2.2.1 ?_;rw[v1,own_sign s hu,hs.2.2.2];rfl
theorem rounds_lifted (os:Os)(started:os.Started)(H:Type)(enc:TypeId × Value→H):
  ReturnsInHanded {} Tryz.checked os 5 .any (fun w aa=>(Rows.numberRoundsSpec.pre enc prog Tryz.f5 [] false w aa∧laidMetH prog Listed w)∧sizedMet enc prog Tryz.f5 (OpenSpec.ofChange Rows.numberRoundsSpec) false w aa)
   (Rows.numberRoundsSpec.post enc prog Tryz.f5 false true false false):=by
 refine returns_and_shaped (C:=Tryz.checked) (X:=fun w _=>laidMetH prog Listed w) (fun _ _ _ hh h=>h.of_heap hh) own started (by kernel_rfl) func5
  (ChangeSpec.witness_shaped (enc:=enc) (C:=Tryz.checked) (os:=os) (X:=fun w _=>laidMetH prog Listed w) false (World.laidAll prog os Listed) #[.string ⟨#[]⟩,.string ⟨#[]⟩,.float .f32 0] 8 (World.laidAll_os _ _ _)
   (World.shaped_of_ZipB (by kernel_rfl) (by kernel_rfl)) (by kernel_rfl) (by kernel_rfl) (by kernel_rfl) (witness_laid os _)) ?_
 intro W ae aa ds gs before ac hW hL ai;have ab:∀ (j:Nat) t v,Tryz.f5.params[j]?=some t→aa[j]?=some v→Value.okWide prog W .any ae t v:=ac;have ag:=hW;obtain ⟨p,q,af,hV,rfl,_,_⟩:=hW;have hA:DataW.TrodAll enc prog W 0 (fun _=>true) true Tryz.f5.params.toList aa.toList ds p:=af;rw[Tryz.params5] at hA ab;obtain ⟨v0,v1,v2,d0,d1,d2,p0,p1,p2,rfl,rfl,rfl,h0,h1,h2⟩:=trodAll_three hA;obtain ⟨rfl,rfl⟩:=trodVars_none hV;have he:=env_of hL ai
 have ad:∀ x∈p0 ++ p1 ++ p2,x.block < W.heap.size:=fun x hx=>by simpa using ag.lt x (by simpa using hx)
 have aj:=ab 0 _ _ rfl rfl;have ak:=ab 1 _ _ rfl rfl;have al:=ab 2 _ _ rfl rfl;clear af ac ab hA
 have up:∀ W',New W W'→DataW.TrodAll enc prog W' 0 (fun b=>decide (b < W.heap.size)) true [23,23,62] [v0,v1,v2] [d0,d1,d2] (p0 ++ (p1 ++ p2)):=fun W' hn=>
  trodAll_mk3 (Below.trod laidOut (by kernel_rfl) (of_decide_eq_true (by kernel_rfl)) h0 hn fun x hx=>ad x (by simp[hx]))
   (Below.trod laidOut (by kernel_rfl) (of_decide_eq_true (by kernel_rfl)) h1 hn fun x hx=>ad x (by simp[hx]))
   (Below.trod laidOut (by kernel_rfl) (of_decide_eq_true (by kernel_rfl)) h2 hn fun x hx=>ad x (by simp[hx]))
 obtain ⟨x,rfl,hx⟩:=in_str underlying23 aj h0;obtain ⟨y,rfl,hy⟩:=in_str underlying23 ak h1;obtain ⟨fb,rfl,ah⟩:=in_flt underlying62 al h2;refine (rounds_law x y fb W he hx hy ah).mono fun e W' hp=>?_;obtain ⟨rfl,hn⟩:=hp;exact ⟨_,rfl,_,_,_,[],p0 ++ (p1 ++ p2),[],ag,trodAll_mk1 (shut_bool underlying4 _),up W' hn,rfl,Below.frame hn _,fun h=>by cases h⟩
theorem rounds_holds:Rows.NumberRoundsSaid:=
 OpenClaim.holds_of_wide 5 Tryz.f5 rfl rfl rfl rfl rfl rfl rfl ⟨rfl,rfl,rfl,rfl,rfl⟩ rfl rfl rfl rfl rfl rounds_named func5 rounds_closed
  (of_decide_eq_true (by kernel_rfl)) (by unfold Func.isWrapper;first | (rw[if_pos (by decide +kernel)];kernel_rfl) | (rw[if_neg (by decide +kernel)];exact ⟨rfl,rfl⟩))
  (fun os started H enc _=>rounds_lifted os started H enc)
end Go.Proofs.YtnjonlnemagomaaGreatDoor
