/- Part A27. -/
import Derived.Deep.LoopGhost
import Derived.Deep.DeepCutAuto
import Derived.Test.YtnjonlnemagomaaGreatDoorA26
namespace Go.Proofs.YtnjonlnemagomaaGreatDoor
open Go.RowKit Big
open Go.Lib (hid)
set_option maxRecDepth 100000
set_option maxHeartbeats 8000000
theorem half_cases (q:Rat):((crossed (q - (q.floor:Rat)) (Rat.divInt 1 2)).sign=1∧rndE q=q.floor+1)∨((crossed (q - (q.floor:Rat)) (Rat.divInt 1 2)).sign=0∧rndE q=q.floor+q.floor % 2)∨((crossed (q - (q.floor:Rat)) (Rat.divInt 1 2)).sign= -1∧rndE q=q.floor):=by
 have hh:Rat.divInt 1 2=(1 / 2:Rat):=by decide +kernel
 rw[hh];obtain ⟨d,hd⟩:∃ d,q - (q.floor:Rat)=d:=⟨_,rfl⟩;unfold rndE;rw[hd];have hp:=crossed_pos (x:=d) (y:=1 / 2);have hn:=crossed_neg (x:=d) (y:=1 / 2);rcases Int.lt_trichotomy (crossed d (1 / 2)) 0 with h | h | h
 ·have hs:=Int.sign_eq_neg_one_of_neg h;rw[hs] at hp hn⊢;rw[if_pos (hn.1 (by omega))];exact .inr (.inr ⟨rfl,rfl⟩)
 ·rw[h] at hp hn⊢;have h1:¬d < 1 / 2:=fun h=>absurd (hn.2 h) (by decide);have h2:¬1 / 2 < d:=fun h=>absurd (hp.2 h) (by decide)
  have h3:d=1 / 2:=by grind
  rw[if_neg h1,if_pos h3];exact .inr (.inl ⟨rfl,rfl⟩)
 ·have hs:=Int.sign_eq_one_of_pos h;rw[hs] at hp hn⊢;have h1:1 / 2 < d:=hp.1 (by omega);rw[if_neg (by grind),if_neg (by grind)];exact .inl ⟨rfl,rfl⟩
theorem even_calls (va:Value)(q:Rat)(m:Nat)(w:World)(hx:IsFrac w va q)(hb:FB m q)(hm:m≤20000)(h0:0≤q.floor)(h1:q.floor≤4611686018427387904):Calls Tryz.prog 130 #[va] w (RetNew w (rndE q)):=by
 obtain ⟨sa,aa,la,ca,ta,ba,ma,na,rfl⟩:=hx.shape;have hfl:=fun W h=>floor_calls (.agg #[.int .i64 sa,.slice aa la ca,.int .i64 ta,.slice ba ma na]) q m W h hb (by omega);have hcs:=half_cases q;have bw:FB 63 (q.floor:Rat):=FB.int (by unfold BdK;omega) (by omega);have hsb:=fun va vb W h1 h2=>fsub_calls va vb q (q.floor:Rat) m 63 W h1 h2 hb bw (by omega);have bs:FB (m+63+1) (q - (q.floor:Rat)):=hb.sub bw;have b2:FB 2 (Rat.divInt 1 2):=⟨by unfold BdK;decide,by unfold BdK;decide⟩;have hcm:=fun va vb W h1 h2=>fcmp_calls va vb (q - (q.floor:Rat)) (Rat.divInt 1 2) _ 2 W h1 h2 bs b2 (by omega);have hsm:=fun v W h=>small_calls v q.floor W h (by unfold Sm;omega);have hwh:=fun v W h=>whole_calls v q.floor W h;obtain ⟨f,hf⟩:∃ f,q.floor=f:=⟨_,rfl⟩;rw[hf] at h0 h1 hfl hcs hsb hcm hsm hwh;unfold SignPost at hcm;obtain ⟨r,hr⟩:∃ r,(crossed (q - (f:Rat)) (Rat.divInt 1 2)).sign=r:=⟨_,rfl⟩;obtain ⟨z,hz⟩:∃ z,rndE q=z:=⟨_,rfl⟩;rw[hz];simp only[hr] at hcm;rw[hr,hz] at hcs;clear bw bs b2 hb hm hf hr hz;have hmk:=fun va vb W h1 h2=>make_calls va vb 1 2 W h1 h2 ⟨2,by omega,by decide⟩ ⟨2,by omega,by decide⟩ (by omega);have i1:∀ W,IsInt W (.agg #[.int .i64 1,.slice none 0 0]) 1:=fun W=>.small rfl (by omega) (by omega);have i2:∀ W,IsInt W (.agg #[.int .i64 2,.slice none 0 0]) 2:=fun W=>.small rfl (by omega) (by omega);have tm:f.tmod 2=f % 2:=Int.tmod_eq_emod_of_nonneg h0;have f2:0≤f % 2∧f % 2 < 2:=⟨Int.emod_nonneg _ (by omega),Int.emod_lt_of_pos _ (by omega)⟩;have HX:=hid hx;have HFL:=hid hfl;have HCS:=hid hcs;have HSB:=hid hsb;have HCM:=hid hcm;have HSM:=hid hsm;have HWH:=hid hwh;have HMK:=hid hmk;have IONE:=hid i1;have ITWO:=hid i2;clear hx hfl hcs hsb hcm hsm hwh hmk i1 i2;go_enter Tryz.func130,Tryz.ntmps130;go_upto_region 1 with (fail);obtain ⟨BA,HN⟩:=lay1 w 115 #[.int .i64 sa,.slice aa la ca,.int .i64 ta,.slice ba ma na];obtain ⟨⟨pa0,pa1,pa2,pa3⟩,pa4,pa5,pa6,pa7,pa8⟩:=BA.out.four;go_wp2_with fail;refine (HFL.out _ (HX.out.new HN.out)).mono ?_;rintro e w1 ⟨v1,rfl,hn,hi⟩;obtain ⟨s6,a6,l6,c6,rfl⟩:=hi.shape;have HI:=hid hi;clear hi;clear pa0 pa1 pa2 pa3 pa4 pa5 pa6 pa7 pa8;replace BA:=hid (BA.out.new hn);replace HN:=hid (HN.out.trans hn);clear hn;go_upto_region 2 with (fail);have HN0:=HN;clear HN;obtain ⟨BI,HN⟩:=lay1 w1 113 #[.int .i64 s6,.slice a6 l6 c6];replace BA:=hid (BA.out.new HN.out);replace HI:=hid (HI.out.new HN.out);have HN_:=HN0.out.trans HN.out;clear HN HN0;have HN:=hid HN_;clear HN_;obtain ⟨pi0,pi1,pi2,pi3,pi4⟩:=BI.out.two;go_wp2_with fail;refine (HSM.out _ _ HI.out).mono ?_;rintro e w2 ⟨rfl,hn⟩;clear pi0 pi1 pi2 pi3 pi4;replace BA:=hid (BA.out.new hn);replace BI:=hid (BI.out.new hn);replace HI:=hid (HI.out.new hn);replace HN:=hid (HN.out.trans hn);clear hn;obtain ⟨⟨pa0,pa1,pa2,pa3⟩,pa4,pa5,pa6,pa7,pa8⟩:=BA.out.four;obtain ⟨pi0,pi1,pi2,pi3,pi4⟩:=BI.out.two;go_wp2_with fail;refine wp_region_T 7 (fun W=>W.cell? ⟨w.heap.size,0,none⟩=some (.int .i64 sa)∧W.cell? ⟨w.heap.size,1,none⟩=some (.slice aa la ca)∧W.cell? ⟨w.heap.size,2,none⟩=some (.int .i64 ta)∧W.cell? ⟨w.heap.size,3,none⟩=some (.slice ba ma na)∧W.cell? ⟨w1.heap.size,0,none⟩=some (.int .i64 s6)∧W.cell? ⟨w1.heap.size,1,none⟩=some (.slice a6 l6 c6)) 8 #[false,false,false,false,false,false,false,false] rfl (by kernel_rfl) (by kernel_rfl) ?_;refine tk 0 (by exact ⟨pa0,pa1,pa2,pa3,pi0,pi1⟩) ?_
 try simp only[PT]
 refine tk 1 (by exact ⟨pa0,pa1,pa2,pa3,pi0,pi1⟩) ?_
 try simp only[PT]
 refine wpT_one 2 rfl (by kernel_rfl) (fun K hK=>?_);go_simp;refine (HWH.out _ _ (HI.out.new (New.refl _).drew)).mono ?_;rintro e y1 ⟨v3,rfl,hn,hf⟩;have hn:=hn.undrew;have HG1:=hid hf;clear hf;clear pa0 pa1 pa2 pa3 pa4 pa5 pa6 pa7 pa8;clear pi0 pi1 pi2 pi3 pi4;replace BA:=hid (BA.out.new hn);replace BI:=hid (BI.out.new hn);replace HN:=hid (HN.out.trans hn);clear hn;obtain ⟨⟨pa0,pa1,pa2,pa3⟩,pa4,pa5,pa6,pa7,pa8⟩:=BA.out.four;obtain ⟨pi0,pi1,pi2,pi3,pi4⟩:=BI.out.two;refine hK.out _ _ (fun _=>?_) ?_
 ·exact ⟨pa0,pa1,pa2,pa3,pi0,pi1⟩
 clear hK K
 try simp only[PT]
 refine wpT_one 3 rfl (by kernel_rfl) (fun K hK=>?_);go_simp;refine (HSB.out _ _ _ (HX.out.new HN.out) HG1.out).mono ?_;rintro e y2 ⟨v4,rfl,hn,hf⟩;clear HG1;have HG2:=hid hf;clear hf;clear pa0 pa1 pa2 pa3 pa4 pa5 pa6 pa7 pa8;clear pi0 pi1 pi2 pi3 pi4;replace BA:=hid (BA.out.new hn);replace BI:=hid (BI.out.new hn);replace HN:=hid (HN.out.trans hn);clear hn;obtain ⟨⟨pa0,pa1,pa2,pa3⟩,pa4,pa5,pa6,pa7,pa8⟩:=BA.out.four;obtain ⟨pi0,pi1,pi2,pi3,pi4⟩:=BI.out.two;refine hK.out _ _ (fun _=>?_) ?_
 ·exact ⟨pa0,pa1,pa2,pa3,pi0,pi1⟩
 clear hK K
 try simp only[PT]
 refine wpT_one 4 rfl (by kernel_rfl) (fun K hK=>?_);go_simp;refine (of_calls 1 _).mono ?_;rintro e y3 ⟨rfl,hn⟩;clear pa0 pa1 pa2 pa3 pa4 pa5 pa6 pa7 pa8;clear pi0 pi1 pi2 pi3 pi4;replace BA:=hid (BA.out.new hn);replace BI:=hid (BI.out.new hn);replace HG2:=hid (HG2.out.new hn);replace HN:=hid (HN.out.trans hn);clear hn;obtain ⟨⟨pa0,pa1,pa2,pa3⟩,pa4,pa5,pa6,pa7,pa8⟩:=BA.out.four;obtain ⟨pi0,pi1,pi2,pi3,pi4⟩:=BI.out.two;refine hK.out _ _ (fun _=>?_) ?_
 ·exact ⟨pa0,pa1,pa2,pa3,pi0,pi1⟩
 clear hK K
 try simp only[PT]
 refine wpT_one 5 rfl (by kernel_rfl) (fun K hK=>?_);go_simp;refine (of_calls 2 _).mono ?_;rintro e y4 ⟨rfl,hn⟩;clear pa0 pa1 pa2 pa3 pa4 pa5 pa6 pa7 pa8;clear pi0 pi1 pi2 pi3 pi4;replace BA:=hid (BA.out.new hn);replace BI:=hid (BI.out.new hn);replace HG2:=hid (HG2.out.new hn);replace HN:=hid (HN.out.trans hn);clear hn;obtain ⟨⟨pa0,pa1,pa2,pa3⟩,pa4,pa5,pa6,pa7,pa8⟩:=BA.out.four;obtain ⟨pi0,pi1,pi2,pi3,pi4⟩:=BI.out.two;refine hK.out _ _ (fun _=>?_) ?_
 ·exact ⟨pa0,pa1,pa2,pa3,pi0,pi1⟩
 clear hK K
 try simp only[PT]
 refine wpT_one 6 rfl (by kernel_rfl) (fun K hK=>?_);go_simp;refine (HMK.out _ _ _ (IONE.out _) (ITWO.out _)).mono ?_;rintro e y5 ⟨v7,rfl,hn,hf⟩;have HG3:=hid hf;clear hf;clear pa0 pa1 pa2 pa3 pa4 pa5 pa6 pa7 pa8;clear pi0 pi1 pi2 pi3 pi4;replace BA:=hid (BA.out.new hn);replace BI:=hid (BI.out.new hn);replace HG2:=hid (HG2.out.new hn);replace HN:=hid (HN.out.trans hn);clear hn;obtain ⟨⟨pa0,pa1,pa2,pa3⟩,pa4,pa5,pa6,pa7,pa8⟩:=BA.out.four;obtain ⟨pi0,pi1,pi2,pi3,pi4⟩:=BI.out.two;refine hK.out _ _ (fun _=>?_) ?_
 ·exact ⟨pa0,pa1,pa2,pa3,pi0,pi1⟩
 clear hK K
 try simp only[PT]
 refine wpT_tail rfl (by kernel_rfl) ?_;simp only[List.drop_succ_cons,List.drop_zero];go_wp2_with fail;refine (HCM.out _ _ _ HG2.out HG3.out).mono ?_;rintro e y6 ⟨rfl,hn⟩;clear HG2 HG3;clear pa0 pa1 pa2 pa3 pa4 pa5 pa6 pa7 pa8;clear pi0 pi1 pi2 pi3 pi4;replace BA:=hid (BA.out.new hn);replace BI:=hid (BI.out.new hn);replace HN:=hid (HN.out.trans hn);clear hn;rcases HCS.out with ⟨rfl,hz⟩ | ⟨rfl,hz⟩ | ⟨rfl,hz⟩
 ·clear f2;have HZ:=hid hz;clear hz;go_wp2_with fail;go_ret;exact ⟨by rw[HZ.out];rfl,HN.out⟩
 ·skip
  have HZ:=hid hz;clear hz;go_wp2_with fail;go_ret;exact ⟨by rw[HZ.out];rfl,HN.out⟩
 ·clear f2;have HZ:=hid hz;clear hz;go_wp2_with fail;go_ret;exact ⟨by rw[HZ.out];rfl,HN.out⟩
theorem Ldexp_gen (neg:Bool)(m:Nat)(s0 s:Int)(hm:m≠0)(hd:m < 16777216)(l0:0≤s0)(h0:s0≤24)(lo: -200≤s)(hi:s≤200)(w:World):
  Calls Tryz.prog 131 #[.float .f64 (Ieee.double.nearest neg m s0),.int .i64 s] w fun e w'=>e=.returned (.float .f64 (Ieee.double.nearest neg m (s0+s)))∧w=w':=by
 refine Ldexp_calls _ _ s w fun W=>?_;obtain ⟨M,f1,f2,f3,f4,f5⟩:=Flo.drung (s:=s0) hm hd (by omega) (by omega);obtain ⟨M',g1,g2,g3,g4,g5⟩:=Flo.drung (s:=s0+s) hm hd (by omega) (by omega);have hl:=Flo.log2_small hm hd
 have hMM:M'=M:=by rw[f3,g3]
 subst hMM
 obtain ⟨hh,hhv,hw⟩:∃ h:Nat,h < 2∧∀ r,Ieee.double.word neg r=h*9223372036854775808+r:=by
  refine ⟨neg.toNat,by cases neg <;> decide,fun r=>?_⟩;unfold Ieee.Format.word;rw[Flo.dsw]
  cases neg <;> simp
 have e1:Ieee.double.nearest neg m s0=wordOf hh (s0+m.log2+1023).toNat (M' - 4503599627370496):=by
  rw[(Flo.dnearest neg hm hd (by omega) (by omega)).1,hw,f4];unfold wordOf
  have:(s0+(m.log2:Int)+1023).toNat=(s0+(m.log2:Int)+1022).toNat+1:=by omega
  rw[this];clear f3 g3 f4 g4 f5 g5;omega
 have e2:Ieee.double.nearest neg m (s0+s)=wordOf hh (s0+s+m.log2+1023).toNat (M' - 4503599627370496):=by
  rw[(Flo.dnearest neg hm hd (by omega) (by omega)).1,hw,g4];unfold wordOf
  have:(s0+s+(m.log2:Int)+1023).toNat=(s0+s+(m.log2:Int)+1022).toNat+1:=by omega
  rw[this];clear f3 g3 f4 g4 f5 g5;omega
 have hmul:=Flo.dmul_one neg (s:=s0+s) hm hd (by omega) (by omega);rw[e2] at hmul;rw[e1,e2];exact ldexp_calls (plain64 hhv (by omega) (by omega) (by omega)) s _ (by omega) (by omega) (by omega) hmul W
theorem part24 {n:Nat}(h0:n≠0)(h:n≤16777216):∃ m t:Nat,m≠0∧m < 16777216∧t≤24∧n=m*2^t:=by
 rcases Nat.lt_or_ge n 16777216 with h1 | h1
 ·exact ⟨n,0,h0,h1,by omega,by simp⟩
 ·exact ⟨1,24,by omega,by omega,by omega,by omega⟩
theorem Ldexp_nat (n:Nat)(s:Int)(h:n≤16777216)(lo: -149≤s)(hi:s≤104)(w:World):
  Calls Tryz.prog 131 #[.float .f64 (FloatKind.f64.nearest (n:Int)),.int .i64 s] w fun e w'=>e=.returned (.float .f64 (Ieee.double.nearest false n s))∧w=w':=by
 have hs:(decide (((n:Nat):Int) < 0))=false:=decide_eq_false (by omega)
 have hn:((n:Int)).natAbs=n:=by omega
 show Calls Tryz.prog 131 #[.float .f64 (Ieee.double.nearest (decide ((n:Int) < 0)) (n:Int).natAbs 0),.int .i64 s] w _;rw[hs,hn];by_cases h0:n=0
 ·subst h0
  have e0:∀ p,Ieee.double.nearest false 0 p=0:=by
   intro p;unfold Ieee.Format.nearest;rw[if_pos (by rfl)];rfl
  rw[e0,e0];exact Ldexp_calls _ _ s w fun W=>ldexp_zero s W
 ·obtain ⟨m,t,m0,m1,t1,rfl⟩:=part24 h0 h;have e1:=Flo.nearest_more Ieee.double false (m:=m) (p:=(t:Int)) t m0;have e2:=Flo.nearest_more Ieee.double false (m:=m) (p:=(t:Int)+s) t m0;rw[show (t:Int) - (t:Int)=0 by omega] at e1;rw[show (t:Int)+s - (t:Int)=s by omega] at e2;rw[e1,e2];exact Ldexp_gen false m t s m0 m1 (by omega) (by omega) (by omega) (by omega) w
theorem conv_nat {n r:Nat}{s:Int}(h:n≤16777216)(lo: -149≤s)(hi:s≤104)(hr:r < 2139095040)(hv:n*2^(s+149).toNat=Flo.V Ieee.single r):floatToFloatBits .f64 (Ieee.double.nearest false n s) .f32=some r:=by
 unfold floatToFloatBits;by_cases h0:n=0
 ·subst h0
  have e0:Ieee.double.nearest false 0 s=0:=by
   unfold Ieee.Format.nearest;rw[if_pos (by rfl)];rfl
  rw[e0];have:r=0:=Flo.V_inj Ieee.single (by rw[←hv,Flo.V_zero,Nat.zero_mul]);subst this;decide
 ·obtain ⟨m,t,m0,m1,t1,rfl⟩:=part24 h0 h;have e2:=Flo.nearest_more Ieee.double false (m:=m) (p:=(t:Int)+s) t m0;rw[show (t:Int)+s - (t:Int)=s by omega] at e2;rw[e2];have h1:=(Flo.dnearest false m0 m1 (s:=(t:Int)+s) (by omega) (by omega)).2;have h3:FloatKind.f64.decode (Ieee.double.nearest false m ((t:Int)+s))=.number false (m*2^(52 - m.log2)) ((t:Int)+s - ((52 - m.log2:Nat):Int)):=h1;have h2:=Flo.nearest_more Ieee.single false (m:=m) (p:=(t:Int)+s) (52 - m.log2) m0
  have h5:=Flo.nearest_rung false (m:=m) (r:=r) (p:=(t:Int)+s) m0 hr (by
   have a1:(-149 - ((t:Int)+s)).toNat=0:=by omega
   have a2:((t:Int)+s+149).toNat=t+(s+149).toNat:=by omega
   rw[a1,a2,Nat.pow_zero,Nat.mul_one,←hv,Nat.pow_add,Nat.mul_assoc])
  have hw:Ieee.single.word false r=r:=by unfold Ieee.Format.word;simp
  rw[h5,hw]at h2;have h4:FloatKind.f32.encode (.number false (m*2^(52 - m.log2)) ((t:Int)+s - ((52 - m.log2:Nat):Int)))=r:=h2;obtain ⟨m',k',h6, -⟩:=Flo.sread hr
  have h7:(FloatKind.f32.decode r).isInfinity=false:=by
   show (Ieee.single.read r).isInfinity=false;rw[h6];rfl
  rw[h3];simp[h4,h7]
def IsRt (a r:Int):Prop:=0≤r∧r*r≤a∧a < (r+1)*(r+1)
theorem sq_le {x y:Int}(hx:0≤x)(h:x≤y):x*x≤y*y:=Int.mul_le_mul h h hx (Int.le_trans hx h)
theorem lt_of_sq {x y:Int}(hy:0≤y)(h:x*x < y*y):x < y:=by
 rcases Int.lt_or_le x y with h1 | h1
 ·exact h1
 ·have:=sq_le hy h1;omega
theorem IsRt.le {a r s:Int}(h:IsRt a r)(hs:s*s≤a):s≤r:=by
 have h1:=lt_of_sq (x:=s) (y:=r+1) (by have:=h.1;omega) (by have:=h.2.2;omega);omega
theorem IsRt.unique {a r s:Int}(h:IsRt a r)(g:IsRt a s):r=s:=by
 have h1:=h.le g.2.1;have h2:=g.le h.2.1;omega
theorem newton_ge {a x s:Int}(hx:0 < x)(hs:s*s≤a):s≤(x+a / x) / 2:=by
 have h1:(2*s - x)*x≤a:=by
  have h2:0≤(x - s)*(x - s):=by
   rcases Int.le_total 0 (x - s) with h | h
   ·exact Int.mul_nonneg h h
   ·have:=Int.mul_nonneg (show 0≤ -(x - s) by omega) (show 0≤ -(x - s) by omega)
    rwa [Int.neg_mul_neg] at this
  have h3:(x - s)*(x - s)=s*s - (2*s - x)*x:=by grind
  omega
 have h4:2*s - x≤a / x:=(Int.le_ediv_iff_mul_le hx).2 h1;omega
theorem newton_end {a x:Int}(hx:0 < x)(h:x≤(x+a / x) / 2):x*x≤a:=by
 have h1:x≤a / x:=by omega
 exact (Int.le_ediv_iff_mul_le hx).1 h1
theorem newton_step {a x:Int}(ha:0 < a)(hx:0 < x):0 < (x+a / x) / 2∧a < ((x+a / x) / 2+1)*((x+a / x) / 2+1):=by
 have h1:=newton_ge (a:=a) (s:=1) hx (by omega);refine ⟨by omega,?_⟩;rcases Int.lt_or_le a (((x+a / x) / 2+1)*((x+a / x) / 2+1)) with h | h
 ·exact h
 ·have:=newton_ge hx h;omega
theorem newton_done {a x:Int}(hx:0 < x)(hi:a < (x+1)*(x+1))(h:x≤(x+a / x) / 2):IsRt a x:=⟨by omega,newton_end hx h,hi⟩
theorem isRt_zero:IsRt 0 0:=⟨by omega,by omega,by omega⟩
def IntAt (W:World)(B:Nat)(z:Int):Prop:=∃ (s:Int) (a:Option Addr) (l c:Nat),Box W B 113 #[.int .i64 s,.slice a l c]∧IsInt W (.agg #[.int .i64 s,.slice a l c]) z
def SqRel (w1:World)(P:Nat)(a X0:Int)(g:Nat)(wr:World):Prop:=∃ x:Int,x.toNat=g∧0 < x∧x≤X0∧a < (x+1)*(x+1)∧New w1 wr∧IntAt wr P x
theorem nsqrt_calls (va:Value)(a r:Int)(k:Nat)(w:World)(hx:IsInt w va a)(hr:IsRt a r)(hb:BdK k a)(hk:k≤100000):Calls Tryz.prog 117 #[va] w (IntPost w r):=by
 obtain ⟨sa,aa,la,ca,rfl⟩:=hx.shape;have ba:Bd a:=hb.bd (by omega)
 have ha:0≤a:=Int.le_trans (by
  have:=Int.mul_nonneg hr.1 hr.1
  exact this) hr.2.1
 have hend:∀ w' v,New w w'→IsInt w' v r→IntPost w r (.returned v) w':=fun w' v h1 h2=>⟨v,rfl,h1,h2⟩;by_cases h0:a=0
 ·subst h0;have hr0:r=0:=hr.unique isRt_zero;subst hr0;clear hr ha hb hk;have HX:=hid hx;have BA0:=hid ba;have HEND:=hid hend;clear hx ba hend;go_enter Tryz.func117,Tryz.ntmps117;go_upto_region 1 with (fail);obtain ⟨BA,BP,HN⟩:=lay2 w 113 #[.int .i64 sa,.slice aa la ca] 113 #[.int .i64 0,.slice none 0 0];obtain ⟨a0,a1,a2,a3,a4⟩:=BA.out.two;go_wp2_with fail;refine (sign_calls _ 0 _ (HX.out.new HN.out)).mono ?_;rintro e w4 ⟨rfl,hn⟩;clear a0 a1 a2 a3 a4;replace BA:=hid (BA.out.new hn);replace BP:=hid (BP.out.new hn);replace HN:=hid (HN.out.trans hn);clear hn;obtain ⟨a0,a1,a2,a3,a4⟩:=BA.out.two;obtain ⟨p0,p1,p2,p3,p4⟩:=BP.out.two;go_wp2_with fail;refine bodyPost_ret (v:=.agg #[.int .i64 sa,.slice aa la ca]) (by simp[results,Tryz.results117,go_sem,p0,p1]) rfl ?_;refine HEND.out _ _ (HN.out.putAt BP.out (by omega) _ _) ?_;exact ((HX.out.new HN.out)).put2 BP.out _ _ _ _
 ·have hap:0 < a:=by omega
  have hsg:a.sign=1:=Int.sign_eq_one_of_pos hap;have hs2:∀ W,IsInt W (.agg #[.int .i64 2,.slice none 0 0]) 2:=fun W=>.small rfl (by omega) (by omega)
  obtain ⟨X0,hX0,hpw⟩:∃ X0:Nat→Int,(∀ b,X0 b=2^((b+1) / 2))∧∀ b:Nat,b≤k→∃ c d:Nat,IntKind.i64.wrap ((b:Int)+1)=(c:Int)∧wrap64 ((b:Int)+1)=(c:Int)∧(c:Int).tdiv 2=(d:Int)∧IntKind.i64.wrap (d:Int)=(d:Int)∧∀ W va,IsInt W va 2→Calls Tryz.prog 178 #[va,.int .i64 (d:Int)] W (IntPost W (X0 b)):=
   ⟨fun b=>2^((b+1) / 2),fun _=>rfl,fun b hb=>⟨b+1,(b+1) / 2,by rw[IntKind.wrap_i64];omega,by unfold wrap64;omega,rfl,by rw[IntKind.wrap_i64];omega,fun W va h=>pow_calls va 2 ((b+1) / 2) 2 W h (by unfold BdK;decide) (by omega) (by omega)⟩⟩
  obtain ⟨m,hm1,hm2⟩:∃ m,k+1=m∧m≤100001:=⟨_,rfl,by omega⟩
  have hbk:∀ b,IsBits a.natAbs b→b≤k∧0 < X0 b∧a < (X0 b+1)*(X0 b+1)∧BdK m (X0 b):=fun b h=>by
   have h1:=h.le hb
   have h2:a < ((2^b:Nat):Int):=by have:=h.lt;omega
   rw[hX0]
   have h3:((2^b:Nat):Int)≤2^((b+1) / 2)*2^((b+1) / 2):=by
    have h5:2^b≤2^((b+1) / 2)*2^((b+1) / 2):=by
     rw[←Nat.pow_add];exact Nat.pow_le_pow_right (by omega) (by omega)
    have h6:=Int.ofNat_le.2 h5;simpa using h6
   have h4:(0:Int) < 2^((b+1) / 2):=Int.pow_pos (by omega);refine ⟨h1,h4,?_,?_⟩
   ·have h5:((2:Int)^((b+1) / 2)+1)*(2^((b+1) / 2)+1)=2^((b+1) / 2)*2^((b+1) / 2)+2*2^((b+1) / 2)+1:=by grind
    omega
   ·unfold BdK;rw[Int.natAbs_pow];exact Nat.pow_lt_pow_right (by decide) (by omega)
  clear hX0 ha h0;have HX:=hid hx;have BA0:=hid ba;have HEND:=hid hend;have HAP:=hid hap;have HS2:=hid hs2;have HPW:=hid hpw;have HBK:=hid hbk;have HRT:=hid hr;clear hx ba hend hap hs2 hpw hbk hr;have HBA:Hid (BdK m a):=hid (BdK.mono hb (by omega));clear hb;go_enter Tryz.func117,Tryz.ntmps117;go_upto_region 1 with (fail);obtain ⟨BA,BP,HN⟩:=lay2 w 113 #[.int .i64 sa,.slice aa la ca] 113 #[.int .i64 0,.slice none 0 0];obtain ⟨a0,a1,a2,a3,a4⟩:=BA.out.two;go_wp2_with fail;refine (sign_calls _ a _ (HX.out.new HN.out)).mono ?_;rintro e w1 ⟨rfl,hn⟩;rw[hsg];clear a0 a1 a2 a3 a4;replace BA:=hid (BA.out.new hn);replace BP:=hid (BP.out.new hn);replace HN:=hid (HN.out.trans hn);clear hn;have HX1:=hid (HX.out.new HN.out);go_upto_region 3 with (fail);have HN1:=HN;clear HN
  go_cut [3] (fun x wx=>∃ (P:Nat) (b:Nat),x=.pointer (some ⟨P,0,none⟩)∧IsBits a.natAbs b∧New w1 wx∧w1.heap.size≤P∧IntAt wx P (X0 b))
  case first=>
   have HN:=hid (New.refl w1);obtain ⟨a0,a1,a2,a3,a4⟩:=BA.out.two;refine wp_region_T 7 (fun W=>W.cell? ⟨w.heap.size,0,none⟩=some (.int .i64 sa)∧W.cell? ⟨w.heap.size,1,none⟩=some (.slice aa la ca)) 8 #[false,false,false,false,false,false,false,false] rfl (by kernel_rfl) (by kernel_rfl) ?_;clear a0 a1 a2 a3 a4;replace BA:=hid (BA.out.new (New.refl w1).drew);replace HX1:=hid (HX1.out.new (New.refl w1).drew);replace HN:=hid (HN.out.drew);obtain ⟨wdr,hwd⟩:∃ x,w1.drew=x:=⟨_,rfl⟩;rw[hwd] at HN BA HX1⊢;clear hwd;obtain ⟨a0,a1,a2,a3,a4⟩:=BA.out.two;refine tk 1 (by exact ⟨a0,a1⟩) ?_
   try simp only[PT]
   refine wpT_two 0 6 rfl rfl (by kernel_rfl) (fun K hK=>?_) (fun K hK=>?_)
   ·skip
    go_simp;refine (of_calls 2 _).mono ?_;rintro e w9 ⟨rfl,hn⟩;clear a0 a1 a2 a3 a4;replace BA:=hid (BA.out.new hn);replace HX1:=hid (HX1.out.new hn);replace HN:=hid (HN.out.trans hn);clear hn;obtain ⟨a0,a1,a2,a3,a4⟩:=BA.out.two;refine hK.out _ _ (fun _=>?_) ?_
    ·exact ⟨a0,a1⟩
    clear hK K
    try simp only[PT]
    refine wpT_two 2 6 rfl rfl (by kernel_rfl) (fun K hK=>?_) (fun K hK=>?_)
    ·skip
     go_simp;refine (bits_calls _ a _ HX1.out BA0.out).mono ?_;rintro e w10 ⟨b,rfl,hn,hbits⟩;obtain ⟨c9,d9,hw1,hw2,hw3,hw4,hpc⟩:=HPW.out b (HBK.out b hbits).1;have HPC:=hid hpc;have HBT:=hid hbits;clear hpc hbits;clear a0 a1 a2 a3 a4;replace BA:=hid (BA.out.new hn);replace HX1:=hid (HX1.out.new hn);replace HN:=hid (HN.out.trans hn);clear hn;obtain ⟨a0,a1,a2,a3,a4⟩:=BA.out.two;refine hK.out _ _ (fun _=>?_) ?_
     ·exact ⟨a0,a1⟩
     clear hK K
     try simp only[PT]
     refine wpT_take 3 (v:=?_) rfl (by kernel_rfl) (fun _ _ _ h=>h) (by exact ⟨a0,a1⟩) (Or.inl ⟨by first | kernel_rfl | rfl,?_⟩) ?_;rotate_left
     ·(intro W hW;(try dsimp only at hW);(go_simp;try simp only[hw1,hw2]);try with_reducible rfl)
     try simp only[PT]
     refine wpT_take 4 (v:=?_) rfl (by kernel_rfl) (fun _ _ _ h=>h) (by exact ⟨a0,a1⟩) (Or.inl ⟨by first | kernel_rfl | rfl,?_⟩) ?_;rotate_left
     ·(intro W hW;(try dsimp only at hW);(go_simp;try simp only[hw3,hw4]);try with_reducible rfl)
     try simp only[PT]
     refine wpT_two 5 6 rfl rfl (by kernel_rfl) (fun K hK=>?_) (fun K hK=>?_)
     ·skip
      go_simp;refine (HPC.out _ _ (HS2.out _)).mono ?_;rintro e w11 ⟨v11,rfl,hn,hi⟩;obtain ⟨s9,a9,l9,k9,rfl⟩:=hi.shape;have HI9:=hid hi;clear hi;clear a0 a1 a2 a3 a4;replace BA:=hid (BA.out.new hn);replace HX1:=hid (HX1.out.new hn);replace HN:=hid (HN.out.trans hn);clear hn;obtain ⟨a0,a1,a2,a3,a4⟩:=BA.out.two;refine hK.out _ _ (fun _=>?_) ?_
      ·exact ⟨a0,a1⟩
      clear hK K
      try simp only[PT]
      refine wpT_one 6 rfl (by kernel_rfl) (fun K hK=>?_);go_simp;clear a0 a1 a2 a3 a4;have LBX:=hid (HN.out.size);obtain ⟨wa1,hwa,BX_,hn⟩:=laid1 w11 113 #[.int .i64 0,.slice none 0 0];rw[hwa];clear hwa;have BX:=hid BX_;clear BX_;replace BA:=hid (BA.out.new hn);replace HX1:=hid (HX1.out.new hn);replace HI9:=hid (HI9.out.new hn);replace HN:=hid (HN.out.trans hn);clear hn;obtain ⟨a0,a1,a2,a3,a4⟩:=BA.out.two;refine hK.out _ _ (fun _=>?_) ?_
      ·exact ⟨a0,a1⟩
      clear hK K
      try simp only[PT]
      refine wpT_tail rfl (by kernel_rfl) ?_;simp only[List.drop_succ_cons,List.drop_zero];obtain ⟨u0,u1,u2,u3,u4⟩:=BX.out.two;go_wp2_with fail
      go_meet
      exact ⟨_,b,rfl,HBT.out,HN.out.putAt BX.out LBX.out _ _,LBX.out,⟨_,_,_,_,BX.out.put2 _ _,HI9.out.put2 BX.out _ _ _ _⟩⟩
     ·skip
      go_simp;clear a0 a1 a2 a3 a4;have LBX:=hid (HN.out.size);obtain ⟨wa1,hwa,BX_,hn⟩:=laid1 w10 113 #[.int .i64 0,.slice none 0 0];rw[hwa];clear hwa;have BX:=hid BX_;clear BX_;replace BA:=hid (BA.out.new hn);replace HX1:=hid (HX1.out.new hn);replace HN:=hid (HN.out.trans hn);clear hn;obtain ⟨a0,a1,a2,a3,a4⟩:=BA.out.two;refine hK.out _ _ (fun _=>?_) ?_
      ·exact ⟨a0,a1⟩
      clear hK K
      try simp only[PT]
      refine wpT_one 5 rfl (by kernel_rfl) (fun K hK=>?_);go_simp;refine (HPC.out _ _ (HS2.out _)).mono ?_;rintro e w11 ⟨v11,rfl,hn,hi⟩;obtain ⟨s9,a9,l9,k9,rfl⟩:=hi.shape;have HI9:=hid hi;clear hi;clear a0 a1 a2 a3 a4;replace BA:=hid (BA.out.new hn);replace HX1:=hid (HX1.out.new hn);replace BX:=hid (BX.out.new hn);replace HN:=hid (HN.out.trans hn);clear hn;obtain ⟨a0,a1,a2,a3,a4⟩:=BA.out.two;refine hK.out _ _ (fun _=>?_) ?_
      ·exact ⟨a0,a1⟩
      clear hK K
      try simp only[PT]
      refine wpT_tail rfl (by kernel_rfl) ?_;simp only[List.drop_succ_cons,List.drop_zero];obtain ⟨u0,u1,u2,u3,u4⟩:=BX.out.two;go_wp2_with fail
      go_meet
      exact ⟨_,b,rfl,HBT.out,HN.out.putAt BX.out LBX.out _ _,LBX.out,⟨_,_,_,_,BX.out.put2 _ _,HI9.out.put2 BX.out _ _ _ _⟩⟩
    ·skip
     go_simp;clear a0 a1 a2 a3 a4;have LBX:=hid (HN.out.size);obtain ⟨wa1,hwa,BX_,hn⟩:=laid1 w9 113 #[.int .i64 0,.slice none 0 0];rw[hwa];clear hwa;have BX:=hid BX_;clear BX_;replace BA:=hid (BA.out.new hn);replace HX1:=hid (HX1.out.new hn);replace HN:=hid (HN.out.trans hn);clear hn;obtain ⟨a0,a1,a2,a3,a4⟩:=BA.out.two;refine hK.out _ _ (fun _=>?_) ?_
     ·exact ⟨a0,a1⟩
     clear hK K
     try simp only[PT]
     refine wpT_one 2 rfl (by kernel_rfl) (fun K hK=>?_);go_simp;refine (bits_calls _ a _ HX1.out BA0.out).mono ?_;rintro e w10 ⟨b,rfl,hn,hbits⟩;obtain ⟨c9,d9,hw1,hw2,hw3,hw4,hpc⟩:=HPW.out b (HBK.out b hbits).1;have HPC:=hid hpc;have HBT:=hid hbits;clear hpc hbits;clear a0 a1 a2 a3 a4;replace BA:=hid (BA.out.new hn);replace HX1:=hid (HX1.out.new hn);replace BX:=hid (BX.out.new hn);replace HN:=hid (HN.out.trans hn);clear hn;obtain ⟨a0,a1,a2,a3,a4⟩:=BA.out.two;refine hK.out _ _ (fun _=>?_) ?_
     ·exact ⟨a0,a1⟩
     clear hK K
     try simp only[PT]
     refine wpT_take 3 (v:=?_) rfl (by kernel_rfl) (fun _ _ _ h=>h) (by exact ⟨a0,a1⟩) (Or.inl ⟨by first | kernel_rfl | rfl,?_⟩) ?_;rotate_left
     ·(intro W hW;(try dsimp only at hW);(go_simp;try simp only[hw1,hw2]);try with_reducible rfl)
     try simp only[PT]
     refine wpT_take 4 (v:=?_) rfl (by kernel_rfl) (fun _ _ _ h=>h) (by exact ⟨a0,a1⟩) (Or.inl ⟨by first | kernel_rfl | rfl,?_⟩) ?_;rotate_left
     ·(intro W hW;(try dsimp only at hW);(go_simp;try simp only[hw3,hw4]);try with_reducible rfl)
     try simp only[PT]
     refine wpT_one 5 rfl (by kernel_rfl) (fun K hK=>?_);go_simp;refine (HPC.out _ _ (HS2.out _)).mono ?_;rintro e w11 ⟨v11,rfl,hn,hi⟩;obtain ⟨s9,a9,l9,k9,rfl⟩:=hi.shape;have HI9:=hid hi;clear hi;clear a0 a1 a2 a3 a4;replace BA:=hid (BA.out.new hn);replace HX1:=hid (HX1.out.new hn);replace BX:=hid (BX.out.new hn);replace HN:=hid (HN.out.trans hn);clear hn;obtain ⟨a0,a1,a2,a3,a4⟩:=BA.out.two;refine hK.out _ _ (fun _=>?_) ?_
     ·exact ⟨a0,a1⟩
     clear hK K
     try simp only[PT]
     refine wpT_tail rfl (by kernel_rfl) ?_;simp only[List.drop_succ_cons,List.drop_zero];obtain ⟨u0,u1,u2,u3,u4⟩:=BX.out.two;go_wp2_with fail
     go_meet
     exact ⟨_,b,rfl,HBT.out,HN.out.putAt BX.out LBX.out _ _,LBX.out,⟨_,_,_,_,BX.out.put2 _ _,HI9.out.put2 BX.out _ _ _ _⟩⟩
   ·skip
    go_simp;clear a0 a1 a2 a3 a4;have LBX:=hid (HN.out.size);obtain ⟨wa1,hwa,BX_,hn⟩:=laid1 wdr 113 #[.int .i64 0,.slice none 0 0];rw[hwa];clear hwa;have BX:=hid BX_;clear BX_;replace BA:=hid (BA.out.new hn);replace HX1:=hid (HX1.out.new hn);replace HN:=hid (HN.out.trans hn);clear hn;obtain ⟨a0,a1,a2,a3,a4⟩:=BA.out.two;refine hK.out _ _ (fun _=>?_) ?_
    ·exact ⟨a0,a1⟩
    clear hK K
    try simp only[PT]
    refine wpT_one 0 rfl (by kernel_rfl) (fun K hK=>?_);go_simp;refine (of_calls 2 _).mono ?_;rintro e w9 ⟨rfl,hn⟩;clear a0 a1 a2 a3 a4;replace BA:=hid (BA.out.new hn);replace HX1:=hid (HX1.out.new hn);replace BX:=hid (BX.out.new hn);replace HN:=hid (HN.out.trans hn);clear hn;obtain ⟨a0,a1,a2,a3,a4⟩:=BA.out.two;refine hK.out _ _ (fun _=>?_) ?_
    ·exact ⟨a0,a1⟩
    clear hK K
    try simp only[PT]
    refine wpT_one 2 rfl (by kernel_rfl) (fun K hK=>?_);go_simp;refine (bits_calls _ a _ HX1.out BA0.out).mono ?_;rintro e w10 ⟨b,rfl,hn,hbits⟩;obtain ⟨c9,d9,hw1,hw2,hw3,hw4,hpc⟩:=HPW.out b (HBK.out b hbits).1;have HPC:=hid hpc;have HBT:=hid hbits;clear hpc hbits;clear a0 a1 a2 a3 a4;replace BA:=hid (BA.out.new hn);replace HX1:=hid (HX1.out.new hn);replace BX:=hid (BX.out.new hn);replace HN:=hid (HN.out.trans hn);clear hn;obtain ⟨a0,a1,a2,a3,a4⟩:=BA.out.two;refine hK.out _ _ (fun _=>?_) ?_
    ·exact ⟨a0,a1⟩
    clear hK K
    try simp only[PT]
    refine wpT_take 3 (v:=?_) rfl (by kernel_rfl) (fun _ _ _ h=>h) (by exact ⟨a0,a1⟩) (Or.inl ⟨by first | kernel_rfl | rfl,?_⟩) ?_;rotate_left
    ·(intro W hW;(try dsimp only at hW);(go_simp;try simp only[hw1,hw2]);try with_reducible rfl)
    try simp only[PT]
    refine wpT_take 4 (v:=?_) rfl (by kernel_rfl) (fun _ _ _ h=>h) (by exact ⟨a0,a1⟩) (Or.inl ⟨by first | kernel_rfl | rfl,?_⟩) ?_;rotate_left
    ·(intro W hW;(try dsimp only at hW);(go_simp;try simp only[hw3,hw4]);try with_reducible rfl)
    try simp only[PT]
    refine wpT_one 5 rfl (by kernel_rfl) (fun K hK=>?_);go_simp;refine (HPC.out _ _ (HS2.out _)).mono ?_;rintro e w11 ⟨v11,rfl,hn,hi⟩;obtain ⟨s9,a9,l9,k9,rfl⟩:=hi.shape;have HI9:=hid hi;clear hi;clear a0 a1 a2 a3 a4;replace BA:=hid (BA.out.new hn);replace HX1:=hid (HX1.out.new hn);replace BX:=hid (BX.out.new hn);replace HN:=hid (HN.out.trans hn);clear hn;obtain ⟨a0,a1,a2,a3,a4⟩:=BA.out.two;refine hK.out _ _ (fun _=>?_) ?_
    ·exact ⟨a0,a1⟩
    clear hK K
    try simp only[PT]
    refine wpT_tail rfl (by kernel_rfl) ?_;simp only[List.drop_succ_cons,List.drop_zero];obtain ⟨u0,u1,u2,u3,u4⟩:=BX.out.two;go_wp2_with fail
    go_meet
    exact ⟨_,b,rfl,HBT.out,HN.out.putAt BX.out LBX.out _ _,LBX.out,⟨_,_,_,_,BX.out.put2 _ _,HI9.out.put2 BX.out _ _ _ _⟩⟩
  case rest=>
   obtain ⟨P,b,rfl,hbits,hn,hP,hix⟩:=hcut;obtain ⟨-,hpos,hlt,hbd⟩:=HBK.out b hbits;obtain ⟨X,hX⟩:∃ X,X0 b=X:=⟨_,rfl⟩;rw[hX] at hix hpos hlt hbd;have hPw:w.heap.size≤P:=Nat.le_trans HN1.out.size hP;have hstart:SqRel w1 P a X X.toNat wc:=⟨X,rfl,hpos,Int.le_refl _,hlt,hn,hix⟩;clear hn hX hbits HPW HBK HS2;have HS2:∀ W,IsInt W (.agg #[.int .i64 2,.slice none 0 0]) 2:=fun W=>.small rfl (by omega) (by omega);clear hpos hlt hix;have HS:=hid hstart;have HTWO:=hid HS2;have HBD:=hid hbd;have HPW:=hid hPw;have HP1:=hid hP;clear hstart HS2 hbd hPw hP;go_wp2_with fail
   go_loopg [] X.toNat (fun g wr=>SqRel w1 P a X g wr)
   case atStart=>exact HS.out
   case round=>
    clear HS;obtain ⟨x,hg,hx0,hxX,hxa,hN,s,o,l,c,hB,hi⟩:=hrel
    have bx:BdK m x:=by
     have:=HBD.out;unfold BdK at *;exact Nat.lt_of_le_of_lt (by omega) this
    have bq:BdK m (a / x):=by
     have h1:=Int.natAbs_ediv_le_natAbs a x;have h2:BdK m a:=HBA.out;unfold BdK at *;omega
    have bs:=bx.add bq;have BA_:=BA.out.new hN;have BP_:=BP.out.new hN;have HX_:=HX1.out.new hN;have HN_:=HN1.out.trans hN;have BAR:=hid BA_;have BPR:=hid BP_;have HXR:=hid HX_;have HN:=hid HN_;have HNR:=hid hN;have B:=hid hB;have HI:=hid hi;have HG:=hid hg;have HX0:=hid hx0;have HXX:=hid hxX;have HXA:=hid hxa;have HBX:=hid bx;have HBQ:=hid bq;have HBS:=hid bs;clear BA_ BP_ HX_ HN_ hN hB hi hg hx0 hxX hxa bx bq bs;obtain ⟨a0,a1,a2,a3,a4⟩:=BAR.out.two;obtain ⟨b0,b1,b2,b3,b4⟩:=B.out.two;go_wp2_with fail;refine (divmod_calls _ _ a x _ HXR.out HI.out BA0.out (HBX.out.bd (by omega)) HX0.out).mono ?_;rintro e w3 ⟨v7,v8,rfl,hn,hi7,hi8⟩;obtain ⟨s7,a7,l7,k7,rfl⟩:=hi7.shape;obtain ⟨s8,a8,l8,k8,rfl⟩:=hi8.shape;clear hi8;have HI7:=hid hi7;clear hi7;clear a0 a1 a2 a3 a4 b0 b1 b2 b3 b4;replace HNR:=hid (HNR.out.trans hn);replace BAR:=hid (BAR.out.new hn);replace BPR:=hid (BPR.out.new hn);replace B:=hid (B.out.new hn);replace HI:=hid (HI.out.new hn);replace HN:=hid (HN.out.trans hn);clear hn;go_upto_region 5 with (fail);have HN0:=HN;clear HN;obtain ⟨BQ,BR,HN⟩:=lay2 w3 113 #[.int .i64 s7,.slice a7 l7 k7] 113 #[.int .i64 s8,.slice a8 l8 k8];replace HNR:=hid (HNR.out.trans HN.out);replace BAR:=hid (BAR.out.new HN.out);replace BPR:=hid (BPR.out.new HN.out);replace B:=hid (B.out.new HN.out);replace HI:=hid (HI.out.new HN.out);replace HI7:=hid (HI7.out.new HN.out);have HN_:=HN0.out.trans HN.out;clear HN HN0;have HN:=hid HN_;clear HN_;obtain ⟨b0,b1,b2,b3,b4⟩:=B.out.two;obtain ⟨q0,q1,q2,q3,q4⟩:=BQ.out.two;go_wp2_with fail;refine (add_calls _ _ x (a / x) _ HI.out HI7.out (HBX.out.bd (by omega)) (HBQ.out.bd (by omega))).mono ?_;rintro e w4 ⟨v9,rfl,hn,hi9⟩;have HI9:=hid hi9;clear hi9;clear b0 b1 b2 b3 b4 q0 q1 q2 q3 q4;replace HNR:=hid (HNR.out.trans hn);replace BPR:=hid (BPR.out.new hn);replace B:=hid (B.out.new hn);replace HI:=hid (HI.out.new hn);replace HN:=hid (HN.out.trans hn);clear hn;go_wp2_with fail;refine (of_calls 2 _).mono ?_;rintro e w5 ⟨rfl,hn⟩;replace HNR:=hid (HNR.out.trans hn);replace BPR:=hid (BPR.out.new hn);replace B:=hid (B.out.new hn);replace HI:=hid (HI.out.new hn);replace HI9:=hid (HI9.out.new hn);replace HN:=hid (HN.out.trans hn);clear hn;go_wp2_with fail;refine (divmod_calls _ _ (x+a / x) 2 _ HI9.out (HTWO.out _) (HBS.out.bd (by omega)) ⟨2,by omega,by decide⟩ (by omega)).mono ?_;rintro e w6 ⟨v10,v11,rfl,hn,hi10,hi11⟩;obtain ⟨s10,a10,l10,k10,rfl⟩:=hi10.shape;obtain ⟨s11,a11,l11,k11,rfl⟩:=hi11.shape;clear hi11;have HI10:=hid hi10;clear hi10;replace HNR:=hid (HNR.out.trans hn);replace BPR:=hid (BPR.out.new hn);replace B:=hid (B.out.new hn);replace HI:=hid (HI.out.new hn);replace HN:=hid (HN.out.trans hn);clear hn;go_upto_region 6 with (fail);have HN0:=HN;clear HN;obtain ⟨BY,BZ,HN⟩:=lay2 w6 113 #[.int .i64 s10,.slice a10 l10 k10] 113 #[.int .i64 s11,.slice a11 l11 k11];replace HNR:=hid (HNR.out.trans HN.out);replace BPR:=hid (BPR.out.new HN.out);replace B:=hid (B.out.new HN.out);replace HI:=hid (HI.out.new HN.out);replace HI10:=hid (HI10.out.new HN.out);have HN_:=HN0.out.trans HN.out;clear HN HN0;have HN:=hid HN_;clear HN_
    have hby:BdK (m+1) ((x+a / x) / 2):=by
     have h1:=Int.natAbs_ediv_le_natAbs (x+a / x) 2;have h2:=HBS.out;unfold BdK at *;omega
    have hst:=newton_step (a:=a) HAP.out HX0.out;have HBY:=hid hby;have HST:=hid hst;clear hby hst;by_cases hle:x≤(x+a / x) / 2
    ·obtain ⟨t,ht,ht0⟩:∃ t,((x+a / x) / 2 - x).sign=t∧0≤t:=⟨_,rfl,Int.sign_nonneg_iff.2 (by omega)⟩;have htb:decide (0≤t)=true:=decide_eq_true ht0;have hxr:=(newton_done HX0.out HXA.out hle).unique HRT.out;clear hle;have HXXR:=hid hxr;clear hxr;obtain ⟨b0,b1,b2,b3,b4⟩:=B.out.two;obtain ⟨y0,y1,y2,y3,y4⟩:=BY.out.two;go_wp2_with fail;refine (cmp_calls _ _ ((x+a / x) / 2) x _ HI10.out HI.out (HBY.out.bd (by omega)) (HBX.out.bd (by omega))).mono ?_;rintro e w7 ⟨rfl,hn⟩;rw[ht];clear ht;clear b0 b1 b2 b3 b4 y0 y1 y2 y3 y4;replace HNR:=hid (HNR.out.trans hn);replace BPR:=hid (BPR.out.new hn);replace B:=hid (B.out.new hn);replace HI:=hid (HI.out.new hn);replace HN:=hid (HN.out.trans hn);clear hn;obtain ⟨b0,b1,b2,b3,b4⟩:=B.out.two;obtain ⟨p0,p1,p2,p3,p4⟩:=BPR.out.two;go_wp2_with fail;refine bodyPost_ret (v:=.agg #[.int .i64 s,.slice o l c]) (by simp[results,Tryz.results117,go_sem,p0,p1]) rfl ?_;refine HEND.out _ _ (HN.out.putAt BPR.out (by omega) _ _) ?_;rw[←HXXR.out];exact HI.out.put2 BPR.out _ _ _ _
    ·obtain ⟨t,ht,ht0⟩:∃ t,((x+a / x) / 2 - x).sign=t∧t < 0:=⟨_,rfl,Int.sign_neg_iff.2 (by omega)⟩
     have hti:¬0≤t:=by omega
     have htb:decide (0≤t)=false:=decide_eq_false hti;have HLE:=hid hle;clear hle;clear ht0;obtain ⟨b0,b1,b2,b3,b4⟩:=B.out.two;obtain ⟨y0,y1,y2,y3,y4⟩:=BY.out.two;go_wp2_with fail;refine (cmp_calls _ _ ((x+a / x) / 2) x _ HI10.out HI.out (HBY.out.bd (by omega)) (HBX.out.bd (by omega))).mono ?_;rintro e w7 ⟨rfl,hn⟩;rw[ht];clear ht;clear b0 b1 b2 b3 b4 y0 y1 y2 y3 y4;replace HNR:=hid (HNR.out.trans hn);replace BPR:=hid (BPR.out.new hn);replace B:=hid (B.out.new hn);replace HI10:=hid (HI10.out.new hn);replace BY:=hid (BY.out.new hn);replace HN:=hid (HN.out.trans hn);clear hn;obtain ⟨b0,b1,b2,b3,b4⟩:=B.out.two;obtain ⟨y0,y1,y2,y3,y4⟩:=BY.out.two;go_wp2_with fail
     go_roundg ((x+a / x) / 2).toNat
     case measure=>have:=HLE.out;have:=HST.out.1;have:=HG.out;omega
     case rel=>exact ⟨_,rfl,HST.out.1,by have:=HLE.out;have:=HXX.out;omega,HST.out.2,HNR.out.put2 HP1.out _ _,⟨_,_,_,_,B.out.put2 _ _,HI10.out.put2 B.out _ _ _ _⟩⟩
end Go.Proofs.YtnjonlnemagomaaGreatDoor
