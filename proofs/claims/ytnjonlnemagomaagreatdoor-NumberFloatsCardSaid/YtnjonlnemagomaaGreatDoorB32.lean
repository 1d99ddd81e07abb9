/- Part B32. -/
import Derived.Test.YtnjonlnemagomaaGreatDoorB25
namespace Go.Proofs.YtnjonlnemagomaaGreatDoor
open Go.RowKit Big Flo Go.Lib Tryz
set_option maxRecDepth 100000
set_option maxHeartbeats 8000000
set_option linter.all false
theorem fpow_parts (q:Rat)(n:Nat):(q^n).num=q.num^n∧(((q^n).den:Nat):Int)=(q.den:Int)^n:=by
 constructor
 ·exact Rat.num_pow q n
 ·rw[Rat.den_pow q n];push_cast;rfl
theorem fpow_calls (va:Value)(q:Rat)(n m:Nat)(w:World)(hx:IsFrac w va q)(hb:FB m q)(hk:m*n+1≤60000000)(hn:n < 9223372036854775808):Calls prog 192 #[va,.int .i64 (n:Int)] w (FracPost w (q^n)):=by
 obtain ⟨sa,aa,la,ca,ta,ba,ma,na,rfl⟩:=hx.shape;have hp:=fun W (h:IsInt W (.agg #[.int .i64 sa,.slice aa la ca]) q.num)=>pow_calls _ _ n m W h hb.num hk hn;have hd:=fun W (h:IsInt W (.agg #[.int .i64 ta,.slice ba ma na]) (q.den:Int))=>pow_calls _ _ n m W h hb.den hk hn;obtain ⟨e1,e2⟩:=fpow_parts q n;rw[←e1] at hp;rw[←e2] at hd;obtain ⟨r,hr⟩:∃ r,q^n=r:=⟨_,rfl⟩;rw[hr] at hp hd⊢;have ad:=hx.parts.1;have ac:=hx.parts.2;clear hb hk e1 e2 hr hx;refine zh5 ?_ hp hd ad ac hn;clear hp hd ad ac hn;intro HP HD af ae ag;go_in;go_upto_region 1 with (fail);obtain ⟨BA,BP,HN⟩:=lay2 w 115 #[.int .i64 sa,.slice aa la ca,.int .i64 ta,.slice ba ma na] 115 #[.int .i64 0,.slice none 0 0,.int .i64 0,.slice none 0 0];have pa:=BA.out.four;clear pa;refine zR 9 10 (fun W=>zF W w.heap.size sa aa la ca ta ba ma na) ?_;refine zT 0 (cW4 BA) ?_;refine zT 1 (cW4 BA) ?_;refine zT 2 (cW4 BA) ?_;refine zT 4 (cW4 BA) ?_;refine zT 5 (cW4 BA) ?_;refine zT 6 (cW4 BA) ?_;refine tk1 3 fun K hK=>?_;go_simp;refine zO (HP _ (af.new HN.drew)) fun w1 s6 a6 l6 c6 hn hi=>?_;have hn:=hn.undrew;have ab:=hid hi;clear hi;obtain ⟨HN,BA,BP⟩:=zn3 hn HN BA.new BP.new;clear hn;refine zK hK (cW4 BA) ?_;clear hK K;refine tk1 7 fun K hK=>?_;go_simp;refine zO (HD _ (ae.new HN)) fun w2 s7 a7 l7 c7 hn hi=>?_;replace hi:=hid hi;obtain ⟨HN,BA,BP,ab⟩:=zn4 hn HN BA.new BP.new ab.new;clear hn;refine zK hK (cW4 BA) ?_;clear hK K;refine zT 8 (cW4 BA) ?_;refine tlW ?_;have pa:=BA.out.four;clear pa;obtain ⟨⟨p0,p1,p2,p3⟩,p4,p5,p6,p7,p8⟩:=BP.out.four;go_wp2_with fail;refine bodyPost_ret (v:=.agg #[.int .i64 s6,.slice a6 l6 c6,.int .i64 s7,.slice a7 l7 c7]) (by simp[results,results192,go_sem,p0,p1,p2,p3]) rfl ?_;exact frac_ret HN BP (by omega) ab hi
def twoQ (k:Int):Rat:=if k < 0 then ((2:Rat)^(-k).toNat)⁻¹ else (2:Rat)^k.toNat
theorem twoP_fb (n:Nat):FB (2*n+1) ((2:Rat)^n):=by
 have h:FB 2 (2:Rat):=⟨by unfold BdK;decide,by unfold BdK;decide⟩;obtain ⟨e1,e2⟩:=fpow_parts 2 n;exact ⟨by rw[e1];exact h.num.pow n,by rw[e2];exact h.den.pow n⟩
theorem twoP_ne (n:Nat):(2:Rat)^n≠0:=by
 intro h;have e1:=(fpow_parts 2 n).1;rw[h] at e1;have:(0:Int) < 2^n:=Int.pow_pos (by omega);have h2:(2:Rat).num=2:=rfl;rw[h2] at e1;simp at e1;omega
theorem twoQ_fb {k:Int}(lo: -4000≤k)(hi:k≤4000):FB 8001 (twoQ k):=by
 unfold twoQ;split
 ·exact ((twoP_fb _).mono (by omega)).inv (twoP_ne _)
 ·exact (twoP_fb _).mono (by omega)
theorem power_calls (k:Int)(w:World)(lo: -4000≤k)(hi:k≤4000):Calls prog 129 #[.int .i64 k] w (FracPost w (twoQ k)):=by
 have f2:FB 2 ((2:Int):Rat):=⟨by unfold BdK;decide,by unfold BdK;decide⟩;by_cases hs:k < 0
 ·obtain ⟨n,hn,rfl⟩:∃ n:Nat,n≤4000∧k= -(n:Int):=⟨(-k).toNat,by omega,by omega⟩
  have hq:twoQ (-(n:Int))=(((2:Int):Rat)^n)⁻¹:=by
   unfold twoQ;rw[if_pos hs]
   have:(- -(n:Int)).toNat=n:=by omega
   rw[this];rfl
  have aa:=fun va W h=>fpow_calls va ((2:Int):Rat) n 2 W h f2 (by omega) (by omega);have hb:FB 8001 (((2:Int):Rat)^n):=(twoP_fb n).mono (by omega);have h0:((2:Int):Rat)^n≠0:=twoP_ne n;have ac:=fun va W h=>inv_calls va (((2:Int):Rat)^n) 8001 W h hb (by omega) h0;rw[←hq] at ac
  have ag:(n:Int)≤4000:=by omega
  clear lo hi hb h0 f2 hn;refine zh3 ?_ aa ac hq;clear aa ac hq;intro af ae HQ;go_in;go_wp2_with fail;obtain ⟨BP,HN⟩:=lay1 w 115 #[.int .i64 0,.slice none 0 0,.int .i64 0,.slice none 0 0];refine zN (f_calls 2 _ (by omega) (by omega)) fun w1 v hn hf=>?_;have ab:=hid hf;clear hf;obtain ⟨HN,BP⟩:=zn2 hn HN BP.new;clear hn;go_wp2_with fail;refine zN (af _ _ ab) fun w2 v hn hf=>?_;have ad:=hid hf;clear hf;obtain ⟨HN,BP⟩:=zn2 hn HN BP.new;clear hn;go_wp2_with fail;refine zS (ae _ _ ad) fun w3 s9 a9 l9 k9 t9 b9 m9 n9 hn hf=>?_;have HF:=hid hf;clear hf;obtain ⟨HN,BP⟩:=zn2 hn HN BP.new;clear hn;obtain ⟨⟨p0,p1,p2,p3⟩,p4,p5,p6,p7,p8⟩:=BP.out.four;go_wp2_with fail;refine bodyPost_ret (v:=.agg #[.int .i64 s9,.slice a9 l9 k9,.int .i64 t9,.slice b9 m9 n9]) (by simp[results,results129,go_sem,p0,p1,p2,p3]) rfl ?_;exact frac_ret HN BP (by omega) HF.parts.1 HF.parts.2
 ·obtain ⟨n,hn,rfl⟩:∃ n:Nat,n≤4000∧k=(n:Int):=⟨k.toNat,by omega,by omega⟩
  have hq:twoQ (n:Int)=((2:Int):Rat)^n:=by
   unfold twoQ;rw[if_neg hs]
   have:((n:Int)).toNat=n:=by omega
   rw[this];rfl
  have aa:=fun va W h=>fpow_calls va ((2:Int):Rat) n 2 W h f2 (by omega) (by omega);rw[←hq] at aa
  have ag:(n:Int)≤4000:=by omega
  clear lo hi f2 hn;replace aa:=hid aa;replace hq:=hid hq;go_in;go_wp2_with fail;obtain ⟨BP,HN⟩:=lay1 w 115 #[.int .i64 0,.slice none 0 0,.int .i64 0,.slice none 0 0];refine zN (f_calls 2 _ (by omega) (by omega)) fun w1 v hn hf=>?_;have ab:=hid hf;clear hf;obtain ⟨HN,BP⟩:=zn2 hn HN BP.new;clear hn;go_wp2_with fail;refine zS (aa _ _ ab) fun w2 s9 a9 l9 k9 t9 b9 m9 n9 hn hf=>?_;replace hf:=hid hf;obtain ⟨HN,BP⟩:=zn2 hn HN BP.new;clear hn;obtain ⟨⟨p0,p1,p2,p3⟩,p4,p5,p6,p7,p8⟩:=BP.out.four;go_wp2_with fail;refine bodyPost_ret (v:=.agg #[.int .i64 s9,.slice a9 l9 k9,.int .i64 t9,.slice b9 m9 n9]) (by simp[results,results129,go_sem,p0,p1,p2,p3]) rfl ?_;exact frac_ret HN BP (by omega) hf.parts.1 hf.parts.2
theorem twoQ_z (k:Int):twoQ k=(2:Rat)^k:=by
 unfold twoQ;split
 ·rename_i h
  have e:k= -(((-k).toNat:Nat):Int):=by omega
  conv=>rhs;rw[e]
  rw[Rat.zpow_neg,Rat.zpow_natCast]
 ·rename_i h
  have e:k=((k.toNat:Nat):Int):=by omega
  conv=>rhs;rw[e]
  rw[Rat.zpow_natCast]
theorem twoQ_pos (k:Int):0 < twoQ k:=by
 rw[twoQ_z];exact Rat.zpow_pos (by decide)
theorem twoQ_nat (n:Nat):twoQ (n:Int)=(2:Rat)^n:=by
 rw[twoQ_z,Rat.zpow_natCast]
theorem twoQ_add (a b:Int):twoQ (a+b)=twoQ a*twoQ b:=by
 rw[twoQ_z,twoQ_z,twoQ_z];exact Rat.zpow_add (by decide) a b
theorem le_div {a b c:Rat}(hb:0 < b):c≤a / b ↔ c*b≤a:=by
 have h:=Rat.div_lt_iff (a:=a) (c:=c) hb;constructor
 ·intro h1;exact Rat.not_lt.1 fun h2=>Rat.not_lt.2 h1 (h.2 h2)
 ·intro h1;exact Rat.not_lt.1 fun h2=>Rat.not_lt.2 h1 (h.1 h2)
theorem twoQ_le {a b:Int}(h:a≤b):twoQ a≤twoQ b:=by
 have e:b=a+((b - a).toNat:Int):=by omega
 rw[e,twoQ_add,twoQ_nat];have h1:=twoQ_pos a
 have h2:(1:Rat)≤(2:Rat)^(b - a).toNat:=by
  have h3:((1:Nat):Rat)≤((2^(b - a).toNat:Nat):Rat):=Rat.natCast_le_natCast.2 (Nat.two_pow_pos _);rw[Rat.natCast_pow] at h3;exact h3
 have h4:=Rat.mul_le_mul_of_nonneg_left h2 (Rat.le_of_lt h1);rw[Rat.mul_one] at h4;exact h4
theorem twoQ_cast (n:Nat):twoQ (n:Int)=((2^n:Nat):Rat):=by
 rw[twoQ_nat,Rat.natCast_pow];rfl
theorem absR_eq (q:Rat):absR q=((q.num.natAbs:Nat):Rat) / ((q.den:Nat):Rat):=by
 have hd:((q.den:Nat):Rat)≠0:=by
  intro h
  have:q.den=0:=by exact_mod_cast h
  exact q.den_nz this
 have e:q*((q.den:Nat):Rat)=(q.num:Rat):=by
  have h:=Rat.num_divInt_den q;rw[Rat.divInt_eq_div] at h;have h2:=Rat.div_mul_cancel (a:=(q.num:Rat)) hd;rw[←Rat.intCast_natCast] at h2⊢;rw[h] at h2;exact h2
 unfold absR;by_cases h:q < 0
 ·rw[if_pos h]
  have hn:q.num < 0:=by
   have:=mt Rat.num_nonneg.1 (Rat.not_le.2 h);omega
  have e2:((q.num.natAbs:Nat):Rat)= -(q.num:Rat):=by
   have:((q.num.natAbs:Nat):Int)= -q.num:=by omega
   rw[←Rat.intCast_natCast,this,Rat.intCast_neg]
  rw[e2,←e,Rat.div_def,Rat.neg_mul,Rat.mul_assoc,Rat.mul_inv_cancel _ hd,Rat.mul_one]
 ·rw[if_neg h];have hn:0≤q.num:=Rat.num_nonneg.2 (Rat.not_lt.1 h)
  have e2:((q.num.natAbs:Nat):Rat)=(q.num:Rat):=by
   have:((q.num.natAbs:Nat):Int)=q.num:=by omega
   rw[←Rat.intCast_natCast,this]
  rw[e2,←e,Rat.div_def,Rat.mul_assoc,Rat.mul_inv_cancel _ hd,Rat.mul_one]
theorem size_bits {N D bn bd:Nat}(hN:N < 2^bn)(hN2:2^bn≤2*N)(hD:D < 2^bd)(hD2:2^bd≤2*D):((N:Nat):Rat) / ((D:Nat):Rat) < twoQ (bn - bd+1)∧twoQ (bn - bd - 1)≤((N:Nat):Rat) / ((D:Nat):Rat):=by
 have aa:(0:Rat) < ((D:Nat):Rat):=by
  have:0 < D:=by
   have:=Nat.two_pow_pos bd;omega
  exact_mod_cast this
 have c1:((N:Nat):Rat) < twoQ bn:=by rw[twoQ_cast];exact Rat.natCast_lt_natCast.2 hN
 have c2:twoQ bn≤2*((N:Nat):Rat):=by
  rw[twoQ_cast];have:=Rat.natCast_le_natCast.2 hN2;rw[Rat.natCast_mul] at this;exact this
 have c3:((D:Nat):Rat) < twoQ bd:=by rw[twoQ_cast];exact Rat.natCast_lt_natCast.2 hD
 have c4:twoQ bd≤2*((D:Nat):Rat):=by
  rw[twoQ_cast];have:=Rat.natCast_le_natCast.2 hD2;rw[Rat.natCast_mul] at this;exact this
 have e1:twoQ ((bn:Int) - bd+1)*twoQ bd=2*twoQ bn:=by
  rw[←twoQ_add,show (bn:Int) - bd+1+bd=1+bn by omega,twoQ_add];rfl
 have e2:2*(twoQ ((bn:Int) - bd - 1)*twoQ bd)=twoQ bn:=by
  rw[←twoQ_add,show (bn:Int) - bd - 1+bd=bn - 1 by omega]
  have:twoQ (bn:Int)=twoQ 1*twoQ (bn - 1):=by rw[←twoQ_add];congr 1;omega
  rw[this];rfl
 have p1:=twoQ_pos ((bn:Int) - bd+1);have p2:=twoQ_pos ((bn:Int) - bd - 1);constructor
 ·rw[Rat.div_lt_iff aa];have h1:=Rat.mul_le_mul_of_nonneg_left c4 (Rat.le_of_lt p1)
  grind
 ·rw[le_div aa];have h1:=Rat.mul_le_mul_of_nonneg_left (Rat.le_of_lt c3) (Rat.le_of_lt p2)
  grind
theorem twoQ_neg (k:Int):twoQ (-k)=(twoQ k)⁻¹:=by
 rw[twoQ_z,twoQ_z,Rat.zpow_neg]
theorem place {s:Rat}{k:Int}(hi:s < twoQ (k+24))(lo:twoQ (k+23)≤s){k':Int}(hk:k'=max k (-149)):
  IsPl (s*twoQ 149) (k'+149).toNat∧s*twoQ (-k')=s*twoQ 149 / ((2^(k'+149).toNat:Nat):Rat):=by
 have ej:(((k'+149).toNat:Nat):Int)=k'+149:=by omega
 have p:=twoQ_pos 149;refine ⟨⟨?_,?_⟩,?_⟩
 ·rw[←twoQ_cast];have h1:twoQ (k+24+149)≤twoQ (((k'+149).toNat+24:Nat):Int):=twoQ_le (by omega);have h2:=Rat.mul_lt_mul_of_pos_right hi p;rw[←twoQ_add] at h2;exact Std.lt_of_lt_of_le h2 h1
 ·rcases Int.lt_or_le k (-149) with h | h
  ·left;omega
  ·right;rw[←twoQ_cast];have h2:=Rat.mul_le_mul_of_nonneg_right lo (Rat.le_of_lt p);rw[←twoQ_add] at h2
   have e:(((k'+149).toNat+23:Nat):Int)=k+23+149:=by omega
   rw[e];exact h2
 ·rw[←twoQ_cast,ej,Rat.div_def,←twoQ_neg,Rat.mul_assoc,←twoQ_add];congr 2;omega
theorem V_inf_le {R:Nat}:Flo.V Ieee.single R < 2^277 ↔ R < 2139095040:=by
 rw[←sinf_V];exact V_lt_iff
theorem rung_big {x:Rat}{j R:Nat}(h:IsPl x j)(hR:(V Ieee.single R:Int)=sigF x j*((2^j:Nat):Int))(hj:254≤j):2139095040≤R:=by
 have h1:=h.lo.resolve_left (by omega)
 have h2:(8388608:Int)≤sigF x j:=by
  have h3:((8388608:Int):Rat)≤x / ((2^j:Nat):Rat):=by
   rw[le_div (two_pos j)]
   have e:((8388608:Int):Rat)*((2^j:Nat):Rat)=((2^(j+23):Nat):Rat):=by
    rw[Nat.pow_add,Nat.mul_comm,Rat.natCast_mul];rfl
   rw[e];exact h1
  have h4:=Rat.le_floor_iff.2 h3;unfold sigF;rcases rndE_cases (x / ((2^j:Nat):Rat)) with ⟨e, -⟩ | ⟨e, -⟩ <;> omega
 rcases Nat.lt_or_ge R 2139095040 with h3 | h3
 ·have h4:=V_inf_le.2 h3
  have h5:((2^277:Nat):Int)≤sigF x j*((2^j:Nat):Int):=by
   have a1:(2^277:Nat)≤8388608*2^j:=by
    have:(2:Nat)^254≤2^j:=Nat.pow_le_pow_right (by omega) hj
    have e:(2:Nat)^277=8388608*2^254:=by decide +kernel
    rw[e];exact Nat.mul_le_mul_left _ this
   have a2:((2^277:Nat):Int)≤((8388608*2^j:Nat):Int):=Int.ofNat_le.2 a1;rw[Int.natCast_mul] at a2;have a3:=Int.mul_le_mul_of_nonneg_right h2 (show (0:Int)≤((2^j:Nat):Int) by omega);exact Int.le_trans a2 a3
  omega
 ·exact h3
theorem half_cases (q:Rat):((crossed (q - (q.floor:Rat)) (Rat.divInt 1 2)).sign=1∧rndE q=q.floor+1)∨((crossed (q - (q.floor:Rat)) (Rat.divInt 1 2)).sign=0∧rndE q=q.floor+q.floor % 2)∨((crossed (q - (q.floor:Rat)) (Rat.divInt 1 2)).sign= -1∧rndE q=q.floor):=by
 have hh:Rat.divInt 1 2=(1 / 2:Rat):=by decide +kernel
 rw[hh];obtain ⟨d,hd⟩:∃ d,q - (q.floor:Rat)=d:=⟨_,rfl⟩;unfold rndE;rw[hd];have hp:=crossed_pos (x:=d) (y:=1 / 2);have hn:=crossed_neg (x:=d) (y:=1 / 2);rcases Int.lt_trichotomy (crossed d (1 / 2)) 0 with h | h | h
 ·have hs:=Int.sign_eq_neg_one_of_neg h;rw[hs] at hp hn⊢;rw[if_pos (hn.1 (by omega))];exact .inr (.inr ⟨rfl,rfl⟩)
 ·rw[h] at hp hn⊢;have h1:¬d < 1 / 2:=fun h=>absurd (hn.2 h) (by decide);have h2:¬1 / 2 < d:=fun h=>absurd (hp.2 h) (by decide)
  have h3:d=1 / 2:=by grind
  rw[if_neg h1,if_pos h3];exact .inr (.inl ⟨rfl,rfl⟩)
 ·have hs:=Int.sign_eq_one_of_pos h;rw[hs] at hp hn⊢;have h1:1 / 2 < d:=hp.1 (by omega);rw[if_neg (by grind),if_neg (by grind)];exact .inl ⟨rfl,rfl⟩
theorem even_calls (va:Value)(q:Rat)(m:Nat)(w:World)(hx:IsFrac w va q)(hb:FB m q)(hm:m≤20000)(h0:0≤q.floor)(h1:q.floor≤4611686018427387904):Calls prog 130 #[va] w (RetNew w (rndE q)):=by
 obtain ⟨sa,aa,la,ca,ta,ba,ma,na,rfl⟩:=hx.shape;have ae:=fun W h=>floor_calls (.agg #[.int .i64 sa,.slice aa la ca,.int .i64 ta,.slice ba ma na]) q m W h hb (by omega);have ad:=half_cases q;have bw:FB 63 (q.floor:Rat):=FB.int (by unfold BdK;omega) (by omega);have af:=fun va vb W h1 h2=>fsub_calls va vb q (q.floor:Rat) m 63 W h1 h2 hb bw (by omega);have bs:FB (m+63+1) (q - (q.floor:Rat)):=hb.sub bw;have b2:FB 2 (Rat.divInt 1 2):=⟨by unfold BdK;decide,by unfold BdK;decide⟩;have ac:=fun va vb W h1 h2=>fcmp_calls va vb (q - (q.floor:Rat)) (Rat.divInt 1 2) _ 2 W h1 h2 bs b2 (by omega);have ag:=fun v W h=>small_calls v q.floor W h (by unfold Sm;omega);have ah:=fun v W h=>whole_calls v q.floor W h;obtain ⟨f,hf⟩:∃ f,q.floor=f:=⟨_,rfl⟩;rw[hf] at h0 h1 ae ad af ac ag ah;unfold SignPost at ac;obtain ⟨r,hr⟩:∃ r,(crossed (q - (f:Rat)) (Rat.divInt 1 2)).sign=r:=⟨_,rfl⟩;obtain ⟨z,hz⟩:∃ z,rndE q=z:=⟨_,rfl⟩;rw[hz];simp only[hr] at ac;rw[hr,hz] at ad;clear bw bs b2 hb hm hf hr hz;have al:=fun va vb W h1 h2=>make_calls va vb 1 2 W h1 h2 ⟨2,by omega,by decide⟩ ⟨2,by omega,by decide⟩ (by omega);have i1:∀ W,IsInt W (.agg #[.int .i64 1,.slice none 0 0]) 1:=fun W=>.small rfl (by omega) (by omega);have i2:∀ W,IsInt W (.agg #[.int .i64 2,.slice none 0 0]) 2:=fun W=>.small rfl (by omega) (by omega);have tm:f.tmod 2=f % 2:=Int.tmod_eq_emod_of_nonneg h0;have f2:0≤f % 2∧f % 2 < 2:=⟨Int.emod_nonneg _ (by omega),Int.emod_lt_of_pos _ (by omega)⟩;refine zh10 ?_ hx ae ad af ac ag ah al i1 i2;clear hx ae ad af ac ag ah al i1 i2;intro HX ao an aq am ar au ap aj ak;go_in;go_upto_region 1 with (fail);obtain ⟨BA,HN⟩:=lay1 w 115 #[.int .i64 sa,.slice aa la ca,.int .i64 ta,.slice ba ma na];have pa:=BA.out.four;go_wp2_with fail;refine zO (ao _ (HX.new HN)) fun w1 s6 a6 l6 c6 hn hi=>?_;have HI:=hid hi;clear hi;clear pa;obtain ⟨HN,BA⟩:=zn2 hn HN BA.new;clear hn;go_upto_region 2 with (fail);obtain ⟨BI,hn⟩:=lay1 w1 113 #[.int .i64 s6,.slice a6 l6 c6];obtain ⟨HN,BA,HI⟩:=zn3 hn HN BA.new HI.new;clear hn;have pi:=BI.out.two;go_wp2_with fail;refine zM (ar _ _ HI) fun w2 hn=>?_;clear pi;obtain ⟨HN,BA,BI,HI⟩:=zn4 hn HN BA.new BI.new HI.new;clear hn;have pa:=BA.out.four;have pi:=BI.out.two;go_wp2_with fail;clear pa;clear pi;refine zR 7 8 (fun W=>zF W w.heap.size sa aa la ca ta ba ma na∧zI W w1.heap.size s6 a6 l6 c6) ?_;refine zT 0 ⟨cW4 BA,cW2 BI⟩ ?_;refine zT 1 ⟨cW4 BA,cW2 BI⟩ ?_;refine tk1 2 fun K hK=>?_;go_simp;refine zN (au _ _ (HI.new (New.refl _).drew)) fun y1 v3 hn hf=>?_;have hn:=hn.undrew;have ai:=hid hf;clear hf;obtain ⟨HN,BA,BI⟩:=zn3 hn HN BA.new BI.new;clear hn;refine zK hK ⟨cW4 BA,cW2 BI⟩ ?_;clear hK K;refine tk1 3 fun K hK=>?_;go_simp;refine zN (aq _ _ _ (HX.new HN) ai) fun y2 v4 hn hf=>?_;clear ai;have ab:=hid hf;clear hf;obtain ⟨HN,BA,BI⟩:=zn3 hn HN BA.new BI.new;clear hn;refine zK hK ⟨cW4 BA,cW2 BI⟩ ?_;clear hK K;refine tk1 4 fun K hK=>?_;go_simp;refine zM (of_calls 1 _) fun y3 hn=>?_;obtain ⟨HN,BA,BI,ab⟩:=zn4 hn HN BA.new BI.new ab.new;clear hn;refine zK hK ⟨cW4 BA,cW2 BI⟩ ?_;clear hK K;refine tk1 5 fun K hK=>?_;go_simp;refine zM (of_calls 2 _) fun y4 hn=>?_;obtain ⟨HN,BA,BI,ab⟩:=zn4 hn HN BA.new BI.new ab.new;clear hn;refine zK hK ⟨cW4 BA,cW2 BI⟩ ?_;clear hK K;refine tk1 6 fun K hK=>?_;go_simp;refine zN (ap _ _ _ (aj _) (ak _)) fun y5 v7 hn hf=>?_;replace hf:=hid hf;obtain ⟨HN,BA,BI,ab⟩:=zn4 hn HN BA.new BI.new ab.new;clear hn;refine zK hK ⟨cW4 BA,cW2 BI⟩ ?_;clear hK K;refine tlW ?_;have pa:=BA.out.four;have pi:=BI.out.two;go_wp2_with fail;refine zM (am _ _ _ ab hf) fun y6 hn=>?_;clear ab hf;clear pa;clear pi;obtain ⟨HN,BA,BI⟩:=zn3 hn HN BA.new BI.new;clear hn;rcases an.out with ⟨rfl,hz⟩ | ⟨rfl,hz⟩ | ⟨rfl,hz⟩
 ·clear f2;have HZ:=hid hz;clear hz;go_wp2_with fail;go_ret;exact ⟨by rw[HZ.out];rfl,HN.out⟩
 ·have HZ:=hid hz;clear hz;go_wp2_with fail;go_ret;exact ⟨by rw[HZ.out];rfl,HN.out⟩
 ·clear f2;replace hz:=hid hz;go_wp2_with fail;go_ret;exact ⟨by rw[hz.out];rfl,HN.out⟩
theorem absR_parts (q:Rat):(absR q).num=(q.num.natAbs:Int)∧(absR q).den=q.den:=by
 unfold absR;by_cases h:q < 0
 ·rw[if_pos h]
  have hn:q.num < 0:=by
   have:=mt Rat.num_nonneg.1 (Rat.not_le.2 h);omega
  rw[Rat.neg_num,Rat.neg_den];exact ⟨by omega,rfl⟩
 ·rw[if_neg h];have hn:0≤q.num:=Rat.num_nonneg.2 (Rat.not_lt.1 h);exact ⟨by omega,rfl⟩
theorem flo_bd {x:Rat}{j:Nat}(h:0≤x)(hi:x < ((2^(j+24):Nat):Rat)):0≤(x / ((2^j:Nat):Rat)).floor∧(x / ((2^j:Nat):Rat)).floor < 16777216:=by
 have h2:=two_pos j;constructor
 ·exact Rat.le_floor_iff.2 ((le_div h2).2 (by simpa using h))
 ·refine Rat.floor_lt_iff.2 ?_
  rw[Rat.div_lt_iff h2,show ((16777216:Int):Rat)*((2^j:Nat):Rat)=((2^(j+24):Nat):Rat) by
   rw[Nat.pow_add,Nat.mul_comm,Rat.natCast_mul];rfl]
  exact hi
theorem rung_fin {n R:Nat}{k:Int}(hn:n≤16777216)(lo: -149≤k)(hi:k≤104)(hR:(Flo.V Ieee.single R:Int)=(n:Int)*((2^(k+149).toNat:Nat):Int)):R < 2139095040 ↔ ¬(n=16777216∧k=104):=by
 rw[←V_inf_le]
 have e:(2:Nat)^277=16777216*2^253:=by decide +kernel
 have hV:Flo.V Ieee.single R=n*2^(k+149).toNat:=by exact_mod_cast hR
 rw[hV,e];have hp:0 < (2:Nat)^253:=Nat.two_pow_pos _;rcases Int.lt_or_le k 104 with h | h
 ·have h1:(2:Nat)^(k+149).toNat≤2^252:=Nat.pow_le_pow_right (by omega) (by omega)
  have h2:(2:Nat)^253=2*2^252:=by rw[Nat.pow_succ,Nat.mul_comm]
  have h3:=Nat.mul_le_mul hn h1;have aa:0 < (2:Nat)^252:=Nat.two_pow_pos _;rw[h2];constructor
  ·intro _ h4;omega
  ·intro _;generalize (2:Nat)^252=D at h3 aa⊢;generalize n*2^(k+149).toNat=X at h3⊢;omega
 ·have h4:k=104:=by omega
  subst h4;show n*2^253 < 16777216*2^253 ↔ _;rw[Nat.mul_lt_mul_right hp];omega
def FltPost (w:World)(b:Nat)(E:Int)(e:Ending)(w':World):Prop:=e=.returned (.tuple #[.float .f32 b,.int .i64 E])∧New w w'
def FracAt (w:World)(P:Nat)(q:Rat):Prop:=∃ (s:Int) (a:Option Addr) (l c:Nat) (t:Int) (d:Option Addr) (m k:Nat),Box w P 115 #[.int .i64 s,.slice a l c,.int .i64 t,.slice d m k]∧IsFrac w (.agg #[.int .i64 s,.slice a l c,.int .i64 t,.slice d m k]) q
structure NearF (q:Rat)(R:Nat):Prop where
 ex:∃ j,IsPl (absR q*twoQ 149) j∧(Flo.V Ieee.single R:Int)=sigF (absR q*twoQ 149) j*((2^j:Nat):Int)
def fltBits (neg:Bool)(R:Nat):Nat:=if R < 2139095040 then (if neg && R != 0 then R+2147483648 else R) else 0
def fltErr (R:Nat):Int:=if R < 2139095040 then 0 else 4
theorem bdk_abs {k:Nat}{x y:Int}(h:x=(y.natAbs:Int))(hy:BdK k y):BdK k x:=by
 unfold BdK at hy⊢;rw[h,Int.natAbs_natCast];exact hy
theorem nfloat_calls (s:ByteArray)(q:Rat)(R:Nat)(hs:s.data.toList=ratText q)(hf:Fits q)(hl:s.size≤100000)(h0:q.num≠0)(hR:NearF q R)(w:World)(he:Env w):Calls prog 41 #[.string s] w (FltPost w (fltBits (decide (q.num < 0)) R) (fltErr R)):=by
 have bz:=fun W hW=>check_calls s W hW hl;rw[hs,ratErr_ratText hf] at bz;have ch:=fun W hW=>from_calls s q W hW hs (by omega);obtain ⟨t,ht,b5⟩:∃ t,q.num.sign=t∧t≠0:=⟨_,rfl,fun h=>h0 (Int.sign_eq_zero_iff_zero.1 h)⟩
 have du:(t==0)=false:=by simpa using b5
 have cp:decide (t < 0)=decide (q.num < 0):=by
  rw[←ht];by_cases h:q.num < 0
  ·rw[decide_eq_true h,decide_eq_true (Int.sign_neg_iff.2 h)]
  ·rw[decide_eq_false h,decide_eq_false (fun h2=>h (Int.sign_neg_iff.1 h2))]
 have fq:=Fits.fb hf;obtain ⟨sz,bk⟩:∃ x,absR q=x:=⟨_,rfl⟩;have aw:=(absR_parts q).1;have bi:=(absR_parts q).2;rw[bk] at aw bi;have fs:FB 2000 sz:=⟨bdk_abs aw fq.num,by rw[bi];exact fq.den⟩;have bw:=fun v W h=>abs_calls v q.num W h;rw[←aw] at bw;have cg:=fun v W h=>bits_calls v sz.num W h ⟨2000,by omega,fs.num⟩;have cf:=fun v W h=>bits_calls v (sz.den:Int) W h ⟨2000,by omega,fs.den⟩
 have au:∀ bn bd:Nat,IsBits sz.num.natAbs bn→IsBits (sz.den:Int).natAbs bd→bn≤2000∧bd≤2000∧sz < twoQ (bn - bd+1)∧twoQ (bn - bd - 1)≤sz:=fun bn bd h1 h2=>by
  have n1:0 < sz.num.natAbs:=by omega
  have n2:0 < (sz.den:Int).natAbs:=by have:=sz.den_pos;omega
  have g1:2^bn≤2*sz.num.natAbs:=by
   rcases h1.ge with h | h
   ·rw[h];omega
   ·have:2^bn≤2^(bn - 1+1):=Nat.pow_le_pow_right (by omega) (by omega);rw[Nat.pow_succ] at this;omega
  have g2:2^bd≤2*(sz.den:Int).natAbs:=by
   rcases h2.ge with h | h
   ·rw[h];omega
   ·have:2^bd≤2^(bd - 1+1):=Nat.pow_le_pow_right (by omega) (by omega);rw[Nat.pow_succ] at this;omega
  have cs:=size_bits h1.lt g1 h2.lt g2
  have e:((sz.num.natAbs:Nat):Rat) / (((sz.den:Int).natAbs:Nat):Rat)=sz:=by
   have:=absR_eq sz;rw[Int.natAbs_natCast,←this,←bk];unfold absR;by_cases h:q < 0
   ·rw[if_pos h,if_neg (by grind)]
   ·rw[if_neg h,if_neg h]
  rw[e]at cs;exact ⟨h1.le fs.num,h2.le fs.den,cs⟩
 have b0:=fun va vb k W (l: -4000≤k) (h:k≤4000) h1 h2=>fcmp_calls va vb sz (twoQ k) 2000 8001 W h1 h2 fs (twoQ_fb l h) (by omega);have co:=fun k W (l: -4000≤k) (h:k≤4000)=>power_calls k W l h;have cm:=fun va vb k W (l: -4000≤k) (h:k≤4000) h1 h2=>fmul_calls va vb sz (twoQ k) 2000 8001 W h1 h2 fs (twoQ_fb l h) (by omega);unfold SignPost at b0;unfold FltPost;have dt:=b5;clear b5 hs hf hl;refine zh12 ?_ he bz ch ht bw cg cf au b0 co cm hR;intro HE cw cy bq b8 cv cu ar ca bo c8 HR;refine zh6 ?_ fs aw bi bk cp h0;clear he bz ch ht bw cg cf au b0 co cm hR fs aw bi bk cp h0;intro FS dm c9 da bf dn;go_in;go_wp2_with fail;refine zM (cw _ HE) fun w1 hn=>?_;have HN:=hid hn;clear hn;go_upto_region 4 with (fail);go_wp2_with fail;refine zS (cy _ (HE.new HN)) fun w2 s2 a2 l2 c2 t2 d2 m2 k2 hn hf=>?_;have HF:=hid hf;clear hf;replace HN:=tW HN hn;clear hn;go_upto_region 5 with (fail);obtain ⟨BX,hn⟩:=lay1 w2 115 #[.int .i64 s2,.slice a2 l2 c2,.int .i64 t2,.slice d2 m2 k2];obtain ⟨HN,HF⟩:=zn2 hn HN HF.new;clear hn;obtain ⟨⟨az,a0,a1,a3⟩,a5,a6,a7,a8,a9⟩:=BX.out.four;go_wp2_with fail;refine zM (fsign_calls _ q _ HF) fun w3 hn=>?_;rw[bq.out];clear az a0 a1 a3 a5 a6 a7 a8 a9;obtain ⟨HN,BX,HF⟩:=zn3 hn HN BX.new HF.new;clear hn;go_upto_region 7 with (fail);have cd:=HN;clear HN
 go_cut [6] (fun x wx=>∃ (P:Nat),x=.pointer (some ⟨P,0,none⟩)∧New w3 wx∧w3.heap.size≤P∧FracAt wx P sz)
 case first=>
  have HN:=hid (New.refl w3);obtain ⟨⟨az,a0,a1,a3⟩,a5,a6,a7,a8,a9⟩:=BX.out.four;refine zR 7 8 (fun W=>zF W w2.heap.size s2 a2 l2 c2 t2 d2 m2 k2) ?_;clear az a0 a1 a3 a5 a6 a7 a8 a9;replace BX:=hid (BX.new (New.refl w3).drew);replace HF:=hid (HF.new (New.refl w3).drew);replace HN:=hid (HN.drew);obtain ⟨dj,cq⟩:∃ x,w3.drew=x:=⟨_,rfl⟩;rw[cq] at HN BX HF⊢;clear cq
  focus
   refine zT 0 (cW4 BX) ?_;refine zT 1 (cW4 BX) ?_;refine zT 3 (cW4 BX) ?_;refine zT 4 (cW4 BX) ?_;refine zw2 2 6 (fun K hK=>?_) fun K hK=>?_
   focus
    go_simp;refine zO (b8 _ _ HF.parts.1) fun ct s4 a4 l4 c4 hn hi=>?_;have bb:=hid hi;clear hi;obtain ⟨HN,BX,HF⟩:=zn3 hn HN BX.new HF.new;clear hn;refine zK hK (cW4 BX) ?_;clear hK K;refine zT 5 (cW4 BX) ?_;have ST1:=trivial
   rotate_left
   focus
    go_simp;have bt:=hid (HN.size);obtain ⟨ct,ay,aq,hn⟩:=laid1 dj 115 #[.int .i64 0,.slice none 0 0,.int .i64 0,.slice none 0 0];rw[ay];clear ay;have BM:=hid aq;clear aq;obtain ⟨HN,BX,HF⟩:=zn3 hn HN BX.new HF.new;clear hn;refine zK hK (cW4 BX) ?_;clear hK K;have ST2:=trivial
   rotate_left
   all_goals try
    clear ST1;refine tk1 6 fun K hK=>?_;go_simp;have bt:=hid (HN.size);obtain ⟨dk,ay,aq,hn⟩:=laid1 ct 115 #[.int .i64 0,.slice none 0 0,.int .i64 0,.slice none 0 0];rw[ay];clear ay;have BM:=hid aq;clear aq;obtain ⟨HN,BX,HF,bb⟩:=zn4 hn HN BX.new HF.new bb.new;clear hn;refine zK hK (cW4 BX) ?_;clear hK K;have ST3:=trivial
   all_goals try
    clear ST2;refine tk1 2 fun K hK=>?_;go_simp;refine zO (b8 _ _ HF.parts.1) fun dk s4 a4 l4 c4 hn hi=>?_;have bb:=hid hi;clear hi;obtain ⟨HN,BX,HF,BM⟩:=zn4 hn HN BX.new HF.new BM.new;clear hn;refine zK hK (cW4 BX) ?_;clear hK K;refine zT 5 (cW4 BX) ?_;have ST3:=trivial
   all_goals
    clear ST3;refine tlW ?_;obtain ⟨⟨az,a0,a1,a3⟩,a5,a6,a7,a8,a9⟩:=BX.out.four;clear az a0 a1 a3 a5 a6 a7 a8 a9;obtain ⟨⟨u0,u1,u2,u3⟩,u4,u5,u6,u7,u8⟩:=BM.out.four;go_wp2_with fail
    go_meet
    exact ⟨_,rfl,HN.put4 bt _ _ _ _,bt,⟨_,_,_,_,_,_,_,_,BM.put4 _ _ _ _,IsFrac.put4 ⟨_,_,_,_,_,_,_,_,rfl,bb,by rw[c9.out];exact HF.out.parts.2⟩ BM _ _ _ _ _ _ _ _⟩⟩
 case rest=>
  obtain ⟨P,rfl,hn,hP,s4,a4,l4,c4,t4,d4,m4,k4,bx,b1⟩:=hcut;obtain ⟨dz,bl⟩:∃ x,x=wc:=⟨_,rfl⟩;rw[←bl] at hn bx b1⊢;clear bl;obtain ⟨BX,HF⟩:=zm2 hn BX.new HF.new;have HN:=hid (cd.trans hn);clear cd hn hP;have BY:=hid bx;have HY:=hid b1;clear bx b1;go_upto_region 8 with (fail);have pb:=BY.out.four;clear pb;refine zR 8 9 (fun W=>zF W P s4 a4 l4 c4 t4 d4 m4 k4) ?_;refine zT 0 (cW4 BY) ?_;refine zT 1 (cW4 BY) ?_;refine zT 3 (cW4 BY) ?_;refine zT 4 (cW4 BY) ?_;refine tk1 2 fun K hK=>?_;go_simp;refine zN (cv _ _ (HY.parts.1.new (New.refl _).drew)) fun d0 bn hn hb=>?_;have hn:=hn.undrew;have b9:=hid hb;clear hb;obtain ⟨HN,BX,HF,BY,HY⟩:=zn5 hn HN BX.new HF.new BY.new HY.new;clear hn;refine zK hK (cW4 BY) ?_;clear hK K;refine tk1 5 fun K hK=>?_;go_simp;refine zN (cu _ _ HY.parts.2) fun de bd hn hb=>?_;replace hb:=hid hb;obtain ⟨HN,BX,HF,BY,HY⟩:=zn5 hn HN BX.new HF.new BY.new HY.new;clear hn;obtain ⟨l1,l2,ao,ap⟩:=ar.out bn bd b9.out hb.out
  have db:(bn:Int)≤2000:=by omega
  have dc:(bd:Int)≤2000:=by omega
  clear b9 hb ar l1 l2;have bc:=hid ao;have be:=hid ap;clear ao ap;refine zK hK (cW4 BY) ?_;clear hK K;refine zT 6 (cW4 BY) ?_;refine zT 7 (cW4 BY) ?_;refine tlW ?_;obtain ⟨⟨ad,ae,af,ag⟩,ah,ai,aj,ak,al⟩:=BY.out.four;go_wp2_with fail;clear ad ae af ag ah ai aj ak al;obtain ⟨k0,cj⟩:∃ k0:Int,(bn:Int) - bd - 24=k0:=⟨_,rfl⟩;simp only[cj];have ao:=bc.out;have ap:=be.out;rw[show (bn:Int) - bd+1=k0+25 by omega] at ao;rw[show (bn:Int) - bd - 1=k0+23 by omega] at ap
  have ck: -2024≤k0:=by omega
  have cl:k0≤1976:=by omega
  clear bc be cj db dc;refine zh4 ?_ ao ap ck cl;clear ao ap ck cl;intro bc be c0 c5;have HW:=HN;clear HN;go_loopw [7] (fun i wr=>∃ kk:Int,i=.int .i64 kk∧Hid (kk=k0∨(kk=k0+1∧twoQ (k0+24)≤sz))∧Hid (New de wr)) (fun i _=>(k0+1 - RowKit.intOf i).toNat)
  case atStart=>exact ⟨k0,rfl,hid (.inl rfl),hid (New.refl _)⟩
  case round=>
   obtain ⟨kk,rfl,HK,HN⟩:=hrel;have hn:=HN.out;obtain ⟨BX,HF,BY,HY⟩:=zm4 hn BX.new HF.new BY.new HY.new;clear hn
   have kl: -2024≤kk:=by have:=c0.out;rcases HK.out with h | ⟨h, -⟩ <;> omega
   have kh:kk≤1977:=by have:=c5.out;rcases HK.out with h | ⟨h, -⟩ <;> omega
   obtain ⟨r,hr⟩:∃ r,(crossed sz (twoQ (kk+24))).sign=r:=⟨_,rfl⟩
   have hi:r < 0 ↔ sz < twoQ (kk+24):=by rw[←hr];exact crossed_neg
   by_cases hlt:sz < twoQ (kk+24)
   ·have rb:decide (r ≥ 0)=false:=decide_eq_false (by have:=hi.2 hlt;omega)
    have b3:twoQ (kk+23)≤sz:=by
     rcases HK.out with h | ⟨h,h2⟩
     ·rw[h];exact be
     ·rw[h,show k0+1+23=k0+24 by omega];exact h2
    obtain ⟨k9,b2⟩:∃ k9,max kk (-149)=k9:=⟨_,rfl⟩;obtain ⟨cn,cr⟩:=place hlt b3 b2.symm;obtain ⟨j,bj,bu⟩:=HR.out.ex;rw[da.out] at bj bu;have hj:j=(k9+149).toNat:=bj.unique cn;subst hj
    have b6: -149≤k9:=by omega
    have dw:k9≤1977:=by omega
    clear hi hlt cn;refine zh6 ?_ b3 hr b2 cr bj bu;clear b3 hr b2 cr bj bu;intro c7 bp c6 br bm ce;go_upto_region 9 with (fail);have pb:=BY.out.four;clear pb;refine zR 5 6 (fun W=>zF W P s4 a4 l4 c4 t4 d4 m4 k4) ?_;refine zT 0 (cW4 BY) ?_;refine zT 1 (cW4 BY) ?_;refine zT 2 (cW4 BY) ?_;refine tk1 3 fun K hK=>?_;go_simp;rw[show IntKind.i64.wrap (kk+24)=kk+24 by rw[IntKind.wrap_i64];omega];refine zN (bo (kk+24) _ (by omega) (by omega)) fun df dd hn hf=>?_;have hn:=hn.undrew;have HG:=hid hf;clear hf;obtain ⟨HN,BX,HF,BY,HY⟩:=zn5 hn HN BX.new HF.new BY.new HY.new;clear hn;refine zK hK (cW4 BY) ?_;clear hK K;refine tk1 4 fun K hK=>?_;go_simp;refine zM (ca _ _ (kk+24) _ (by omega) (by omega) HY HG) fun dg hn=>?_;rw[bp.out];clear HG;obtain ⟨HN,BX,HF,BY,HY⟩:=zn5 hn HN BX.new HF.new BY.new HY.new;clear hn;refine zK hK (cW4 BY) ?_;clear hK K;refine tlW ?_;obtain ⟨⟨ad,ae,af,ag⟩,ah,ai,aj,ak,al⟩:=BY.out.four;clear ad ae af ag ah ai aj ak al;go_upto_region 12 with (fail);rw[c6.out];by_cases hbig:104 < k9
    ·have tb:decide (k9 > 104)=true:=decide_eq_true hbig;have ac:=rung_big bm.out ce.out (by omega)
     have e1:fltBits (decide (q.num < 0)) R=0:=by unfold fltBits;rw[if_neg (by omega)]
     have e2:fltErr R=4:=by unfold fltErr;rw[if_neg (by omega)]
     clear ac;have E1:=hid e1;have E2:=hid e2;clear e1 e2;go_wp2_with fail;go_ret2;exact ⟨by rw[E1.out,E2.out];rfl,HW.out.trans HN.out⟩
    ·have tb:decide (k9 > 104)=false:=decide_eq_false hbig
     have b7:k9≤104:=by omega
     clear hbig;have ax:(0:Rat)≤sz*twoQ 149:=Rat.mul_nonneg (Std.le_trans (Rat.le_of_lt (twoQ_pos _)) c7.out) (Rat.le_of_lt (twoQ_pos _));obtain ⟨g1,g2⟩:=flo_bd ax bm.hi;have bg:=fun v W h=>even_calls v (sz*twoQ (-k9)) 10001 W h ((FS.out.mul (twoQ_fb (by omega) (by omega))).mono (by omega)) (by omega) (by rw[br.out];exact g1) (by rw[br.out];omega);rw[show rndE (sz*twoQ (-k9))=sigF (sz*twoQ 149) (k9+149).toNat by rw[br.out];rfl] at bg;have n1:=sigF_nonneg ax (k9+149).toNat;have n2:=sigF_le bm.out.hi;obtain ⟨n,bh,b4⟩:∃ n:Nat,sigF (sz*twoQ 149) (k9+149).toNat=(n:Int)∧n≤16777216:=⟨_,(Int.toNat_of_nonneg n1).symm,by omega⟩;rw[bh] at bg;have bv:=ce.out;rw[bh] at bv;clear n1 n2 g1 g2 ax;refine zh3 ?_ bg bh bv;clear bg bh bv;intro cx dl an;go_upto_region 14 with (fail);obtain ⟨⟨ad,ae,af,ag⟩,ah,ai,aj,ak,al⟩:=BY.out.four;clear ad ae af ag ah ai aj ak al;refine zR 6 7 (fun W=>zF W P s4 a4 l4 c4 t4 d4 m4 k4) ?_;refine zT 0 (cW4 BY) ?_;refine zT 1 (cW4 BY) ?_;refine zT 2 (cW4 BY) ?_;refine tk1 3 fun K hK=>?_;go_simp;rw[show IntKind.i64.wrap (-k9)= -k9 by rw[IntKind.wrap_i64];omega];refine zN (bo (-k9) _ (by omega) (by omega)) fun d1 dx hn hf=>?_;have hn:=hn.undrew;have HG:=hid hf;clear hf;obtain ⟨HN,BX,HF,BY,HY⟩:=zn5 hn HN BX.new HF.new BY.new HY.new;clear hn;refine zK hK (cW4 BY) ?_;clear hK K;refine tk1 4 fun K hK=>?_;go_simp;refine zN (c8 _ _ (-k9) _ (by omega) (by omega) HY HG) fun d3 dy hn hf=>?_;clear HG;have HG:=hid hf;clear hf;obtain ⟨HN,BX,HF,BY,HY⟩:=zn5 hn HN BX.new HF.new BY.new HY.new;clear hn;refine zK hK (cW4 BY) ?_;clear hK K;refine tk1 5 fun K hK=>?_;go_simp;refine zM (cx _ _ HG) fun d5 hn=>?_;clear HG;obtain ⟨HN,BX,HF,BY,HY⟩:=zn5 hn HN BX.new HF.new BY.new HY.new;clear hn;refine zK hK (cW4 BY) ?_;clear hK K;refine tlW ?_;obtain ⟨⟨ad,ae,af,ag⟩,ah,ai,aj,ak,al⟩:=BY.out.four;clear ad ae af ag ah ai aj ak al;go_upto_region 15 with (fail);have am:=rung_fin b4 b6 b7 an.out;by_cases hmx:n=16777216∧k9=104
     ·obtain ⟨rfl,rfl⟩:=hmx;have ac:¬R < 2139095040:=fun h=>am.1 h ⟨rfl,rfl⟩
      have e1:fltBits (decide (q.num < 0)) R=0:=by unfold fltBits;rw[if_neg ac]
      have e2:fltErr R=4:=by unfold fltErr;rw[if_neg ac]
      clear ac am;have E1:=hid e1;have E2:=hid e2;clear e1 e2;go_wp2_with fail;go_ret2;exact ⟨by rw[E1.out,E2.out];rfl,HW.out.trans HN.out⟩
     ·have ac:R < 2139095040:=am.2 hmx
      have hv:n*2^(k9+149).toNat=Flo.V Ieee.single R:=by
       have:=an.out
       exact_mod_cast this.symm
      have c1:=fun W=>Ldexp_nat n k9 b4 b6 b7 W;have c2:=conv_nat b4 b6 b7 ac hv;obtain ⟨x,hx⟩:∃ x,FloatKind.f64.nearest (n:Int)=x:=⟨_,rfl⟩;have dv:floatOfInt .f64 (n:Int)=x:=hx;obtain ⟨y,hy⟩:∃ y,Ieee.double.nearest false n k9=y:=⟨_,rfl⟩;rw[hy] at c2;simp only[hx,hy] at c1;have c3:=fun W=>run_convert_float_float (P:=prog) W 151 62 .f64 .f32 y R (by kernel_rfl) (by kernel_rfl) c2
      have dr:(n:Int)≤16777216:=by omega
      clear am c2 hv;refine zh4 ?_ c1 hx hy ac;clear c1 hx hy ac;intro C1 dp dq ba;by_cases hn24:(n:Int)=16777216
      ·have t1:((n:Int)==16777216)=true:=by simpa using hn24
       have t2:(k9==104)=false:=by
        have:k9≠104:=fun h=>hmx ⟨by omega,h⟩;simpa using this
       clear hn24 hmx;have pa:=BX.out.four;go_wp2_with fail;refine (C1 _).mono ?_;rintro e dh ⟨rfl,rfl⟩;go_wp2_with fail;refine zM (fsign_calls _ q _ HF) fun di hn=>?_;rw[bq.out];clear pa;replace HN:=tW HN hn;clear hn;by_cases hq:q.num < 0
       ·have tq:decide (t < 0)=true:=by rw[bf.out];exact decide_eq_true hq
        by_cases hn0:(n:Int) > 0
        ·have tn:decide ((n:Int) > 0)=true:=decide_eq_true hn0;have aa:=ba.out
         have av:Op.negFloat .f32 R=R+2147483648:=by
          have:=Flo.neg_sw false (x:=R) (by omega);show Op.negFloat .f32 (Flo.sw false R)=_;rw[this];show 2147483648+R=_;omega
         have ab:R≠0:=by
          intro h0;have h2:=an.out;rw[h0,Flo.V_zero] at h2;have h3:(0:Int) < (n:Int)*((2^(k9+149).toNat:Nat):Int):=Int.mul_pos hn0 (by exact_mod_cast Nat.two_pow_pos _);omega
         have e1:fltBits (decide (q.num < 0)) R=R+2147483648:=by
          unfold fltBits;rw[if_pos aa,decide_eq_true hq]
          have:(R != 0)=true:=by simpa using ab
          rw[this];rfl
         have e2:fltErr R=0:=by unfold fltErr;rw[if_pos aa]
         clear aa ab;have E1:=hid e1;have E2:=hid e2;clear e1 e2;go_wp2_with (refine Flo.wpList_neg32 rfl rfl rfl av ?_);go_wp2_with fail;go_ret2;exact ⟨by rw[E1.out,E2.out];rfl,HW.out.trans HN.out⟩
        ·have tn:decide ((n:Int) > 0)=false:=decide_eq_false hn0;go_wp2_with fail;go_ret2
         have ab:R=0:=by
          have h1:n=0:=by omega
          have h2:=an.out;rw[h1] at h2
          have h3:Flo.V Ieee.single R=0:=by simpa using h2
          exact Flo.V_inj Ieee.single (by rw[h3,Flo.V_zero])
         have e0:∀ b,fltBits b 0=0:=by decide
         have e1:fltBits (decide (q.num < 0)) R=R:=by rw[ab,e0]
         have e2:fltErr R=0:=by rw[ab];rfl
         exact ⟨by rw[e1,e2];rfl,HW.out.trans HN.out⟩
       ·have tq:decide (t < 0)=false:=by rw[bf.out];exact decide_eq_false hq
        go_wp2_with fail;go_ret2;have aa:=ba.out
        have e1:fltBits (decide (q.num < 0)) R=R:=by unfold fltBits;rw[if_pos aa,decide_eq_false (by omega)];rfl
        have e2:fltErr R=0:=by unfold fltErr;rw[if_pos aa]
        exact ⟨by rw[e1,e2];rfl,HW.out.trans HN.out⟩
      ·have t1:((n:Int)==16777216)=false:=by simpa using hn24
       clear hn24 hmx;have pa:=BX.out.four;go_wp2_with fail;refine (C1 _).mono ?_;rintro e dh ⟨rfl,rfl⟩;go_wp2_with fail;refine zM (fsign_calls _ q _ HF) fun di hn=>?_;rw[bq.out];clear pa;replace HN:=tW HN hn;clear hn;by_cases hq:q.num < 0
       ·have tq:decide (t < 0)=true:=by rw[bf.out];exact decide_eq_true hq
        by_cases hn0:(n:Int) > 0
        ·have tn:decide ((n:Int) > 0)=true:=decide_eq_true hn0;have aa:=ba.out
         have av:Op.negFloat .f32 R=R+2147483648:=by
          have:=Flo.neg_sw false (x:=R) (by omega);show Op.negFloat .f32 (Flo.sw false R)=_;rw[this];show 2147483648+R=_;omega
         have ab:R≠0:=by
          intro h0;have h2:=an.out;rw[h0,Flo.V_zero] at h2;have h3:(0:Int) < (n:Int)*((2^(k9+149).toNat:Nat):Int):=Int.mul_pos hn0 (by exact_mod_cast Nat.two_pow_pos _);omega
         have e1:fltBits (decide (q.num < 0)) R=R+2147483648:=by
          unfold fltBits;rw[if_pos aa,decide_eq_true hq]
          have:(R != 0)=true:=by simpa using ab
          rw[this];rfl
         have e2:fltErr R=0:=by unfold fltErr;rw[if_pos aa]
         clear aa ab;have E1:=hid e1;have E2:=hid e2;clear e1 e2;go_wp2_with (refine Flo.wpList_neg32 rfl rfl rfl av ?_);go_wp2_with fail;go_ret2;exact ⟨by rw[E1.out,E2.out];rfl,HW.out.trans HN.out⟩
        ·have tn:decide ((n:Int) > 0)=false:=decide_eq_false hn0;go_wp2_with fail;go_ret2
         have ab:R=0:=by
          have h1:n=0:=by omega
          have h2:=an.out;rw[h1] at h2
          have h3:Flo.V Ieee.single R=0:=by simpa using h2
          exact Flo.V_inj Ieee.single (by rw[h3,Flo.V_zero])
         have e0:∀ b,fltBits b 0=0:=by decide
         have e1:fltBits (decide (q.num < 0)) R=R:=by rw[ab,e0]
         have e2:fltErr R=0:=by rw[ab];rfl
         exact ⟨by rw[e1,e2];rfl,HW.out.trans HN.out⟩
       ·have tq:decide (t < 0)=false:=by rw[bf.out];exact decide_eq_false hq
        go_wp2_with fail;go_ret2;have aa:=ba.out
        have e1:fltBits (decide (q.num < 0)) R=R:=by unfold fltBits;rw[if_pos aa,decide_eq_false (by omega)];rfl
        have e2:fltErr R=0:=by unfold fltErr;rw[if_pos aa]
        exact ⟨by rw[e1,e2];rfl,HW.out.trans HN.out⟩
   ·have rb:decide (r ≥ 0)=true:=decide_eq_true (by
     rcases Int.lt_or_le r 0 with h | h
     ·exact absurd (hi.1 h) hlt
     ·exact h)
    have hK:kk=k0:=by
     rcases HK.out with h | ⟨h, -⟩
     ·exact h
     ·exact absurd (by rw[h,show k0+1+24=k0+25 by omega];exact bc.out) hlt
    have ci:twoQ (k0+24)≤sz:=by rw[←hK];exact Rat.not_lt.1 hlt
    clear hi hlt;refine zh3 ?_ hr hK ci;clear hr hK ci;intro bp cb cz;go_upto_region 9 with (fail);have pb:=BY.out.four;clear pb;refine zR 5 6 (fun W=>zF W P s4 a4 l4 c4 t4 d4 m4 k4) ?_;refine zT 0 (cW4 BY) ?_;refine zT 1 (cW4 BY) ?_;refine zT 2 (cW4 BY) ?_;refine tk1 3 fun K hK=>?_;go_simp;rw[show IntKind.i64.wrap (kk+24)=kk+24 by rw[IntKind.wrap_i64];omega];refine zN (bo (kk+24) _ (by omega) (by omega)) fun df dd hn hf=>?_;have hn:=hn.undrew;replace hf:=hid hf;obtain ⟨HN,BX,HF,BY,HY⟩:=zn5 hn HN BX.new HF.new BY.new HY.new;clear hn;refine zK hK (cW4 BY) ?_;clear hK K;refine tk1 4 fun K hK=>?_;go_simp;refine zM (ca _ _ (kk+24) _ (by omega) (by omega) HY hf) fun dg hn=>?_;rw[bp.out];clear hf;obtain ⟨HN,BX,HF,BY,HY⟩:=zn5 hn HN BX.new HF.new BY.new HY.new;clear hn;refine zK hK (cW4 BY) ?_;clear hK K;refine tlW ?_;have pb:=BY.out.four;clear pb;go_wp2_with fail;go_roundw
    case rel=>exact ⟨kk+1,by go_num,hid (.inr ⟨by rw[cb.out],cz.out⟩),HN⟩
    case measure=>have:=cb.out;simp[RowKit.intOf];omega
theorem stepQ_two (k:Int):stepQ k=twoQ k:=by
 unfold stepQ twoQ;split
 ·rw[Rat.intCast_pow];rfl
 ·rw[Rat.intCast_pow];rfl
theorem part_val_sw (s:Bool){x n i j:Nat}(hx:x < 2139095040)(h:Flo.V Ieee.single x*2^i=n*2^149*2^j):(((if s then -(n:Int) else (n:Int)):Int):Rat)*twoQ ((j:Int) - (i:Int))=fq (Flo.sw s x):=by
 rw[←stepQ_two]
 cases s
 ·exact part_val hx h
 ·rw[if_pos rfl,Rat.intCast_neg,Rat.neg_mul,part_val hx h];exact (fq_neg hx).symm
theorem exact_calls (s:Bool)(x:Nat)(w:World)(h:x < 2139095040):
  Calls prog 125 #[.float .f32 (Flo.sw s x)] w (FracPost w (fq (Flo.sw s x))):=by
 have ac:=fun (n i j:Nat) hh=>part_val_sw s (x:=x) (n:=n) (i:=i) (j:=j) h hh;obtain ⟨U,hU⟩:∃ U,U=2^149:=⟨_,rfl⟩;obtain ⟨V,hV⟩:∃ V,Flo.V Ieee.single=V:=⟨_,rfl⟩
 have bg:∀ y,16777216≤y→V y=V (y - 8388608)*2:=fun y hy=>by
  have:=Flo.V_up (x:=y - 8388608) (by omega);rw[Nat.sub_add_cancel (by omega),hV] at this;omega
 have bj:∀ y,y < 2139095040→geqF y 1266679808=decide (1266679808≤y):=fun y hy=>by
  unfold geqF;rw[ord_pos hy (by omega),cmp_gt,cmp_eq];rw[Bool.eq_iff_iff,Bool.or_eq_true,decide_eq_true_eq,decide_eq_true_eq,decide_eq_true_eq];constructor
  ·intro hh;rcases Nat.lt_or_ge y 1266679808 with h1 | h1
   ·have:=Flo.V_lt Ieee.single h1;omega
   ·exact h1
  ·intro hh;have:=Flo.V_le Ieee.single hh;omega
 have a3:∀ y,y < 2139095040→Op.negFloat .f32 (Flo.sw s y)=Flo.sw (!s) y:=fun y hy=>Flo.neg_sw s (by omega);have a0:∀ y,y < 2139095040→∀ (ts:Array TypeId) (t:TypeId) (W:World),(Builtin.max_ ts t #[.float .f32 (Flo.sw s y),.float .f32 (Flo.sw (!s) y)]).run prog W=.ok (.float .f32 y) W:=fun y hy ts t W=>Flo.max_sw s hy ts t W;have aa:∀ y,1266679808≤y→y < 2139095040→∀ W,(binOp .quo 62 (.float .f32 (Flo.sw s y)) (.float .f32 1073741824)).run prog W=.ok (.float .f32 (Flo.sw s (y - 8388608))) W:=fun y h1 h2 W=>run_float_arith W .quo 62 .f32 _ _ _ (Flo.shalve_sw s (y:=y - 8388608) (by omega) (by omega) h2)
 have ap:∀ y,y < 1266679808→V y < 16777216*U:=fun y hy=>by
  have:=Flo.V_lt Ieee.single hy;rw[Flo.one_unit,←hU,hV] at this;exact this
 have af:∀ z,z≠0→z < 1258291200→(∀ W,(binOp .mul 62 (.float .f32 (Flo.sw s z)) (.float .f32 1073741824)).run prog W=.ok (.float .f32 (Flo.sw s (Flo.dbl z))) W)∧V (Flo.dbl z)=V z*2:=fun z h1 h2=>⟨fun W=>run_float_arith W .mul 62 .f32 _ _ _ (Flo.sdouble_sw s h1 (by omega)),by rw[←hV,Flo.V_dbl];omega⟩;have bo:∀ z,V z < 16777216*U→z < 1266679808:=fun z hz=>Flo.inf_lt (by rw[hV,←hU];exact hz)
 have ag:∀ z,z < 1266679808→∃ (r n:Nat) (N:Int),n < 16777216∧N.natAbs=n∧n=V z / U∧N=(if s then -(n:Int) else (n:Int))∧floatToIntVal .f32 (Flo.sw s z) .i64=some N∧floatOfInt .f32 N=r∧(FloatKind.f32.format.order (Flo.sw s z) r != some .eq)=!decide (V z=n*U):=fun z hz=>by
  have h1:=Flo.swhole s hz;rw[hV,←hU] at h1;exact h1
 have aj:∀ z,V z < 16777216*U→¬V z % U=0→V z*2 < 16777216*U∧z≠0∧z < 1258291200:=fun z h1 h2=>by
  rw[←hV]at h1 h2⊢;exact part_step hU h1 h2
 simp only[hV,←hU]at ac
 have ax:∀ v i:Nat,149≤i→v*2^i % U=0:=fun v i hi=>by
  obtain ⟨k,rfl⟩:∃ k,i=149+k:=⟨i - 149,by omega⟩;rw[hU,Nat.pow_add,Nat.mul_left_comm];exact Nat.mul_mod_right _ _
 obtain ⟨q,hq⟩:∃ q,fq (Flo.sw s x)=q:=⟨_,rfl⟩;rw[hq] at ac⊢;obtain ⟨S,hS⟩:∃ S,Flo.sw s=S:=⟨_,rfl⟩;obtain ⟨T,hT⟩:∃ T,Flo.sw (!s)=T:=⟨_,rfl⟩;simp only[hS,hT] at a3 a0 aa af ag;rw[hS];clear hV hU hq hS hT;refine zh12 ?_ ac bg bj a3 a0 aa ap af bo ag aj h;intro be bz ba bv bu aq bc a7 bx bb au H;replace ax:=hid ax;clear ac bg bj a3 a0 aa ap af bo ag aj h;go_in;go_wp2_with fail;obtain ⟨BP,HN⟩:=lay1 w 115 #[.int .i64 0,.slice none 0 0,.int .i64 0,.slice none 0 0];go_loopw [0,3] (fun f k wr=>∃ (y F j:Nat) (K:Int),Hid (K=(j:Int)∧S y=F∧y+8388608*j=x∧V x=V y*2^j∧j≤104)∧f=.float .f32 F∧k=.int .i64 K∧Hid (New w wr)∧Hid (Box wr w.heap.size 115 #[.int .i64 0,.slice none 0 0,.int .i64 0,.slice none 0 0])) (fun _ k _=>(105 - RowKit.intOf k).toNat)
 case atStart=>exact ⟨x,_,0,0,hid ⟨rfl,rfl,by omega,by rw[Nat.pow_zero,Nat.mul_one],by omega⟩,rfl,rfl,HN,BP⟩
 case round=>
  obtain ⟨y,F,j,K,HI,rfl,rfl,HN,BP⟩:=hrel;obtain ⟨hK,ad,bp,am,hj⟩:=HI.out;have hx:=H.out
  have b1:0≤K:=by omega
  have b0:K≤104:=by omega
  have ah:=bv.out y (by omega);have a1:=bu.out y (by omega);rw[ad] at ah a1;obtain ⟨G,hG⟩:∃ G,T y=G:=⟨_,rfl⟩;rw[hG] at ah;simp only[hG] at a1;by_cases hlt:1266679808≤y
  ·have hg:=ba.out y (by omega);rw[decide_eq_true hlt] at hg;unfold geqF at hg;have hr:=aq.out y hlt (by omega);have hv:=bz.out y (by omega);obtain ⟨y1,a5⟩:∃ q,y - 8388608=q:=⟨_,rfl⟩;obtain ⟨F1,av⟩:∃ F1,S y1=F1:=⟨_,rfl⟩;rw[a5] at hv;simp only[a5,av,ad] at hr
   have ar:Hid (K+1=((j+1:Nat):Int)∧S y1=F1∧y1+8388608*(j+1)=x∧V x=V y1*2^(j+1)∧j+1≤104):=by
    refine hid ⟨by omega,av,by omega,?_,by omega⟩;rw[am,hv,Nat.pow_succ,Nat.mul_comm (2^j),Nat.mul_assoc]
   clear HI bp am hlt a5 hv hK hj hx av ad hG;go_wp2_with (refine Flo.wpList_neg32 rfl rfl rfl ah ?_);go_wp2_with fail;go_roundw
   case rel=>exact ⟨y1,F1,j+1,K+1,ar,rfl,rfl,HN,BP⟩
   case measure=>simp[RowKit.intOf];omega
  ·have hg:=ba.out y (by omega);rw[decide_eq_false hlt] at hg;unfold geqF at hg;rw[Bool.or_eq_false_iff] at hg;obtain ⟨b3,b4⟩:=hg;have az:=bc.out y (by omega);replace az:=hid az;replace ad:=hid ad;clear HI bp hlt hx hG;refine zh3 ?_ am hj hK;clear am hj hK;intro HV HJ bt;go_wp2_with (refine Flo.wpList_neg32 rfl rfl rfl ah ?_);go_wp2_with fail;clear b3 b4 ah a1;go_loopw [0,3] (fun f k wr=>∃ (z F1 i:Nat) (L:Int),Hid (L=(j:Int) - (i:Int)∧S z=F1∧V z=V y*2^i∧i≤149∧V z < 16777216*U)∧f=.float .f32 F1∧k=.int .i64 L∧Hid (New w wr)∧Hid (Box wr w.heap.size 115 #[.int .i64 0,.slice none 0 0,.int .i64 0,.slice none 0 0])) (fun _ k _=>(150+RowKit.intOf k).toNat)
   case atStart=>exact ⟨y,F,0,K,hid ⟨by have:=bt.out;omega,ad.out,by rw[Nat.pow_zero,Nat.mul_one],by omega,az.out⟩,rfl,rfl,HN,BP⟩
   case round=>
    clear b1 b0;obtain ⟨z,F1,i,L,HI,rfl,rfl,HN,BP⟩:=hrel;obtain ⟨hL,al,ae,hi,ao⟩:=HI.out;have hj:=HJ.out
    have b2: -149≤L:=by omega
    have b7:L≤104:=by omega
    obtain ⟨r,n,N,hn,bf,a2,hN,bi,cd,ab⟩:=bb.out z (bx.out z ao);rw[al] at bi ab
    have ca: -16777216≤N:=by omega
    have b8:N≤16777216:=by omega
    have cb:=fun W=>run_convert_float_int (P:=prog) W 62 3 .f32 .i64 F1 N (by kernel_rfl) underlying3 bi;by_cases hd:V z % U=0
    ·have e:V z=n*U:=by
      rw[a2];have:=Nat.div_add_mod (V z) U;rw[hd,Nat.add_zero,Nat.mul_comm] at this;exact this.symm
     rw[decide_eq_true e]at ab;replace ab:(FloatKind.f32.format.order F1 r != some .eq)=false:=ab;have ai:=be.out n i j (by rw[HV.out,Nat.mul_right_comm,←ae,e]);rw[←hN] at ai;have an:=fun va vb W h1 h2=>fmul_calls va vb (N:Rat) (twoQ ((j:Int) - (i:Int))) 62 8001 W h1 h2 (FB.int (k:=62) (Nat.lt_of_le_of_lt (m:=16777216) (by omega) (by decide)) (by omega)) (twoQ_fb (by omega) (by omega)) (by omega);rw[ai] at an;have a4:=fun W=>power_calls ((j:Int) - (i:Int)) W (by omega) (by omega);rw[←hL] at a4 an;have bh:=fun W=>f_calls N W (by omega) (by omega);clear HI ae ao hn a2 hN bf hd e ai hi hL hj al;refine zh3 ?_ an a4 bh;clear an a4 bh;intro br bw bq;go_wp2_with fail;refine zN (bq _) fun w1 v1 hn hf=>?_;have ak:=hid hf;clear hf;obtain ⟨HN,BP⟩:=zn2 hn HN BP.new;clear hn;go_wp2_with fail;refine zN (bw _) fun w2 v2 hn hf=>?_;have a8:=hid hf;clear hf;obtain ⟨HN,BP,ak⟩:=zn3 hn HN BP.new ak.new;clear hn;go_wp2_with fail;refine zS (br _ _ _ ak a8) fun w3 s9 a9 l9 k9 t9 b9 m9 n9 hn hf=>?_;clear ak a8;replace hf:=hid hf;obtain ⟨HN,BP⟩:=zn2 hn HN BP.new;clear hn;obtain ⟨⟨p0,p1,p2,p3⟩,p4,p5,p6,p7,p8⟩:=BP.out.four;go_wp2_with fail;refine bodyPost_ret (v:=.agg #[.int .i64 s9,.slice a9 l9 k9,.int .i64 t9,.slice b9 m9 n9]) (by simp[results,results125,go_sem,p0,p1,p2,p3]) rfl ?_;exact frac_ret HN BP (by omega) hf.parts.1 hf.parts.2
    ·have e:¬V z=n*U:=by
      intro e;apply hd;rw[e];exact Nat.mul_mod_left _ _
     rw[decide_eq_false e]at ab;replace ab:(FloatKind.f32.format.order F1 r != some .eq)=true:=ab;obtain ⟨b5,bm,bn⟩:=au.out z ao hd;obtain ⟨bl,ay⟩:=a7.out z bm bn;obtain ⟨z1,a6⟩:∃ q,Flo.dbl z=q:=⟨_,rfl⟩;obtain ⟨F2,aw⟩:∃ q,S z1=q:=⟨_,rfl⟩;rw[a6] at ay;simp only[a6,aw,al] at bl
     have bk:i < 149:=by
      rcases Nat.lt_or_ge i 149 with h | h
      ·exact h
      ·rw[ae] at hd;exact absurd (ax _ _ h) hd
     have ar:Hid (L - 1=(j:Int) - ((i+1:Nat):Int)∧S z1=F2∧V z1=V y*2^(i+1)∧i+1≤149∧V z1 < 16777216*U):=by
      refine hid ⟨by omega,aw,?_,bk,by omega⟩;rw[ay,ae,Nat.pow_succ,Nat.mul_assoc]
     have b6: -149≤L - 1:=by omega
     clear HI ae ao hn a2 hN bf hd e hi hL hj b5 bm bn ay a6 bk b2 al aw;go_wp2_with fail;go_roundw
     case rel=>exact ⟨z1,F2,i+1,L - 1,ar,rfl,rfl,HN,BP⟩
     case measure=>simp[RowKit.intOf];omega
theorem fq_fb (s:Bool){y:Nat}(h:y < 2139095040):FB 280 (fq (Flo.sw s y)):=by
 unfold fq;rw[(Flo.sw_fin s h).2.2.2];have h1:=Flo.V_lt Ieee.single h
 have h2:Flo.V Ieee.single 2139095040 < 2^280:=by decide +kernel
 refine FB.divInt ?_ (by unfold BdK;decide +kernel) (by decide);unfold BdK
 cases s
 ·rw[if_neg (by decide),Int.natAbs_natCast];exact Nat.lt_trans h1 h2
 ·rw[if_pos rfl,Int.natAbs_neg,Int.natAbs_natCast];exact Nat.lt_trans h1 h2
theorem nexact_calls (x:Nat)(hx:x < 4294967296)(h:isFin x=true)(w:World)(he:Env w):Calls prog 40 #[.float .f32 x] w (TxtPost w (rs (fq x)) 0):=by
 obtain ⟨s,y,hy,rfl⟩:∃ (s:Bool) (y:Nat),y < 2139095040∧x=Flo.sw s y:=by
  have hr:x % 2147483648 < 2139095040:=by
   unfold isFin Ieee.Format.read at h;simp only[Flo.ssw,Flo.sbin,Flo.sinf] at h;split at h
   ·rename_i hh;split at hh
    ·omega
    ·split at hh
     ·assumption
     ·split at hh <;> cases hh
   ·cases h
  by_cases h1:x < 2147483648
  ·exact ⟨false,x,by omega,rfl⟩
  ·exact ⟨true,x - 2147483648,by omega,by show x=2147483648+_;omega⟩
 have af:=fq_fb s hy;have aa:=fun W=>finite_calls (Flo.sw s y) W;rw[h] at aa;have ac:=fun W=>exact_calls s y W hy;have ad:=fun (W:World) v hh hW=>text_calls v (fq (Flo.sw s y)) W hh (af.mono (by omega)) hW;obtain ⟨q,hq⟩:∃ q,fq (Flo.sw s y)=q:=⟨_,rfl⟩;obtain ⟨x,ab⟩:∃ x,Flo.sw s y=x:=⟨_,rfl⟩;obtain ⟨X,hX⟩:∃ X,rs q=X:=⟨_,rfl⟩;have ae:(⟨(ratText q).toArray⟩:ByteArray)=X:=hX;simp only[ab] at hq;simp only[ab,hq,ae] at ac ad aa;rw[ab,hq,hX];unfold TxtPost;clear hq ab hX ae af hx h hy;refine zh5 ?_ (New.refl w) aa ac ad he;clear aa ac ad he;intro HN ah ag ai HE;go_in;go_wp2_with fail;refine (ah _).mono ?_;rintro e w1 ⟨rfl,m,rfl⟩;have hn:=(New.refl w).drewN m;replace HN:=tW HN hn;clear hn;go_wp2_with fail;refine zN (ag _) fun w2 v2 hn hf=>?_;replace hf:=hid hf;replace HN:=tW HN hn;clear hn;go_wp2_with fail;refine zM (ai _ _ hf (HE.new HN)) fun w3 hn=>?_;replace HN:=tW HN hn;clear hn;go_wp2_with fail;refine bodyPost_ret (v:=.tuple #[.string X,.int .i64 0]) (by simp[results,results40,go_sem]) rfl ?_;exact ⟨rfl,HN⟩
end Go.Proofs.YtnjonlnemagomaaGreatDoor
