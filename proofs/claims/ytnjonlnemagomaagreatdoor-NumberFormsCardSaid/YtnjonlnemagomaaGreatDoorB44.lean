/- Part B44. -/
import Derived.Test.YtnjonlnemagomaaGreatDoorB36
namespace Go.Proofs.YtnjonlnemagomaaGreatDoor
open Go.RowKit Big Flo
open Go.Lib (hid)
set_option maxRecDepth 100000
set_option maxHeartbeats 8000000
theorem y7y (q:Rat)(n:Nat):(q^n).num=q.num^n/\(((q^n).den:Nat):Int)=(q.den:Int)^n:=by
 constructor
 ·exact Rat.num_pow q n
 ·rw[Rat.den_pow q n];push_cast;rfl
theorem yaz (va:Value)(q:Rat)(n m:Nat)(w:World)(hx:y07 w va q)(hb:FB m q)(hk:m*n+1<=60000000)(hn:n < 9223372036854775808):Calls Tryz.prog 192 #[va,.int .i64 (n:Int)] w (y1h w (q^n)):=by
 obtain ⟨sa,aa,la,ca,ta,ba,ma,na,rfl⟩:=hx.shape;have hp:=fun W (h:y06 W (.agg #[.int .i64 sa,.slice aa la ca]) q.num)=>y5z _ _ n m W h hb.num hk hn;have hd:=fun W (h:y06 W (.agg #[.int .i64 ta,.slice ba ma na]) (q.den:Int))=>y5z _ _ n m W h hb.den hk hn;obtain ⟨e1,e2⟩:=y7y q n;rw[<-e1] at hp;rw[<-e2] at hd;obtain ⟨r,hr⟩:∃ r,q^n=r:=⟨_,rfl⟩;rw[hr] at hp hd⊢;have hpn:=hx.parts.1;have hpd:=hx.parts.2;clear hb hk e1 e2 hr hx;have HP:=hid hp;have HD:=hid hd;have HPN:=hid hpn;have HPD:=hid hpd;have HNN:=hid hn;clear hp hd hpn hpd hn;go_enter Tryz.func192,Tryz.ntmps192;go_upto_region 1 with (fail);obtain ⟨BA,BP,HN⟩:=lay2 w 115 #[.int .i64 sa,.slice aa la ca,.int .i64 ta,.slice ba ma na] 115 #[.int .i64 0,.slice none 0 0,.int .i64 0,.slice none 0 0];obtain ⟨⟨pa0,pa1,pa2,pa3⟩,pa4,pa5,pa6,pa7,pa8⟩:=BA.out.four;clear pa0 pa1 pa2 pa3 pa4 pa5 pa6 pa7 pa8;refine y00 9 (fun W=>W.cell? ⟨w.heap.size,0,none⟩=some (.int .i64 sa)/\W.cell? ⟨w.heap.size,1,none⟩=some (.slice aa la ca)/\W.cell? ⟨w.heap.size,2,none⟩=some (.int .i64 ta)/\W.cell? ⟨w.heap.size,3,none⟩=some (.slice ba ma na)) 10 #[false,false,false,false,false,false,false,false,false,false] rfl (by kernel_rfl) (by kernel_rfl) ?_;refine tk 0 (by exact cW4 BA) ?_
 try simp only[PT]
 refine tk 1 (by exact cW4 BA) ?_
 try simp only[PT]
 refine tk 2 (by exact cW4 BA) ?_
 try simp only[PT]
 refine tk 4 (by exact cW4 BA) ?_
 try simp only[PT]
 refine tk 5 (by exact cW4 BA) ?_
 try simp only[PT]
 refine tk 6 (by exact cW4 BA) ?_
 try simp only[PT]
 refine tk1 3 fun K hK=>?_;go_simp;refine (HP.out _ (HPN.out.new HN.out.drew)).mono ?_;rintro e w1 ⟨v1,rfl,hn,hi⟩;have hn:=hn.undrew;obtain ⟨s6,a6,l6,c6,rfl⟩:=hi.shape;have HI1:=hid hi;clear hi;replace BA:=bW BA hn;replace BP:=bW BP hn;replace HN:=tW HN hn;clear hn;refine hK.out _ _ (fun _=>cW4 BA) ?_;clear hK K
 try simp only[PT]
 refine tk1 7 fun K hK=>?_;go_simp;refine (HD.out _ (HPD.out.new HN.out)).mono ?_;rintro e w2 ⟨v2,rfl,hn,hi⟩;obtain ⟨s7,a7,l7,c7,rfl⟩:=hi.shape;have HI2:=hid hi;clear hi;replace BA:=bW BA hn;replace BP:=bW BP hn;replace HI1:=hid (HI1.out.new hn);replace HN:=tW HN hn;clear hn;refine hK.out _ _ (fun _=>cW4 BA) ?_;clear hK K
 try simp only[PT]
 refine tk 8 (by exact cW4 BA) ?_
 try simp only[PT]
 refine tlW ?_;obtain ⟨⟨pa0,pa1,pa2,pa3⟩,pa4,pa5,pa6,pa7,pa8⟩:=BA.out.four;clear pa0 pa1 pa2 pa3 pa4 pa5 pa6 pa7 pa8;obtain ⟨⟨p0,p1,p2,p3⟩,p4,p5,p6,p7,p8⟩:=BP.out.four;go_wp2_with fail;refine bodyPost_ret (v:=.agg #[.int .i64 s6,.slice a6 l6 c6,.int .i64 s7,.slice a7 l7 c7]) (by simp[results,Tryz.results192,go_sem,p0,p1,p2,p3]) rfl ?_;exact y10 HN.out BP.out (by omega) HI1.out HI2.out
def twoQ (k:Int):Rat:=if k < 0 then ((2:Rat)^(-k).toNat)⁻¹ else (2:Rat)^k.toNat
theorem yfm (n:Nat):FB (2*n+1) ((2:Rat)^n):=by
 have h:FB 2 (2:Rat):=⟨by unfold BdK;decide,by unfold BdK;decide⟩;obtain ⟨e1,e2⟩:=y7y 2 n;exact ⟨by rw[e1];exact h.num.pow n,by rw[e2];exact h.den.pow n⟩
theorem ykz (n:Nat):(2:Rat)^n≠0:=by
 intro h;have e1:=(y7y 2 n).1;rw[h] at e1;have:(0:Int) < 2^n:=Int.pow_pos (by omega);have h2:(2:Rat).num=2:=rfl;rw[h2] at e1;simp at e1;omega
theorem yc5 {k:Int}(lo: -4000<=k)(hi:k<=4000):FB 8001 (twoQ k):=by
 unfold twoQ;split
 ·exact ((yfm _).mono (by omega)).inv (ykz _)
 ·exact (yfm _).mono (by omega)
theorem y8x (k:Int)(w:World)(lo: -4000<=k)(hi:k<=4000):Calls Tryz.prog 129 #[.int .i64 k] w (y1h w (twoQ k)):=by
 have f2:FB 2 ((2:Int):Rat):=⟨by unfold BdK;decide,by unfold BdK;decide⟩;by_cases hs:k < 0
 ·obtain ⟨n,hn,rfl⟩:∃ n:Nat,n<=4000/\k= -(n:Int):=⟨(-k).toNat,by omega,by omega⟩
  have hq:twoQ (-(n:Int))=(((2:Int):Rat)^n)⁻¹:=by
   unfold twoQ;rw[if_pos hs]
   have:(- -(n:Int)).toNat=n:=by omega
   rw[this];rfl
  have hpw:=fun va W h=>yaz va ((2:Int):Rat) n 2 W h f2 (by omega) (by omega);have hb:FB 8001 (((2:Int):Rat)^n):=(yfm n).mono (by omega);have h0:((2:Int):Rat)^n≠0:=ykz n;have hin:=fun va W h=>yda va (((2:Int):Rat)^n) 8001 W h hb (by omega) h0;rw[<-hq] at hin
  have hni:(n:Int)<=4000:=by omega
  clear lo hi hb h0 f2 hn;have HPW:=hid hpw;have HIN:=hid hin;have HQ:=hid hq;clear hpw hin hq;go_enter Tryz.func129,Tryz.ntmps129;go_wp2_with fail;obtain ⟨BP,HN⟩:=lay1 w 115 #[.int .i64 0,.slice none 0 0,.int .i64 0,.slice none 0 0];refine (y9l 2 _ (by omega) (by omega)).mono ?_;rintro e w1 ⟨v,rfl,hn,hf⟩;have HF1:=hid hf;clear hf;replace BP:=bW BP hn;replace HN:=tW HN hn;clear hn;go_wp2_with fail;refine (HPW.out _ _ HF1.out).mono ?_;rintro e w2 ⟨v,rfl,hn,hf⟩;have HF2:=hid hf;clear hf;replace BP:=bW BP hn;replace HN:=tW HN hn;clear hn;go_wp2_with fail;refine (HIN.out _ _ HF2.out).mono ?_;rintro e w3 ⟨v,rfl,hn,hf⟩;obtain ⟨s9,a9,l9,k9,t9,b9,m9,n9,rfl⟩:=hf.shape;have HF:=hid hf;clear hf;replace BP:=bW BP hn;replace HN:=tW HN hn;clear hn;obtain ⟨⟨p0,p1,p2,p3⟩,p4,p5,p6,p7,p8⟩:=BP.out.four;go_wp2_with fail;refine bodyPost_ret (v:=.agg #[.int .i64 s9,.slice a9 l9 k9,.int .i64 t9,.slice b9 m9 n9]) (by simp[results,Tryz.results129,go_sem,p0,p1,p2,p3]) rfl ?_;exact y10 HN.out BP.out (by omega) HF.out.parts.1 HF.out.parts.2
 ·obtain ⟨n,hn,rfl⟩:∃ n:Nat,n<=4000/\k=(n:Int):=⟨k.toNat,by omega,by omega⟩
  have hq:twoQ (n:Int)=((2:Int):Rat)^n:=by
   unfold twoQ;rw[if_neg hs]
   have:((n:Int)).toNat=n:=by omega
   rw[this];rfl
  have hpw:=fun va W h=>yaz va ((2:Int):Rat) n 2 W h f2 (by omega) (by omega);rw[<-hq] at hpw
  have hni:(n:Int)<=4000:=by omega
  clear lo hi f2 hn;have HPW:=hid hpw;have HQ:=hid hq;clear hpw hq;go_enter Tryz.func129,Tryz.ntmps129;go_wp2_with fail;obtain ⟨BP,HN⟩:=lay1 w 115 #[.int .i64 0,.slice none 0 0,.int .i64 0,.slice none 0 0];refine (y9l 2 _ (by omega) (by omega)).mono ?_;rintro e w1 ⟨v,rfl,hn,hf⟩;have HF1:=hid hf;clear hf;replace BP:=bW BP hn;replace HN:=tW HN hn;clear hn;go_wp2_with fail;refine (HPW.out _ _ HF1.out).mono ?_;rintro e w2 ⟨v,rfl,hn,hf⟩;obtain ⟨s9,a9,l9,k9,t9,b9,m9,n9,rfl⟩:=hf.shape;have HF:=hid hf;clear hf;replace BP:=bW BP hn;replace HN:=tW HN hn;clear hn;obtain ⟨⟨p0,p1,p2,p3⟩,p4,p5,p6,p7,p8⟩:=BP.out.four;go_wp2_with fail;refine bodyPost_ret (v:=.agg #[.int .i64 s9,.slice a9 l9 k9,.int .i64 t9,.slice b9 m9 n9]) (by simp[results,Tryz.results129,go_sem,p0,p1,p2,p3]) rfl ?_;exact y10 HN.out BP.out (by omega) HF.out.parts.1 HF.out.parts.2
theorem y9q (k:Int):twoQ k=(2:Rat)^k:=by
 unfold twoQ;split
 ·rename_i h
  have e:k= -(((-k).toNat:Nat):Int):=by omega
  conv=>rhs;rw[e]
  rw[Rat.zpow_neg,Rat.zpow_natCast]
 ·rename_i h
  have e:k=((k.toNat:Nat):Int):=by omega
  conv=>rhs;rw[e]
  rw[Rat.zpow_natCast]
theorem y6d (k:Int):0 < twoQ k:=by
 rw[y9q];exact Rat.zpow_pos (by decide)
theorem ygf (n:Nat):twoQ (n:Int)=(2:Rat)^n:=by
 rw[y9q,Rat.zpow_natCast]
theorem y4o (a b:Int):twoQ (a+b)=twoQ a*twoQ b:=by
 rw[y9q,y9q,y9q];exact Rat.zpow_add (by decide) a b
theorem ylf {a b c:Rat}(hb:0 < b):c<=a / b ↔ c*b<=a:=by
 have h:=Rat.div_lt_iff (a:=a) (c:=c) hb;constructor
 ·intro h1;exact Rat.not_lt.1 fun h2=>Rat.not_lt.2 h1 (h.2 h2)
 ·intro h1;exact Rat.not_lt.1 fun h2=>Rat.not_lt.2 h1 (h.1 h2)
theorem yns {a b:Int}(h:a<=b):twoQ a<=twoQ b:=by
 have e:b=a+((b - a).toNat:Int):=by omega
 rw[e,y4o,ygf];have h1:=y6d a
 have h2:(1:Rat)<=(2:Rat)^(b - a).toNat:=by
  have h3:((1:Nat):Rat)<=((2^(b - a).toNat:Nat):Rat):=Rat.natCast_le_natCast.2 (Nat.two_pow_pos _);rw[Rat.natCast_pow] at h3;exact h3
 have h4:=Rat.mul_le_mul_of_nonneg_left h2 (Rat.le_of_lt h1);rw[Rat.mul_one] at h4;exact h4
theorem y4h (n:Nat):twoQ (n:Int)=((2^n:Nat):Rat):=by
 rw[ygf,Rat.natCast_pow];rfl
theorem ynn (q:Rat):absR q=((q.num.natAbs:Nat):Rat) / ((q.den:Nat):Rat):=by
 have hd:((q.den:Nat):Rat)≠0:=by
  intro h
  have:q.den=0:=by exact_mod_cast h
  exact q.den_nz this
 have e:q*((q.den:Nat):Rat)=(q.num:Rat):=by
  have h:=Rat.num_divInt_den q;rw[Rat.divInt_eq_div] at h;have h2:=Rat.div_mul_cancel (a:=(q.num:Rat)) hd;rw[<-Rat.intCast_natCast] at h2⊢;rw[h] at h2;exact h2
 unfold absR;by_cases h:q < 0
 ·rw[if_pos h]
  have hn:q.num < 0:=by
   have:=mt Rat.num_nonneg.1 (Rat.not_le.2 h);omega
  have e2:((q.num.natAbs:Nat):Rat)= -(q.num:Rat):=by
   have:((q.num.natAbs:Nat):Int)= -q.num:=by omega
   rw[<-Rat.intCast_natCast,this,Rat.intCast_neg]
  rw[e2,<-e,Rat.div_def,Rat.neg_mul,Rat.mul_assoc,Rat.mul_inv_cancel _ hd,Rat.mul_one]
 ·rw[if_neg h];have hn:0<=q.num:=Rat.num_nonneg.2 (Rat.not_lt.1 h)
  have e2:((q.num.natAbs:Nat):Rat)=(q.num:Rat):=by
   have:((q.num.natAbs:Nat):Int)=q.num:=by omega
   rw[<-Rat.intCast_natCast,this]
  rw[e2,<-e,Rat.div_def,Rat.mul_assoc,Rat.mul_inv_cancel _ hd,Rat.mul_one]
theorem yk1 {N D bn bd:Nat}(hN:N < 2^bn)(hN2:2^bn<=2*N)(hD:D < 2^bd)(hD2:2^bd<=2*D):((N:Nat):Rat) / ((D:Nat):Rat) < twoQ (bn - bd+1)/\twoQ (bn - bd - 1)<=((N:Nat):Rat) / ((D:Nat):Rat):=by
 have hD0:(0:Rat) < ((D:Nat):Rat):=by
  have:0 < D:=by
   have:=Nat.two_pow_pos bd;omega
  exact_mod_cast this
 have c1:((N:Nat):Rat) < twoQ bn:=by rw[y4h];exact Rat.natCast_lt_natCast.2 hN
 have c2:twoQ bn<=2*((N:Nat):Rat):=by
  rw[y4h];have:=Rat.natCast_le_natCast.2 hN2;rw[Rat.natCast_mul] at this;exact this
 have c3:((D:Nat):Rat) < twoQ bd:=by rw[y4h];exact Rat.natCast_lt_natCast.2 hD
 have c4:twoQ bd<=2*((D:Nat):Rat):=by
  rw[y4h];have:=Rat.natCast_le_natCast.2 hD2;rw[Rat.natCast_mul] at this;exact this
 have e1:twoQ ((bn:Int) - bd+1)*twoQ bd=2*twoQ bn:=by
  rw[<-y4o,show (bn:Int) - bd+1+bd=1+bn by omega,y4o];rfl
 have e2:2*(twoQ ((bn:Int) - bd - 1)*twoQ bd)=twoQ bn:=by
  rw[<-y4o,show (bn:Int) - bd - 1+bd=bn - 1 by omega]
  have:twoQ (bn:Int)=twoQ 1*twoQ (bn - 1):=by rw[<-y4o];congr 1;omega
  rw[this];rfl
 have p1:=y6d ((bn:Int) - bd+1);have p2:=y6d ((bn:Int) - bd - 1);constructor
 ·rw[Rat.div_lt_iff hD0];have h1:=Rat.mul_le_mul_of_nonneg_left c4 (Rat.le_of_lt p1)
  grind
 ·rw[ylf hD0];have h1:=Rat.mul_le_mul_of_nonneg_left (Rat.le_of_lt c3) (Rat.le_of_lt p2)
  grind
theorem ylw (k:Int):twoQ (-k)=(twoQ k)⁻¹:=by
 rw[y9q,y9q,Rat.zpow_neg]
theorem place {s:Rat}{k:Int}(hi:s < twoQ (k+24))(lo:twoQ (k+23)<=s){k':Int}(hk:k'=max k (-149)):
  IsPl (s*twoQ 149) (k'+149).toNat/\s*twoQ (-k')=s*twoQ 149 / ((2^(k'+149).toNat:Nat):Rat):=by
 have ej:(((k'+149).toNat:Nat):Int)=k'+149:=by omega
 have p:=y6d 149;refine ⟨⟨?_,?_⟩,?_⟩
 ·rw[<-y4h];have h1:twoQ (k+24+149)<=twoQ (((k'+149).toNat+24:Nat):Int):=yns (by omega);have h2:=Rat.mul_lt_mul_of_pos_right hi p;rw[<-y4o] at h2;exact Std.lt_of_lt_of_le h2 h1
 ·rcases Int.lt_or_le k (-149) with h | h
  ·left;omega
  ·right;rw[<-y4h];have h2:=Rat.mul_le_mul_of_nonneg_right lo (Rat.le_of_lt p);rw[<-y4o] at h2
   have e:(((k'+149).toNat+23:Nat):Int)=k+23+149:=by omega
   rw[e];exact h2
 ·rw[<-y4h,ej,Rat.div_def,<-ylw,Rat.mul_assoc,<-y4o];congr 2;omega
theorem ygc {R:Nat}:Flo.V Ieee.single R < 2^277 ↔ R < 2139095040:=by
 rw[<-ypp];exact ym4
theorem yn2 {x:Rat}{j R:Nat}(h:IsPl x j)(hR:(V Ieee.single R:Int)=sigF x j*((2^j:Nat):Int))(hj:254<=j):2139095040<=R:=by
 have h1:=h.lo.resolve_left (by omega)
 have h2:(8388608:Int)<=sigF x j:=by
  have h3:((8388608:Int):Rat)<=x / ((2^j:Nat):Rat):=by
   rw[ylf (ybn j)]
   have e:((8388608:Int):Rat)*((2^j:Nat):Rat)=((2^(j+23):Nat):Rat):=by
    rw[Nat.pow_add,Nat.mul_comm,Rat.natCast_mul];rfl
   rw[e];exact h1
  have h4:=Rat.le_floor_iff.2 h3;unfold sigF;rcases y7q (x / ((2^j:Nat):Rat)) with ⟨e, -⟩ | ⟨e, -⟩ <;> omega
 rcases Nat.lt_or_ge R 2139095040 with h3 | h3
 ·have h4:=ygc.2 h3
  have h5:((2^277:Nat):Int)<=sigF x j*((2^j:Nat):Int):=by
   have a1:(2^277:Nat)<=8388608*2^j:=by
    have:(2:Nat)^254<=2^j:=Nat.pow_le_pow_right (by omega) hj
    have e:(2:Nat)^277=8388608*2^254:=by decide +kernel
    rw[e];exact Nat.mul_le_mul_left _ this
   have a2:((2^277:Nat):Int)<=((8388608*2^j:Nat):Int):=Int.ofNat_le.2 a1;rw[Int.natCast_mul] at a2;have a3:=Int.mul_le_mul_of_nonneg_right h2 (show (0:Int)<=((2^j:Nat):Int) by omega);exact Int.le_trans a2 a3
  omega
 ·exact h3
theorem yh6 (q:Rat):((y0v (q - (q.floor:Rat)) (Rat.divInt 1 2)).sign=1/\rndE q=q.floor+1)\/((y0v (q - (q.floor:Rat)) (Rat.divInt 1 2)).sign=0/\rndE q=q.floor+q.floor % 2)\/((y0v (q - (q.floor:Rat)) (Rat.divInt 1 2)).sign= -1/\rndE q=q.floor):=by
 have hh:Rat.divInt 1 2=(1 / 2:Rat):=by decide +kernel
 rw[hh];obtain ⟨d,hd⟩:∃ d,q - (q.floor:Rat)=d:=⟨_,rfl⟩;unfold rndE;rw[hd];have hp:=y2o (x:=d) (y:=1 / 2);have hn:=y1x (x:=d) (y:=1 / 2);rcases Int.lt_trichotomy (y0v d (1 / 2)) 0 with h | h | h
 ·have hs:=Int.sign_eq_neg_one_of_neg h;rw[hs] at hp hn⊢;rw[if_pos (hn.1 (by omega))];exact .inr (.inr ⟨rfl,rfl⟩)
 ·rw[h] at hp hn⊢;have h1:¬d < 1 / 2:=fun h=>absurd (hn.2 h) (by decide);have h2:¬1 / 2 < d:=fun h=>absurd (hp.2 h) (by decide)
  have h3:d=1 / 2:=by grind
  rw[if_neg h1,if_pos h3];exact .inr (.inl ⟨rfl,rfl⟩)
 ·have hs:=Int.sign_eq_one_of_pos h;rw[hs] at hp hn⊢;have h1:1 / 2 < d:=hp.1 (by omega);rw[if_neg (by grind),if_neg (by grind)];exact .inl ⟨rfl,rfl⟩
theorem yi8 (va:Value)(q:Rat)(m:Nat)(w:World)(hx:y07 w va q)(hb:FB m q)(hm:m<=20000)(h0:0<=q.floor)(h1:q.floor<=4611686018427387904):Calls Tryz.prog 130 #[va] w (y1o w (rndE q)):=by
 obtain ⟨sa,aa,la,ca,ta,ba,ma,na,rfl⟩:=hx.shape;have hfl:=fun W h=>y1z (.agg #[.int .i64 sa,.slice aa la ca,.int .i64 ta,.slice ba ma na]) q m W h hb (by omega);have hcs:=yh6 q;have bw:FB 63 (q.floor:Rat):=FB.int (by unfold BdK;omega) (by omega);have hsb:=fun va vb W h1 h2=>y2c va vb q (q.floor:Rat) m 63 W h1 h2 hb bw (by omega);have bs:FB (m+63+1) (q - (q.floor:Rat)):=hb.sub bw;have b2:FB 2 (Rat.divInt 1 2):=⟨by unfold BdK;decide,by unfold BdK;decide⟩;have hcm:=fun va vb W h1 h2=>y16 va vb (q - (q.floor:Rat)) (Rat.divInt 1 2) _ 2 W h1 h2 bs b2 (by omega);have hsm:=fun v W h=>yg0 v q.floor W h (by unfold Sm;omega);have hwh:=fun v W h=>y26 v q.floor W h;obtain ⟨f,hf⟩:∃ f,q.floor=f:=⟨_,rfl⟩;rw[hf] at h0 h1 hfl hcs hsb hcm hsm hwh;unfold y1t at hcm;obtain ⟨r,hr⟩:∃ r,(y0v (q - (f:Rat)) (Rat.divInt 1 2)).sign=r:=⟨_,rfl⟩;obtain ⟨z,hz⟩:∃ z,rndE q=z:=⟨_,rfl⟩;rw[hz];simp only[hr] at hcm;rw[hr,hz] at hcs;clear bw bs b2 hb hm hf hr hz;have hmk:=fun va vb W h1 h2=>y12 va vb 1 2 W h1 h2 ⟨2,by omega,by decide⟩ ⟨2,by omega,by decide⟩ (by omega);have i1:∀ W,y06 W (.agg #[.int .i64 1,.slice none 0 0]) 1:=fun W=>.small rfl (by omega) (by omega);have i2:∀ W,y06 W (.agg #[.int .i64 2,.slice none 0 0]) 2:=fun W=>.small rfl (by omega) (by omega);have tm:f.tmod 2=f % 2:=Int.tmod_eq_emod_of_nonneg h0;have f2:0<=f % 2/\f % 2 < 2:=⟨Int.emod_nonneg _ (by omega),Int.emod_lt_of_pos _ (by omega)⟩;have HX:=hid hx;have HFL:=hid hfl;have HCS:=hid hcs;have HSB:=hid hsb;have HCM:=hid hcm;have HSM:=hid hsm;have HWH:=hid hwh;have HMK:=hid hmk;have IONE:=hid i1;have ITWO:=hid i2;clear hx hfl hcs hsb hcm hsm hwh hmk i1 i2;go_enter Tryz.func130,Tryz.ntmps130;go_upto_region 1 with (fail);obtain ⟨BA,HN⟩:=lay1 w 115 #[.int .i64 sa,.slice aa la ca,.int .i64 ta,.slice ba ma na];obtain ⟨⟨pa0,pa1,pa2,pa3⟩,pa4,pa5,pa6,pa7,pa8⟩:=BA.out.four;go_wp2_with fail;refine (HFL.out _ (HX.out.new HN.out)).mono ?_;rintro e w1 ⟨v1,rfl,hn,hi⟩;obtain ⟨s6,a6,l6,c6,rfl⟩:=hi.shape;have HI:=hid hi;clear hi;clear pa0 pa1 pa2 pa3 pa4 pa5 pa6 pa7 pa8;replace BA:=bW BA hn;replace HN:=tW HN hn;clear hn;go_upto_region 2 with (fail);have HN0:=HN;clear HN;obtain ⟨BI,HN⟩:=lay1 w1 113 #[.int .i64 s6,.slice a6 l6 c6];replace BA:=hid (BA.out.new HN.out);replace HI:=hid (HI.out.new HN.out);have HN_:=HN0.out.trans HN.out;clear HN HN0;have HN:=hid HN_;clear HN_;obtain ⟨pi0,pi1,pi2,pi3,pi4⟩:=BI.out.two;go_wp2_with fail;refine (HSM.out _ _ HI.out).mono ?_;rintro e w2 ⟨rfl,hn⟩;clear pi0 pi1 pi2 pi3 pi4;replace BA:=bW BA hn;replace BI:=bW BI hn;replace HI:=hid (HI.out.new hn);replace HN:=tW HN hn;clear hn;obtain ⟨⟨pa0,pa1,pa2,pa3⟩,pa4,pa5,pa6,pa7,pa8⟩:=BA.out.four;obtain ⟨pi0,pi1,pi2,pi3,pi4⟩:=BI.out.two;go_wp2_with fail;clear pa0 pa1 pa2 pa3 pa4 pa5 pa6 pa7 pa8;clear pi0 pi1 pi2 pi3 pi4;refine y00 7 (fun W=>(W.cell? ⟨w.heap.size,0,none⟩=some (.int .i64 sa)/\W.cell? ⟨w.heap.size,1,none⟩=some (.slice aa la ca)/\W.cell? ⟨w.heap.size,2,none⟩=some (.int .i64 ta)/\W.cell? ⟨w.heap.size,3,none⟩=some (.slice ba ma na))/\(W.cell? ⟨w1.heap.size,0,none⟩=some (.int .i64 s6)/\W.cell? ⟨w1.heap.size,1,none⟩=some (.slice a6 l6 c6))) 8 #[false,false,false,false,false,false,false,false] rfl (by kernel_rfl) (by kernel_rfl) ?_;refine tk 0 (by exact ⟨cW4 BA,cW2 BI⟩) ?_
 try simp only[PT]
 refine tk 1 (by exact ⟨cW4 BA,cW2 BI⟩) ?_
 try simp only[PT]
 refine tk1 2 fun K hK=>?_;go_simp;refine (HWH.out _ _ (HI.out.new (New.refl _).drew)).mono ?_;rintro e y1 ⟨v3,rfl,hn,hf⟩;have hn:=hn.undrew;have HG1:=hid hf;clear hf;replace BA:=bW BA hn;replace BI:=bW BI hn;replace HN:=tW HN hn;clear hn;refine hK.out _ _ (fun _=>⟨cW4 BA,cW2 BI⟩) ?_;clear hK K
 try simp only[PT]
 refine tk1 3 fun K hK=>?_;go_simp;refine (HSB.out _ _ _ (HX.out.new HN.out) HG1.out).mono ?_;rintro e y2 ⟨v4,rfl,hn,hf⟩;clear HG1;have HG2:=hid hf;clear hf;replace BA:=bW BA hn;replace BI:=bW BI hn;replace HN:=tW HN hn;clear hn;refine hK.out _ _ (fun _=>⟨cW4 BA,cW2 BI⟩) ?_;clear hK K
 try simp only[PT]
 refine tk1 4 fun K hK=>?_;go_simp;refine (y09 1 _).mono ?_;rintro e y3 ⟨rfl,hn⟩;replace BA:=bW BA hn;replace BI:=bW BI hn;replace HG2:=hid (HG2.out.new hn);replace HN:=tW HN hn;clear hn;refine hK.out _ _ (fun _=>⟨cW4 BA,cW2 BI⟩) ?_;clear hK K
 try simp only[PT]
 refine tk1 5 fun K hK=>?_;go_simp;refine (y09 2 _).mono ?_;rintro e y4 ⟨rfl,hn⟩;replace BA:=bW BA hn;replace BI:=bW BI hn;replace HG2:=hid (HG2.out.new hn);replace HN:=tW HN hn;clear hn;refine hK.out _ _ (fun _=>⟨cW4 BA,cW2 BI⟩) ?_;clear hK K
 try simp only[PT]
 refine tk1 6 fun K hK=>?_;go_simp;refine (HMK.out _ _ _ (IONE.out _) (ITWO.out _)).mono ?_;rintro e y5 ⟨v7,rfl,hn,hf⟩;have HG3:=hid hf;clear hf;replace BA:=bW BA hn;replace BI:=bW BI hn;replace HG2:=hid (HG2.out.new hn);replace HN:=tW HN hn;clear hn;refine hK.out _ _ (fun _=>⟨cW4 BA,cW2 BI⟩) ?_;clear hK K
 try simp only[PT]
 refine tlW ?_;obtain ⟨⟨pa0,pa1,pa2,pa3⟩,pa4,pa5,pa6,pa7,pa8⟩:=BA.out.four;obtain ⟨pi0,pi1,pi2,pi3,pi4⟩:=BI.out.two;go_wp2_with fail;refine (HCM.out _ _ _ HG2.out HG3.out).mono ?_;rintro e y6 ⟨rfl,hn⟩;clear HG2 HG3;clear pa0 pa1 pa2 pa3 pa4 pa5 pa6 pa7 pa8;clear pi0 pi1 pi2 pi3 pi4;replace BA:=bW BA hn;replace BI:=bW BI hn;replace HN:=tW HN hn;clear hn;rcases HCS.out with ⟨rfl,hz⟩ | ⟨rfl,hz⟩ | ⟨rfl,hz⟩
 ·clear f2;have HZ:=hid hz;clear hz;go_wp2_with fail;go_ret;exact ⟨by rw[HZ.out];rfl,HN.out⟩
 ·skip
  have HZ:=hid hz;clear hz;go_wp2_with fail;go_ret;exact ⟨by rw[HZ.out];rfl,HN.out⟩
 ·clear f2;have HZ:=hid hz;clear hz;go_wp2_with fail;go_ret;exact ⟨by rw[HZ.out];rfl,HN.out⟩
theorem yb7 (q:Rat):(absR q).num=(q.num.natAbs:Int)/\(absR q).den=q.den:=by
 unfold absR;by_cases h:q < 0
 ·rw[if_pos h]
  have hn:q.num < 0:=by
   have:=mt Rat.num_nonneg.1 (Rat.not_le.2 h);omega
  rw[Rat.neg_num,Rat.neg_den];exact ⟨by omega,rfl⟩
 ·rw[if_neg h];have hn:0<=q.num:=Rat.num_nonneg.2 (Rat.not_lt.1 h);exact ⟨by omega,rfl⟩
theorem ypr {x:Rat}{j:Nat}(h:0<=x)(hi:x < ((2^(j+24):Nat):Rat)):0<=(x / ((2^j:Nat):Rat)).floor/\(x / ((2^j:Nat):Rat)).floor < 16777216:=by
 have h2:=ybn j;constructor
 ·exact Rat.le_floor_iff.2 ((ylf h2).2 (by simpa using h))
 ·refine Rat.floor_lt_iff.2 ?_
  rw[Rat.div_lt_iff h2,show ((16777216:Int):Rat)*((2^j:Nat):Rat)=((2^(j+24):Nat):Rat) by
   rw[Nat.pow_add,Nat.mul_comm,Rat.natCast_mul];rfl]
  exact hi
theorem ymx {n R:Nat}{k:Int}(hn:n<=16777216)(lo: -149<=k)(hi:k<=104)(hR:(Flo.V Ieee.single R:Int)=(n:Int)*((2^(k+149).toNat:Nat):Int)):R < 2139095040 ↔ ¬(n=16777216/\k=104):=by
 rw[<-ygc]
 have e:(2:Nat)^277=16777216*2^253:=by decide +kernel
 have hV:Flo.V Ieee.single R=n*2^(k+149).toNat:=by exact_mod_cast hR
 rw[hV,e];have hp:0 < (2:Nat)^253:=Nat.two_pow_pos _;rcases Int.lt_or_le k 104 with h | h
 ·have h1:(2:Nat)^(k+149).toNat<=2^252:=Nat.pow_le_pow_right (by omega) (by omega)
  have h2:(2:Nat)^253=2*2^252:=by rw[Nat.pow_succ,Nat.mul_comm]
  have h3:=Nat.mul_le_mul hn h1;have hp2:0 < (2:Nat)^252:=Nat.two_pow_pos _;rw[h2];constructor
  ·intro _ h4;omega
  ·intro _;generalize (2:Nat)^252=D at h3 hp2⊢;generalize n*2^(k+149).toNat=X at h3⊢;omega
 ·have h4:k=104:=by omega
  subst h4;show n*2^253 < 16777216*2^253 ↔ _;rw[Nat.mul_lt_mul_right hp];omega
def y9v (w:World)(b:Nat)(E:Int)(e:Ending)(w':World):Prop:=e=.returned (.tuple #[.float .f32 b,.int .i64 E])/\New w w'
def ypm (w:World)(P:Nat)(q:Rat):Prop:=∃ (s:Int) (a:Option Addr) (l c:Nat) (t:Int) (d:Option Addr) (m k:Nat),Box w P 115 #[.int .i64 s,.slice a l c,.int .i64 t,.slice d m k]/\y07 w (.agg #[.int .i64 s,.slice a l c,.int .i64 t,.slice d m k]) q
structure NearF (q:Rat)(R:Nat):Prop where
 ex:∃ j,IsPl (absR q*twoQ 149) j/\(Flo.V Ieee.single R:Int)=sigF (absR q*twoQ 149) j*((2^j:Nat):Int)
def y1u (neg:Bool)(R:Nat):Nat:=if R < 2139095040 then (if neg && R != 0 then R+2147483648 else R) else 0
def y3h (R:Nat):Int:=if R < 2139095040 then 0 else 4
theorem ynr {k:Nat}{x y:Int}(h:x=(y.natAbs:Int))(hy:BdK k y):BdK k x:=by
 unfold BdK at hy⊢;rw[h,Int.natAbs_natCast];exact hy
theorem y5x (s:ByteArray)(q:Rat)(R:Nat)(hs:s.data.toList=y02 q)(hf:Fits q)(hl:s.size<=100000)(h0:q.num≠0)(hR:NearF q R)(w:World)(he:Env w):Calls Tryz.prog 41 #[.string s] w (y9v w (y1u (decide (q.num < 0)) R) (y3h R)):=by
 have hck:=fun W hW=>y33 s W hW hl;rw[hs,y18 hf] at hck;have hfr:=fun W hW=>y0c s q W hW hs (by omega);obtain ⟨t,ht,htn⟩:∃ t,q.num.sign=t/\t≠0:=⟨_,rfl,fun h=>h0 (Int.sign_eq_zero_iff_zero.1 h)⟩
 have htz:(t==0)=false:=by simpa using htn
 have htl:decide (t < 0)=decide (q.num < 0):=by
  rw[<-ht];by_cases h:q.num < 0
  ·rw[decide_eq_true h,decide_eq_true (Int.sign_neg_iff.2 h)]
  ·rw[decide_eq_false h,decide_eq_false (fun h2=>h (Int.sign_neg_iff.1 h2))]
 have fq:=Fits.fb hf;obtain ⟨sz,hsz⟩:∃ x,absR q=x:=⟨_,rfl⟩;have hpn:=(yb7 q).1;have hpd:=(yb7 q).2;rw[hsz] at hpn hpd;have fs:FB 2000 sz:=⟨ynr hpn fq.num,by rw[hpd];exact fq.den⟩;have hab:=fun v W h=>y9n v q.num W h;rw[<-hpn] at hab;have hbn:=fun v W h=>y3l v sz.num W h ⟨2000,by omega,fs.num⟩;have hbd:=fun v W h=>y3l v (sz.den:Int) W h ⟨2000,by omega,fs.den⟩
 have hbits:∀ bn bd:Nat,y6z sz.num.natAbs bn->y6z (sz.den:Int).natAbs bd->bn<=2000/\bd<=2000/\sz < twoQ (bn - bd+1)/\twoQ (bn - bd - 1)<=sz:=fun bn bd h1 h2=>by
  have n1:0 < sz.num.natAbs:=by omega
  have n2:0 < (sz.den:Int).natAbs:=by have:=sz.den_pos;omega
  have g1:2^bn<=2*sz.num.natAbs:=by
   rcases h1.ge with h | h
   ·rw[h];omega
   ·have:2^bn<=2^(bn - 1+1):=Nat.pow_le_pow_right (by omega) (by omega);rw[Nat.pow_succ] at this;omega
  have g2:2^bd<=2*(sz.den:Int).natAbs:=by
   rcases h2.ge with h | h
   ·rw[h];omega
   ·have:2^bd<=2^(bd - 1+1):=Nat.pow_le_pow_right (by omega) (by omega);rw[Nat.pow_succ] at this;omega
  have key:=yk1 h1.lt g1 h2.lt g2
  have e:((sz.num.natAbs:Nat):Rat) / (((sz.den:Int).natAbs:Nat):Rat)=sz:=by
   have:=ynn sz;rw[Int.natAbs_natCast,<-this,<-hsz];unfold absR;by_cases h:q < 0
   ·rw[if_pos h,if_neg (by grind)]
   ·rw[if_neg h,if_neg h]
  rw[e]at key;exact ⟨h1.le fs.num,h2.le fs.den,key⟩
 have hcm:=fun va vb k W (l: -4000<=k) (h:k<=4000) h1 h2=>y16 va vb sz (twoQ k) 2000 8001 W h1 h2 fs (yc5 l h) (by omega);have hpw:=fun k W (l: -4000<=k) (h:k<=4000)=>y8x k W l h;have hml:=fun va vb k W (l: -4000<=k) (h:k<=4000) h1 h2=>y3n va vb sz (twoQ k) 2000 8001 W h1 h2 fs (yc5 l h) (by omega);unfold y1t at hcm;unfold y9v;have hsg:=htn;clear htn hs hf hl;have HE:=hid he;have HCK:=hid hck;have HFR:=hid hfr;have HSG:=hid ht;have HAB:=hid hab;have HBN:=hid hbn;have HBD:=hid hbd;have HBITS:=hid hbits;have HCM:=hid hcm;have HPW:=hid hpw;have HML:=hid hml;have HR:=hid hR;have FS:=hid fs;have HPN:=hid hpn;have HPD:=hid hpd;have HSZ:=hid hsz;have HTL:=hid htl;have HQ0:=hid h0;clear he hck hfr ht hab hbn hbd hbits hcm hpw hml hR fs hpn hpd hsz htl h0;go_enter Tryz.func41,Tryz.ntmps41;go_wp2_with fail;refine (HCK.out _ HE.out).mono ?_;rintro e w1 ⟨rfl,hn⟩;have HN:=hid hn;clear hn;go_upto_region 4 with (fail);go_wp2_with fail;refine (HFR.out _ (HE.out.new HN.out)).mono ?_;rintro e w2 ⟨v2,rfl,hn,hf⟩;obtain ⟨s2,a2,l2,c2,t2,d2,m2,k2,rfl⟩:=hf.shape;have HF:=hid hf;clear hf;replace HN:=tW HN hn;clear hn;go_upto_region 5 with (fail);have HN0:=HN;clear HN;obtain ⟨BX,HN⟩:=lay1 w2 115 #[.int .i64 s2,.slice a2 l2 c2,.int .i64 t2,.slice d2 m2 k2];replace HF:=hid (HF.out.new HN.out);have HN_:=HN0.out.trans HN.out;clear HN HN0;have HN:=hid HN_;clear HN_;obtain ⟨⟨pa0,pa1,pa2,pa3⟩,pa4,pa5,pa6,pa7,pa8⟩:=BX.out.four;go_wp2_with fail;refine (y2m _ q _ HF.out).mono ?_;rintro e w3 ⟨rfl,hn⟩;rw[HSG.out];clear pa0 pa1 pa2 pa3 pa4 pa5 pa6 pa7 pa8;replace BX:=bW BX hn;replace HF:=hid (HF.out.new hn);replace HN:=tW HN hn;clear hn;go_upto_region 7 with (fail);have HN1:=HN;clear HN
 go_cut [6] (fun x wx=>∃ (P:Nat),x=.pointer (some ⟨P,0,none⟩)/\New w3 wx/\w3.heap.size<=P/\ypm wx P sz)
 case first=>
  have HN:=hid (New.refl w3);obtain ⟨⟨pa0,pa1,pa2,pa3⟩,pa4,pa5,pa6,pa7,pa8⟩:=BX.out.four;refine y00 7 (fun W=>W.cell? ⟨w2.heap.size,0,none⟩=some (.int .i64 s2)/\W.cell? ⟨w2.heap.size,1,none⟩=some (.slice a2 l2 c2)/\W.cell? ⟨w2.heap.size,2,none⟩=some (.int .i64 t2)/\W.cell? ⟨w2.heap.size,3,none⟩=some (.slice d2 m2 k2)) 8 #[false,false,false,false,false,false,false,false] rfl (by kernel_rfl) (by kernel_rfl) ?_;clear pa0 pa1 pa2 pa3 pa4 pa5 pa6 pa7 pa8;replace BX:=hid (BX.out.new (New.refl w3).drew);replace HF:=hid (HF.out.new (New.refl w3).drew);replace HN:=hid (HN.out.drew);obtain ⟨wdr,hwd⟩:∃ x,w3.drew=x:=⟨_,rfl⟩;rw[hwd] at HN BX HF⊢;clear hwd;refine tk 0 (by exact cW4 BX) ?_
  try simp only[PT]
  refine tk 1 (by exact cW4 BX) ?_
  try simp only[PT]
  refine tk 3 (by exact cW4 BX) ?_
  try simp only[PT]
  refine tk 4 (by exact cW4 BX) ?_
  try simp only[PT]
  refine y0h 2 6 rfl rfl (by kernel_rfl) (fun K hK=>?_) (fun K hK=>?_)
  ·skip
   go_simp;refine (HAB.out _ _ HF.out.parts.1).mono ?_;rintro e w4 ⟨v4,rfl,hn,hi⟩;obtain ⟨s4,a4,l4,c4,rfl⟩:=hi.shape;have HI4:=hid hi;clear hi;replace BX:=bW BX hn;replace HF:=hid (HF.out.new hn);replace HN:=tW HN hn;clear hn;refine hK.out _ _ (fun _=>cW4 BX) ?_;clear hK K
   try simp only[PT]
   refine tk 5 (by exact cW4 BX) ?_
   try simp only[PT]
   refine tk1 6 fun K hK=>?_;go_simp;have LBM:=hid (HN.out.size);obtain ⟨wa1,hwa,BM_,hn⟩:=y0j w4 115 #[.int .i64 0,.slice none 0 0,.int .i64 0,.slice none 0 0];rw[hwa];clear hwa;have BM:=hid BM_;clear BM_;replace BX:=bW BX hn;replace HF:=hid (HF.out.new hn);replace HI4:=hid (HI4.out.new hn);replace HN:=tW HN hn;clear hn;refine hK.out _ _ (fun _=>cW4 BX) ?_;clear hK K
   try simp only[PT]
   refine tlW ?_;obtain ⟨⟨pa0,pa1,pa2,pa3⟩,pa4,pa5,pa6,pa7,pa8⟩:=BX.out.four;clear pa0 pa1 pa2 pa3 pa4 pa5 pa6 pa7 pa8;obtain ⟨⟨u0,u1,u2,u3⟩,u4,u5,u6,u7,u8⟩:=BM.out.four;go_wp2_with fail
   go_meet
   exact ⟨_,rfl,HN.out.put4 LBM.out _ _ _ _,LBM.out,⟨_,_,_,_,_,_,_,_,BM.out.put4 _ _ _ _,y07.put4 ⟨_,_,_,_,_,_,_,_,rfl,HI4.out,by rw[HPD.out];exact HF.out.parts.2⟩ BM.out _ _ _ _ _ _ _ _⟩⟩
  ·skip
   go_simp;have LBM:=hid (HN.out.size);obtain ⟨wa1,hwa,BM_,hn⟩:=y0j wdr 115 #[.int .i64 0,.slice none 0 0,.int .i64 0,.slice none 0 0];rw[hwa];clear hwa;have BM:=hid BM_;clear BM_;replace BX:=bW BX hn;replace HF:=hid (HF.out.new hn);replace HN:=tW HN hn;clear hn;refine hK.out _ _ (fun _=>cW4 BX) ?_;clear hK K
   try simp only[PT]
   refine tk1 2 fun K hK=>?_;go_simp;refine (HAB.out _ _ HF.out.parts.1).mono ?_;rintro e w4 ⟨v4,rfl,hn,hi⟩;obtain ⟨s4,a4,l4,c4,rfl⟩:=hi.shape;have HI4:=hid hi;clear hi;replace BX:=bW BX hn;replace HF:=hid (HF.out.new hn);replace BM:=bW BM hn;replace HN:=tW HN hn;clear hn;refine hK.out _ _ (fun _=>cW4 BX) ?_;clear hK K
   try simp only[PT]
   refine tk 5 (by exact cW4 BX) ?_
   try simp only[PT]
   refine tlW ?_;obtain ⟨⟨pa0,pa1,pa2,pa3⟩,pa4,pa5,pa6,pa7,pa8⟩:=BX.out.four;clear pa0 pa1 pa2 pa3 pa4 pa5 pa6 pa7 pa8;obtain ⟨⟨u0,u1,u2,u3⟩,u4,u5,u6,u7,u8⟩:=BM.out.four;go_wp2_with fail
   go_meet
   exact ⟨_,rfl,HN.out.put4 LBM.out _ _ _ _,LBM.out,⟨_,_,_,_,_,_,_,_,BM.out.put4 _ _ _ _,y07.put4 ⟨_,_,_,_,_,_,_,_,rfl,HI4.out,by rw[HPD.out];exact HF.out.parts.2⟩ BM.out _ _ _ _ _ _ _ _⟩⟩
 case rest=>
  obtain ⟨P,rfl,hn,hP,s4,a4,l4,c4,t4,d4,m4,k4,hb4,hf4⟩:=hcut;obtain ⟨w10,hw10⟩:∃ x,x=wc:=⟨_,rfl⟩;rw[<-hw10] at hn hb4 hf4⊢;clear hw10;replace BX:=bW BX hn;replace HF:=hid (HF.out.new hn);have HN:=hid (HN1.out.trans hn);clear HN1 hn hP;have BY:=hid hb4;have HY:=hid hf4;clear hb4 hf4;go_upto_region 8 with (fail);obtain ⟨⟨pb0,pb1,pb2,pb3⟩,pb4,pb5,pb6,pb7,pb8⟩:=BY.out.four;clear pb0 pb1 pb2 pb3 pb4 pb5 pb6 pb7 pb8;refine y00 8 (fun W=>W.cell? ⟨P,0,none⟩=some (.int .i64 s4)/\W.cell? ⟨P,1,none⟩=some (.slice a4 l4 c4)/\W.cell? ⟨P,2,none⟩=some (.int .i64 t4)/\W.cell? ⟨P,3,none⟩=some (.slice d4 m4 k4)) 9 #[false,false,false,false,false,false,false,false,false] rfl (by kernel_rfl) (by kernel_rfl) ?_;refine tk 0 (by exact cW4 BY) ?_
  try simp only[PT]
  refine tk 1 (by exact cW4 BY) ?_
  try simp only[PT]
  refine tk 3 (by exact cW4 BY) ?_
  try simp only[PT]
  refine tk 4 (by exact cW4 BY) ?_
  try simp only[PT]
  refine tk1 2 fun K hK=>?_;go_simp;refine (HBN.out _ _ (HY.out.parts.1.new (New.refl _).drew)).mono ?_;rintro e w11 ⟨bn,rfl,hn,hb⟩;have hn:=hn.undrew;have HB1:=hid hb;clear hb;replace BX:=bW BX hn;replace HF:=hid (HF.out.new hn);replace BY:=bW BY hn;replace HY:=hid (HY.out.new hn);replace HN:=tW HN hn;clear hn;refine hK.out _ _ (fun _=>cW4 BY) ?_;clear hK K
  try simp only[PT]
  refine tk1 5 fun K hK=>?_;go_simp;refine (HBD.out _ _ HY.out.parts.2).mono ?_;rintro e w12 ⟨bd,rfl,hn,hb⟩;have HB2:=hid hb;clear hb;replace BX:=bW BX hn;replace HF:=hid (HF.out.new hn);replace BY:=bW BY hn;replace HY:=hid (HY.out.new hn);replace HN:=tW HN hn;clear hn;obtain ⟨l1,l2,hs1,hs2⟩:=HBITS.out bn bd HB1.out HB2.out
  have l1i:(bn:Int)<=2000:=by omega
  have l2i:(bd:Int)<=2000:=by omega
  clear HB1 HB2 HBITS l1 l2;have HS1:=hid hs1;have HS2:=hid hs2;clear hs1 hs2;refine hK.out _ _ (fun _=>cW4 BY) ?_;clear hK K
  try simp only[PT]
  refine tk 6 (by exact cW4 BY) ?_
  try simp only[PT]
  refine tk 7 (by exact cW4 BY) ?_
  try simp only[PT]
  refine tlW ?_;obtain ⟨⟨pb0,pb1,pb2,pb3⟩,pb4,pb5,pb6,pb7,pb8⟩:=BY.out.four;go_wp2_with fail;clear pb0 pb1 pb2 pb3 pb4 pb5 pb6 pb7 pb8;obtain ⟨k0,hk0⟩:∃ k0:Int,(bn:Int) - bd - 24=k0:=⟨_,rfl⟩;simp only[hk0];have hs1:=HS1.out;have hs2:=HS2.out;rw[show (bn:Int) - bd+1=k0+25 by omega] at hs1;rw[show (bn:Int) - bd - 1=k0+23 by omega] at hs2
  have hk1: -2024<=k0:=by omega
  have hk2:k0<=1976:=by omega
  clear HS1 HS2 hk0 l1i l2i;have HS1:=hid hs1;have HS2:=hid hs2;have HK1:=hid hk1;have HK2:=hid hk2;clear hs1 hs2 hk1 hk2;have HW:=HN;clear HN;go_loopw [7] (fun i wr=>∃ kk:Int,i=.int .i64 kk/\Hid (kk=k0\/(kk=k0+1/\twoQ (k0+24)<=sz))/\Hid (New w12 wr)) (fun i _=>(k0+1 - RowKit.intOf i).toNat)
  case atStart=>exact ⟨k0,rfl,hid (.inl rfl),hid (New.refl _)⟩
  case round=>
   obtain ⟨kk,rfl,HK,HN⟩:=hrel;have hn:=HN.out;replace BX:=bW BX hn;replace HF:=hid (HF.out.new hn);replace BY:=bW BY hn;replace HY:=hid (HY.out.new hn);clear hn
   have kl: -2024<=kk:=by have:=HK1.out;rcases HK.out with h | ⟨h, -⟩ <;> omega
   have kh:kk<=1977:=by have:=HK2.out;rcases HK.out with h | ⟨h, -⟩ <;> omega
   obtain ⟨r,hr⟩:∃ r,(y0v sz (twoQ (kk+24))).sign=r:=⟨_,rfl⟩
   have hi:r < 0 ↔ sz < twoQ (kk+24):=by rw[<-hr];exact y1x
   by_cases hlt:sz < twoQ (kk+24)
   ·have rb:decide (r ≥ 0)=false:=decide_eq_false (by have:=hi.2 hlt;omega)
    have hlo:twoQ (kk+23)<=sz:=by
     rcases HK.out with h | ⟨h,h2⟩
     ·rw[h];exact HS2.out
     ·rw[h,show k0+1+23=k0+24 by omega];exact h2
    obtain ⟨k9,hk9⟩:∃ k9,max kk (-149)=k9:=⟨_,rfl⟩;obtain ⟨hpl,hxx⟩:=place hlt hlo hk9.symm;obtain ⟨j,hpj,hRj⟩:=HR.out.ex;rw[HSZ.out] at hpj hRj;have hj:j=(k9+149).toNat:=hpj.unique hpl;subst hj
    have k9l: -149<=k9:=by omega
    have k9h:k9<=1977:=by omega
    clear hi hlt hpl;have HLO:=hid hlo;have HRR:=hid hr;have HKM:=hid hk9;have HXX:=hid hxx;have HPJ:=hid hpj;have HRJ:=hid hRj;clear hlo hr hk9 hxx hpj hRj;go_upto_region 9 with (fail);obtain ⟨⟨pb0,pb1,pb2,pb3⟩,pb4,pb5,pb6,pb7,pb8⟩:=BY.out.four;clear pb0 pb1 pb2 pb3 pb4 pb5 pb6 pb7 pb8;refine y00 5 (fun W=>W.cell? ⟨P,0,none⟩=some (.int .i64 s4)/\W.cell? ⟨P,1,none⟩=some (.slice a4 l4 c4)/\W.cell? ⟨P,2,none⟩=some (.int .i64 t4)/\W.cell? ⟨P,3,none⟩=some (.slice d4 m4 k4)) 6 #[false,false,false,false,false,false] rfl (by kernel_rfl) (by kernel_rfl) ?_;refine tk 0 (by exact cW4 BY) ?_
    try simp only[PT]
    refine tk 1 (by exact cW4 BY) ?_
    try simp only[PT]
    refine tk 2 (by exact cW4 BY) ?_
    try simp only[PT]
    refine tk1 3 fun K hK=>?_;go_simp;rw[show IntKind.i64.wrap (kk+24)=kk+24 by rw[IntKind.wrap_i64];omega];refine (HPW.out (kk+24) _ (by omega) (by omega)).mono ?_;rintro e w13 ⟨v13,rfl,hn,hf⟩;have hn:=hn.undrew;have HG:=hid hf;clear hf;replace BX:=bW BX hn;replace HF:=hid (HF.out.new hn);replace BY:=bW BY hn;replace HY:=hid (HY.out.new hn);replace HN:=tW HN hn;clear hn;refine hK.out _ _ (fun _=>cW4 BY) ?_;clear hK K
    try simp only[PT]
    refine tk1 4 fun K hK=>?_;go_simp;refine (HCM.out _ _ (kk+24) _ (by omega) (by omega) HY.out HG.out).mono ?_;rintro e w14 ⟨rfl,hn⟩;rw[HRR.out];clear HG;replace BX:=bW BX hn;replace HF:=hid (HF.out.new hn);replace BY:=bW BY hn;replace HY:=hid (HY.out.new hn);replace HN:=tW HN hn;clear hn;refine hK.out _ _ (fun _=>cW4 BY) ?_;clear hK K
    try simp only[PT]
    refine tlW ?_;obtain ⟨⟨pb0,pb1,pb2,pb3⟩,pb4,pb5,pb6,pb7,pb8⟩:=BY.out.four;clear pb0 pb1 pb2 pb3 pb4 pb5 pb6 pb7 pb8;go_upto_region 12 with (fail);rw[HKM.out];by_cases hbig:104 < k9
    ·have tb:decide (k9 > 104)=true:=decide_eq_true hbig;have hbR:=yn2 HPJ.out HRJ.out (by omega)
     have e1:y1u (decide (q.num < 0)) R=0:=by unfold y1u;rw[if_neg (by omega)]
     have e2:y3h R=4:=by unfold y3h;rw[if_neg (by omega)]
     clear hbR;have E1:=hid e1;have E2:=hid e2;clear e1 e2;go_wp2_with fail;go_ret2;exact ⟨by rw[E1.out,E2.out];rfl,HW.out.trans HN.out⟩
    ·have tb:decide (k9 > 104)=false:=decide_eq_false hbig
     have k9m:k9<=104:=by omega
     clear hbig;have hsz0:(0:Rat)<=sz*twoQ 149:=Rat.mul_nonneg (Std.le_trans (Rat.le_of_lt (y6d _)) HLO.out) (Rat.le_of_lt (y6d _));obtain ⟨g1,g2⟩:=ypr hsz0 HPJ.out.hi;have hev:=fun v W h=>yi8 v (sz*twoQ (-k9)) 10001 W h ((FS.out.mul (yc5 (by omega) (by omega))).mono (by omega)) (by omega) (by rw[HXX.out];exact g1) (by rw[HXX.out];omega);rw[show rndE (sz*twoQ (-k9))=sigF (sz*twoQ 149) (k9+149).toNat by rw[HXX.out];rfl] at hev;have n1:=yfv hsz0 (k9+149).toNat;have n2:=yop HPJ.out.hi;obtain ⟨n,hn9,hnn⟩:∃ n:Nat,sigF (sz*twoQ 149) (k9+149).toNat=(n:Int)/\n<=16777216:=⟨_,(Int.toNat_of_nonneg n1).symm,by omega⟩;rw[hn9] at hev;have hRn:=HRJ.out;rw[hn9] at hRn;clear n1 n2 g1 g2 hsz0;have HEV:=hid hev;have HN9:=hid hn9;have HRN:=hid hRn;clear hev hn9 hRn;go_upto_region 14 with (fail);obtain ⟨⟨pb0,pb1,pb2,pb3⟩,pb4,pb5,pb6,pb7,pb8⟩:=BY.out.four;clear pb0 pb1 pb2 pb3 pb4 pb5 pb6 pb7 pb8;refine y00 6 (fun W=>W.cell? ⟨P,0,none⟩=some (.int .i64 s4)/\W.cell? ⟨P,1,none⟩=some (.slice a4 l4 c4)/\W.cell? ⟨P,2,none⟩=some (.int .i64 t4)/\W.cell? ⟨P,3,none⟩=some (.slice d4 m4 k4)) 7 #[false,false,false,false,false,false,false] rfl (by kernel_rfl) (by kernel_rfl) ?_;refine tk 0 (by exact cW4 BY) ?_
     try simp only[PT]
     refine tk 1 (by exact cW4 BY) ?_
     try simp only[PT]
     refine tk 2 (by exact cW4 BY) ?_
     try simp only[PT]
     refine tk1 3 fun K hK=>?_;go_simp;rw[show IntKind.i64.wrap (-k9)= -k9 by rw[IntKind.wrap_i64];omega];refine (HPW.out (-k9) _ (by omega) (by omega)).mono ?_;rintro e w15 ⟨v15,rfl,hn,hf⟩;have hn:=hn.undrew;have HG:=hid hf;clear hf;replace BX:=bW BX hn;replace HF:=hid (HF.out.new hn);replace BY:=bW BY hn;replace HY:=hid (HY.out.new hn);replace HN:=tW HN hn;clear hn;refine hK.out _ _ (fun _=>cW4 BY) ?_;clear hK K
     try simp only[PT]
     refine tk1 4 fun K hK=>?_;go_simp;refine (HML.out _ _ (-k9) _ (by omega) (by omega) HY.out HG.out).mono ?_;rintro e w16 ⟨v16,rfl,hn,hf⟩;clear HG;have HG:=hid hf;clear hf;replace BX:=bW BX hn;replace HF:=hid (HF.out.new hn);replace BY:=bW BY hn;replace HY:=hid (HY.out.new hn);replace HN:=tW HN hn;clear hn;refine hK.out _ _ (fun _=>cW4 BY) ?_;clear hK K
     try simp only[PT]
     refine tk1 5 fun K hK=>?_;go_simp;refine (HEV.out _ _ HG.out).mono ?_;rintro e w17 ⟨rfl,hn⟩;clear HG;replace BX:=bW BX hn;replace HF:=hid (HF.out.new hn);replace BY:=bW BY hn;replace HY:=hid (HY.out.new hn);replace HN:=tW HN hn;clear hn;refine hK.out _ _ (fun _=>cW4 BY) ?_;clear hK K
     try simp only[PT]
     refine tlW ?_;obtain ⟨⟨pb0,pb1,pb2,pb3⟩,pb4,pb5,pb6,pb7,pb8⟩:=BY.out.four;clear pb0 pb1 pb2 pb3 pb4 pb5 pb6 pb7 pb8;go_upto_region 15 with (fail);have hfin:=ymx hnn k9l k9m HRN.out;by_cases hmx:n=16777216/\k9=104
     ·obtain ⟨rfl,rfl⟩:=hmx;have hbR:¬R < 2139095040:=fun h=>hfin.1 h ⟨rfl,rfl⟩
      have e1:y1u (decide (q.num < 0)) R=0:=by unfold y1u;rw[if_neg hbR]
      have e2:y3h R=4:=by unfold y3h;rw[if_neg hbR]
      clear hbR hfin;have E1:=hid e1;have E2:=hid e2;clear e1 e2;go_wp2_with fail;go_ret2;exact ⟨by rw[E1.out,E2.out];rfl,HW.out.trans HN.out⟩
     ·have hbR:R < 2139095040:=hfin.2 hmx
      have hv:n*2^(k9+149).toNat=Flo.V Ieee.single R:=by
       have:=HRN.out
       exact_mod_cast this.symm
      have c1:=fun W=>yj0 n k9 hnn k9l k9m W;have c2:=ym7 hnn k9l k9m hbR hv;obtain ⟨x,hx⟩:∃ x,FloatKind.f64.nearest (n:Int)=x:=⟨_,rfl⟩;have hx':floatOfInt .f64 (n:Int)=x:=hx;obtain ⟨y,hy⟩:∃ y,Ieee.double.nearest false n k9=y:=⟨_,rfl⟩;rw[hy] at c2;simp only[hx,hy] at c1;have c3:=fun W=>run_convert_float_float (P:=Tryz.prog) W 151 62 .f64 .f32 y R (by kernel_rfl) (by kernel_rfl) c2
      have hni:(n:Int)<=16777216:=by omega
      clear hfin c2 hv;have C1:=hid c1;have HX9:=hid hx;have HY9:=hid hy;have HBR:=hid hbR;clear c1 hx hy hbR;by_cases hn24:(n:Int)=16777216
      ·have t1:((n:Int)==16777216)=true:=by simpa using hn24
       have t2:(k9==104)=false:=by
        have:k9≠104:=fun h=>hmx ⟨by omega,h⟩;simpa using this
       clear hn24 hmx;obtain ⟨⟨pa0,pa1,pa2,pa3⟩,pa4,pa5,pa6,pa7,pa8⟩:=BX.out.four;go_wp2_with fail;refine (C1.out _).mono ?_;rintro e w18 ⟨rfl,rfl⟩;go_wp2_with fail;refine (y2m _ q _ HF.out).mono ?_;rintro e w19 ⟨rfl,hn⟩;rw[HSG.out];clear pa0 pa1 pa2 pa3 pa4 pa5 pa6 pa7 pa8;replace HN:=tW HN hn;clear hn;by_cases hq:q.num < 0
       ·have tq:decide (t < 0)=true:=by rw[HTL.out];exact decide_eq_true hq
        by_cases hn0:(n:Int) > 0
        ·have tn:decide ((n:Int) > 0)=true:=decide_eq_true hn0;have hRb:=HBR.out
         have hneg:Op.negFloat .f32 R=R+2147483648:=by
          have:=Flo.neg_sw false (x:=R) (by omega);show Op.negFloat .f32 (Flo.sw false R)=_;rw[this];show 2147483648+R=_;omega
         have hR0:R≠0:=by
          intro h0;have h2:=HRN.out;rw[h0,Flo.V_zero] at h2;have h3:(0:Int) < (n:Int)*((2^(k9+149).toNat:Nat):Int):=Int.mul_pos hn0 (by exact_mod_cast Nat.two_pow_pos _);omega
         have e1:y1u (decide (q.num < 0)) R=R+2147483648:=by
          unfold y1u;rw[if_pos hRb,decide_eq_true hq]
          have:(R != 0)=true:=by simpa using hR0
          rw[this];rfl
         have e2:y3h R=0:=by unfold y3h;rw[if_pos hRb]
         clear hRb hR0;have E1:=hid e1;have E2:=hid e2;clear e1 e2;go_wp2_with (refine Flo.wpList_neg32 rfl rfl rfl hneg ?_);go_wp2_with fail;go_ret2;exact ⟨by rw[E1.out,E2.out];rfl,HW.out.trans HN.out⟩
        ·have tn:decide ((n:Int) > 0)=false:=decide_eq_false hn0;go_wp2_with fail;go_ret2
         have hR0:R=0:=by
          have h1:n=0:=by omega
          have h2:=HRN.out;rw[h1] at h2
          have h3:Flo.V Ieee.single R=0:=by simpa using h2
          exact Flo.V_inj Ieee.single (by rw[h3,Flo.V_zero])
         have e0:∀ b,y1u b 0=0:=by decide
         have e1:y1u (decide (q.num < 0)) R=R:=by rw[hR0,e0]
         have e2:y3h R=0:=by rw[hR0];rfl
         exact ⟨by rw[e1,e2];rfl,HW.out.trans HN.out⟩
       ·have tq:decide (t < 0)=false:=by rw[HTL.out];exact decide_eq_false hq
        go_wp2_with fail;go_ret2;have hRb:=HBR.out
        have e1:y1u (decide (q.num < 0)) R=R:=by unfold y1u;rw[if_pos hRb,decide_eq_false (by omega)];rfl
        have e2:y3h R=0:=by unfold y3h;rw[if_pos hRb]
        exact ⟨by rw[e1,e2];rfl,HW.out.trans HN.out⟩
      ·have t1:((n:Int)==16777216)=false:=by simpa using hn24
       clear hn24 hmx;obtain ⟨⟨pa0,pa1,pa2,pa3⟩,pa4,pa5,pa6,pa7,pa8⟩:=BX.out.four;go_wp2_with fail;refine (C1.out _).mono ?_;rintro e w18 ⟨rfl,rfl⟩;go_wp2_with fail;refine (y2m _ q _ HF.out).mono ?_;rintro e w19 ⟨rfl,hn⟩;rw[HSG.out];clear pa0 pa1 pa2 pa3 pa4 pa5 pa6 pa7 pa8;replace HN:=tW HN hn;clear hn;by_cases hq:q.num < 0
       ·have tq:decide (t < 0)=true:=by rw[HTL.out];exact decide_eq_true hq
        by_cases hn0:(n:Int) > 0
        ·have tn:decide ((n:Int) > 0)=true:=decide_eq_true hn0;have hRb:=HBR.out
         have hneg:Op.negFloat .f32 R=R+2147483648:=by
          have:=Flo.neg_sw false (x:=R) (by omega);show Op.negFloat .f32 (Flo.sw false R)=_;rw[this];show 2147483648+R=_;omega
         have hR0:R≠0:=by
          intro h0;have h2:=HRN.out;rw[h0,Flo.V_zero] at h2;have h3:(0:Int) < (n:Int)*((2^(k9+149).toNat:Nat):Int):=Int.mul_pos hn0 (by exact_mod_cast Nat.two_pow_pos _);omega
         have e1:y1u (decide (q.num < 0)) R=R+2147483648:=by
          unfold y1u;rw[if_pos hRb,decide_eq_true hq]
          have:(R != 0)=true:=by simpa using hR0
          rw[this];rfl
         have e2:y3h R=0:=by unfold y3h;rw[if_pos hRb]
         clear hRb hR0;have E1:=hid e1;have E2:=hid e2;clear e1 e2;go_wp2_with (refine Flo.wpList_neg32 rfl rfl rfl hneg ?_);go_wp2_with fail;go_ret2;exact ⟨by rw[E1.out,E2.out];rfl,HW.out.trans HN.out⟩
        ·have tn:decide ((n:Int) > 0)=false:=decide_eq_false hn0;go_wp2_with fail;go_ret2
         have hR0:R=0:=by
          have h1:n=0:=by omega
          have h2:=HRN.out;rw[h1] at h2
          have h3:Flo.V Ieee.single R=0:=by simpa using h2
          exact Flo.V_inj Ieee.single (by rw[h3,Flo.V_zero])
         have e0:∀ b,y1u b 0=0:=by decide
         have e1:y1u (decide (q.num < 0)) R=R:=by rw[hR0,e0]
         have e2:y3h R=0:=by rw[hR0];rfl
         exact ⟨by rw[e1,e2];rfl,HW.out.trans HN.out⟩
       ·have tq:decide (t < 0)=false:=by rw[HTL.out];exact decide_eq_false hq
        go_wp2_with fail;go_ret2;have hRb:=HBR.out
        have e1:y1u (decide (q.num < 0)) R=R:=by unfold y1u;rw[if_pos hRb,decide_eq_false (by omega)];rfl
        have e2:y3h R=0:=by unfold y3h;rw[if_pos hRb]
        exact ⟨by rw[e1,e2];rfl,HW.out.trans HN.out⟩
   ·have rb:decide (r ≥ 0)=true:=decide_eq_true (by
     rcases Int.lt_or_le r 0 with h | h
     ·exact absurd (hi.1 h) hlt
     ·exact h)
    have hK:kk=k0:=by
     rcases HK.out with h | ⟨h, -⟩
     ·exact h
     ·exact absurd (by rw[h,show k0+1+24=k0+25 by omega];exact HS1.out) hlt
    have hge:twoQ (k0+24)<=sz:=by rw[<-hK];exact Rat.not_lt.1 hlt
    clear hi hlt;have HRR:=hid hr;have HKK:=hid hK;have HGE:=hid hge;clear hr hK hge;go_upto_region 9 with (fail);obtain ⟨⟨pb0,pb1,pb2,pb3⟩,pb4,pb5,pb6,pb7,pb8⟩:=BY.out.four;clear pb0 pb1 pb2 pb3 pb4 pb5 pb6 pb7 pb8;refine y00 5 (fun W=>W.cell? ⟨P,0,none⟩=some (.int .i64 s4)/\W.cell? ⟨P,1,none⟩=some (.slice a4 l4 c4)/\W.cell? ⟨P,2,none⟩=some (.int .i64 t4)/\W.cell? ⟨P,3,none⟩=some (.slice d4 m4 k4)) 6 #[false,false,false,false,false,false] rfl (by kernel_rfl) (by kernel_rfl) ?_;refine tk 0 (by exact cW4 BY) ?_
    try simp only[PT]
    refine tk 1 (by exact cW4 BY) ?_
    try simp only[PT]
    refine tk 2 (by exact cW4 BY) ?_
    try simp only[PT]
    refine tk1 3 fun K hK=>?_;go_simp;rw[show IntKind.i64.wrap (kk+24)=kk+24 by rw[IntKind.wrap_i64];omega];refine (HPW.out (kk+24) _ (by omega) (by omega)).mono ?_;rintro e w13 ⟨v13,rfl,hn,hf⟩;have hn:=hn.undrew;have HG:=hid hf;clear hf;replace BX:=bW BX hn;replace HF:=hid (HF.out.new hn);replace BY:=bW BY hn;replace HY:=hid (HY.out.new hn);replace HN:=tW HN hn;clear hn;refine hK.out _ _ (fun _=>cW4 BY) ?_;clear hK K
    try simp only[PT]
    refine tk1 4 fun K hK=>?_;go_simp;refine (HCM.out _ _ (kk+24) _ (by omega) (by omega) HY.out HG.out).mono ?_;rintro e w14 ⟨rfl,hn⟩;rw[HRR.out];clear HG;replace BX:=bW BX hn;replace HF:=hid (HF.out.new hn);replace BY:=bW BY hn;replace HY:=hid (HY.out.new hn);replace HN:=tW HN hn;clear hn;refine hK.out _ _ (fun _=>cW4 BY) ?_;clear hK K
    try simp only[PT]
    refine tlW ?_;obtain ⟨⟨pb0,pb1,pb2,pb3⟩,pb4,pb5,pb6,pb7,pb8⟩:=BY.out.four;clear pb0 pb1 pb2 pb3 pb4 pb5 pb6 pb7 pb8;go_wp2_with fail;go_roundw
    case rel=>exact ⟨kk+1,by go_num,hid (.inr ⟨by rw[HKK.out],HGE.out⟩),HN⟩
    case measure=>have:=HKK.out;simp[RowKit.intOf];omega
end Go.Proofs.YtnjonlnemagomaaGreatDoor
