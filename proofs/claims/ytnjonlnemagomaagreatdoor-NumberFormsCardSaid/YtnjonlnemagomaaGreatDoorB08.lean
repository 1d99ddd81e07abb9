/- Part B08. -/
import Derived.Test.YtnjonlnemagomaaGreatDoorB07
namespace Go.Proofs.YtnjonlnemagomaaGreatDoor
open Go.RowKit Big
open Go.Lib (hid)
set_option maxRecDepth 100000
set_option maxHeartbeats 8000000
theorem ycu (k:Nat)(hk:k < 9223372036854775808):bits .and .i64 (k:Int) 1=((k % 2:Nat):Int):=by
 have h1:(BitVec.ofInt 64 (k:Int)).toNat=k:=by
  rw[BitVec.ofInt_natCast,BitVec.toNat_ofNat];exact Nat.mod_eq_of_lt (by omega)
 have h2:(BitVec.ofInt 64 1).toNat=1:=by decide
 show IntKind.i64.wrap ((BitVec.ofInt 64 (k:Int) &&& BitVec.ofInt 64 1).toNat:Int)=_;rw[BitVec.toNat_and,h1,h2,IntKind.wrap_i64,Nat.and_one_is_mod];omega
def BdK (m:Nat)(x:Int):Prop:=x.natAbs < 2^m
theorem BdK.bd {m:Nat}{x:Int}(h:BdK m x)(hm:m<=60000000):Bd x:=⟨m,hm,h⟩
theorem BdK.pow {m:Nat}{x:Int}(h:BdK m x)(i:Nat):BdK (m*i+1) (x^i):=by
 unfold BdK at *;rw[Int.natAbs_pow];have h1:x.natAbs^i<=(2^m)^i:=Nat.pow_le_pow_left (by omega) i;rw[<-Nat.pow_mul] at h1;have h2:2^(m*i) < 2^(m*i+1):=Nat.pow_lt_pow_right (by omega) (by omega);omega
theorem yna {m k0 i:Nat}{x:Int}(hm:BdK m x)(hk:m*k0+1<=60000000)(hi:i<=k0):Bd (x^i):=
 (hm.pow i).bd (by have:=Nat.mul_le_mul_left m hi;omega)
def ynh (w:World)(B:Nat)(x:Int)(k0 k:Nat)(u:Value)(wr:World):Prop:=∃ (i j:Nat) (s1 s2:Int) (o1 o2:Option Addr) (l1 k1 l2 k2:Nat),
 u=.int .i64 (k:Int)/\i+j*k=k0/\1<=j/\
 New w wr/\Box wr w.heap.size 113 #[.int .i64 s1,.slice o1 l1 k1]/\Box wr (w.heap.size+1) 113 #[.int .i64 0,.slice none 0 0]/\
 Box wr B 113 #[.int .i64 s2,.slice o2 l2 k2]/\
 y06 wr (.agg #[.int .i64 s1,.slice o1 l1 k1]) (x^j)/\y06 wr (.agg #[.int .i64 s2,.slice o2 l2 k2]) (x^i)
theorem y5z (va:Value)(x:Int)(k0 m:Nat)(w:World)(hx:y06 w va x)(hm:BdK m x)(hk:m*k0+1<=60000000)(hk0:k0 < 9223372036854775808):Calls Tryz.prog 178 #[va,.int .i64 (k0:Int)] w (y0l w (x^k0)):=by
 obtain ⟨sa,aa,la,ca,rfl⟩:=hx.shape;obtain ⟨z,hz⟩:∃ z,x^k0=z:=⟨_,rfl⟩;rw[hz];have hend:∀ w' v,New w w'->y06 w' v z->y0l w z (.returned v) w':=fun w' v h1 h2=>⟨v,rfl,h1,h2⟩;have HX:=hid hx;have HM:=hid hm;have HK:=hid hk;have HEND:=hid hend;have HZ:=hid hz;clear hx hm hk hend hz;go_enter Tryz.func178,Tryz.ntmps178;go_wp2_with fail;obtain ⟨BA,BP,HN⟩:=lay2 w 113 #[.int .i64 sa,.slice aa la ca] 113 #[.int .i64 0,.slice none 0 0];refine (y09 1 _).mono ?_;rintro e w1 ⟨rfl,hn⟩;replace BA:=bW BA hn;replace BP:=bW BP hn;replace HN:=tW HN hn;clear hn;go_wp2_with fail;have HN1:=HN;have hB:=BP.out.lt;clear HN;obtain ⟨BO,HN⟩:=lay1 w1 113 #[.int .i64 1,.slice none 0 0];replace BA:=hid (BA.out.new HN.out);replace BP:=hid (BP.out.new HN.out);have hX:=HX.out.new (HN1.out.trans HN.out);have hstart:ynh w w1.heap.size x k0 k0 (.int .i64 (k0:Int)) _:=⟨0,1,_,_,_,_,_,_,_,_,rfl,by omega,Nat.le_refl _,HN1.out.trans HN.out,BA.out,BP.out,BO.out,by rw[Int.pow_succ,Int.pow_zero,Int.one_mul];exact hX,.small (by rw[Int.pow_zero]) (by rw[Int.pow_zero];omega) (by rw[Int.pow_zero];omega)⟩;clear hX HN HN1 BA BP BO HX;have HS:=hid hstart;clear hstart
 go_loopg [1] k0 (fun k u wr=>ynh w w1.heap.size x k0 k u wr)
 case atStart=>exact HS.out
 case round=>
  clear HS;obtain ⟨i,j,s1,s2,o1,o2,l1,k1,l2,k2,rfl,hij,hj0,hN,hA,hP,hO,hi1,hi2⟩:=hrel
  have hgk:gk<=k0:=by
   have:=Nat.le_mul_of_pos_left gk (show 0 < j by omega);omega
  have hi0:i<=k0:=by omega
  have HN:=hid hN;have BA:=hid hA;have BP:=hid hP;have BO:=hid hO;have HI1:=hid hi1;have HI2:=hid hi2;have HIJ:=hid hij;have HJ0:=hid hj0;have HI0:=hid hi0;clear hN hA hP hO hi1 hi2 hij hj0 hi0;by_cases hk:gk=0
  ·subst hk;obtain ⟨b0,b1,b2,b3,b4⟩:=BO.out.two;obtain ⟨p0,p1,p2,p3,p4⟩:=BP.out.two;go_wp2_with fail;refine bodyPost_ret (v:=.agg #[.int .i64 s2,.slice o2 l2 k2]) (by simp[results,Tryz.results178,go_sem,p0,p1]) rfl ?_;refine HEND.out _ _ (HN.out.putAt BP.out (by omega) _ _) ?_
   have e:i=k0:=by have:=HIJ.out;simpa using this
   rw[<-HZ.out,<-e];exact HI2.out.put2 BP.out _ _ _ _
  ·have hj:j<=k0:=by
    have h1:=HIJ.out;have:=Nat.le_mul_of_pos_right j (show 0 < gk by omega);omega
   have hbi:=(yna HM.out HK.out HI0.out);have hbj:=(yna HM.out HK.out hj);have BI:=hid hbi;have BJ:=hid hbj;have HJ:=hid hj;clear hbi hbj hj;have hb:=ycu gk (by omega);by_cases h1:gk=1
   ·subst h1;rw[show ((1 % 2:Nat):Int)=1 from rfl] at hb;obtain ⟨b0,b1,b2,b3,b4⟩:=BO.out.two;obtain ⟨c0,c1,c2,c3,c4⟩:=BA.out.two;go_wp2_with fail;refine (y0u _ _ (x^i) (x^j) _ HI2.out HI1.out BI.out BJ.out).mono ?_;rintro e w2 ⟨v5,rfl,hn,hi⟩;obtain ⟨s5,a5,l5,k5,rfl⟩:=hi.shape;clear b0 b1 b2 b3 b4 c0 c1 c2 c3 c4;have HI5:=hid hi;clear hi;replace BA:=bW BA hn;replace BP:=bW BP hn;replace BO:=bW BO hn;replace HI1:=hid (HI1.out.new hn);replace HN:=tW HN hn;clear hn;obtain ⟨b0,b1,b2,b3,b4⟩:=BO.out.two;obtain ⟨c0,c1,c2,c3,c4⟩:=BA.out.two;go_wp2_with fail;clear b0 b1 b2 b3 b4;have BA_:=BA.out.away BO.out (by omega) (.int .i64 s5) (.slice a5 l5 k5);have BP_:=BP.out.away BO.out (by omega) (.int .i64 s5) (.slice a5 l5 k5);have HI1_:=HI1.out.put2 BO.out s5 a5 l5 k5;have HI5_:=HI5.out.put2 BO.out s5 a5 l5 k5;have HN_:=HN.out.putAt BO.out (by omega) (.int .i64 s5) (.slice a5 l5 k5);have BO_:=BO.out.put2 (.int .i64 s5) (.slice a5 l5 k5);clear BA BP HI1 HI5 HN BO;have BA:=hid BA_;have BP:=hid BP_;have HI1:=hid HI1_;have HI5:=hid HI5_;have HN:=hid HN_;have BO:=hid BO_;clear BA_ BP_ HI1_ HI5_ HN_ BO_
    go_roundg 0
    case measure=>omega
    case rel=>exact ⟨i+j,j,_,_,_,_,_,_,_,_,rfl,by have:=HIJ.out;omega,HJ0.out,HN.out,BA.out,BP.out,BO.out,HI1.out,by rw[Int.pow_add];exact HI5.out⟩
   ·have h2:(1:Int) < (gk:Int):=by omega
    have hlt:gk / 2 < gk:=by omega
    have HLT:=hid hlt;clear hlt;rcases Nat.mod_two_eq_zero_or_one gk with ho | ho
    ·have hh:i+(j+j)*(gk / 2)=k0:=by
      have h3:=HIJ.out
      have h4:gk=2*(gk / 2):=by omega
      rw[<-h3,<-Nat.two_mul,Nat.mul_comm 2 j,Nat.mul_assoc,<-h4]
     rw[ho,show ((0:Nat):Int)=0 from rfl]at hb;have HH:=hid hh;have HO:=hid ho;clear hh ho;obtain ⟨b0,b1,b2,b3,b4⟩:=BO.out.two;obtain ⟨c0,c1,c2,c3,c4⟩:=BA.out.two;go_wp2_with fail;refine (y0u _ _ (x^j) (x^j) _ HI1.out HI1.out BJ.out BJ.out).mono ?_;rintro e w3 ⟨v6,rfl,hn,hi⟩;obtain ⟨s6,a6,l6,k6,rfl⟩:=hi.shape;have HI6:=hid hi;clear hi;replace BA:=bW BA hn;replace BP:=bW BP hn;replace BO:=bW BO hn;replace HI2:=hid (HI2.out.new hn);replace HN:=tW HN hn;clear hn;obtain ⟨d0,d1,d2,d3,d4⟩:=BA.out.two;go_wp2_with fail;clear d0 d1 d2 d3 d4;have BO_:=BO.out.away BA.out (by omega) (.int .i64 s6) (.slice a6 l6 k6);have BP_:=BP.out.away BA.out (by omega) (.int .i64 s6) (.slice a6 l6 k6);have HI2_:=HI2.out.put2 BA.out s6 a6 l6 k6;have HI6_:=HI6.out.put2 BA.out s6 a6 l6 k6;have HN_:=HN.out.putAt BA.out (by omega) (.int .i64 s6) (.slice a6 l6 k6);have BA_:=BA.out.put2 (.int .i64 s6) (.slice a6 l6 k6);clear BO BP HI2 HI6 HN BA;have BO:=hid BO_;have BP:=hid BP_;have HI2:=hid HI2_;have HI6:=hid HI6_;have HN:=hid HN_;have BA:=hid BA_;clear BO_ BP_ HI2_ HI6_ HN_ BA_
     go_roundg (gk / 2)
     case measure=>exact HLT.out
     case rel=>exact ⟨i,j+j,_,_,_,_,_,_,_,_,rfl,HH.out,by have:=HJ0.out;omega,HN.out,BA.out,BP.out,BO.out,by rw[Int.pow_add];exact HI6.out,HI2.out⟩
    ·have hh:i+j+(j+j)*(gk / 2)=k0:=by
      have h3:=HIJ.out
      have h4:gk=2*(gk / 2)+1:=by omega
      rw[<-h3,<-Nat.two_mul,Nat.mul_comm 2 j,Nat.mul_assoc]
      have h5:j*gk=j*(2*(gk / 2))+j:=by
       have:=congrArg (j*·) h4;simp only[Nat.mul_add,Nat.mul_one] at this;exact this
      omega
     rw[ho,show ((1:Nat):Int)=1 from rfl]at hb;have HH:=hid hh;have HO:=hid ho;clear hh ho;obtain ⟨b0,b1,b2,b3,b4⟩:=BO.out.two;obtain ⟨c0,c1,c2,c3,c4⟩:=BA.out.two;go_wp2_with fail;refine (y0u _ _ (x^i) (x^j) _ HI2.out HI1.out BI.out BJ.out).mono ?_;rintro e w2 ⟨v5,rfl,hn,hi⟩;obtain ⟨s5,a5,l5,k5,rfl⟩:=hi.shape;clear b0 b1 b2 b3 b4 c0 c1 c2 c3 c4;have HI5:=hid hi;clear hi;replace BA:=bW BA hn;replace BP:=bW BP hn;replace BO:=bW BO hn;replace HI1:=hid (HI1.out.new hn);replace HN:=tW HN hn;clear hn;obtain ⟨b0,b1,b2,b3,b4⟩:=BO.out.two;obtain ⟨c0,c1,c2,c3,c4⟩:=BA.out.two;go_wp2_with fail;clear b0 b1 b2 b3 b4 c0 c1 c2 c3 c4;have BA_:=BA.out.away BO.out (by omega) (.int .i64 s5) (.slice a5 l5 k5);have BP_:=BP.out.away BO.out (by omega) (.int .i64 s5) (.slice a5 l5 k5);have HI1_:=HI1.out.put2 BO.out s5 a5 l5 k5;have HI5_:=HI5.out.put2 BO.out s5 a5 l5 k5;have HN_:=HN.out.putAt BO.out (by omega) (.int .i64 s5) (.slice a5 l5 k5);have BO_:=BO.out.put2 (.int .i64 s5) (.slice a5 l5 k5);clear BA BP HI1 HI5 HN BO;have BA:=hid BA_;have BP:=hid BP_;have HI1:=hid HI1_;have HI5:=hid HI5_;have HN:=hid HN_;have BO:=hid BO_;clear BA_ BP_ HI1_ HI5_ HN_ BO_;refine (y0u _ _ (x^j) (x^j) _ HI1.out HI1.out BJ.out BJ.out).mono ?_;rintro e w3 ⟨v6,rfl,hn,hi⟩;obtain ⟨s6,a6,l6,k6,rfl⟩:=hi.shape;have HI6:=hid hi;clear hi;replace BA:=bW BA hn;replace BP:=bW BP hn;replace BO:=bW BO hn;replace HI5:=hid (HI5.out.new hn);replace HN:=tW HN hn;clear hn;obtain ⟨d0,d1,d2,d3,d4⟩:=BA.out.two;go_wp2_with fail;clear d0 d1 d2 d3 d4;have BO_:=BO.out.away BA.out (by omega) (.int .i64 s6) (.slice a6 l6 k6);have BP_:=BP.out.away BA.out (by omega) (.int .i64 s6) (.slice a6 l6 k6);have HI5_:=HI5.out.put2 BA.out s6 a6 l6 k6;have HI6_:=HI6.out.put2 BA.out s6 a6 l6 k6;have HN_:=HN.out.putAt BA.out (by omega) (.int .i64 s6) (.slice a6 l6 k6);have BA_:=BA.out.put2 (.int .i64 s6) (.slice a6 l6 k6);clear BO BP HI5 HI6 HN BA;have BO:=hid BO_;have BP:=hid BP_;have HI5:=hid HI5_;have HI6:=hid HI6_;have HN:=hid HN_;have BA:=hid BA_;clear BO_ BP_ HI5_ HI6_ HN_ BA_
     go_roundg (gk / 2)
     case measure=>exact HLT.out
     case rel=>exact ⟨i+j,j+j,_,_,_,_,_,_,_,_,rfl,HH.out,by have:=HJ0.out;omega,HN.out,BA.out,BP.out,BO.out,by rw[Int.pow_add];exact HI6.out,by rw[Int.pow_add];exact HI5.out⟩
structure y6z (x b:Nat):Prop where
 lt:x < 2^b
 ge:b=0\/2^(b - 1)<=x
theorem y6z.le {x b k:Nat}(h:y6z x b)(hk:x < 2^k):b<=k:=by
 rcases h.ge with h1 | h1
 ·omega
 ·have:=(Nat.pow_lt_pow_iff_right (by omega:1 < 2)).1 (Nat.lt_of_le_of_lt h1 hk);omega
theorem yhm {f:Nat->Nat}{k b x:Nat}(hc:Canon W64 f (k+1))(h1:1<=b)(h2:2^(b - 1)<=f k)(h3:f k < 2^b)(hx:vf W64 f (k+1)=x):y6z x (64*k+b):=by
 subst hx
 have e:W64^k=2^(64*k):=by rw[Nat.pow_mul]
 have hlow:vf W64 f k < W64^k:=y4t fun i hi=>hc.lt i (by omega);rw[y03];constructor
 ·rw[Nat.pow_add,<-e];have h4:(f k+1)*W64^k<=2^b*W64^k:=Nat.mul_le_mul_right _ (by omega);rw[Nat.add_mul,Nat.one_mul] at h4;rw[Nat.mul_comm (W64^k)];omega
 ·right;rw[show 64*k+b - 1=64*k+(b - 1) by omega,Nat.pow_add,<-e];have h4:2^(b - 1)*W64^k<=f k*W64^k:=Nat.mul_le_mul_right _ h2;rw[Nat.mul_comm (W64^k)];omega
def ylm (w:World)(x:Nat)(e:Ending)(w':World):Prop:=∃ b:Nat,e=.returned (.int .i64 (b:Int))/\New w w'/\y6z x b
theorem y3l (va:Value)(x:Int)(w:World)(hx:y06 w va x)(bx:Bd x):Calls Tryz.prog 128 #[va] w (ylm w x.natAbs):=by
 obtain ⟨sa,aa,la,ca,rfl⟩:=hx.shape;have HX:=hid hx;have BX:=hid bx;clear hx bx;go_enter Tryz.func128,Tryz.ntmps128;go_wp2_with fail;obtain ⟨BA,HN⟩:=lay1 w 113 #[.int .i64 sa,.slice aa la ca];refine (y0d _ x _ (HX.out.new HN.out)).mono ?_;rintro e w1 ⟨v1,n,f,rfl,hn,hw,hv⟩;have hle:=hw.le BX.out hv;obtain ⟨a,cap,⟨rfl,c1,c2,c3⟩,hr,cf⟩:=hw;have HV:=hid hv;have CF:=hid cf;clear hv cf;replace HN:=tW HN hn;clear hn;rcases Nat.eq_zero_or_pos n with h0 | h0
 ·subst h0;go_wp2_with fail;go_ret;exact ⟨0,rfl,HN.out,⟨by rw[<-HV.out];simp[vf],.inl rfl⟩⟩
 ·obtain ⟨k,rfl⟩:∃ k,n=k+1:=⟨n - 1,by omega⟩;obtain ⟨b,off,rfl,hc⟩:=hr k (by omega);have ht:=CF.out.top (by omega);have hl:=CF.out.lt k (by omega);obtain ⟨b1,b2,b3,b4⟩:=y7d hl ht;have hlen:=ykd (f k) hl;have hbits:=yhm CF.out b1 b3 b4 HV.out;have HL:=hid hlen;have HB:=hid hbits;have HT:=hid ht;have HLT:=hid hl;have B3:=hid b3;have B4:=hid b4;have HR:=hid hr;clear hlen hbits ht hl b3 b4 hr
  have hk1:((k:Int)+1==0)=false:=by simp;omega
  go_wp2_with fail;clear hc;refine (HL.out _).mono ?_;rintro e w2 ⟨rfl,rfl⟩;go_wp2_with fail;go_ret;exact ⟨64*k+Lib.bitLen (f k),by rw[Int.natCast_add,Int.natCast_mul];rfl,HN.out,HB.out⟩
theorem ybg (va:Value)(x:Int)(w:World)(hx:y06 w va x)(hs:x.natAbs < 2^1800):Calls Tryz.prog 218 #[va] w fun e w'=>e=.returned (.bool false)/\New w w':=by
 obtain ⟨sa,aa,la,ca,rfl⟩:=hx.shape;have bx:Bd x:=⟨1800,by omega,hs⟩;have HX:=hid hx;have BX:=hid bx;have HS:=hid hs;clear hx bx hs;go_enter Tryz.func218,Tryz.ntmps218;go_wp2_with fail;obtain ⟨BA,HN⟩:=lay1 w 113 #[.int .i64 sa,.slice aa la ca];refine (y3l _ x _ (HX.out.new HN.out) BX.out).mono ?_;rintro e w1 ⟨b,rfl,hn,hb⟩;have hb:=hb.le HS.out
 have hb:(b:Int)<=1800:=by omega
 replace HN:=tW HN hn;clear hn;go_wp2_with fail;go_ret;exact ⟨rfl,HN.out⟩
def y07 (w:World)(v:Value)(q:Rat):Prop:=∃ (s:Int) (a:Option Addr) (l c:Nat) (s':Int) (a':Option Addr) (l' c':Nat),
 v=.agg #[.int .i64 s,.slice a l c,.int .i64 s',.slice a' l' c']/\y06 w (.agg #[.int .i64 s,.slice a l c]) q.num/\y06 w (.agg #[.int .i64 s',.slice a' l' c']) (q.den:Int)
theorem y07.new {w w':World}{v:Value}{q:Rat}(h:y07 w v q)(hn:New w w'):y07 w' v q:=by
 obtain ⟨s,a,l,c,s',a',l',c',h1,h2,h3⟩:=h;exact ⟨s,a,l,c,s',a',l',c',h1,h2.new hn,h3.new hn⟩
theorem y07.shape {w:World}{v:Value}{q:Rat}(h:y07 w v q):∃ (s:Int) (a:Option Addr) (l c:Nat) (s':Int) (a':Option Addr) (l' c':Nat),v=.agg #[.int .i64 s,.slice a l c,.int .i64 s',.slice a' l' c']:=by
 obtain ⟨s,a,l,c,s',a',l',c',h1, -, -⟩:=h;exact ⟨s,a,l,c,s',a',l',c',h1⟩
theorem y07.parts {w:World}{q:Rat}{s:Int}{a:Option Addr}{l c:Nat}{s':Int}{a':Option Addr}{l' c':Nat}(h:y07 w (.agg #[.int .i64 s,.slice a l c,.int .i64 s',.slice a' l' c']) q):
  y06 w (.agg #[.int .i64 s,.slice a l c]) q.num/\y06 w (.agg #[.int .i64 s',.slice a' l' c']) (q.den:Int):=by
 obtain ⟨t,b,m,d,t',b',m',d',h1,h2,h3⟩:=h;injection h1 with h1;simp at h1;obtain ⟨⟨rfl,rfl⟩,⟨rfl,rfl,rfl⟩,⟨rfl,rfl⟩,rfl,rfl,rfl⟩:=h1;exact ⟨h2,h3⟩
theorem y07.put4 {w:World}{v:Value}{q:Rat}(h:y07 w v q){B:Nat}{t:TypeId}{s s':Int}{a a':Option Addr}{l c l' c':Nat}(hb:Box w B t #[.int .i64 s,.slice a l c,.int .i64 s',.slice a' l' c'])(n n':Int)(b b':Option Addr)(m k m' k':Nat):
  y07 ((((w.setCell ⟨B,0,none⟩ (.int .i64 n)).setCell ⟨B,1,none⟩ (.slice b m k)).setCell ⟨B,2,none⟩ (.int .i64 n')).setCell ⟨B,3,none⟩ (.slice b' m' k')) v q:=by
 obtain ⟨s,a,l,c,s',a',l',c',h1,h2,h3⟩:=h;exact ⟨s,a,l,c,s',a',l',c',h1,h2.put4 hb _ _ _ _ _ _ _ _,h3.put4 hb _ _ _ _ _ _ _ _⟩
def y1h (w:World)(q:Rat)(e:Ending)(w':World):Prop:=∃ v:Value,e=.returned v/\New w w'/\y07 w' v q
theorem y10 {w w6:World} {q:Rat} {B:Nat} {t:TypeId} {s s':Int} {a a':Option Addr} {l c l' c':Nat} {n n':Int} {b b':Option Addr} {m k m' k':Nat} (hN:New w w6) (bp:Box w6 B t #[.int .i64 s,.slice a l c,.int .i64 s',.slice a' l' c']) (hB:w.heap.size<=B)
  (h1:y06 w6 (.agg #[.int .i64 n,.slice b m k]) q.num) (h2:y06 w6 (.agg #[.int .i64 n',.slice b' m' k']) (q.den:Int)):
  y1h w q (.returned (.agg #[.int .i64 n,.slice b m k,.int .i64 n',.slice b' m' k'])) ((((w6.setCell ⟨B,0,none⟩ (.int .i64 n)).setCell ⟨B,1,none⟩ (.slice b m k)).setCell ⟨B,2,none⟩ (.int .i64 n')).setCell ⟨B,3,none⟩ (.slice b' m' k')):=
 ⟨_,rfl,hN.put4 hB _ _ _ _,_,_,_,_,_,_,_,_,rfl,h1.put4 bp _ _ _ _ _ _ _ _,h2.put4 bp _ _ _ _ _ _ _ _⟩
theorem y06.one (w:World):y06 w (.agg #[.int .i64 1,.slice none 0 0]) ((1:Nat):Int):=.small rfl (by omega) (by omega)
theorem y26 (va:Value)(x:Int)(w:World)(hx:y06 w va x):Calls Tryz.prog 147 #[va] w (y1h w (x:Rat)):=by
 obtain ⟨sa,aa,la,ca,rfl⟩:=hx.shape;obtain ⟨q,hq⟩:∃ q,(x:Rat)=q:=⟨_,rfl⟩;rw[hq];have HX:=hid hx;have HQ:=hid hq;clear hx hq;go_enter Tryz.func147,Tryz.ntmps147;go_wp2_with fail;obtain ⟨BA,BP,HN⟩:=lay2 w 113 #[.int .i64 sa,.slice aa la ca] 115 #[.int .i64 0,.slice none 0 0,.int .i64 0,.slice none 0 0];obtain ⟨a0,a1,a2,a3,a4⟩:=BA.out.two;clear a0 a1 a2 a3 a4;refine y00 3 (fun W=>W.cell? ⟨w.heap.size,0,none⟩=some (.int .i64 sa)/\W.cell? ⟨w.heap.size,1,none⟩=some (.slice aa la ca)) 4 #[false,false,false,false] rfl (by kernel_rfl) (by kernel_rfl) ?_;refine tk 0 (by exact cW2 BA) ?_
 try simp only[PT]
 refine tk1 1 fun K hK=>?_;go_simp;refine (y09 1 _).mono ?_;rintro e w1 ⟨rfl,hn⟩;have hn:=hn.undrew;replace BA:=bW BA hn;replace BP:=bW BP hn;replace HN:=tW HN hn;clear hn;refine hK.out _ _ (fun _=>cW2 BA) ?_;clear hK K
 try simp only[PT]
 refine tk 2 (by exact cW2 BA) ?_
 try simp only[PT]
 refine tlW ?_;obtain ⟨a0,a1,a2,a3,a4⟩:=BA.out.two;obtain ⟨⟨p0,p1,p2,p3⟩,p4,p5,p6,p7,p8⟩:=BP.out.four;go_wp2_with fail;refine bodyPost_ret (v:=.agg #[.int .i64 sa,.slice aa la ca,.int .i64 1,.slice none 0 0]) (by simp[results,Tryz.results147,go_sem,p0,p1,p2,p3]) rfl ?_;exact y10 HN.out BP.out (by omega) (by rw[<-HQ.out,Rat.num_intCast];exact HX.out.new HN.out) (by rw[<-HQ.out,Rat.den_intCast];exact y06.one _)
theorem y9l (x:Int)(w:World)(lo: -9223372036854775808<=x)(hi:x<=9223372036854775807):Calls Tryz.prog 115 #[.int .i64 x] w (y1h w (x:Rat)):=by
 obtain ⟨q,hq⟩:∃ q,(x:Rat)=q:=⟨_,rfl⟩;rw[hq];have hs:∀ W,y06 W (.agg #[.int .i64 x,.slice none 0 0]) x:=fun W=>.small rfl lo hi;have HS:=hid hs;have HQ:=hid hq;clear hs hq;go_enter Tryz.func115,Tryz.ntmps115;go_wp2_with fail;obtain ⟨BP,HN⟩:=lay1 w 115 #[.int .i64 0,.slice none 0 0,.int .i64 0,.slice none 0 0];refine (y09 x _).mono ?_;rintro e w1 ⟨rfl,hn⟩;replace BP:=bW BP hn;replace HN:=tW HN hn;clear hn;go_wp2_with fail;refine (y26 _ x _ (HS.out _)).mono ?_;rintro e w2 ⟨v,rfl,hn,hf⟩;rw[HQ.out] at hf;obtain ⟨s,a,l,c,s',a',l',c',rfl⟩:=hf.shape;have HF:=hid hf;clear hf;replace BP:=bW BP hn;replace HN:=tW HN hn;clear hn;obtain ⟨⟨p0,p1,p2,p3⟩,p4,p5,p6,p7,p8⟩:=BP.out.four;go_wp2_with fail;refine bodyPost_ret (v:=.agg #[.int .i64 s,.slice a l c,.int .i64 s',.slice a' l' c']) (by simp[results,Tryz.results115,go_sem,p0,p1,p2,p3]) rfl ?_;exact y10 HN.out BP.out (by omega) HF.out.parts.1 HF.out.parts.2
theorem y06.none_or {w:World}{s:Int}{a:Option Addr}{l c:Nat}{z:Int}(h:y06 w (.agg #[.int .i64 s,.slice a l c]) z):(a.isNone=true/\s=z)\/(a.isNone=false/\z≠1):=by
 rcases h with ⟨h,lo,hi⟩ | ⟨b,off,n,cap,f,s,h,hs,hw,h0,hv,hz⟩
 ·injection h with h;simp at h;obtain ⟨rfl,rfl,rfl,rfl⟩:=h;exact .inl ⟨rfl,rfl⟩
 ·injection h with h;simp at h;obtain ⟨rfl,rfl,rfl,rfl⟩:=h;refine .inr ⟨rfl,?_⟩;rcases hs with rfl | rfl <;> omega
theorem y3c (va:Value)(q:Rat)(w:World)(hx:y07 w va q):Calls Tryz.prog 166 #[va] w fun e w'=>e=.returned (.bool (decide (q.den=1)))/\New w w':=by
 have q1:=y4d;obtain ⟨s,a,l,c,s',a',l',c',rfl,h1,h2⟩:=hx;rcases h2.none_or with ⟨hn,rfl⟩ | ⟨hn,hz⟩
 ·clear h1 h2;by_cases h1:q.den=1
  ·have hd:((q.den:Int)==1)=true:=by simp[h1]
   rw[decide_eq_true h1];have H1:=hid h1;clear h1;go_enter Tryz.func166,Tryz.ntmps166;go_wp2_with fail;go_ret;exact ⟨rfl,(New.refl w).alloc _⟩
  ·have hd:((q.den:Int)==1)=false:=by simp;omega
   rw[decide_eq_false h1];have H1:=hid h1;clear h1;go_enter Tryz.func166,Tryz.ntmps166;go_wp2_with fail;go_ret;exact ⟨rfl,(New.refl w).alloc _⟩
 ·rw[decide_eq_false (fun h=>hz (by rw[h];rfl))];clear h1 h2 hz;go_enter Tryz.func166,Tryz.ntmps166;go_wp2_with fail;go_ret;exact ⟨rfl,(New.refl w).alloc _⟩
theorem y2m (va:Value)(q:Rat)(w:World)(hx:y07 w va q):Calls Tryz.prog 112 #[va] w fun e w'=>e=.returned (.int .i64 q.num.sign)/\New w w':=by
 obtain ⟨s,a,l,c,s',a',l',c',rfl,h1,h2⟩:=hx;have H1:=hid h1;have H2:=hid h2;clear h1 h2;go_enter Tryz.func112,Tryz.ntmps112;go_wp2_with fail;obtain ⟨BA,HN⟩:=lay1 w 115 #[.int .i64 s,.slice a l c,.int .i64 s',.slice a' l' c'];refine (y0y _ q.num _ (H1.out.new HN.out)).mono ?_;rintro e w1 ⟨rfl,hn⟩;replace HN:=tW HN hn;clear hn;go_wp2_with fail;go_ret;exact ⟨rfl,HN.out⟩
theorem yic (va:Value)(q:Rat)(w:World)(hx:y07 w va q):Calls Tryz.prog 167 #[va] w (y1h w (-q)):=by
 obtain ⟨s,a,l,c,s',a',l',c',rfl,h1,h2⟩:=hx;obtain ⟨r,hr⟩:∃ r, -q=r:=⟨_,rfl⟩;rw[hr];have H1:=hid h1;have H2:=hid h2;have HR:=hid hr;clear h1 h2 hr;go_enter Tryz.func167,Tryz.ntmps167;go_wp2_with fail;obtain ⟨BA,BP,HN⟩:=lay2 w 115 #[.int .i64 s,.slice a l c,.int .i64 s',.slice a' l' c'] 115 #[.int .i64 0,.slice none 0 0,.int .i64 0,.slice none 0 0];obtain ⟨⟨b0,b1,b2,b3⟩,b4,b5,b6,b7,b8⟩:=BA.out.four;clear b0 b1 b2 b3 b4 b5 b6 b7 b8;refine y00 6 (fun W=>W.cell? ⟨w.heap.size,0,none⟩=some (.int .i64 s)/\W.cell? ⟨w.heap.size,1,none⟩=some (.slice a l c)/\W.cell? ⟨w.heap.size,2,none⟩=some (.int .i64 s')/\W.cell? ⟨w.heap.size,3,none⟩=some (.slice a' l' c')) 7 #[false,false,false,false,false,false,false] rfl (by kernel_rfl) (by kernel_rfl) ?_;refine tk 0 (by exact cW4 BA) ?_
 try simp only[PT]
 refine tk 1 (by exact cW4 BA) ?_
 try simp only[PT]
 refine tk 3 (by exact cW4 BA) ?_
 try simp only[PT]
 refine tk 4 (by exact cW4 BA) ?_
 try simp only[PT]
 refine tk1 2 fun K hK=>?_;go_simp;refine (y3g _ q.num _ (H1.out.new HN.out.drew)).mono ?_;rintro e w1 ⟨v,rfl,hn,hi⟩;have hn:=hn.undrew;obtain ⟨s5,a5,l5,c5,rfl⟩:=hi.shape;have HI:=hid hi;clear hi;replace BA:=bW BA hn;replace BP:=bW BP hn;replace HN:=tW HN hn;clear hn;refine hK.out _ _ (fun _=>cW4 BA) ?_;clear hK K
 try simp only[PT]
 refine tk 5 (by exact cW4 BA) ?_
 try simp only[PT]
 refine tlW ?_;obtain ⟨⟨b0,b1,b2,b3⟩,b4,b5,b6,b7,b8⟩:=BA.out.four;obtain ⟨⟨p0,p1,p2,p3⟩,p4,p5,p6,p7,p8⟩:=BP.out.four;go_wp2_with fail;refine bodyPost_ret (v:=.agg #[.int .i64 s5,.slice a5 l5 c5,.int .i64 s',.slice a' l' c']) (by simp[results,Tryz.results167,go_sem,p0,p1,p2,p3]) rfl ?_;exact y10 HN.out BP.out (by omega) (by rw[<-HR.out,Rat.neg_num];exact HI.out) (by rw[<-HR.out];exact H2.out.new HN.out)
theorem y5o {x y:Int}(h:0 < y):quo x y=x / y:=by unfold quo;rw[if_neg (by omega)]
theorem yas {X Y:Int}(hY:0 < Y):(Rat.divInt X Y).num=X / (Int.gcd X Y:Int)/\((Rat.divInt X Y).den:Int)=Y / (Int.gcd X Y:Int):=by
 rw[Rat.num_divInt,Rat.den_divInt,if_neg (by omega),Int.sign_eq_one_of_pos hY,Int.one_mul,Int.gcd_comm];refine ⟨rfl,?_⟩;rw[Int.natCast_ediv];congr 1;omega
theorem y7n {X Y:Int}(hY:0 < Y)(b:Bd Y):Bd (Int.gcd X Y:Int):=b.le (by
 have:=Nat.le_of_dvd (by omega) (Int.gcd_dvd_natAbs_right X Y)
 simpa using this)
theorem y12 (va vb:Value)(x y:Int)(w:World)(hx:y06 w va x)(hy:y06 w vb y)(bx:Bd x)(by':Bd y)(hy0:y≠0):Calls Tryz.prog 118 #[va,vb] w (y1h w (Rat.divInt x y)):=by
 have q1:=y4d;obtain ⟨sa,aa,la,ca,rfl⟩:=hx.shape;obtain ⟨sb,ab,lb,cb,rfl⟩:=hy.shape;obtain ⟨q,hq⟩:∃ q,Rat.divInt x y=q:=⟨_,rfl⟩;rw[hq];by_cases hneg:y < 0
 ·obtain ⟨t,ht,htn⟩:∃ t,y.sign=t/\t < 0:=⟨_,rfl,by rw[Int.sign_eq_neg_one_of_neg hneg];omega⟩;obtain ⟨X,hX⟩:∃ X, -x=X:=⟨_,rfl⟩;obtain ⟨Y,hY⟩:∃ Y, -y=Y:=⟨_,rfl⟩
  have hpos:0 < Y:=by omega
  have hq':=yas (X:=X) hpos;rw[<-hX,<-hY,Rat.neg_divInt_neg,hq,hX,hY] at hq';have bx':=bx.neg;have by2:=by'.neg;rw[hX] at bx';rw[hY] at by2;clear hneg hy0 bx by' hq;have HX:=hid hx;have HY:=hid hy;have BX:=hid bx';have BY:=hid by2;have HQ:=hid hq';have HXX:=hid hX;have HEY:=hid hY;have HPOS:=hid hpos;clear hx hy bx' by2 hq' hX hY hpos;go_enter Tryz.func118,Tryz.ntmps118;go_wp2_with fail;obtain ⟨BA,BB,BP,HN⟩:=lay3 w 113 #[.int .i64 sa,.slice aa la ca] 113 #[.int .i64 sb,.slice ab lb cb] 115 #[.int .i64 0,.slice none 0 0,.int .i64 0,.slice none 0 0];refine (y0y _ y _ (HY.out.new HN.out)).mono ?_;rintro e w4 ⟨rfl,hn⟩;rw[ht];clear ht;replace BA:=bW BA hn;replace BB:=bW BB hn;replace BP:=bW BP hn;replace HN:=tW HN hn;clear hn;obtain ⟨a0,a1,a2,a3,a4⟩:=BA.out.two;obtain ⟨b0,b1,b2,b3,b4⟩:=BB.out.two;go_wp2_with fail;clear a0 a1 a2 a3 a4;clear b0 b1 b2 b3 b4;refine y00 4 (fun W=>(W.cell? ⟨w.heap.size,0,none⟩=some (.int .i64 sa)/\W.cell? ⟨w.heap.size,1,none⟩=some (.slice aa la ca))/\(W.cell? ⟨w.heap.size+1,0,none⟩=some (.int .i64 sb)/\W.cell? ⟨w.heap.size+1,1,none⟩=some (.slice ab lb cb))) 6 #[false,false,false,false,false,false] rfl (by kernel_rfl) (by kernel_rfl) ?_;refine tk 0 (by exact ⟨cW2 BA,cW2 BB⟩) ?_
  try simp only[PT]
  refine tk 2 (by exact ⟨cW2 BA,cW2 BB⟩) ?_
  try simp only[PT]
  refine tk1 1 fun K hK=>?_;go_simp;refine (y3g _ x _ (HX.out.new HN.out.drew)).mono ?_;rintro e w5 ⟨v5,rfl,hn,hi⟩;have hn:=hn.undrew;obtain ⟨s5,a5,l5,k5,rfl⟩:=hi.shape;rw[HXX.out] at hi;have HIX:=hid hi;clear hi;replace BA:=bW BA hn;replace BB:=bW BB hn;replace BP:=bW BP hn;replace HN:=tW HN hn;clear hn;refine hK.out _ _ (fun _=>⟨cW2 BA,cW2 BB⟩) ?_;clear hK K
  try simp only[PT]
  refine tk1 3 fun K hK=>?_;go_simp;refine (y3g _ y _ (HY.out.new HN.out)).mono ?_;rintro e w6 ⟨v6,rfl,hn,hi⟩;obtain ⟨s6,a6,l6,k6,rfl⟩:=hi.shape;rw[HEY.out] at hi;have HIY:=hid hi;clear hi;replace BA:=bW BA hn;replace BB:=bW BB hn;replace BP:=bW BP hn;replace HIX:=hid (HIX.out.new hn);replace HN:=tW HN hn;clear hn;refine hK.out _ _ (fun _=>⟨cW2 BA,cW2 BB⟩) ?_;clear hK K
  try simp only[PT]
  refine tlW ?_;obtain ⟨a0,a1,a2,a3,a4⟩:=BA.out.two;obtain ⟨b0,b1,b2,b3,b4⟩:=BB.out.two;have BB_:=BB.out.away BA.out (by omega) (.int .i64 s5) (.slice a5 l5 k5);have BP_:=BP.out.away BA.out (by omega) (.int .i64 s5) (.slice a5 l5 k5);have HIX_:=HIX.out.put2 BA.out s5 a5 l5 k5;have HIY_:=HIY.out.put2 BA.out s5 a5 l5 k5;have HN_:=HN.out.putAt BA.out (by omega) (.int .i64 s5) (.slice a5 l5 k5);have BA_:=BA.out.put2 (.int .i64 s5) (.slice a5 l5 k5);clear BB BP HIX HIY HN BA;have BB:=hid BB_;have BP:=hid BP_;have HIX:=hid HIX_;have HIY:=hid HIY_;have HN:=hid HN_;have BA:=hid BA_;clear BB_ BP_ HIX_ HIY_ HN_ BA_;have BA_:=BA.out.away BB.out (by omega) (.int .i64 s6) (.slice a6 l6 k6);have BP_:=BP.out.away BB.out (by omega) (.int .i64 s6) (.slice a6 l6 k6);have HIX_:=HIX.out.put2 BB.out s6 a6 l6 k6;have HIY_:=HIY.out.put2 BB.out s6 a6 l6 k6;have HN_:=HN.out.putAt BB.out (by omega) (.int .i64 s6) (.slice a6 l6 k6);have BB_:=BB.out.put2 (.int .i64 s6) (.slice a6 l6 k6);clear BA BP HIX HIY HN BB;have BA:=hid BA_;have BP:=hid BP_;have HIX:=hid HIX_;have HIY:=hid HIY_;have HN:=hid HN_;have BB:=hid BB_;clear BA_ BP_ HIX_ HIY_ HN_ BB_;rcases HIY.out.none_or with ⟨hnn,hsy⟩ | ⟨hnn,hy1⟩
  ·by_cases h1:s6=1
   ·have h2:Y=1:=by omega
    clear hsy;subst h1;have H1:=hid h2;clear h2;obtain ⟨a0,a1,a2,a3,a4⟩:=BA.out.two;obtain ⟨b0,b1,b2,b3,b4⟩:=BB.out.two;obtain ⟨⟨p0,p1,p2,p3⟩,p4,p5,p6,p7,p8⟩:=BP.out.four;go_wp2_with fail;refine bodyPost_ret (v:=.agg #[.int .i64 s5,.slice a5 l5 k5,.int .i64 1,.slice a6 l6 k6]) (by simp[results,Tryz.results118,go_sem,p0,p1,p2,p3]) rfl ?_;refine y10 HN.out BP.out (by omega) ?_ ?_
    ·have e:(Int.gcd X Y:Int)=1:=by rw[H1.out,Int.gcd_one];rfl
     rw[HQ.out.1,e,Int.ediv_one];exact HIX.out
    ·have e:(Int.gcd X Y:Int)=1:=by rw[H1.out,Int.gcd_one];rfl
     have h:=HQ.out.2;rw[e,Int.ediv_one] at h;rw[h];exact HIY.out
   ·have hd:(s6==1)=false:=by simpa using h1
    clear h1 hsy;obtain ⟨a0,a1,a2,a3,a4⟩:=BA.out.two;obtain ⟨b0,b1,b2,b3,b4⟩:=BB.out.two;go_wp2_with fail;refine (y5l _ _ X Y _ HIX.out HIY.out BX.out BY.out).mono ?_;rintro e w8 ⟨v7,rfl,hn,hi⟩;obtain ⟨s7,a7,l7,k7,rfl⟩:=hi.shape;clear a0 a1 a2 a3 a4 b0 b1 b2 b3 b4;have HG:=hid hi;clear hi;replace BA:=bW BA hn;replace BB:=bW BB hn;replace BP:=bW BP hn;replace HIX:=hid (HIX.out.new hn);replace HIY:=hid (HIY.out.new hn);replace HN:=tW HN hn;clear hn;obtain ⟨a0,a1,a2,a3,a4⟩:=BA.out.two;obtain ⟨b0,b1,b2,b3,b4⟩:=BB.out.two;go_wp2_with fail;clear a0 a1 a2 a3 a4 b0 b1 b2 b3 b4;have HN0:=HN;clear HN;obtain ⟨BG,HN⟩:=lay1 w8 113 #[.int .i64 s7,.slice a7 l7 k7];replace BA:=hid (BA.out.new HN.out);replace BB:=hid (BB.out.new HN.out);replace BP:=hid (BP.out.new HN.out);replace HIX:=hid (HIX.out.new HN.out);replace HIY:=hid (HIY.out.new HN.out);replace HG:=hid (HG.out.new HN.out);have HN_:=HN0.out.trans HN.out;clear HN HN0;have HN:=hid HN_;clear HN_;obtain ⟨a0,a1,a2,a3,a4⟩:=BA.out.two;obtain ⟨b0,b1,b2,b3,b4⟩:=BB.out.two;obtain ⟨g0,g1,g2,g3,g4⟩:=BG.out.two;clear a0 a1 a2 a3 a4;clear b0 b1 b2 b3 b4;clear g0 g1 g2 g3 g4;refine y00 7 (fun W=>(W.cell? ⟨w.heap.size,0,none⟩=some (.int .i64 s5)/\W.cell? ⟨w.heap.size,1,none⟩=some (.slice a5 l5 k5))/\(W.cell? ⟨w.heap.size+1,0,none⟩=some (.int .i64 s6)/\W.cell? ⟨w.heap.size+1,1,none⟩=some (.slice a6 l6 k6))/\(W.cell? ⟨w8.heap.size,0,none⟩=some (.int .i64 s7)/\W.cell? ⟨w8.heap.size,1,none⟩=some (.slice a7 l7 k7))) 8 #[false,false,false,false,false,false,false,false] rfl (by kernel_rfl) (by kernel_rfl) ?_;refine tk 0 (by exact ⟨cW2 BA,cW2 BB,cW2 BG⟩) ?_
    try simp only[PT]
    refine tk 1 (by exact ⟨cW2 BA,cW2 BB,cW2 BG⟩) ?_
    try simp only[PT]
    refine tk 3 (by exact ⟨cW2 BA,cW2 BB,cW2 BG⟩) ?_
    try simp only[PT]
    refine tk 4 (by exact ⟨cW2 BA,cW2 BB,cW2 BG⟩) ?_
    try simp only[PT]
    refine tk1 2 fun K hK=>?_;go_simp;refine (y2n _ _ X _ _ (HIX.out.new (New.refl _).drew) (HG.out.new (New.refl _).drew) BX.out (y7n HPOS.out BY.out) (by have:=Int.gcd_pos_of_ne_zero_right X (show Y≠0 by have:=HPOS.out;omega);omega)).mono ?_;rintro e w9 ⟨v8,rfl,hn,hi⟩;have hn:=hn.undrew;obtain ⟨s8,a8,l8,k8,rfl⟩:=hi.shape;have HI8:=hid hi;clear hi;replace BA:=bW BA hn;replace BB:=bW BB hn;replace BP:=bW BP hn;replace BG:=bW BG hn;replace HIY:=hid (HIY.out.new hn);replace HG:=hid (HG.out.new hn);replace HN:=tW HN hn;clear hn;refine hK.out _ _ (fun _=>⟨cW2 BA,cW2 BB,cW2 BG⟩) ?_;clear hK K
    try simp only[PT]
    refine tk1 5 fun K hK=>?_;go_simp;refine (y2n _ _ Y _ _ HIY.out HG.out BY.out (y7n HPOS.out BY.out) (by have:=Int.gcd_pos_of_ne_zero_right X (show Y≠0 by have:=HPOS.out;omega);omega)).mono ?_;rintro e w10 ⟨v9,rfl,hn,hi⟩;obtain ⟨s9,a9,l9,k9,rfl⟩:=hi.shape;have HI9:=hid hi;clear hi;replace BA:=bW BA hn;replace BB:=bW BB hn;replace BP:=bW BP hn;replace BG:=bW BG hn;replace HI8:=hid (HI8.out.new hn);replace HN:=tW HN hn;clear hn;refine hK.out _ _ (fun _=>⟨cW2 BA,cW2 BB,cW2 BG⟩) ?_;clear hK K
    try simp only[PT]
    refine tk 6 (by exact ⟨cW2 BA,cW2 BB,cW2 BG⟩) ?_
    try simp only[PT]
    refine tlW ?_;obtain ⟨a0,a1,a2,a3,a4⟩:=BA.out.two;obtain ⟨b0,b1,b2,b3,b4⟩:=BB.out.two;obtain ⟨g0,g1,g2,g3,g4⟩:=BG.out.two;obtain ⟨⟨p0,p1,p2,p3⟩,p4,p5,p6,p7,p8⟩:=BP.out.four;go_wp2_with fail;refine bodyPost_ret (v:=.agg #[.int .i64 s8,.slice a8 l8 k8,.int .i64 s9,.slice a9 l9 k9]) (by simp[results,Tryz.results118,go_sem,p0,p1,p2,p3]) rfl ?_;refine y10 HN.out BP.out (by omega) ?_ ?_
    ·rw[HQ.out.1,<-y5o (by have:=Int.gcd_pos_of_ne_zero_right X (show Y≠0 by have:=HPOS.out;omega);omega)];exact HI8.out
    ·rw[HQ.out.2,<-y5o (by have:=Int.gcd_pos_of_ne_zero_right X (show Y≠0 by have:=HPOS.out;omega);omega)];exact HI9.out
  ·clear hy1;obtain ⟨a0,a1,a2,a3,a4⟩:=BA.out.two;obtain ⟨b0,b1,b2,b3,b4⟩:=BB.out.two;go_wp2_with fail;refine (y5l _ _ X Y _ HIX.out HIY.out BX.out BY.out).mono ?_;rintro e w8 ⟨v7,rfl,hn,hi⟩;obtain ⟨s7,a7,l7,k7,rfl⟩:=hi.shape;clear a0 a1 a2 a3 a4 b0 b1 b2 b3 b4;have HG:=hid hi;clear hi;replace BA:=bW BA hn;replace BB:=bW BB hn;replace BP:=bW BP hn;replace HIX:=hid (HIX.out.new hn);replace HIY:=hid (HIY.out.new hn);replace HN:=tW HN hn;clear hn;obtain ⟨a0,a1,a2,a3,a4⟩:=BA.out.two;obtain ⟨b0,b1,b2,b3,b4⟩:=BB.out.two;go_wp2_with fail;clear a0 a1 a2 a3 a4 b0 b1 b2 b3 b4;have HN0:=HN;clear HN;obtain ⟨BG,HN⟩:=lay1 w8 113 #[.int .i64 s7,.slice a7 l7 k7];replace BA:=hid (BA.out.new HN.out);replace BB:=hid (BB.out.new HN.out);replace BP:=hid (BP.out.new HN.out);replace HIX:=hid (HIX.out.new HN.out);replace HIY:=hid (HIY.out.new HN.out);replace HG:=hid (HG.out.new HN.out);have HN_:=HN0.out.trans HN.out;clear HN HN0;have HN:=hid HN_;clear HN_;obtain ⟨a0,a1,a2,a3,a4⟩:=BA.out.two;obtain ⟨b0,b1,b2,b3,b4⟩:=BB.out.two;obtain ⟨g0,g1,g2,g3,g4⟩:=BG.out.two;clear a0 a1 a2 a3 a4;clear b0 b1 b2 b3 b4;clear g0 g1 g2 g3 g4;refine y00 7 (fun W=>(W.cell? ⟨w.heap.size,0,none⟩=some (.int .i64 s5)/\W.cell? ⟨w.heap.size,1,none⟩=some (.slice a5 l5 k5))/\(W.cell? ⟨w.heap.size+1,0,none⟩=some (.int .i64 s6)/\W.cell? ⟨w.heap.size+1,1,none⟩=some (.slice a6 l6 k6))/\(W.cell? ⟨w8.heap.size,0,none⟩=some (.int .i64 s7)/\W.cell? ⟨w8.heap.size,1,none⟩=some (.slice a7 l7 k7))) 8 #[false,false,false,false,false,false,false,false] rfl (by kernel_rfl) (by kernel_rfl) ?_;refine tk 0 (by exact ⟨cW2 BA,cW2 BB,cW2 BG⟩) ?_
   try simp only[PT]
   refine tk 1 (by exact ⟨cW2 BA,cW2 BB,cW2 BG⟩) ?_
   try simp only[PT]
   refine tk 3 (by exact ⟨cW2 BA,cW2 BB,cW2 BG⟩) ?_
   try simp only[PT]
   refine tk 4 (by exact ⟨cW2 BA,cW2 BB,cW2 BG⟩) ?_
   try simp only[PT]
   refine tk1 2 fun K hK=>?_;go_simp;refine (y2n _ _ X _ _ (HIX.out.new (New.refl _).drew) (HG.out.new (New.refl _).drew) BX.out (y7n HPOS.out BY.out) (by have:=Int.gcd_pos_of_ne_zero_right X (show Y≠0 by have:=HPOS.out;omega);omega)).mono ?_;rintro e w9 ⟨v8,rfl,hn,hi⟩;have hn:=hn.undrew;obtain ⟨s8,a8,l8,k8,rfl⟩:=hi.shape;have HI8:=hid hi;clear hi;replace BA:=bW BA hn;replace BB:=bW BB hn;replace BP:=bW BP hn;replace BG:=bW BG hn;replace HIY:=hid (HIY.out.new hn);replace HG:=hid (HG.out.new hn);replace HN:=tW HN hn;clear hn;refine hK.out _ _ (fun _=>⟨cW2 BA,cW2 BB,cW2 BG⟩) ?_;clear hK K
   try simp only[PT]
   refine tk1 5 fun K hK=>?_;go_simp;refine (y2n _ _ Y _ _ HIY.out HG.out BY.out (y7n HPOS.out BY.out) (by have:=Int.gcd_pos_of_ne_zero_right X (show Y≠0 by have:=HPOS.out;omega);omega)).mono ?_;rintro e w10 ⟨v9,rfl,hn,hi⟩;obtain ⟨s9,a9,l9,k9,rfl⟩:=hi.shape;have HI9:=hid hi;clear hi;replace BA:=bW BA hn;replace BB:=bW BB hn;replace BP:=bW BP hn;replace BG:=bW BG hn;replace HI8:=hid (HI8.out.new hn);replace HN:=tW HN hn;clear hn;refine hK.out _ _ (fun _=>⟨cW2 BA,cW2 BB,cW2 BG⟩) ?_;clear hK K
   try simp only[PT]
   refine tk 6 (by exact ⟨cW2 BA,cW2 BB,cW2 BG⟩) ?_
   try simp only[PT]
   refine tlW ?_;obtain ⟨a0,a1,a2,a3,a4⟩:=BA.out.two;obtain ⟨b0,b1,b2,b3,b4⟩:=BB.out.two;obtain ⟨g0,g1,g2,g3,g4⟩:=BG.out.two;obtain ⟨⟨p0,p1,p2,p3⟩,p4,p5,p6,p7,p8⟩:=BP.out.four;go_wp2_with fail;refine bodyPost_ret (v:=.agg #[.int .i64 s8,.slice a8 l8 k8,.int .i64 s9,.slice a9 l9 k9]) (by simp[results,Tryz.results118,go_sem,p0,p1,p2,p3]) rfl ?_;refine y10 HN.out BP.out (by omega) ?_ ?_
   ·rw[HQ.out.1,<-y5o (by have:=Int.gcd_pos_of_ne_zero_right X (show Y≠0 by have:=HPOS.out;omega);omega)];exact HI8.out
   ·rw[HQ.out.2,<-y5o (by have:=Int.gcd_pos_of_ne_zero_right X (show Y≠0 by have:=HPOS.out;omega);omega)];exact HI9.out
 ·obtain ⟨t,ht,htn⟩:∃ t,y.sign=t/\0<=t:=⟨_,rfl,Int.sign_nonneg_iff.2 (by omega)⟩;obtain ⟨X,hX⟩:∃ X,x=X:=⟨_,rfl⟩;obtain ⟨Y,hY⟩:∃ Y,y=Y:=⟨_,rfl⟩
  have hpos:0 < Y:=by omega
  have hq':=yas (X:=X) hpos;rw[<-hX,<-hY,hq,hX,hY] at hq';clear hneg hy0 hq;subst hX hY;obtain ⟨X,rfl⟩:∃ X,X=x:=⟨_,rfl⟩;obtain ⟨Y,rfl⟩:∃ Y,Y=y:=⟨_,rfl⟩;obtain ⟨s5,rfl⟩:∃ X,X=sa:=⟨_,rfl⟩;obtain ⟨a5,rfl⟩:∃ X,X=aa:=⟨_,rfl⟩;obtain ⟨l5,rfl⟩:∃ X,X=la:=⟨_,rfl⟩;obtain ⟨k5,rfl⟩:∃ X,X=ca:=⟨_,rfl⟩;obtain ⟨s6,rfl⟩:∃ X,X=sb:=⟨_,rfl⟩;obtain ⟨a6,rfl⟩:∃ X,X=ab:=⟨_,rfl⟩;obtain ⟨l6,rfl⟩:∃ X,X=lb:=⟨_,rfl⟩;obtain ⟨k6,rfl⟩:∃ X,X=cb:=⟨_,rfl⟩;have HX:=hid hx;have HY:=hid hy;have BX:=hid bx;have BY:=hid by';have HQ:=hid hq';have HPOS:=hid hpos;clear hx hy bx by' hq' hpos;go_enter Tryz.func118,Tryz.ntmps118;go_wp2_with fail;obtain ⟨BA,BB,BP,HN⟩:=lay3 w 113 #[.int .i64 s5,.slice a5 l5 k5] 113 #[.int .i64 s6,.slice a6 l6 k6] 115 #[.int .i64 0,.slice none 0 0,.int .i64 0,.slice none 0 0];refine (y0y _ Y _ (HY.out.new HN.out)).mono ?_;rintro e w4 ⟨rfl,hn⟩;rw[ht];clear ht;replace BA:=bW BA hn;replace BB:=bW BB hn;replace BP:=bW BP hn;replace HN:=tW HN hn;clear hn;have hi5:=HX.out.new HN.out;have hi6:=HY.out.new HN.out;have HIX:=hid hi5;have HIY:=hid hi6;clear hi5 hi6;rcases HIY.out.none_or with ⟨hnn,hsy⟩ | ⟨hnn,hy1⟩
  ·by_cases h1:s6=1
   ·have h2:Y=1:=by omega
    clear hsy;subst h1;have H1:=hid h2;clear h2;obtain ⟨a0,a1,a2,a3,a4⟩:=BA.out.two;obtain ⟨b0,b1,b2,b3,b4⟩:=BB.out.two;obtain ⟨⟨p0,p1,p2,p3⟩,p4,p5,p6,p7,p8⟩:=BP.out.four;go_wp2_with fail;refine bodyPost_ret (v:=.agg #[.int .i64 s5,.slice a5 l5 k5,.int .i64 1,.slice a6 l6 k6]) (by simp[results,Tryz.results118,go_sem,p0,p1,p2,p3]) rfl ?_;refine y10 HN.out BP.out (by omega) ?_ ?_
    ·have e:(Int.gcd X Y:Int)=1:=by rw[H1.out,Int.gcd_one];rfl
     rw[HQ.out.1,e,Int.ediv_one];exact HIX.out
    ·have e:(Int.gcd X Y:Int)=1:=by rw[H1.out,Int.gcd_one];rfl
     have h:=HQ.out.2;rw[e,Int.ediv_one] at h;rw[h];exact HIY.out
   ·have hd:(s6==1)=false:=by simpa using h1
    clear h1 hsy;obtain ⟨a0,a1,a2,a3,a4⟩:=BA.out.two;obtain ⟨b0,b1,b2,b3,b4⟩:=BB.out.two;go_wp2_with fail;refine (y5l _ _ X Y _ HIX.out HIY.out BX.out BY.out).mono ?_;rintro e w8 ⟨v7,rfl,hn,hi⟩;obtain ⟨s7,a7,l7,k7,rfl⟩:=hi.shape;clear a0 a1 a2 a3 a4 b0 b1 b2 b3 b4;have HG:=hid hi;clear hi;replace BA:=bW BA hn;replace BB:=bW BB hn;replace BP:=bW BP hn;replace HIX:=hid (HIX.out.new hn);replace HIY:=hid (HIY.out.new hn);replace HN:=tW HN hn;clear hn;obtain ⟨a0,a1,a2,a3,a4⟩:=BA.out.two;obtain ⟨b0,b1,b2,b3,b4⟩:=BB.out.two;go_wp2_with fail;clear a0 a1 a2 a3 a4 b0 b1 b2 b3 b4;have HN0:=HN;clear HN;obtain ⟨BG,HN⟩:=lay1 w8 113 #[.int .i64 s7,.slice a7 l7 k7];replace BA:=hid (BA.out.new HN.out);replace BB:=hid (BB.out.new HN.out);replace BP:=hid (BP.out.new HN.out);replace HIX:=hid (HIX.out.new HN.out);replace HIY:=hid (HIY.out.new HN.out);replace HG:=hid (HG.out.new HN.out);have HN_:=HN0.out.trans HN.out;clear HN HN0;have HN:=hid HN_;clear HN_;obtain ⟨a0,a1,a2,a3,a4⟩:=BA.out.two;obtain ⟨b0,b1,b2,b3,b4⟩:=BB.out.two;obtain ⟨g0,g1,g2,g3,g4⟩:=BG.out.two;clear a0 a1 a2 a3 a4;clear b0 b1 b2 b3 b4;clear g0 g1 g2 g3 g4;refine y00 7 (fun W=>(W.cell? ⟨w.heap.size,0,none⟩=some (.int .i64 s5)/\W.cell? ⟨w.heap.size,1,none⟩=some (.slice a5 l5 k5))/\(W.cell? ⟨w.heap.size+1,0,none⟩=some (.int .i64 s6)/\W.cell? ⟨w.heap.size+1,1,none⟩=some (.slice a6 l6 k6))/\(W.cell? ⟨w8.heap.size,0,none⟩=some (.int .i64 s7)/\W.cell? ⟨w8.heap.size,1,none⟩=some (.slice a7 l7 k7))) 8 #[false,false,false,false,false,false,false,false] rfl (by kernel_rfl) (by kernel_rfl) ?_;refine tk 0 (by exact ⟨cW2 BA,cW2 BB,cW2 BG⟩) ?_
    try simp only[PT]
    refine tk 1 (by exact ⟨cW2 BA,cW2 BB,cW2 BG⟩) ?_
    try simp only[PT]
    refine tk 3 (by exact ⟨cW2 BA,cW2 BB,cW2 BG⟩) ?_
    try simp only[PT]
    refine tk 4 (by exact ⟨cW2 BA,cW2 BB,cW2 BG⟩) ?_
    try simp only[PT]
    refine tk1 2 fun K hK=>?_;go_simp;refine (y2n _ _ X _ _ (HIX.out.new (New.refl _).drew) (HG.out.new (New.refl _).drew) BX.out (y7n HPOS.out BY.out) (by have:=Int.gcd_pos_of_ne_zero_right X (show Y≠0 by have:=HPOS.out;omega);omega)).mono ?_;rintro e w9 ⟨v8,rfl,hn,hi⟩;have hn:=hn.undrew;obtain ⟨s8,a8,l8,k8,rfl⟩:=hi.shape;have HI8:=hid hi;clear hi;replace BA:=bW BA hn;replace BB:=bW BB hn;replace BP:=bW BP hn;replace BG:=bW BG hn;replace HIY:=hid (HIY.out.new hn);replace HG:=hid (HG.out.new hn);replace HN:=tW HN hn;clear hn;refine hK.out _ _ (fun _=>⟨cW2 BA,cW2 BB,cW2 BG⟩) ?_;clear hK K
    try simp only[PT]
    refine tk1 5 fun K hK=>?_;go_simp;refine (y2n _ _ Y _ _ HIY.out HG.out BY.out (y7n HPOS.out BY.out) (by have:=Int.gcd_pos_of_ne_zero_right X (show Y≠0 by have:=HPOS.out;omega);omega)).mono ?_;rintro e w10 ⟨v9,rfl,hn,hi⟩;obtain ⟨s9,a9,l9,k9,rfl⟩:=hi.shape;have HI9:=hid hi;clear hi;replace BA:=bW BA hn;replace BB:=bW BB hn;replace BP:=bW BP hn;replace BG:=bW BG hn;replace HI8:=hid (HI8.out.new hn);replace HN:=tW HN hn;clear hn;refine hK.out _ _ (fun _=>⟨cW2 BA,cW2 BB,cW2 BG⟩) ?_;clear hK K
    try simp only[PT]
    refine tk 6 (by exact ⟨cW2 BA,cW2 BB,cW2 BG⟩) ?_
    try simp only[PT]
    refine tlW ?_;obtain ⟨a0,a1,a2,a3,a4⟩:=BA.out.two;obtain ⟨b0,b1,b2,b3,b4⟩:=BB.out.two;obtain ⟨g0,g1,g2,g3,g4⟩:=BG.out.two;obtain ⟨⟨p0,p1,p2,p3⟩,p4,p5,p6,p7,p8⟩:=BP.out.four;go_wp2_with fail;refine bodyPost_ret (v:=.agg #[.int .i64 s8,.slice a8 l8 k8,.int .i64 s9,.slice a9 l9 k9]) (by simp[results,Tryz.results118,go_sem,p0,p1,p2,p3]) rfl ?_;refine y10 HN.out BP.out (by omega) ?_ ?_
    ·rw[HQ.out.1,<-y5o (by have:=Int.gcd_pos_of_ne_zero_right X (show Y≠0 by have:=HPOS.out;omega);omega)];exact HI8.out
    ·rw[HQ.out.2,<-y5o (by have:=Int.gcd_pos_of_ne_zero_right X (show Y≠0 by have:=HPOS.out;omega);omega)];exact HI9.out
  ·clear hy1;obtain ⟨a0,a1,a2,a3,a4⟩:=BA.out.two;obtain ⟨b0,b1,b2,b3,b4⟩:=BB.out.two;go_wp2_with fail;refine (y5l _ _ X Y _ HIX.out HIY.out BX.out BY.out).mono ?_;rintro e w8 ⟨v7,rfl,hn,hi⟩;obtain ⟨s7,a7,l7,k7,rfl⟩:=hi.shape;clear a0 a1 a2 a3 a4 b0 b1 b2 b3 b4;have HG:=hid hi;clear hi;replace BA:=bW BA hn;replace BB:=bW BB hn;replace BP:=bW BP hn;replace HIX:=hid (HIX.out.new hn);replace HIY:=hid (HIY.out.new hn);replace HN:=tW HN hn;clear hn;obtain ⟨a0,a1,a2,a3,a4⟩:=BA.out.two;obtain ⟨b0,b1,b2,b3,b4⟩:=BB.out.two;go_wp2_with fail;clear a0 a1 a2 a3 a4 b0 b1 b2 b3 b4;have HN0:=HN;clear HN;obtain ⟨BG,HN⟩:=lay1 w8 113 #[.int .i64 s7,.slice a7 l7 k7];replace BA:=hid (BA.out.new HN.out);replace BB:=hid (BB.out.new HN.out);replace BP:=hid (BP.out.new HN.out);replace HIX:=hid (HIX.out.new HN.out);replace HIY:=hid (HIY.out.new HN.out);replace HG:=hid (HG.out.new HN.out);have HN_:=HN0.out.trans HN.out;clear HN HN0;have HN:=hid HN_;clear HN_;obtain ⟨a0,a1,a2,a3,a4⟩:=BA.out.two;obtain ⟨b0,b1,b2,b3,b4⟩:=BB.out.two;obtain ⟨g0,g1,g2,g3,g4⟩:=BG.out.two;clear a0 a1 a2 a3 a4;clear b0 b1 b2 b3 b4;clear g0 g1 g2 g3 g4;refine y00 7 (fun W=>(W.cell? ⟨w.heap.size,0,none⟩=some (.int .i64 s5)/\W.cell? ⟨w.heap.size,1,none⟩=some (.slice a5 l5 k5))/\(W.cell? ⟨w.heap.size+1,0,none⟩=some (.int .i64 s6)/\W.cell? ⟨w.heap.size+1,1,none⟩=some (.slice a6 l6 k6))/\(W.cell? ⟨w8.heap.size,0,none⟩=some (.int .i64 s7)/\W.cell? ⟨w8.heap.size,1,none⟩=some (.slice a7 l7 k7))) 8 #[false,false,false,false,false,false,false,false] rfl (by kernel_rfl) (by kernel_rfl) ?_;refine tk 0 (by exact ⟨cW2 BA,cW2 BB,cW2 BG⟩) ?_
   try simp only[PT]
   refine tk 1 (by exact ⟨cW2 BA,cW2 BB,cW2 BG⟩) ?_
   try simp only[PT]
   refine tk 3 (by exact ⟨cW2 BA,cW2 BB,cW2 BG⟩) ?_
   try simp only[PT]
   refine tk 4 (by exact ⟨cW2 BA,cW2 BB,cW2 BG⟩) ?_
   try simp only[PT]
   refine tk1 2 fun K hK=>?_;go_simp;refine (y2n _ _ X _ _ (HIX.out.new (New.refl _).drew) (HG.out.new (New.refl _).drew) BX.out (y7n HPOS.out BY.out) (by have:=Int.gcd_pos_of_ne_zero_right X (show Y≠0 by have:=HPOS.out;omega);omega)).mono ?_;rintro e w9 ⟨v8,rfl,hn,hi⟩;have hn:=hn.undrew;obtain ⟨s8,a8,l8,k8,rfl⟩:=hi.shape;have HI8:=hid hi;clear hi;replace BA:=bW BA hn;replace BB:=bW BB hn;replace BP:=bW BP hn;replace BG:=bW BG hn;replace HIY:=hid (HIY.out.new hn);replace HG:=hid (HG.out.new hn);replace HN:=tW HN hn;clear hn;refine hK.out _ _ (fun _=>⟨cW2 BA,cW2 BB,cW2 BG⟩) ?_;clear hK K
   try simp only[PT]
   refine tk1 5 fun K hK=>?_;go_simp;refine (y2n _ _ Y _ _ HIY.out HG.out BY.out (y7n HPOS.out BY.out) (by have:=Int.gcd_pos_of_ne_zero_right X (show Y≠0 by have:=HPOS.out;omega);omega)).mono ?_;rintro e w10 ⟨v9,rfl,hn,hi⟩;obtain ⟨s9,a9,l9,k9,rfl⟩:=hi.shape;have HI9:=hid hi;clear hi;replace BA:=bW BA hn;replace BB:=bW BB hn;replace BP:=bW BP hn;replace BG:=bW BG hn;replace HI8:=hid (HI8.out.new hn);replace HN:=tW HN hn;clear hn;refine hK.out _ _ (fun _=>⟨cW2 BA,cW2 BB,cW2 BG⟩) ?_;clear hK K
   try simp only[PT]
   refine tk 6 (by exact ⟨cW2 BA,cW2 BB,cW2 BG⟩) ?_
   try simp only[PT]
   refine tlW ?_;obtain ⟨a0,a1,a2,a3,a4⟩:=BA.out.two;obtain ⟨b0,b1,b2,b3,b4⟩:=BB.out.two;obtain ⟨g0,g1,g2,g3,g4⟩:=BG.out.two;obtain ⟨⟨p0,p1,p2,p3⟩,p4,p5,p6,p7,p8⟩:=BP.out.four;go_wp2_with fail;refine bodyPost_ret (v:=.agg #[.int .i64 s8,.slice a8 l8 k8,.int .i64 s9,.slice a9 l9 k9]) (by simp[results,Tryz.results118,go_sem,p0,p1,p2,p3]) rfl ?_;refine y10 HN.out BP.out (by omega) ?_ ?_
   ·rw[HQ.out.1,<-y5o (by have:=Int.gcd_pos_of_ne_zero_right X (show Y≠0 by have:=HPOS.out;omega);omega)];exact HI8.out
   ·rw[HQ.out.2,<-y5o (by have:=Int.gcd_pos_of_ne_zero_right X (show Y≠0 by have:=HPOS.out;omega);omega)];exact HI9.out
end Go.Proofs.YtnjonlnemagomaaGreatDoor
