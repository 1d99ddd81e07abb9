/- Part B21. -/
import Derived.Test.YtnjonlnemagomaaGreatDoorB20
namespace Go.Proofs.YtnjonlnemagomaaGreatDoor
open Go.RowKit Big Go.Lib
set_option maxRecDepth 100000
set_option maxHeartbeats 8000000
theorem y8l {x:Int}{m d:Nat}(hm:x.natAbs=m)(hd:0 < d):(Rat.divInt x d).num=sgnd (decide (x < 0)) (m / Nat.gcd m d)/\(Rat.divInt x d).den=d / Nat.gcd m d:=by
 have:=ydy (x:=x) (y:=(d:Int)) (by omega);rw[hm] at this;exact this
theorem y8n {m k:Nat}:sgnd (decide ((m:Int) < 0)) k=(k:Int):=by
 unfold sgnd;rw[if_neg (by simp)]
theorem y7f {m k:Nat}(h:0 < m):sgnd (decide (-(m:Int) < 0)) k= -(k:Int):=by
 unfold sgnd;rw[if_pos (by simp;omega)]
theorem ydp {m P g:Nat}(hm:0 < m)(hP:0 < P)(p2:Int.tdiv (m:Int) (g:Int)=(P:Int)): -(P:Int) < 0/\max (-(m:Int)) (m:Int)=(m:Int)/\max (-(m:Int)) (0 - -(m:Int))=(m:Int)/\¬(m:Int)<= -(m:Int)/\Int.tdiv (-(m:Int)) (g:Int)= -(P:Int)/\max (-(P:Int)) (P:Int)=(P:Int)/\decide (-(P:Int) < 0)=true/\¬(P:Int)<= -(P:Int):=by
 refine ⟨by omega,by omega,by omega,by omega,by rw[Int.neg_tdiv,p2],by omega,decide_eq_true (by omega),by omega⟩
theorem ycf (A B:List UInt8):bs (A ++ 47::B)=bs A ++ ⟨#[47]⟩ ++ bs B:=by
 have e:(⟨#[47]⟩:ByteArray)=bs [47]:=rfl;rw[e,y2b,y2b,List.append_assoc];rfl
theorem ydt {n:Nat}(h:n<=4000000000000000000):(decDigits n).length<=64:=by
 have h1:(2:Nat)^63=9223372036854775808:=by decide
 exact y75 (n:=n) (k:=63) (by omega)
theorem yoi (m d:Nat)(w:World)(hm:m<=4000000000000000000)(hd:0 < d)(hd2:d<=4000000000000000000):Calls Tryz.prog 73 #[.int .i64 ((m:Int)),.int .i64 (d:Int)] w (RetS w (Rat.divInt ((m:Int)) d)):=by
 obtain ⟨hnum,hden⟩:=y8l (x:=(m:Int)) (m:=m) (d:=d) (by omega) hd;obtain ⟨R,hR⟩:∃ R,Rat.divInt ((m:Int)) d=R:=⟨_,rfl⟩;rw[hR] at hnum hden⊢;have hgc:=fun W=>y6a m d W (by omega) (by omega);have hg0:0 < Nat.gcd m d:=Nat.gcd_pos_of_pos_right _ hd;obtain ⟨g,hg⟩:∃ g,Nat.gcd m d=g:=⟨_,rfl⟩
 have hgd:g<=d:=by rw[<-hg];exact Nat.le_of_dvd hd (Nat.gcd_dvd_right _ _)
 simp only[hg]at hgc hnum hden hg0;obtain ⟨p1,p2, -, -⟩:=divd m g;obtain ⟨q1,q2, -, -⟩:=divd d g;have hPm:m / g<=m:=Nat.div_le_self _ _;have hQd:d / g<=d:=Nat.div_le_self _ _;obtain ⟨P,hP⟩:∃ P,m / g=P:=⟨_,rfl⟩;obtain ⟨Q,hQ⟩:∃ Q,d / g=Q:=⟨_,rfl⟩;rw[hP] at p1 p2 hPm hnum;rw[hQ] at q1 q2 hQd hden
 have hQ0:0 < Q:=by rw[<-hQ];exact Nat.div_pos hgd hg0
 have hdp:=fun W=>y1e P W (by omega);have hdq:=fun W=>y1e Q W (by omega);have hlp:=ydt (n:=P) (by omega);have hlq:=ydt (n:=Q) (by omega);obtain ⟨S,hS⟩:∃ S,bs (decDigits P)=S:=⟨_,rfl⟩;obtain ⟨D,hD⟩:∃ D,bs (decDigits Q)=D:=⟨_,rfl⟩
 have hSs:S.size<=64:=by rw[<-hS,y1d];exact hlp
 have hDs:D.size<=64:=by rw[<-hD,y1d];exact hlq
 simp only[hS]at hdp;simp only[hD] at hdq
 have hx0:¬(P:Int) < 0:=(by omega);have hmx:max (m:Int) (-(m:Int))=(m:Int):=(by omega);have hmy:max (P:Int) (-(P:Int))=(P:Int):=(by omega)
 have hres1:Q=1->rs R=S:=fun h=>by
  unfold rs y02;rw[if_pos (by rw[hden,h]),hnum];rw[y8n,Big.itoa_nonneg,hS]
 have hres2:Q≠1->rs R=S ++ ⟨#[47]⟩ ++ D:=fun h=>by
  unfold rs y02;rw[if_neg (by rw[hden];exact h),hnum,hden];rw[y8n,Big.itoa_nonneg,ycf,hS,hD]
 have hgi:(0:Int) < (g:Int):=by omega
 have hgb:((g:Int)==0)=false:=by simp;omega
 have hgn:(g:Int)≠0:=by omega
 have hdi:(0:Int) < (d:Int):=by omega
 have hd0:¬(d:Int) < 0:=by omega
 have hd0b:decide ((d:Int) < 0)=false:=decide_eq_false hd0
 have k1:¬((m:Int)) < -4000000000000000000:=by omega
 have k2:¬4000000000000000000 < ((m:Int)):=by omega
 have k3:¬(d:Int) < -4000000000000000000:=by omega
 have k4:¬4000000000000000000 < (d:Int):=by omega
 have k1b:=decide_eq_false k1;have k2b:=decide_eq_false k2;have k3b:=decide_eq_false k3;have k4b:=decide_eq_false k4
 have hq63a:¬9223372036854775807 < S.size:=by omega
 have hq63b:¬9223372036854775807 < S.size+1:=by omega
 have hq63c:¬9223372036854775807 < S.size+1+D.size:=by omega
 have hPi:(P:Int)<=4000000000000000000:=by omega
 have hQi:(Q:Int)<=4000000000000000000:=by omega
 have hmi:(m:Int)<=4000000000000000000:=by omega
 by_cases hQ1:Q=1
 ·have hr:=hres1 hQ1;clear hnum hden hR hg0 hg hgd hP hQ hPm hQd hlp hlq hS hD hSs hDs hres1 hres2 hm hd hd2 hQ0;have HGC:=hid hgc;have HDP:=hid hdp;have HDQ:=hid hdq;have HR:=hid hr;have P1:=hid p1;have P2:=hid p2;have QQ1:=hid q1;have QQ2:=hid q2;have HGI:=hid hgi;have HGB:=hid hgb;have HGN:=hid hgn;have HA:=hid hq63a;have HB:=hid hq63b;have HC:=hid hq63c;have HPI:=hid hPi;have HQI:=hid hQi;have HX0:=hid hx0;clear hgc hdp hdq hr p1 p2 q1 q2 hgi hgb hgn hq63a hq63b hq63c hPi hQi hx0;subst hQ1;go_enter Tryz.func73,Tryz.ntmps73;go_wp2_with fail;refine (HGC.out _).mono ?_;rintro e w1 ⟨rfl,hn⟩;clear hmx k1 k2 k3 k4 k1b k2b k3b k4b hd0 hd0b;have HN:=hid hn;clear hn;have p1:=P1.out;have p2:=P2.out;have q1:=QQ1.out;have q2:=QQ2.out;have hgi:=HGI.out;have hgb:=HGB.out;have hgn:=HGN.out;have hPi:=HPI.out;have hQi:=HQI.out;have hx0:=HX0.out;go_wp2_with fail
  go_quiet (fail)
  replace HN:=hid (HN.out.drewN nq);obtain ⟨w9,hw9⟩:∃ x,w1.drewN nq=x:=⟨_,rfl⟩;rw[hw9] at HN⊢;clear hw9 p1 p2 q1 q2 hgi hgb hgn;have hpi:=HPI.out;go_wp2_with fail;refine (HDP.out _).mono ?_;rintro e w2 ⟨rfl,hn⟩;replace HN:=tW HN hn;clear hn;have hA:=HA.out;go_wp2_with fail;go_ret;exact ⟨by rw[HR.out];rfl,HN.out⟩
 ·have hr:=hres2 hQ1
  have hQ2:(1:Int) < (Q:Int):=by omega
  have hQ2b:decide ((1:Int) < (Q:Int))=true:=decide_eq_true hQ2;clear hnum hden hR hg0 hg hgd hP hQ hPm hQd hlp hlq hS hD hSs hDs hres1 hres2 hm hd hd2 hQ0 hQ1;have HGC:=hid hgc;have HDP:=hid hdp;have HDQ:=hid hdq;have HR:=hid hr;have P1:=hid p1;have P2:=hid p2;have QQ1:=hid q1;have QQ2:=hid q2;have HGI:=hid hgi;have HGB:=hid hgb;have HGN:=hid hgn;have HA:=hid hq63a;have HB:=hid hq63b;have HC:=hid hq63c;have HPI:=hid hPi;have HQI:=hid hQi;have HQ2:=hid hQ2;have HQ2B:=hid hQ2b;have HX0:=hid hx0;clear hgc hdp hdq hr p1 p2 q1 q2 hgi hgb hgn hq63a hq63b hq63c hPi hQi hQ2 hQ2b hx0;go_enter Tryz.func73,Tryz.ntmps73;go_wp2_with fail;refine (HGC.out _).mono ?_;rintro e w1 ⟨rfl,hn⟩;clear hmx k1 k2 k3 k4 k1b k2b k3b k4b hd0 hd0b;have HN:=hid hn;clear hn;have p1:=P1.out;have p2:=P2.out;have q1:=QQ1.out;have q2:=QQ2.out;have hgi:=HGI.out;have hgb:=HGB.out;have hgn:=HGN.out;have hPi:=HPI.out;have hQi:=HQI.out;have hx0:=HX0.out;go_wp2_with fail
  go_quiet (fail)
  replace HN:=hid (HN.out.drewN nq);obtain ⟨w9,hw9⟩:∃ x,w1.drewN nq=x:=⟨_,rfl⟩;rw[hw9] at HN⊢;clear hw9 p1 p2 q1 q2 hgi hgb hgn;have hpi:=HPI.out;go_wp2_with fail;refine (HDP.out _).mono ?_;rintro e w2 ⟨rfl,hn⟩;replace HN:=tW HN hn;clear hn;have hA:=HA.out;have hB:=HB.out;have hQ2:=HQ2.out;have hQ2b:=HQ2B.out;go_wp2_with fail;refine (HDQ.out _).mono ?_;rintro e w3 ⟨rfl,hn⟩;replace HN:=tW HN hn;clear hn;have hC:=HC.out;go_wp2_with fail;go_ret;exact ⟨by rw[HR.out];rfl,HN.out⟩
theorem yof (m d:Nat)(w:World)(hm:m<=4000000000000000000)(hd:0 < d)(hd2:d<=4000000000000000000)(hmp:0 < m):Calls Tryz.prog 73 #[.int .i64 (-(m:Int)),.int .i64 (d:Int)] w (RetS w (Rat.divInt (-(m:Int)) d)):=by
 obtain ⟨hnum,hden⟩:=y8l (x:= -(m:Int)) (m:=m) (d:=d) (by omega) hd;obtain ⟨R,hR⟩:∃ R,Rat.divInt (-(m:Int)) d=R:=⟨_,rfl⟩;rw[hR] at hnum hden⊢;have hgc:=fun W=>y6a m d W (by omega) (by omega);have hg0:0 < Nat.gcd m d:=Nat.gcd_pos_of_pos_right _ hd;obtain ⟨g,hg⟩:∃ g,Nat.gcd m d=g:=⟨_,rfl⟩
 have hgd:g<=d:=by rw[<-hg];exact Nat.le_of_dvd hd (Nat.gcd_dvd_right _ _)
 simp only[hg]at hgc hnum hden hg0;obtain ⟨p1,p2, -, -⟩:=divd m g;obtain ⟨q1,q2, -, -⟩:=divd d g;have hPm:m / g<=m:=Nat.div_le_self _ _;have hQd:d / g<=d:=Nat.div_le_self _ _;obtain ⟨P,hP⟩:∃ P,m / g=P:=⟨_,rfl⟩;obtain ⟨Q,hQ⟩:∃ Q,d / g=Q:=⟨_,rfl⟩;rw[hP] at p1 p2 hPm hnum;rw[hQ] at q1 q2 hQd hden
 have hQ0:0 < Q:=by rw[<-hQ];exact Nat.div_pos hgd hg0
 have hdp:=fun W=>y1e P W (by omega);have hdq:=fun W=>y1e Q W (by omega);have hlp:=ydt (n:=P) (by omega);have hlq:=ydt (n:=Q) (by omega);obtain ⟨S,hS⟩:∃ S,bs (decDigits P)=S:=⟨_,rfl⟩;obtain ⟨D,hD⟩:∃ D,bs (decDigits Q)=D:=⟨_,rfl⟩
 have hSs:S.size<=64:=by rw[<-hS,y1d];exact hlp
 have hDs:D.size<=64:=by rw[<-hD,y1d];exact hlq
 simp only[hS]at hdp;simp only[hD] at hdq;obtain ⟨hx0,hx1,hx2,hx3,hx4,hx5,hx6,hx7⟩:=ydp (P:=P) (m:=m) (g:=g) hmp (by rw[<-hP];exact Nat.div_pos (by rw[<-hg];exact Nat.le_of_dvd hmp (Nat.gcd_dvd_left _ _)) hg0) p2
 have hres1:Q=1->rs R=⟨#[45]⟩ ++ S:=fun h=>by
  unfold rs y02;rw[if_pos (by rw[hden,h]),hnum];rw[y7f hmp,Big.itoa_neg (by omega),<-hS];exact (y2b [45] _).symm
 have hres2:Q≠1->rs R=⟨#[45]⟩ ++ S ++ ⟨#[47]⟩ ++ D:=fun h=>by
  unfold rs y02;rw[if_neg (by rw[hden];exact h),hnum,hden];rw[y7f hmp,Big.itoa_neg (by omega),ycf,<-hS,<-hD,show bs (45::decDigits P)=⟨#[45]⟩ ++ bs (decDigits P) from (y2b [45] _).symm]
 have hgi:(0:Int) < (g:Int):=by omega
 have hgb:((g:Int)==0)=false:=by simp;omega
 have hgn:(g:Int)≠0:=by omega
 have hdi:(0:Int) < (d:Int):=by omega
 have hd0:¬(d:Int) < 0:=by omega
 have hd0b:decide ((d:Int) < 0)=false:=decide_eq_false hd0
 have k1:¬(-(m:Int)) < -4000000000000000000:=by omega
 have k2:¬4000000000000000000 < (-(m:Int)):=by omega
 have k3:¬(d:Int) < -4000000000000000000:=by omega
 have k4:¬4000000000000000000 < (d:Int):=by omega
 have k1b:=decide_eq_false k1;have k2b:=decide_eq_false k2;have k3b:=decide_eq_false k3;have k4b:=decide_eq_false k4
 have hq63a:¬9223372036854775807 < 1+S.size:=by omega
 have hq63b:¬9223372036854775807 < 1+S.size+1:=by omega
 have hq63c:¬9223372036854775807 < 1+S.size+1+D.size:=by omega
 have hPi:(P:Int)<=4000000000000000000:=by omega
 have hQi:(Q:Int)<=4000000000000000000:=by omega
 have hmi:(m:Int)<=4000000000000000000:=by omega
 by_cases hQ1:Q=1
 ·have hr:=hres1 hQ1;clear hnum hden hR hg0 hg hgd hP hQ hPm hQd hlp hlq hS hD hSs hDs hres1 hres2 hm hd hd2 hQ0 hmp;have HGC:=hid hgc;have HDP:=hid hdp;have HDQ:=hid hdq;have HR:=hid hr;have P1:=hid p1;have P2:=hid p2;have QQ1:=hid q1;have QQ2:=hid q2;have HGI:=hid hgi;have HGB:=hid hgb;have HGN:=hid hgn;have HA:=hid hq63a;have HB:=hid hq63b;have HC:=hid hq63c;have HPI:=hid hPi;have HQI:=hid hQi;have HX0:=hid hx0;have HX4:=hid hx4;have HX5:=hid hx5;have HX6:=hid hx6;have HX7:=hid hx7;clear hgc hdp hdq hr p1 p2 q1 q2 hgi hgb hgn hq63a hq63b hq63c hPi hQi hx0 hx4 hx5 hx6 hx7;subst hQ1;go_enter Tryz.func73,Tryz.ntmps73;go_wp2_with fail;refine (HGC.out _).mono ?_;rintro e w1 ⟨rfl,hn⟩;clear  k1 k2 k3 k4 k1b k2b k3b k4b hd0 hd0b;have HN:=hid hn;clear hn;have p1:=P1.out;have p2:=P2.out;have q1:=QQ1.out;have q2:=QQ2.out;have hgi:=HGI.out;have hgb:=HGB.out;have hgn:=HGN.out;have hPi:=HPI.out;have hQi:=HQI.out
  (have hx0:=HX0.out;have hx4:=HX4.out;have hx5:=HX5.out;have hx6:=HX6.out;have hx7:=HX7.out)
  go_wp2_with fail
  go_quiet (fail)
  replace HN:=hid (HN.out.drewN nq);obtain ⟨w9,hw9⟩:∃ x,w1.drewN nq=x:=⟨_,rfl⟩;rw[hw9] at HN⊢;clear hw9 p1 p2 q1 q2 hgi hgb hgn;have hpi:=HPI.out;go_wp2_with fail;refine (HDP.out _).mono ?_;rintro e w2 ⟨rfl,hn⟩;replace HN:=tW HN hn;clear hn;have hA:=HA.out;go_wp2_with fail;go_ret;exact ⟨by rw[HR.out];rfl,HN.out⟩
 ·have hr:=hres2 hQ1
  have hQ2:(1:Int) < (Q:Int):=by omega
  have hQ2b:decide ((1:Int) < (Q:Int))=true:=decide_eq_true hQ2;clear hnum hden hR hg0 hg hgd hP hQ hPm hQd hlp hlq hS hD hSs hDs hres1 hres2 hm hd hd2 hQ0 hQ1 hmp;have HGC:=hid hgc;have HDP:=hid hdp;have HDQ:=hid hdq;have HR:=hid hr;have P1:=hid p1;have P2:=hid p2;have QQ1:=hid q1;have QQ2:=hid q2;have HGI:=hid hgi;have HGB:=hid hgb;have HGN:=hid hgn;have HA:=hid hq63a;have HB:=hid hq63b;have HC:=hid hq63c;have HPI:=hid hPi;have HQI:=hid hQi;have HQ2:=hid hQ2;have HQ2B:=hid hQ2b;have HX0:=hid hx0;have HX4:=hid hx4;have HX5:=hid hx5;have HX6:=hid hx6;have HX7:=hid hx7;clear hgc hdp hdq hr p1 p2 q1 q2 hgi hgb hgn hq63a hq63b hq63c hPi hQi hQ2 hQ2b hx0 hx4 hx5 hx6 hx7;go_enter Tryz.func73,Tryz.ntmps73;go_wp2_with fail;refine (HGC.out _).mono ?_;rintro e w1 ⟨rfl,hn⟩;clear  k1 k2 k3 k4 k1b k2b k3b k4b hd0 hd0b;have HN:=hid hn;clear hn;have p1:=P1.out;have p2:=P2.out;have q1:=QQ1.out;have q2:=QQ2.out;have hgi:=HGI.out;have hgb:=HGB.out;have hgn:=HGN.out;have hPi:=HPI.out;have hQi:=HQI.out
  (have hx0:=HX0.out;have hx4:=HX4.out;have hx5:=HX5.out;have hx6:=HX6.out;have hx7:=HX7.out)
  go_wp2_with fail
  go_quiet (fail)
  replace HN:=hid (HN.out.drewN nq);obtain ⟨w9,hw9⟩:∃ x,w1.drewN nq=x:=⟨_,rfl⟩;rw[hw9] at HN⊢;clear hw9 p1 p2 q1 q2 hgi hgb hgn;have hpi:=HPI.out;go_wp2_with fail;refine (HDP.out _).mono ?_;rintro e w2 ⟨rfl,hn⟩;replace HN:=tW HN hn;clear hn;have hA:=HA.out;have hB:=HB.out;have hQ2:=HQ2.out;have hQ2b:=HQ2B.out;go_wp2_with fail;refine (HDQ.out _).mono ?_;rintro e w3 ⟨rfl,hn⟩;replace HN:=tW HN hn;clear hn;have hC:=HC.out;go_wp2_with fail;go_ret;exact ⟨by rw[HR.out];rfl,HN.out⟩
theorem ykx (x:Int)(d:Nat)(w:World)(lo: -4000000000000000000<=x)(hi:x<=4000000000000000000)(hd:0 < d)(hd2:d<=4000000000000000000):Calls Tryz.prog 73 #[.int .i64 x,.int .i64 (d:Int)] w (RetS w (Rat.divInt x d)):=by
 rcases Int.lt_or_le x 0 with h | h
 ·obtain ⟨m,rfl⟩:∃ m:Nat,x= -(m:Int):=⟨x.natAbs,by omega⟩;exact yof m d w (by omega) hd hd2 (by omega)
 ·obtain ⟨m,rfl⟩:∃ m:Nat,x=(m:Int):=⟨x.toNat,by omega⟩;exact yoi m d w (by omega) hd hd2
theorem ypi (K:Nat)(va vb:Value)(x y:Nat)(w:World)(ha:IsD w va x)(hb:IsD w vb y)(hK:K<=90000)(hx:x < B9^K)(hy:y < B9^K):
  Calls Tryz.prog 196 #[va,vb] w (RetN w (x+y)):=by
 obtain ⟨n,f,hf,hfv⟩:=ha;obtain ⟨m,g,hg,hgv⟩:=hb;have hn:=y4c hf.canon hfv hx;have hm:=y4c hg.canon hgv hy;have hadd:=yhs va vb n m f g w hf.1 hg.1 (by omega) (by omega);rw[hfv,hgv] at hadd;exact hadd.mono fun e w' ⟨v,k,o,h1,h2,h3,h4,_⟩=>⟨v,h1,h2,k,o,h3,h4⟩
theorem yfg (a b:Rat):a*b=Rat.divInt (a.num*b.num) (a.den*b.den):=by
 rw[Rat.mul_def'];rfl
theorem yfz (a b:Rat):a+b=Rat.divInt (a.num*b.den+b.num*a.den) (a.den*b.den):=by
 rw[Rat.add_def'];rfl
theorem yjl {n j K:Nat}(h:n < 2^j)(hj:j<=K):n < B9^K:=by
 have h1:2^j<=B9^j:=Nat.pow_le_pow_left (by decide) j;have h2:B9^j<=B9^K:=Nat.pow_le_pow_right (by decide) hj;omega
theorem RetS.to {w w':World}{q:Rat}{B:ByteArray}{e:Ending}(hB:rs q=B)(h:RetS w q e w'):e=.returned (.string B)/\New w w':=⟨by rw[h.1,hB],h.2⟩
theorem RFB.mono {j k:Nat}{q:Rat}(h:RFB j q)(hk:j<=k):RFB k q:=⟨Nat.lt_of_lt_of_le h.num (Nat.pow_le_pow_right (by omega) hk),Nat.lt_of_lt_of_le h.den (Nat.pow_le_pow_right (by omega) hk)⟩
theorem yhg {x y:Int}(hy:y≠0):(Rat.divInt x y).num.natAbs<=x.natAbs/\(Rat.divInt x y).den<=y.natAbs:=by
 rw[Rat.num_divInt,Rat.den_divInt,if_neg hy];refine ⟨Nat.le_trans (Int.natAbs_ediv_le_natAbs _ _) ?_,Nat.div_le_self _ _⟩;rw[Int.natAbs_mul]
 have:y.sign.natAbs=1:=by rw[Int.natAbs_sign_of_ne_zero hy]
 rw[this,Nat.one_mul];exact Nat.le_refl _
theorem RFB.divInt {j:Nat}{x y:Int}(hx:x.natAbs < 2^j)(hy:y.natAbs < 2^j)(h0:y≠0):RFB j (Rat.divInt x y):=by
 obtain ⟨h1,h2⟩:=yhg (x:=x) h0;exact ⟨Nat.lt_of_le_of_lt h1 hx,Nat.lt_of_le_of_lt h2 hy⟩
theorem ybj (q:Rat):(q.den:Int)≠0:=by have:=q.den_nz;omega
theorem RFB.mul {j k:Nat}{a b:Rat}(ha:RFB j a)(hb:RFB k b):RFB (j+k) (a*b):=by
 rw[yfg];refine RFB.divInt ?_ ?_ (Int.mul_ne_zero (ybj a) (ybj b))
 ·rw[Int.natAbs_mul,Nat.pow_add];exact Nat.mul_lt_mul'' ha.num hb.num
 ·rw[Int.natAbs_mul,Nat.pow_add];exact Nat.mul_lt_mul'' (by simpa using ha.den) (by simpa using hb.den)
theorem RFB.add {j k:Nat}{a b:Rat}(ha:RFB j a)(hb:RFB k b):RFB (j+k+1) (a+b):=by
 rw[yfz]
 have k1:(a.num*(b.den:Int)).natAbs < 2^(j+k):=by rw[Int.natAbs_mul,Nat.pow_add];exact Nat.mul_lt_mul'' ha.num (by simpa using hb.den)
 have k2:(b.num*(a.den:Int)).natAbs < 2^(j+k):=by rw[Int.natAbs_mul,Nat.pow_add,Nat.mul_comm (2^j)];exact Nat.mul_lt_mul'' hb.num (by simpa using ha.den)
 have k3:((a.den:Int)*(b.den:Int)).natAbs < 2^(j+k):=by rw[Int.natAbs_mul,Nat.pow_add];exact Nat.mul_lt_mul'' (by simpa using ha.den) (by simpa using hb.den)
 refine RFB.divInt ?_ ?_ (Int.mul_ne_zero (ybj a) (ybj b))
 ·rw[Nat.pow_succ];omega
 ·rw[Nat.pow_succ];omega
theorem RFB.neg {j:Nat}{a:Rat}(ha:RFB j a):RFB j (-a):=⟨by rw[Rat.neg_num,Int.natAbs_neg];exact ha.num,ha.den⟩
theorem RFB.inv {j:Nat}{a:Rat}(ha:RFB j a)(h:a.num≠0):RFB j a⁻¹:=by
 rw[Rat.inv_def];exact RFB.divInt (by simpa using ha.den) ha.num h
theorem ye1 {x y:Int}(hx:¬x < 0)(hy:0 < y):sgnd false (x.natAbs / y.natAbs)=x / y:=by
 unfold sgnd;rw[if_neg (by simp),Int.natCast_ediv];congr 1 <;> omega
theorem y89 {x y q:Int}(hy:0 < y)(h1:q*y<=x)(h2:x < (q+1)*y):q=x / y:=by
 have a:=(Int.le_ediv_iff_mul_le hy).2 h1;have b:=(Int.ediv_lt_iff_lt_mul hy).2 h2;omega
theorem yhq {x y:Int}(hx:x < 0)(hy:0 < y)(hr:x.natAbs % y.natAbs=0):sgnd true (x.natAbs / y.natAbs)=x / y:=by
 have h:=Nat.div_add_mod x.natAbs y.natAbs;rw[hr,Nat.add_zero] at h;obtain ⟨q,hq⟩:∃ q,x.natAbs / y.natAbs=q:=⟨_,rfl⟩;obtain ⟨d,hd⟩:∃ d,y.natAbs=d:=⟨_,rfl⟩;rw[hq] at h⊢;rw[hd] at h
 have hyd:y=(d:Int):=by omega
 have hx':x= -((d:Int)*(q:Int)):=by rw[<-Int.natCast_mul,h];omega
 unfold sgnd;rw[if_pos rfl];refine y89 hy ?_ ?_
 ·rw[hx',hyd,Int.neg_mul,Int.mul_comm];exact Int.le_refl _
 ·rw[hx',hyd,Int.add_mul,Int.neg_mul,Int.mul_comm (q:Int),Int.one_mul];omega
theorem yi1 {x y:Int}(hx:x < 0)(hy:0 < y)(hr:x.natAbs % y.natAbs≠0):sgnd true (x.natAbs / y.natAbs+1)=x / y:=by
 have h:=Nat.div_add_mod x.natAbs y.natAbs;have hlt:=Nat.mod_lt x.natAbs (show 0 < y.natAbs by omega);obtain ⟨q,hq⟩:∃ q,x.natAbs / y.natAbs=q:=⟨_,rfl⟩;obtain ⟨r,hr'⟩:∃ r,x.natAbs % y.natAbs=r:=⟨_,rfl⟩;obtain ⟨d,hd⟩:∃ d,y.natAbs=d:=⟨_,rfl⟩;rw[hq,hr'] at h;rw[hr'] at hr hlt;rw[hq];rw[hd] at h hlt
 have hyd:y=(d:Int):=by omega
 have hx':x= -((d:Int)*(q:Int)) - (r:Int):=by rw[<-Int.natCast_mul];omega
 unfold sgnd;rw[if_pos rfl];obtain ⟨p,hp⟩:∃ p,(d:Int)*(q:Int)=p:=⟨_,rfl⟩
 have e:((q+1:Nat):Int)=(q:Int)+1:=by omega
 refine y89 hy ?_ ?_
 ·rw[hx',hyd,e,Int.neg_mul,Int.add_mul,Int.mul_comm (q:Int),Int.one_mul,hp];omega
 ·rw[hx',hyd,e,Int.add_mul,Int.neg_mul,Int.add_mul,Int.mul_comm (q:Int),Int.one_mul,hp];omega
theorem IsD.len0 {w:World}{a:Option Addr}{n c z:Nat}(h:IsD w (.slice a n c) z):n=0 ↔ z=0:=by
 obtain ⟨m,f,hd,hv⟩:=h;have hz:=hd.canon.zero_iff (by decide);obtain ⟨⟨a',c',⟨e, -⟩, -⟩, -⟩:=hd;injection e with e1 e2 e3;subst e2;rw[hv] at hz;exact ⟨fun h=>hz.2 h,fun h=>hz.1 h⟩
theorem yhn (K:Nat)(a1 a2:Option Addr)(l1 l2 c1 c2:Nat)(x y:Nat)(z:Int)(w:World)(hda:IsD w (.slice a1 l1 c1) x)(hdb:IsD w (.slice a2 l2 c2) y)(hK:K<=80000)(hx:x < B9^K)(hy:y < B9^K)(hy0:0 < y)(hz:sgnd false (x / y)=z):
  Calls Tryz.prog 154 #[.agg #[.bool false,.slice a1 l1 c1],.agg #[.bool false,.slice a2 l2 c2]] w (RetZ w z):=by
 have hdv:=fun W (hW:New w W)=>y6q K _ _ x y W (hda.new hW) (hdb.new hW) (by omega) hx hy hy0;have hsg:=fun W v (h:IsD W v (x / y))=>y1l false v (x / y) W h.n;simp only[hz] at hsg;clear hda hdb hK hx hy hy0 hz;have HDV:=hid hdv;have HSG:=hid hsg;clear hdv hsg;go_enter Tryz.func154,Tryz.ntmps154;go_upto_region 1 with (fail);obtain ⟨BA,BB,BP,HN⟩:=lay3 w 124 #[.bool false,.slice a1 l1 c1] 124 #[.bool false,.slice a2 l2 c2] 124 #[.bool false,.slice none 0 0];obtain ⟨pa0,pa1,pa2,pa3,pa4⟩:=BA.out.two;obtain ⟨pb0,pb1,pb2,pb3,pb4⟩:=BB.out.two;go_wp2_with fail;refine (HDV.out _ HN.out).mono ?_;rintro e w1 ⟨vq,vr,rfl,hn,hq,hr⟩;obtain ⟨a5,l5,c5,rfl⟩:=hq.shape;clear pa0 pa1 pa2 pa3 pa4 pb0 pb1 pb2 pb3 pb4;replace BA:=bW BA hn;replace BP:=bW BP hn;replace HN:=tW HN hn;clear hn;obtain ⟨a6,l6,c6,rfl⟩:=hr.shape;clear hr;have HQ:=hid hq;clear hq;obtain ⟨pa0,pa1,pa2,pa3,pa4⟩:=BA.out.two;go_wp2_with fail;refine (HSG.out _ _ HQ.out).mono ?_;rintro e w2 ⟨v2,rfl,hn,hz⟩;clear pa0 pa1 pa2 pa3 pa4;obtain ⟨b9,a9,l9,c9,rfl⟩:=hz.shape;have HZ:=hid hz;clear hz;replace BP:=bW BP hn;replace HN:=tW HN hn;clear hn;obtain ⟨p0,p1,p2,p3,p4⟩:=BP.out.two;go_wp2_with fail;refine bodyPost_ret (v:=.agg #[.bool b9,.slice a9 l9 c9]) (by simp[results,Tryz.results154,go_sem,p0,p1]) rfl ?_;exact y8j HN.out BP.out (by omega) HZ.out
theorem yi3 (K:Nat) (a1 a2:Option Addr) (l1 l2 c1 c2:Nat) (x y:Nat) (z:Int) (w:World) (hda:IsD w (.slice a1 l1 c1) x) (hdb:IsD w (.slice a2 l2 c2) y) (hK:K<=80000) (hx:x < B9^K) (hy:y < B9^K) (hy0:0 < y)
  (hz0:x % y=0->sgnd true (x / y)=z) (hz1:x % y≠0->sgnd true (x / y+1)=z):
  Calls Tryz.prog 154 #[.agg #[.bool true,.slice a1 l1 c1],.agg #[.bool false,.slice a2 l2 c2]] w (RetZ w z):=by
 have hdv:=fun W (hW:New w W)=>y6q K _ _ x y W (hda.new hW) (hdb.new hW) (by omega) hx hy hy0;have hs0:=fun (h0:x % y=0) W v (h:IsD W v (x / y))=>y1l true v (x / y) W h.n;have hs1:=fun (h0:x % y≠0) W v (h:IsN W v (x / y+1))=>y1l true v (x / y+1) W h;have hK1:B9^K<=B9^(K+1):=Nat.pow_le_pow_right (by decide) (by omega);have hqK:x / y < B9^(K+1):=Nat.lt_of_le_of_lt (Nat.div_le_self _ _) (Nat.lt_of_lt_of_le hx hK1);have h1K:1 < B9^(K+1):=Nat.lt_of_lt_of_le (show 1 < B9^1 by decide) (Nat.pow_le_pow_right (by decide) (by omega));have hadd:=fun W va vb (h1:IsD W va (x / y)) (h2:IsD W vb 1)=>ypi (K+1) va vb _ 1 W h1 h2 (by omega) hqK h1K;clear hda hdb hK hx hy hy0 hK1 hqK h1K;have HDV:=hid hdv;have HS0:=hid hs0;have HS1:=hid hs1;have HADD:=hid hadd;have HZ0:=hid hz0;have HZ1:=hid hz1;clear hdv hs0 hs1 hadd hz0 hz1;go_enter Tryz.func154,Tryz.ntmps154;go_upto_region 1 with (fail);obtain ⟨BA,BB,BP,HN⟩:=lay3 w 124 #[.bool true,.slice a1 l1 c1] 124 #[.bool false,.slice a2 l2 c2] 124 #[.bool false,.slice none 0 0];obtain ⟨pa0,pa1,pa2,pa3,pa4⟩:=BA.out.two;obtain ⟨pb0,pb1,pb2,pb3,pb4⟩:=BB.out.two;go_wp2_with fail;refine (HDV.out _ HN.out).mono ?_;rintro e w1 ⟨vq,vr,rfl,hn,hq,hr⟩;obtain ⟨a5,l5,c5,rfl⟩:=hq.shape;clear pa0 pa1 pa2 pa3 pa4 pb0 pb1 pb2 pb3 pb4;replace BA:=bW BA hn;replace BP:=bW BP hn;replace HN:=tW HN hn;clear hn;obtain ⟨a6,l6,c6,rfl⟩:=hr.shape;have hl0:=hr.len0;clear hr;by_cases h0:x % y=0
 ·have hl6:=hl0.2 h0;subst hl6;have hsg:=HS0.out h0;rw[HZ0.out h0] at hsg;clear hl0 h0;have HQ:=hid hq;have HSG:=hid hsg;clear hq hsg;obtain ⟨pa0,pa1,pa2,pa3,pa4⟩:=BA.out.two;go_wp2_with fail;refine (HSG.out _ _ HQ.out).mono ?_;rintro e w2 ⟨v2,rfl,hn,hz⟩;clear pa0 pa1 pa2 pa3 pa4;obtain ⟨b9,a9,l9,c9,rfl⟩:=hz.shape;have HZ:=hid hz;clear hz;replace BP:=bW BP hn;replace HN:=tW HN hn;clear hn;obtain ⟨p0,p1,p2,p3,p4⟩:=BP.out.two;go_wp2_with fail;refine bodyPost_ret (v:=.agg #[.bool b9,.slice a9 l9 c9]) (by simp[results,Tryz.results154,go_sem,p0,p1]) rfl ?_;exact y8j HN.out BP.out (by omega) HZ.out
 ·have hl6:0 < l6:=by
   rcases Nat.eq_zero_or_pos l6 with h | h
   ·exact absurd (hl0.1 h) h0
   ·exact h
  have hl6i:(0:Int) < (l6:Int):=by omega
  have hl6b:decide ((0:Int) < (l6:Int))=true:=decide_eq_true hl6i;have hsg:=HS1.out h0;rw[HZ1.out h0] at hsg;clear hl0 h0;have hq2:=hq.new ((New.refl _).alloc (.cells #[.int .i64 1] 3));have hone:=ykb w1 3 1 (by decide) (by omega);have hn1:=(New.refl w1).alloc (.cells #[.int .i64 1] 3);clear hq;have HQ:=hid hq2;have HSG:=hid hsg;have HONE:=hid hone;have HN1:=hid hn1;clear hq2 hsg hone hn1;obtain ⟨pa0,pa1,pa2,pa3,pa4⟩:=BA.out.two;go_wp2_with fail;refine (HADD.out _ _ _ HQ.out HONE.out).mono ?_;rintro e w2 ⟨v2,rfl,hn,hq3⟩;obtain ⟨a7,l7,c7,rfl⟩:=hq3.shape;have hn:=HN1.out.trans hn;clear HN1 HQ HONE;have HQ:=hid hq3;clear hq3;clear pa0 pa1 pa2 pa3 pa4;replace BA:=bW BA hn;replace BP:=bW BP hn;replace HN:=tW HN hn;clear hn;obtain ⟨pa0,pa1,pa2,pa3,pa4⟩:=BA.out.two;go_wp2_with fail;refine (HSG.out _ _ HQ.out).mono ?_;rintro e w3 ⟨v3,rfl,hn,hz⟩;clear pa0 pa1 pa2 pa3 pa4;obtain ⟨b9,a9,l9,c9,rfl⟩:=hz.shape;have HZ:=hid hz;clear hz;replace BP:=bW BP hn;replace HN:=tW HN hn;clear hn;obtain ⟨p0,p1,p2,p3,p4⟩:=BP.out.two;go_wp2_with fail;refine bodyPost_ret (v:=.agg #[.bool b9,.slice a9 l9 c9]) (by simp[results,Tryz.results154,go_sem,p0,p1]) rfl ?_;exact y8j HN.out BP.out (by omega) HZ.out
theorem y9c (K:Nat)(va vb:Value)(x y:Int)(w:World)(ha:IsZ w va x)(hb:IsZ w vb y)(hK:K<=80000)(hx:x.natAbs < B9^K)(hy:y.natAbs < B9^K)(hy0:0 < y):
  Calls Tryz.prog 154 #[va,vb] w (RetZ w (x / y)):=by
 obtain ⟨b1,a1,l1,c1,rfl⟩:=ha.shape;obtain ⟨b2,a2,l2,c2,rfl⟩:=hb.shape;obtain ⟨hb1,hda⟩:=ha.parts;obtain ⟨hb2,hdb⟩:=hb.parts;rw[hb2,decide_eq_false (show ¬y < 0 by omega)];by_cases h:x < 0
 ·rw[hb1,decide_eq_true h];exact yi3 K a1 a2 l1 l2 c1 c2 _ _ _ w hda hdb hK hx hy (by omega) (fun h0=>yhq h hy0 h0) (fun h0=>yi1 h hy0 h0)
 ·rw[hb1,decide_eq_false h];exact yhn K a1 a2 l1 l2 c1 c2 _ _ _ w hda hdb hK hx hy (by omega) (ye1 h hy0)
theorem ym0 (q:Rat):(upTo (rs q).data.toList).length=(rs q).size ↔ q.den=1:=by
 have hl:(rs q).size=(y02 q).length:=by unfold rs;rw[y1d]
 rw[y2v,hl];unfold y02;split
 ·rename_i h;rw[(y0x (y44 q.num)).1];exact ⟨fun _=>h,fun _=>rfl⟩
 ·rename_i h;rw[(y55 _ _).1,List.length_append,List.length_cons];exact ⟨fun h1=>by omega,fun h1=>absurd h1 h⟩
theorem yaa (q:Rat)(w:World)(hl:(rs q).size<=1000000):Calls Tryz.prog 152 #[.string (rs q)] w fun e w'=>e=.returned (.bool (decide (q.den=1)))/\w'=w:=by
 have hsl:=fun W=>y2i (rs q) W hl;have hiff:=ym0 q;have hle:=yej (rs q).data.toList
 have hlen:(rs q).data.toList.length=(rs q).size:=by simp
 rw[hlen]at hle;obtain ⟨k,hk⟩:∃ k,(upTo (rs q).data.toList).length=k:=⟨_,rfl⟩;simp only[hk] at hsl hiff hle;obtain ⟨s,hs⟩:∃ s,rs q=s:=⟨_,rfl⟩;rw[hs] at hsl hiff hle hl⊢;clear hk hs hlen;by_cases h:q.den=1
 ·have hks:=hiff.2 h;rw[decide_eq_true h];subst hks;clear hiff h hle hl;have HSL:=hid hsl;clear hsl;go_enter Tryz.func152,Tryz.ntmps152;go_wp2_with fail;refine (HSL.out _).mono ?_;rintro e w1 ⟨rfl,hw⟩;rw[hw];clear hw;go_wp2_with fail;go_ret;exact ⟨rfl,rfl⟩
 ·have hks:k≠s.size:=fun h1=>h (hiff.1 h1)
  have hkb:((k:Int)==(s.size:Int))=false:=by simp;omega
  rw[decide_eq_false h];clear hiff h hle hl hks;have HSL:=hid hsl;clear hsl;go_enter Tryz.func152,Tryz.ntmps152;go_wp2_with fail;refine (HSL.out _).mono ?_;rintro e w1 ⟨rfl,hw⟩;rw[hw];clear hw;go_wp2_with fail;go_ret;exact ⟨rfl,rfl⟩
theorem ynk (z:Int):rs (z:Rat)=bs (itoa z):=by unfold rs;rw[y3m]
theorem ybq (k:Nat)(q:Rat)(w:World)(hq:RFB k q)(hk:k<=40000):Calls Tryz.prog 74 #[.string (rs q)] w (RetS w (q.floor:Rat)):=by
 have hwh:=fun W=>yaa q W (by have:=hq.len;omega);by_cases h:q.den=1
 ·have hr:rs (q.floor:Rat)=rs q:=by
   rw[ynk,Rat.floor_def,h];unfold rs y02;rw[if_pos h];simp
  rw[decide_eq_true h]at hwh;obtain ⟨s,hs⟩:∃ s,rs q=s:=⟨_,rfl⟩;rw[hs] at hr⊢;simp only[hs] at hwh;clear hs hq h;have HWH:=hid hwh;have HR:=hid hr;clear hwh hr;go_enter Tryz.func74,Tryz.ntmps74;go_wp2_with fail;refine (HWH.out _).mono ?_;rintro e w1 ⟨rfl,hw⟩;rw[hw];clear hw;go_wp2_with fail;go_ret;exact ⟨by rw[HR.out];rfl,New.refl _⟩
 ·rw[decide_eq_false h] at hwh;have hp:=fun W=>ycz k q W hq hk
  have hd0:(0:Int) < (q.den:Int):=by have:=q.den_nz;omega
  have hfl:=fun W va vb (ha:IsZ W va q.num) (hb:IsZ W vb (q.den:Int))=>y9c k va vb _ _ W ha hb (by omega) (yjl hq.num (Nat.le_refl _)) (yjl (by simpa using hq.den) (Nat.le_refl _)) hd0;rw[<-Rat.floor_def] at hfl
  have hfb:q.floor.natAbs < B9^k:=by
   rw[Rat.floor_def];exact Nat.lt_of_le_of_lt (Int.natAbs_ediv_le_natAbs _ _) (yjl hq.num (Nat.le_refl _))
  have htx:=fun W v (hv:IsZ W v q.floor)=>yf9 k v q.floor W hv (by omega) hfb;have hr:=ynk q.floor;obtain ⟨s,hs⟩:∃ s,rs q=s:=⟨_,rfl⟩;rw[hs];simp only[hs] at hwh hp;have hn0:=New.refl w;clear hs hq h hk hd0 hfb;have HWH:=hid hwh;have HR:=hid hr;have HP:=hid hp;have HFL:=hid hfl;have HTX:=hid htx;have HN:=hid hn0;clear hwh hr hp hfl htx hn0;go_enter Tryz.func74,Tryz.ntmps74;go_wp2_with fail;refine (HWH.out _).mono ?_;rintro e w1 ⟨rfl,hw⟩;rw[hw];clear hw;go_wp2_with fail;refine (HP.out _).mono ?_;rintro e w1 ⟨v1,v2,rfl,hn,hz1,hz2⟩;obtain ⟨b1,a1,l1,c1,rfl⟩:=hz1.shape;obtain ⟨b2,a2,l2,c2,rfl⟩:=hz2.shape;have HZ1:=hid hz1;have HZ2:=hid hz2;clear hz1 hz2;replace HN:=tW HN hn;clear hn;go_upto_region 4 with (fail);have HN0:=HN;clear HN;obtain ⟨BA,BB,HN⟩:=lay2 w1 124 #[.bool b1,.slice a1 l1 c1] 124 #[.bool b2,.slice a2 l2 c2];replace HZ1:=hid (HZ1.out.new HN.out);replace HZ2:=hid (HZ2.out.new HN.out);have HN_:=HN0.out.trans HN.out;clear HN HN0;have HN:=hid HN_;clear HN_;obtain ⟨pa0,pa1,pa2,pa3,pa4⟩:=BA.out.two;obtain ⟨pb0,pb1,pb2,pb3,pb4⟩:=BB.out.two;go_wp2_with fail;refine (HFL.out _ _ _ HZ1.out HZ2.out).mono ?_;rintro e w2 ⟨v3,rfl,hn,hz3⟩;obtain ⟨b3,a3,l3,c3,rfl⟩:=hz3.shape;have HZ3:=hid hz3;clear hz3;clear pa0 pa1 pa2 pa3 pa4 pb0 pb1 pb2 pb3 pb4;replace HN:=tW HN hn;clear hn;go_wp2_with fail;refine (HTX.out _ _ HZ3.out).mono ?_;rintro e w3 ⟨rfl,hn⟩;replace HN:=tW HN hn;clear hn;go_wp2_with fail;go_ret;exact ⟨by rw[HR.out];rfl,HN.out⟩
end Go.Proofs.YtnjonlnemagomaaGreatDoor
