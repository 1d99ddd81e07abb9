/- Part B31. -/
import Derived.Test.YtbkcjmojgglbkaaGreatDoorB30
namespace Go.Proofs.YtbkcjmojgglbkaaGreatDoor
open Go.RowKit Big Go.Lib
set_option maxRecDepth 100000
set_option maxHeartbeats 8000000
theorem of_parts {x:Int}{m d:Nat}(hm:x.natAbs=m)(hd:0 < d):(Rat.divInt x d).num=sgnd (decide (x < 0)) (m / Nat.gcd m d)∧(Rat.divInt x d).den=d / Nat.gcd m d:=by
 have:=divInt_parts (x:=x) (y:=(d:Int)) (by omega);rw[hm] at this;exact this
theorem sgnd_pos {m k:Nat}:sgnd (decide ((m:Int) < 0)) k=(k:Int):=by
 unfold sgnd;rw[if_neg (by simp)]
theorem sgnd_neg' {m k:Nat}(h:0 < m):sgnd (decide (-(m:Int) < 0)) k= -(k:Int):=by
 unfold sgnd;rw[if_pos (by simp;omega)]
theorem neg_facts {m P g:Nat}(hm:0 < m)(hP:0 < P)(p2:Int.tdiv (m:Int) (g:Int)=(P:Int)): -(P:Int) < 0∧max (-(m:Int)) (m:Int)=(m:Int)∧max (-(m:Int)) (0 - -(m:Int))=(m:Int)∧¬(m:Int)≤ -(m:Int)∧Int.tdiv (-(m:Int)) (g:Int)= -(P:Int)∧max (-(P:Int)) (P:Int)=(P:Int)∧decide (-(P:Int) < 0)=true∧¬(P:Int)≤ -(P:Int):=by
 refine ⟨by omega,by omega,by omega,by omega,by rw[Int.neg_tdiv,p2],by omega,decide_eq_true (by omega),by omega⟩
theorem ofr_two (A B:List UInt8):bs (A ++ 47::B)=bs A ++ ⟨#[47]⟩ ++ bs B:=by
 have e:(⟨#[47]⟩:ByteArray)=bs [47]:=rfl;rw[e,bs_append,bs_append,List.append_assoc];rfl
theorem dec64 {n:Nat}(h:n≤4000000000000000000):(decDigits n).length≤64:=by
 have h1:(2:Nat)^63=9223372036854775808:=by decide
 exact dec_len2 (n:=n) (k:=63) (by omega)
theorem rof_pos (m d:Nat)(w:World)(hm:m≤4000000000000000000)(hd:0 < d)(hd2:d≤4000000000000000000):Calls Tryz.prog 109 #[.int .i64 ((m:Int)),.int .i64 (d:Int)] w (RetS w (Rat.divInt ((m:Int)) d)):=by
 obtain ⟨hnum,hden⟩:=of_parts (x:=(m:Int)) (m:=m) (d:=d) (by omega) hd;obtain ⟨R,hR⟩:∃ R,Rat.divInt ((m:Int)) d=R:=⟨_,rfl⟩;rw[hR] at hnum hden⊢;have hgc:=fun W=>rgcd_calls m d W (by omega) (by omega);have hg0:0 < Nat.gcd m d:=Nat.gcd_pos_of_pos_right _ hd;obtain ⟨g,hg⟩:∃ g,Nat.gcd m d=g:=⟨_,rfl⟩
 have hgd:g≤d:=by rw[←hg];exact Nat.le_of_dvd hd (Nat.gcd_dvd_right _ _)
 simp only[hg]at hgc hnum hden hg0;obtain ⟨p1,p2, -, -⟩:=divd m g;obtain ⟨q1,q2, -, -⟩:=divd d g;have hPm:m / g≤m:=Nat.div_le_self _ _;have hQd:d / g≤d:=Nat.div_le_self _ _;obtain ⟨P,hP⟩:∃ P,m / g=P:=⟨_,rfl⟩;obtain ⟨Q,hQ⟩:∃ Q,d / g=Q:=⟨_,rfl⟩;rw[hP] at p1 p2 hPm hnum;rw[hQ] at q1 q2 hQd hden
 have hQ0:0 < Q:=by rw[←hQ];exact Nat.div_pos hgd hg0
 have hdp:=fun W=>rdecimal_one P W (by omega);have hdq:=fun W=>rdecimal_one Q W (by omega);have hlp:=dec64 (n:=P) (by omega);have hlq:=dec64 (n:=Q) (by omega);obtain ⟨S,hS⟩:∃ S,bs (decDigits P)=S:=⟨_,rfl⟩;obtain ⟨D,hD⟩:∃ D,bs (decDigits Q)=D:=⟨_,rfl⟩
 have hSs:S.size≤64:=by rw[←hS,bs_size];exact hlp
 have hDs:D.size≤64:=by rw[←hD,bs_size];exact hlq
 simp only[hS]at hdp;simp only[hD] at hdq
 have hx0:¬(P:Int) < 0:=(by omega);have hmx:max (m:Int) (-(m:Int))=(m:Int):=(by omega);have hmy:max (P:Int) (-(P:Int))=(P:Int):=(by omega)
 have hres1:Q=1→rs R=S:=fun h=>by
  unfold rs ratText;rw[if_pos (by rw[hden,h]),hnum];rw[sgnd_pos,Big.itoa_nonneg,hS]
 have hres2:Q≠1→rs R=S ++ ⟨#[47]⟩ ++ D:=fun h=>by
  unfold rs ratText;rw[if_neg (by rw[hden];exact h),hnum,hden];rw[sgnd_pos,Big.itoa_nonneg,ofr_two,hS,hD]
 have hgi:(0:Int) < (g:Int):=by omega
 have hgb:((g:Int)==0)=false:=by simp;omega
 have hgn:(g:Int)≠0:=by omega
 have hdi:(0:Int) < (d:Int):=by omega
 have hd0:¬(d:Int) < 0:=by omega
 have hd0b:decide ((d:Int) < 0)=false:=decide_eq_false hd0
 have k1:¬((m:Int)) < -4000000000000000000:=by omega
 have k2:¬4000000000000000000 < ((m:Int)):=by omega
 have k3:¬(d:Int) < -4000000000000000000:=by omega
 have k4:¬4000000000000000000 < (d:Int):=by omega
 have k1b:=decide_eq_false k1;have k2b:=decide_eq_false k2;have k3b:=decide_eq_false k3;have k4b:=decide_eq_false k4
 have hq63a:¬9223372036854775807 < S.size:=by omega
 have hq63b:¬9223372036854775807 < S.size+1:=by omega
 have hq63c:¬9223372036854775807 < S.size+1+D.size:=by omega
 have hPi:(P:Int)≤4000000000000000000:=by omega
 have hQi:(Q:Int)≤4000000000000000000:=by omega
 have hmi:(m:Int)≤4000000000000000000:=by omega
 by_cases hQ1:Q=1
 ·have hr:=hres1 hQ1;clear hnum hden hR hg0 hg hgd hP hQ hPm hQd hlp hlq hS hD hSs hDs hres1 hres2 hm hd hd2 hQ0;have HGC:=hid hgc;have HDP:=hid hdp;have HDQ:=hid hdq;have HR:=hid hr;have P1:=hid p1;have P2:=hid p2;have QQ1:=hid q1;have QQ2:=hid q2;have HGI:=hid hgi;have HGB:=hid hgb;have HGN:=hid hgn;have HA:=hid hq63a;have HB:=hid hq63b;have HC:=hid hq63c;have HPI:=hid hPi;have HQI:=hid hQi;have HX0:=hid hx0;clear hgc hdp hdq hr p1 p2 q1 q2 hgi hgb hgn hq63a hq63b hq63c hPi hQi hx0;subst hQ1;go_enter Tryz.func109,Tryz.ntmps109;go_wp2_with fail;refine (HGC.out _).mono ?_;rintro e w1 ⟨rfl,hn⟩;clear hmx k1 k2 k3 k4 k1b k2b k3b k4b hd0 hd0b;have HN:=hid hn;clear hn;have p1:=P1.out;have p2:=P2.out;have q1:=QQ1.out;have q2:=QQ2.out;have hgi:=HGI.out;have hgb:=HGB.out;have hgn:=HGN.out;have hPi:=HPI.out;have hQi:=HQI.out;have hx0:=HX0.out;go_wp2_with fail
  go_quiet (fail)
  replace HN:=hid (HN.out.drewN nq);obtain ⟨w9,hw9⟩:∃ x,w1.drewN nq=x:=⟨_,rfl⟩;rw[hw9] at HN⊢;clear hw9 p1 p2 q1 q2 hgi hgb hgn;have hpi:=HPI.out;go_wp2_with fail;refine (HDP.out _).mono ?_;rintro e w2 ⟨rfl,hn⟩;replace HN:=tW HN hn;clear hn;have hA:=HA.out;go_wp2_with fail;go_ret;exact ⟨by rw[HR.out];rfl,HN.out⟩
 ·have hr:=hres2 hQ1
  have hQ2:(1:Int) < (Q:Int):=by omega
  have hQ2b:decide ((1:Int) < (Q:Int))=true:=decide_eq_true hQ2;clear hnum hden hR hg0 hg hgd hP hQ hPm hQd hlp hlq hS hD hSs hDs hres1 hres2 hm hd hd2 hQ0 hQ1;have HGC:=hid hgc;have HDP:=hid hdp;have HDQ:=hid hdq;have HR:=hid hr;have P1:=hid p1;have P2:=hid p2;have QQ1:=hid q1;have QQ2:=hid q2;have HGI:=hid hgi;have HGB:=hid hgb;have HGN:=hid hgn;have HA:=hid hq63a;have HB:=hid hq63b;have HC:=hid hq63c;have HPI:=hid hPi;have HQI:=hid hQi;have HQ2:=hid hQ2;have HQ2B:=hid hQ2b;have HX0:=hid hx0;clear hgc hdp hdq hr p1 p2 q1 q2 hgi hgb hgn hq63a hq63b hq63c hPi hQi hQ2 hQ2b hx0;go_enter Tryz.func109,Tryz.ntmps109;go_wp2_with fail;refine (HGC.out _).mono ?_;rintro e w1 ⟨rfl,hn⟩;clear hmx k1 k2 k3 k4 k1b k2b k3b k4b hd0 hd0b;have HN:=hid hn;clear hn;have p1:=P1.out;have p2:=P2.out;have q1:=QQ1.out;have q2:=QQ2.out;have hgi:=HGI.out;have hgb:=HGB.out;have hgn:=HGN.out;have hPi:=HPI.out;have hQi:=HQI.out;have hx0:=HX0.out;go_wp2_with fail
  go_quiet (fail)
  replace HN:=hid (HN.out.drewN nq);obtain ⟨w9,hw9⟩:∃ x,w1.drewN nq=x:=⟨_,rfl⟩;rw[hw9] at HN⊢;clear hw9 p1 p2 q1 q2 hgi hgb hgn;have hpi:=HPI.out;go_wp2_with fail;refine (HDP.out _).mono ?_;rintro e w2 ⟨rfl,hn⟩;replace HN:=tW HN hn;clear hn;have hA:=HA.out;have hB:=HB.out;have hQ2:=HQ2.out;have hQ2b:=HQ2B.out;go_wp2_with fail;refine (HDQ.out _).mono ?_;rintro e w3 ⟨rfl,hn⟩;replace HN:=tW HN hn;clear hn;have hC:=HC.out;go_wp2_with fail;go_ret;exact ⟨by rw[HR.out];rfl,HN.out⟩
theorem rof_neg (m d:Nat)(w:World)(hm:m≤4000000000000000000)(hd:0 < d)(hd2:d≤4000000000000000000)(hmp:0 < m):Calls Tryz.prog 109 #[.int .i64 (-(m:Int)),.int .i64 (d:Int)] w (RetS w (Rat.divInt (-(m:Int)) d)):=by
 obtain ⟨hnum,hden⟩:=of_parts (x:= -(m:Int)) (m:=m) (d:=d) (by omega) hd;obtain ⟨R,hR⟩:∃ R,Rat.divInt (-(m:Int)) d=R:=⟨_,rfl⟩;rw[hR] at hnum hden⊢;have hgc:=fun W=>rgcd_calls m d W (by omega) (by omega);have hg0:0 < Nat.gcd m d:=Nat.gcd_pos_of_pos_right _ hd;obtain ⟨g,hg⟩:∃ g,Nat.gcd m d=g:=⟨_,rfl⟩
 have hgd:g≤d:=by rw[←hg];exact Nat.le_of_dvd hd (Nat.gcd_dvd_right _ _)
 simp only[hg]at hgc hnum hden hg0;obtain ⟨p1,p2, -, -⟩:=divd m g;obtain ⟨q1,q2, -, -⟩:=divd d g;have hPm:m / g≤m:=Nat.div_le_self _ _;have hQd:d / g≤d:=Nat.div_le_self _ _;obtain ⟨P,hP⟩:∃ P,m / g=P:=⟨_,rfl⟩;obtain ⟨Q,hQ⟩:∃ Q,d / g=Q:=⟨_,rfl⟩;rw[hP] at p1 p2 hPm hnum;rw[hQ] at q1 q2 hQd hden
 have hQ0:0 < Q:=by rw[←hQ];exact Nat.div_pos hgd hg0
 have hdp:=fun W=>rdecimal_one P W (by omega);have hdq:=fun W=>rdecimal_one Q W (by omega);have hlp:=dec64 (n:=P) (by omega);have hlq:=dec64 (n:=Q) (by omega);obtain ⟨S,hS⟩:∃ S,bs (decDigits P)=S:=⟨_,rfl⟩;obtain ⟨D,hD⟩:∃ D,bs (decDigits Q)=D:=⟨_,rfl⟩
 have hSs:S.size≤64:=by rw[←hS,bs_size];exact hlp
 have hDs:D.size≤64:=by rw[←hD,bs_size];exact hlq
 simp only[hS]at hdp;simp only[hD] at hdq;obtain ⟨hx0,hx1,hx2,hx3,hx4,hx5,hx6,hx7⟩:=neg_facts (P:=P) (m:=m) (g:=g) hmp (by rw[←hP];exact Nat.div_pos (by rw[←hg];exact Nat.le_of_dvd hmp (Nat.gcd_dvd_left _ _)) hg0) p2
 have hres1:Q=1→rs R=⟨#[45]⟩ ++ S:=fun h=>by
  unfold rs ratText;rw[if_pos (by rw[hden,h]),hnum];rw[sgnd_neg' hmp,Big.itoa_neg (by omega),←hS];exact (bs_append [45] _).symm
 have hres2:Q≠1→rs R=⟨#[45]⟩ ++ S ++ ⟨#[47]⟩ ++ D:=fun h=>by
  unfold rs ratText;rw[if_neg (by rw[hden];exact h),hnum,hden];rw[sgnd_neg' hmp,Big.itoa_neg (by omega),ofr_two,←hS,←hD,show bs (45::decDigits P)=⟨#[45]⟩ ++ bs (decDigits P) from (bs_append [45] _).symm]
 have hgi:(0:Int) < (g:Int):=by omega
 have hgb:((g:Int)==0)=false:=by simp;omega
 have hgn:(g:Int)≠0:=by omega
 have hdi:(0:Int) < (d:Int):=by omega
 have hd0:¬(d:Int) < 0:=by omega
 have hd0b:decide ((d:Int) < 0)=false:=decide_eq_false hd0
 have k1:¬(-(m:Int)) < -4000000000000000000:=by omega
 have k2:¬4000000000000000000 < (-(m:Int)):=by omega
 have k3:¬(d:Int) < -4000000000000000000:=by omega
 have k4:¬4000000000000000000 < (d:Int):=by omega
 have k1b:=decide_eq_false k1;have k2b:=decide_eq_false k2;have k3b:=decide_eq_false k3;have k4b:=decide_eq_false k4
 have hq63a:¬9223372036854775807 < 1+S.size:=by omega
 have hq63b:¬9223372036854775807 < 1+S.size+1:=by omega
 have hq63c:¬9223372036854775807 < 1+S.size+1+D.size:=by omega
 have hPi:(P:Int)≤4000000000000000000:=by omega
 have hQi:(Q:Int)≤4000000000000000000:=by omega
 have hmi:(m:Int)≤4000000000000000000:=by omega
 by_cases hQ1:Q=1
 ·have hr:=hres1 hQ1;clear hnum hden hR hg0 hg hgd hP hQ hPm hQd hlp hlq hS hD hSs hDs hres1 hres2 hm hd hd2 hQ0 hmp;have HGC:=hid hgc;have HDP:=hid hdp;have HDQ:=hid hdq;have HR:=hid hr;have P1:=hid p1;have P2:=hid p2;have QQ1:=hid q1;have QQ2:=hid q2;have HGI:=hid hgi;have HGB:=hid hgb;have HGN:=hid hgn;have HA:=hid hq63a;have HB:=hid hq63b;have HC:=hid hq63c;have HPI:=hid hPi;have HQI:=hid hQi;have HX0:=hid hx0;have HX4:=hid hx4;have HX5:=hid hx5;have HX6:=hid hx6;have HX7:=hid hx7;clear hgc hdp hdq hr p1 p2 q1 q2 hgi hgb hgn hq63a hq63b hq63c hPi hQi hx0 hx4 hx5 hx6 hx7;subst hQ1;go_enter Tryz.func109,Tryz.ntmps109;go_wp2_with fail;refine (HGC.out _).mono ?_;rintro e w1 ⟨rfl,hn⟩;clear  k1 k2 k3 k4 k1b k2b k3b k4b hd0 hd0b;have HN:=hid hn;clear hn;have p1:=P1.out;have p2:=P2.out;have q1:=QQ1.out;have q2:=QQ2.out;have hgi:=HGI.out;have hgb:=HGB.out;have hgn:=HGN.out;have hPi:=HPI.out;have hQi:=HQI.out
  (have hx0:=HX0.out;have hx4:=HX4.out;have hx5:=HX5.out;have hx6:=HX6.out;have hx7:=HX7.out)
  go_wp2_with fail
  go_quiet (fail)
  replace HN:=hid (HN.out.drewN nq);obtain ⟨w9,hw9⟩:∃ x,w1.drewN nq=x:=⟨_,rfl⟩;rw[hw9] at HN⊢;clear hw9 p1 p2 q1 q2 hgi hgb hgn;have hpi:=HPI.out;go_wp2_with fail;refine (HDP.out _).mono ?_;rintro e w2 ⟨rfl,hn⟩;replace HN:=tW HN hn;clear hn;have hA:=HA.out;go_wp2_with fail;go_ret;exact ⟨by rw[HR.out];rfl,HN.out⟩
 ·have hr:=hres2 hQ1
  have hQ2:(1:Int) < (Q:Int):=by omega
  have hQ2b:decide ((1:Int) < (Q:Int))=true:=decide_eq_true hQ2;clear hnum hden hR hg0 hg hgd hP hQ hPm hQd hlp hlq hS hD hSs hDs hres1 hres2 hm hd hd2 hQ0 hQ1 hmp;have HGC:=hid hgc;have HDP:=hid hdp;have HDQ:=hid hdq;have HR:=hid hr;have P1:=hid p1;have P2:=hid p2;have QQ1:=hid q1;have QQ2:=hid q2;have HGI:=hid hgi;have HGB:=hid hgb;have HGN:=hid hgn;have HA:=hid hq63a;have HB:=hid hq63b;have HC:=hid hq63c;have HPI:=hid hPi;have HQI:=hid hQi;have HQ2:=hid hQ2;have HQ2B:=hid hQ2b;have HX0:=hid hx0;have HX4:=hid hx4;have HX5:=hid hx5;have HX6:=hid hx6;have HX7:=hid hx7;clear hgc hdp hdq hr p1 p2 q1 q2 hgi hgb hgn hq63a hq63b hq63c hPi hQi hQ2 hQ2b hx0 hx4 hx5 hx6 hx7;go_enter Tryz.func109,Tryz.ntmps109;go_wp2_with fail;refine (HGC.out _).mono ?_;rintro e w1 ⟨rfl,hn⟩;clear  k1 k2 k3 k4 k1b k2b k3b k4b hd0 hd0b;have HN:=hid hn;clear hn;have p1:=P1.out;have p2:=P2.out;have q1:=QQ1.out;have q2:=QQ2.out;have hgi:=HGI.out;have hgb:=HGB.out;have hgn:=HGN.out;have hPi:=HPI.out;have hQi:=HQI.out
  (have hx0:=HX0.out;have hx4:=HX4.out;have hx5:=HX5.out;have hx6:=HX6.out;have hx7:=HX7.out)
  go_wp2_with fail
  go_quiet (fail)
  replace HN:=hid (HN.out.drewN nq);obtain ⟨w9,hw9⟩:∃ x,w1.drewN nq=x:=⟨_,rfl⟩;rw[hw9] at HN⊢;clear hw9 p1 p2 q1 q2 hgi hgb hgn;have hpi:=HPI.out;go_wp2_with fail;refine (HDP.out _).mono ?_;rintro e w2 ⟨rfl,hn⟩;replace HN:=tW HN hn;clear hn;have hA:=HA.out;have hB:=HB.out;have hQ2:=HQ2.out;have hQ2b:=HQ2B.out;go_wp2_with fail;refine (HDQ.out _).mono ?_;rintro e w3 ⟨rfl,hn⟩;replace HN:=tW HN hn;clear hn;have hC:=HC.out;go_wp2_with fail;go_ret;exact ⟨by rw[HR.out];rfl,HN.out⟩
theorem rof_calls (x:Int)(d:Nat)(w:World)(lo: -4000000000000000000≤x)(hi:x≤4000000000000000000)(hd:0 < d)(hd2:d≤4000000000000000000):Calls Tryz.prog 109 #[.int .i64 x,.int .i64 (d:Int)] w (RetS w (Rat.divInt x d)):=by
 rcases Int.lt_or_le x 0 with h | h
 ·obtain ⟨m,rfl⟩:∃ m:Nat,x= -(m:Int):=⟨x.natAbs,by omega⟩;exact rof_neg m d w (by omega) hd hd2 (by omega)
 ·obtain ⟨m,rfl⟩:∃ m:Nat,x=(m:Int):=⟨x.toNat,by omega⟩;exact rof_pos m d w (by omega) hd hd2
theorem sgnd_mul (x y:Int):sgnd (decide (x < 0) != decide (y < 0)) (x.natAbs*y.natAbs)=x*y:=by
 rw[←Int.natAbs_mul];unfold sgnd;rcases Int.lt_or_le x 0 with h1 | h1 <;> rcases Int.lt_or_le y 0 with h2 | h2
 ·have:=Int.mul_pos_of_neg_of_neg h1 h2;rw[decide_eq_true h1,decide_eq_true h2];simp;omega
 ·have:=Int.mul_nonpos_of_nonpos_of_nonneg (Int.le_of_lt h1) h2;rw[decide_eq_true h1,decide_eq_false (Int.not_lt.2 (by omega))];simp;omega
 ·have:=Int.mul_nonpos_of_nonneg_of_nonpos h1 (Int.le_of_lt h2);rw[decide_eq_false (Int.not_lt.2 (by omega)),decide_eq_true h2];simp;omega
 ·have:=Int.mul_nonneg h1 h2;rw[decide_eq_false (Int.not_lt.2 (by omega)),decide_eq_false (Int.not_lt.2 (by omega))];simp;omega
theorem rtimes_calls (K:Nat)(va vb:Value)(x y:Int)(w:World)(ha:IsZ w va x)(hb:IsZ w vb y)(hK:K≤100000)(hx:x.natAbs < B9^K)(hy:y.natAbs < B9^K):
  Calls Tryz.prog 112 #[va,vb] w (RetZ w (x*y)):=by
 obtain ⟨sA,a1,l1,c1,rfl⟩:=ha.shape;obtain ⟨sB,a2,l2,c2,rfl⟩:=hb.shape;obtain ⟨hb1,hda⟩:=ha.parts;obtain ⟨hb2,hdb⟩:=hb.parts;have hm:=fun W (hW:New w W)=>(rmul_calls K _ _ _ _ W (hda.new hW) (hdb.new hW) hK hx hy).mono fun e w' h=>RetD.n h;have e:=sgnd_mul x y;rw[←hb1,←hb2] at e;clear ha hb hda hdb hb1 hb2 hx hy hK;have HM:=hid hm;have HE:=hid e;clear hm e;go_enter Tryz.func112,Tryz.ntmps112;go_wp2_with fail;obtain ⟨BA,BB,BP,HN⟩:=lay3 w 137 #[.bool sA,.slice a1 l1 c1] 137 #[.bool sB,.slice a2 l2 c2] 137 #[.bool false,.slice none 0 0];obtain ⟨pa0,pa1,pa2,pa3,pa4⟩:=BA.out.two;obtain ⟨pb0,pb1,pb2,pb3,pb4⟩:=BB.out.two;clear pa0 pa1 pa2 pa3 pa4;clear pb0 pb1 pb2 pb3 pb4;refine wp_region_T 11 (fun W=>(W.cell? ⟨w.heap.size,0,none⟩=some (.bool sA)∧W.cell? ⟨w.heap.size,1,none⟩=some (.slice a1 l1 c1))∧(W.cell? ⟨w.heap.size+1,0,none⟩=some (.bool sB)∧W.cell? ⟨w.heap.size+1,1,none⟩=some (.slice a2 l2 c2))) 12 #[false,false,false,false,false,false,false,false,false,false,false,false] rfl (by kernel_rfl) (by kernel_rfl) ?_;refine tk 0 (by exact ⟨cW2 BA,cW2 BB⟩) ?_
 try simp only[PT]
 refine tk 1 (by exact ⟨cW2 BA,cW2 BB⟩) ?_
 try simp only[PT]
 refine tk 2 (by exact ⟨cW2 BA,cW2 BB⟩) ?_
 try simp only[PT]
 refine tk 3 (by exact ⟨cW2 BA,cW2 BB⟩) ?_
 try simp only[PT]
 refine tk 4 (by exact ⟨cW2 BA,cW2 BB⟩) ?_
 try simp only[PT]
 refine tk 5 (by exact ⟨cW2 BA,cW2 BB⟩) ?_
 try simp only[PT]
 refine tk 6 (by exact ⟨cW2 BA,cW2 BB⟩) ?_
 try simp only[PT]
 refine tk 7 (by exact ⟨cW2 BA,cW2 BB⟩) ?_
 try simp only[PT]
 refine tk 8 (by exact ⟨cW2 BA,cW2 BB⟩) ?_
 try simp only[PT]
 refine tk1 9 fun K hK=>?_;go_simp;refine (HM.out _ HN.out.drew).mono ?_;rintro e w8 ⟨v8,rfl,hn,hi⟩;have hn:=hn.undr;obtain ⟨a8,l8,c8,rfl⟩:=hi.shape;have HI8:=hid hi;clear hi;replace BA:=bW BA hn;replace BB:=bW BB hn;replace BP:=bW BP hn;replace HN:=tW HN hn;clear hn;refine hK.out _ _ (fun _=>⟨cW2 BA,cW2 BB⟩) ?_;clear hK K
 try simp only[PT]
 refine tk1 10 fun K hK=>?_;go_simp;refine (rsigned_calls _ _ _ _ HI8.out).mono ?_;rintro e w9 ⟨v9,rfl,hn,hz⟩
 replace hz:IsZ w9 v9 (x*y):=by first | (rw[HE.out] at hz;exact hz) | (have e:=HE.out;unfold bne at e;rw[e] at hz;exact hz)
 obtain ⟨b9,a9,l9,c9,rfl⟩:=hz.shape;have HZ:=hid hz;clear hz;replace BA:=bW BA hn;replace BB:=bW BB hn;replace BP:=bW BP hn;replace HN:=tW HN hn;clear hn;refine hK.out _ _ (fun _=>⟨cW2 BA,cW2 BB⟩) ?_;clear hK K
 try simp only[PT]
 refine tlW ?_;obtain ⟨pa0,pa1,pa2,pa3,pa4⟩:=BA.out.two;obtain ⟨pb0,pb1,pb2,pb3,pb4⟩:=BB.out.two;obtain ⟨p0,p1,p2,p3,p4⟩:=BP.out.two;go_wp2_with fail;refine bodyPost_ret (v:=.agg #[.bool b9,.slice a9 l9 c9]) (by simp[results,Tryz.results112,go_sem,p0,p1]) rfl ?_;exact z_ret HN.out BP.out (by omega) HZ.out
theorem radd_n (K:Nat)(va vb:Value)(x y:Nat)(w:World)(ha:IsD w va x)(hb:IsD w vb y)(hK:K≤90000)(hx:x < B9^K)(hy:y < B9^K):
  Calls Tryz.prog 168 #[va,vb] w (RetN w (x+y)):=by
 obtain ⟨n,f,hf,hfv⟩:=ha;obtain ⟨m,g,hg,hgv⟩:=hb;have hn:=len_le hf.canon hfv hx;have hm:=len_le hg.canon hgv hy;have hadd:=radd_calls va vb n m f g w hf.1 hg.1 (by omega) (by omega);rw[hfv,hgv] at hadd;exact hadd.mono fun e w' ⟨v,k,o,h1,h2,h3,h4,_⟩=>⟨v,h1,h2,k,o,h3,h4⟩
theorem rsub_n (K:Nat)(va vb:Value)(x y:Nat)(w:World)(ha:IsD w va x)(hb:IsD w vb y)(hK:K≤90000)(hx:x < B9^K)(hle:y≤x):
  Calls Tryz.prog 170 #[va,vb] w (RetN w (x - y)):=by
 obtain ⟨n,f,hf,hfv⟩:=ha;have hn:=len_le hf.canon hfv hx;exact (rsub_calls va vb x y n f w hf hfv hb (by omega) hle).mono fun e w' h=>RetD.n h
theorem rplus_pos (K:Nat)(a1 a2:Option Addr)(l1 l2 c1 c2:Nat)(x y:Nat)(w:World)(hda:IsD w (.slice a1 l1 c1) x)(hdb:IsD w (.slice a2 l2 c2) y)(hK:K≤90000)(hx:x < B9^K)(hy:y < B9^K):
  Calls Tryz.prog 111 #[.agg #[.bool false,.slice a1 l1 c1],.agg #[.bool false,.slice a2 l2 c2]] w (RetZ w (sgnd false (x+y))):=by
 have hm:=fun W (hW:New w W)=>radd_n K _ _ x y W (hda.new hW) (hdb.new hW) hK hx hy;obtain ⟨z,hz⟩:∃ z,sgnd false (x+y)=z:=⟨_,rfl⟩;rw[hz];clear hda hdb hx hy hK;have HM:=hid hm;have HE:=hid hz;clear hm hz;go_enter Tryz.func111,Tryz.ntmps111;go_wp2_with fail;obtain ⟨BA,BB,BP,HN⟩:=lay3 w 137 #[.bool false,.slice a1 l1 c1] 137 #[.bool false,.slice a2 l2 c2] 137 #[.bool false,.slice none 0 0];obtain ⟨pa0,pa1,pa2,pa3,pa4⟩:=BA.out.two;obtain ⟨pb0,pb1,pb2,pb3,pb4⟩:=BB.out.two;go_wp2_with fail;clear pa0 pa1 pa2 pa3 pa4;clear pb0 pb1 pb2 pb3 pb4;refine wp_region_T 8 (fun W=>(W.cell? ⟨w.heap.size,0,none⟩=some (.bool false)∧W.cell? ⟨w.heap.size,1,none⟩=some (.slice a1 l1 c1))∧(W.cell? ⟨w.heap.size+1,0,none⟩=some (.bool false)∧W.cell? ⟨w.heap.size+1,1,none⟩=some (.slice a2 l2 c2))) 9 #[false,false,false,false,false,false,false,false,false] rfl (by kernel_rfl) (by kernel_rfl) ?_;refine tk 0 (by exact ⟨cW2 BA,cW2 BB⟩) ?_
 try simp only[PT]
 refine tk 1 (by exact ⟨cW2 BA,cW2 BB⟩) ?_
 try simp only[PT]
 refine tk 2 (by exact ⟨cW2 BA,cW2 BB⟩) ?_
 try simp only[PT]
 refine tk 3 (by exact ⟨cW2 BA,cW2 BB⟩) ?_
 try simp only[PT]
 refine tk 4 (by exact ⟨cW2 BA,cW2 BB⟩) ?_
 try simp only[PT]
 refine tk 5 (by exact ⟨cW2 BA,cW2 BB⟩) ?_
 try simp only[PT]
 refine tk1 6 fun K hK=>?_;go_simp;refine (HM.out _ HN.out.drew).mono ?_;rintro e w8 ⟨v8,rfl,hn,hi⟩;have hn:=hn.undr;obtain ⟨a8,l8,c8,rfl⟩:=hi.shape;have HI8:=hid hi;clear hi;replace BA:=bW BA hn;replace BB:=bW BB hn;replace BP:=bW BP hn;replace HN:=tW HN hn;clear hn;refine hK.out _ _ (fun _=>⟨cW2 BA,cW2 BB⟩) ?_;clear hK K
 try simp only[PT]
 refine tk1 7 fun K hK=>?_;go_simp;refine (rsigned_calls _ _ _ _ HI8.out).mono ?_;rintro e w9 ⟨v9,rfl,hn,hz⟩
 replace hz:IsZ w9 v9 (z):=by first | (rw[HE.out] at hz;exact hz) | (have e:=HE.out;unfold bne at e;rw[e] at hz;exact hz)
 obtain ⟨b9,a9,l9,c9,rfl⟩:=hz.shape;have HZ:=hid hz;clear hz;replace BA:=bW BA hn;replace BB:=bW BB hn;replace BP:=bW BP hn;replace HN:=tW HN hn;clear hn;refine hK.out _ _ (fun _=>⟨cW2 BA,cW2 BB⟩) ?_;clear hK K
 try simp only[PT]
 refine tlW ?_;obtain ⟨pa0,pa1,pa2,pa3,pa4⟩:=BA.out.two;obtain ⟨pb0,pb1,pb2,pb3,pb4⟩:=BB.out.two;obtain ⟨p0,p1,p2,p3,p4⟩:=BP.out.two;go_wp2_with fail;refine bodyPost_ret (v:=.agg #[.bool b9,.slice a9 l9 c9]) (by simp[results,Tryz.results111,go_sem,p0,p1]) rfl ?_;exact z_ret HN.out BP.out (by omega) HZ.out
theorem rplus_neg (K:Nat)(a1 a2:Option Addr)(l1 l2 c1 c2:Nat)(x y:Nat)(w:World)(hda:IsD w (.slice a1 l1 c1) x)(hdb:IsD w (.slice a2 l2 c2) y)(hK:K≤90000)(hx:x < B9^K)(hy:y < B9^K):
  Calls Tryz.prog 111 #[.agg #[.bool true,.slice a1 l1 c1],.agg #[.bool true,.slice a2 l2 c2]] w (RetZ w (sgnd true (x+y))):=by
 have hm:=fun W (hW:New w W)=>radd_n K _ _ x y W (hda.new hW) (hdb.new hW) hK hx hy;obtain ⟨z,hz⟩:∃ z,sgnd true (x+y)=z:=⟨_,rfl⟩;rw[hz];clear hda hdb hx hy hK;have HM:=hid hm;have HE:=hid hz;clear hm hz;go_enter Tryz.func111,Tryz.ntmps111;go_wp2_with fail;obtain ⟨BA,BB,BP,HN⟩:=lay3 w 137 #[.bool true,.slice a1 l1 c1] 137 #[.bool true,.slice a2 l2 c2] 137 #[.bool false,.slice none 0 0];obtain ⟨pa0,pa1,pa2,pa3,pa4⟩:=BA.out.two;obtain ⟨pb0,pb1,pb2,pb3,pb4⟩:=BB.out.two;go_wp2_with fail;clear pa0 pa1 pa2 pa3 pa4;clear pb0 pb1 pb2 pb3 pb4;refine wp_region_T 8 (fun W=>(W.cell? ⟨w.heap.size,0,none⟩=some (.bool true)∧W.cell? ⟨w.heap.size,1,none⟩=some (.slice a1 l1 c1))∧(W.cell? ⟨w.heap.size+1,0,none⟩=some (.bool true)∧W.cell? ⟨w.heap.size+1,1,none⟩=some (.slice a2 l2 c2))) 9 #[false,false,false,false,false,false,false,false,false] rfl (by kernel_rfl) (by kernel_rfl) ?_;refine tk 0 (by exact ⟨cW2 BA,cW2 BB⟩) ?_
 try simp only[PT]
 refine tk 1 (by exact ⟨cW2 BA,cW2 BB⟩) ?_
 try simp only[PT]
 refine tk 2 (by exact ⟨cW2 BA,cW2 BB⟩) ?_
 try simp only[PT]
 refine tk 3 (by exact ⟨cW2 BA,cW2 BB⟩) ?_
 try simp only[PT]
 refine tk 4 (by exact ⟨cW2 BA,cW2 BB⟩) ?_
 try simp only[PT]
 refine tk 5 (by exact ⟨cW2 BA,cW2 BB⟩) ?_
 try simp only[PT]
 refine tk1 6 fun K hK=>?_;go_simp;refine (HM.out _ HN.out.drew).mono ?_;rintro e w8 ⟨v8,rfl,hn,hi⟩;have hn:=hn.undr;obtain ⟨a8,l8,c8,rfl⟩:=hi.shape;have HI8:=hid hi;clear hi;replace BA:=bW BA hn;replace BB:=bW BB hn;replace BP:=bW BP hn;replace HN:=tW HN hn;clear hn;refine hK.out _ _ (fun _=>⟨cW2 BA,cW2 BB⟩) ?_;clear hK K
 try simp only[PT]
 refine tk1 7 fun K hK=>?_;go_simp;refine (rsigned_calls _ _ _ _ HI8.out).mono ?_;rintro e w9 ⟨v9,rfl,hn,hz⟩
 replace hz:IsZ w9 v9 (z):=by first | (rw[HE.out] at hz;exact hz) | (have e:=HE.out;unfold bne at e;rw[e] at hz;exact hz)
 obtain ⟨b9,a9,l9,c9,rfl⟩:=hz.shape;have HZ:=hid hz;clear hz;replace BA:=bW BA hn;replace BB:=bW BB hn;replace BP:=bW BP hn;replace HN:=tW HN hn;clear hn;refine hK.out _ _ (fun _=>⟨cW2 BA,cW2 BB⟩) ?_;clear hK K
 try simp only[PT]
 refine tlW ?_;obtain ⟨pa0,pa1,pa2,pa3,pa4⟩:=BA.out.two;obtain ⟨pb0,pb1,pb2,pb3,pb4⟩:=BB.out.two;obtain ⟨p0,p1,p2,p3,p4⟩:=BP.out.two;go_wp2_with fail;refine bodyPost_ret (v:=.agg #[.bool b9,.slice a9 l9 c9]) (by simp[results,Tryz.results111,go_sem,p0,p1]) rfl ?_;exact z_ret HN.out BP.out (by omega) HZ.out
theorem rplus_pn_ge (K:Nat)(a1 a2:Option Addr)(l1 l2 c1 c2:Nat)(x y:Nat)(w:World)(hda:IsD w (.slice a1 l1 c1) x)(hdb:IsD w (.slice a2 l2 c2) y)(hK:K≤90000)(hx:x < B9^K)(hy:y < B9^K)(hle:y≤x):
  Calls Tryz.prog 111 #[.agg #[.bool false,.slice a1 l1 c1],.agg #[.bool true,.slice a2 l2 c2]] w (RetZ w (sgnd false (x - y))):=by
 have hcmp:∀ W,New w W→Calls Tryz.prog 169 #[.slice a1 l1 c1,.slice a2 l2 c2] W fun e w'=>New W w'∧e=.returned (.int .i64 (cmpNat x y)):=fun W hW=>by
  obtain ⟨n,f,hf,hfv⟩:=hda.new hW;obtain ⟨m,g,hg,hgv⟩:=hdb.new hW;have hn:=len_le hf.canon hfv hx;have hm:=len_le hg.canon hgv hy;have:=rcompare_calls _ _ n m f g W hf hg (by omega) (by omega);rw[hfv,hgv] at this;exact this
 have hm:=fun W (hW:New w W)=>rsub_n K _ _ _ _ W (hda.new hW) (hdb.new hW) hK hx (by omega);obtain ⟨c,hc⟩:∃ c,cmpNat x y=c:=⟨_,rfl⟩;rw[hc] at hcmp
 have hc0:0≤c:=by
  rw[←hc];unfold cmpNat;split <;> (try split) <;> omega
 have hcd:decide (0≤c)=true:=decide_eq_true hc0;obtain ⟨z,hz⟩:∃ z,sgnd false (x - y)=z:=⟨_,rfl⟩;rw[hz];clear hda hdb hx hy hK hc;have HM:=hid hm;have HE:=hid hz;have HC:=hid hcmp;clear hm hz hcmp;go_enter Tryz.func111,Tryz.ntmps111;go_wp2_with fail;obtain ⟨BA,BB,BP,HN⟩:=lay3 w 137 #[.bool false,.slice a1 l1 c1] 137 #[.bool true,.slice a2 l2 c2] 137 #[.bool false,.slice none 0 0];obtain ⟨pa0,pa1,pa2,pa3,pa4⟩:=BA.out.two;obtain ⟨pb0,pb1,pb2,pb3,pb4⟩:=BB.out.two;go_wp2_with fail;refine (HC.out _ HN.out).mono ?_;rintro e w5 ⟨hn,rfl⟩;clear pa0 pa1 pa2 pa3 pa4 pb0 pb1 pb2 pb3 pb4;replace BA:=bW BA hn;replace BB:=bW BB hn;replace BP:=bW BP hn;replace HN:=tW HN hn;clear hn;obtain ⟨pa0,pa1,pa2,pa3,pa4⟩:=BA.out.two;obtain ⟨pb0,pb1,pb2,pb3,pb4⟩:=BB.out.two;go_wp2_with fail;clear pa0 pa1 pa2 pa3 pa4;clear pb0 pb1 pb2 pb3 pb4;refine wp_region_T 8 (fun W=>(W.cell? ⟨w.heap.size,0,none⟩=some (.bool false)∧W.cell? ⟨w.heap.size,1,none⟩=some (.slice a1 l1 c1))∧(W.cell? ⟨w.heap.size+1,0,none⟩=some (.bool true)∧W.cell? ⟨w.heap.size+1,1,none⟩=some (.slice a2 l2 c2))) 9 #[false,false,false,false,false,false,false,false,false] rfl (by kernel_rfl) (by kernel_rfl) ?_;refine tk 0 (by exact ⟨cW2 BA,cW2 BB⟩) ?_
 try simp only[PT]
 refine tk 1 (by exact ⟨cW2 BA,cW2 BB⟩) ?_
 try simp only[PT]
 refine tk 2 (by exact ⟨cW2 BA,cW2 BB⟩) ?_
 try simp only[PT]
 refine tk 3 (by exact ⟨cW2 BA,cW2 BB⟩) ?_
 try simp only[PT]
 refine tk 4 (by exact ⟨cW2 BA,cW2 BB⟩) ?_
 try simp only[PT]
 refine tk 5 (by exact ⟨cW2 BA,cW2 BB⟩) ?_
 try simp only[PT]
 refine tk1 6 fun K hK=>?_;go_simp;refine (HM.out _ HN.out.drew).mono ?_;rintro e w8 ⟨v8,rfl,hn,hi⟩;have hn:=hn.undr;obtain ⟨a8,l8,c8,rfl⟩:=hi.shape;have HI8:=hid hi;clear hi;replace BA:=bW BA hn;replace BB:=bW BB hn;replace BP:=bW BP hn;replace HN:=tW HN hn;clear hn;refine hK.out _ _ (fun _=>⟨cW2 BA,cW2 BB⟩) ?_;clear hK K
 try simp only[PT]
 refine tk1 7 fun K hK=>?_;go_simp;refine (rsigned_calls _ _ _ _ HI8.out).mono ?_;rintro e w9 ⟨v9,rfl,hn,hz⟩
 replace hz:IsZ w9 v9 (z):=by first | (rw[HE.out] at hz;exact hz) | (have e:=HE.out;unfold bne at e;rw[e] at hz;exact hz)
 obtain ⟨b9,a9,l9,c9,rfl⟩:=hz.shape;have HZ:=hid hz;clear hz;replace BA:=bW BA hn;replace BB:=bW BB hn;replace BP:=bW BP hn;replace HN:=tW HN hn;clear hn;refine hK.out _ _ (fun _=>⟨cW2 BA,cW2 BB⟩) ?_;clear hK K
 try simp only[PT]
 refine tlW ?_;obtain ⟨pa0,pa1,pa2,pa3,pa4⟩:=BA.out.two;obtain ⟨pb0,pb1,pb2,pb3,pb4⟩:=BB.out.two;obtain ⟨p0,p1,p2,p3,p4⟩:=BP.out.two;go_wp2_with fail;refine bodyPost_ret (v:=.agg #[.bool b9,.slice a9 l9 c9]) (by simp[results,Tryz.results111,go_sem,p0,p1]) rfl ?_;exact z_ret HN.out BP.out (by omega) HZ.out
theorem rplus_pn_lt (K:Nat)(a1 a2:Option Addr)(l1 l2 c1 c2:Nat)(x y:Nat)(w:World)(hda:IsD w (.slice a1 l1 c1) x)(hdb:IsD w (.slice a2 l2 c2) y)(hK:K≤90000)(hx:x < B9^K)(hy:y < B9^K)(hle:x < y):
  Calls Tryz.prog 111 #[.agg #[.bool false,.slice a1 l1 c1],.agg #[.bool true,.slice a2 l2 c2]] w (RetZ w (sgnd true (y - x))):=by
 have hcmp:∀ W,New w W→Calls Tryz.prog 169 #[.slice a1 l1 c1,.slice a2 l2 c2] W fun e w'=>New W w'∧e=.returned (.int .i64 (cmpNat x y)):=fun W hW=>by
  obtain ⟨n,f,hf,hfv⟩:=hda.new hW;obtain ⟨m,g,hg,hgv⟩:=hdb.new hW;have hn:=len_le hf.canon hfv hx;have hm:=len_le hg.canon hgv hy;have:=rcompare_calls _ _ n m f g W hf hg (by omega) (by omega);rw[hfv,hgv] at this;exact this
 have hm:=fun W (hW:New w W)=>rsub_n K _ _ _ _ W (hdb.new hW) (hda.new hW) hK hy (by omega);obtain ⟨c,hc⟩:∃ c,cmpNat x y=c:=⟨_,rfl⟩;rw[hc] at hcmp
 have hc0:¬0≤c:=by
  rw[←hc];unfold cmpNat;split <;> (try split) <;> omega
 have hcd:decide (0≤c)=false:=decide_eq_false hc0;obtain ⟨z,hz⟩:∃ z,sgnd true (y - x)=z:=⟨_,rfl⟩;rw[hz];clear hda hdb hx hy hK hc;have HM:=hid hm;have HE:=hid hz;have HC:=hid hcmp;clear hm hz hcmp;go_enter Tryz.func111,Tryz.ntmps111;go_wp2_with fail;obtain ⟨BA,BB,BP,HN⟩:=lay3 w 137 #[.bool false,.slice a1 l1 c1] 137 #[.bool true,.slice a2 l2 c2] 137 #[.bool false,.slice none 0 0];obtain ⟨pa0,pa1,pa2,pa3,pa4⟩:=BA.out.two;obtain ⟨pb0,pb1,pb2,pb3,pb4⟩:=BB.out.two;go_wp2_with fail;refine (HC.out _ HN.out).mono ?_;rintro e w5 ⟨hn,rfl⟩;clear pa0 pa1 pa2 pa3 pa4 pb0 pb1 pb2 pb3 pb4;replace BA:=bW BA hn;replace BB:=bW BB hn;replace BP:=bW BP hn;replace HN:=tW HN hn;clear hn;obtain ⟨pa0,pa1,pa2,pa3,pa4⟩:=BA.out.two;obtain ⟨pb0,pb1,pb2,pb3,pb4⟩:=BB.out.two;go_wp2_with fail;clear pa0 pa1 pa2 pa3 pa4;clear pb0 pb1 pb2 pb3 pb4;refine wp_region_T 8 (fun W=>(W.cell? ⟨w.heap.size,0,none⟩=some (.bool false)∧W.cell? ⟨w.heap.size,1,none⟩=some (.slice a1 l1 c1))∧(W.cell? ⟨w.heap.size+1,0,none⟩=some (.bool true)∧W.cell? ⟨w.heap.size+1,1,none⟩=some (.slice a2 l2 c2))) 9 #[false,false,false,false,false,false,false,false,false] rfl (by kernel_rfl) (by kernel_rfl) ?_;refine tk 0 (by exact ⟨cW2 BA,cW2 BB⟩) ?_
 try simp only[PT]
 refine tk 1 (by exact ⟨cW2 BA,cW2 BB⟩) ?_
 try simp only[PT]
 refine tk 2 (by exact ⟨cW2 BA,cW2 BB⟩) ?_
 try simp only[PT]
 refine tk 3 (by exact ⟨cW2 BA,cW2 BB⟩) ?_
 try simp only[PT]
 refine tk 4 (by exact ⟨cW2 BA,cW2 BB⟩) ?_
 try simp only[PT]
 refine tk 5 (by exact ⟨cW2 BA,cW2 BB⟩) ?_
 try simp only[PT]
 refine tk1 6 fun K hK=>?_;go_simp;refine (HM.out _ HN.out.drew).mono ?_;rintro e w8 ⟨v8,rfl,hn,hi⟩;have hn:=hn.undr;obtain ⟨a8,l8,c8,rfl⟩:=hi.shape;have HI8:=hid hi;clear hi;replace BA:=bW BA hn;replace BB:=bW BB hn;replace BP:=bW BP hn;replace HN:=tW HN hn;clear hn;refine hK.out _ _ (fun _=>⟨cW2 BA,cW2 BB⟩) ?_;clear hK K
 try simp only[PT]
 refine tk1 7 fun K hK=>?_;go_simp;refine (rsigned_calls _ _ _ _ HI8.out).mono ?_;rintro e w9 ⟨v9,rfl,hn,hz⟩
 replace hz:IsZ w9 v9 (z):=by first | (rw[HE.out] at hz;exact hz) | (have e:=HE.out;unfold bne at e;rw[e] at hz;exact hz)
 obtain ⟨b9,a9,l9,c9,rfl⟩:=hz.shape;have HZ:=hid hz;clear hz;replace BA:=bW BA hn;replace BB:=bW BB hn;replace BP:=bW BP hn;replace HN:=tW HN hn;clear hn;refine hK.out _ _ (fun _=>⟨cW2 BA,cW2 BB⟩) ?_;clear hK K
 try simp only[PT]
 refine tlW ?_;obtain ⟨pa0,pa1,pa2,pa3,pa4⟩:=BA.out.two;obtain ⟨pb0,pb1,pb2,pb3,pb4⟩:=BB.out.two;obtain ⟨p0,p1,p2,p3,p4⟩:=BP.out.two;go_wp2_with fail;refine bodyPost_ret (v:=.agg #[.bool b9,.slice a9 l9 c9]) (by simp[results,Tryz.results111,go_sem,p0,p1]) rfl ?_;exact z_ret HN.out BP.out (by omega) HZ.out
theorem rplus_np_ge (K:Nat)(a1 a2:Option Addr)(l1 l2 c1 c2:Nat)(x y:Nat)(w:World)(hda:IsD w (.slice a1 l1 c1) x)(hdb:IsD w (.slice a2 l2 c2) y)(hK:K≤90000)(hx:x < B9^K)(hy:y < B9^K)(hle:y≤x):
  Calls Tryz.prog 111 #[.agg #[.bool true,.slice a1 l1 c1],.agg #[.bool false,.slice a2 l2 c2]] w (RetZ w (sgnd true (x - y))):=by
 have hcmp:∀ W,New w W→Calls Tryz.prog 169 #[.slice a1 l1 c1,.slice a2 l2 c2] W fun e w'=>New W w'∧e=.returned (.int .i64 (cmpNat x y)):=fun W hW=>by
  obtain ⟨n,f,hf,hfv⟩:=hda.new hW;obtain ⟨m,g,hg,hgv⟩:=hdb.new hW;have hn:=len_le hf.canon hfv hx;have hm:=len_le hg.canon hgv hy;have:=rcompare_calls _ _ n m f g W hf hg (by omega) (by omega);rw[hfv,hgv] at this;exact this
 have hm:=fun W (hW:New w W)=>rsub_n K _ _ _ _ W (hda.new hW) (hdb.new hW) hK hx (by omega);obtain ⟨c,hc⟩:∃ c,cmpNat x y=c:=⟨_,rfl⟩;rw[hc] at hcmp
 have hc0:0≤c:=by
  rw[←hc];unfold cmpNat;split <;> (try split) <;> omega
 have hcd:decide (0≤c)=true:=decide_eq_true hc0;obtain ⟨z,hz⟩:∃ z,sgnd true (x - y)=z:=⟨_,rfl⟩;rw[hz];clear hda hdb hx hy hK hc;have HM:=hid hm;have HE:=hid hz;have HC:=hid hcmp;clear hm hz hcmp;go_enter Tryz.func111,Tryz.ntmps111;go_wp2_with fail;obtain ⟨BA,BB,BP,HN⟩:=lay3 w 137 #[.bool true,.slice a1 l1 c1] 137 #[.bool false,.slice a2 l2 c2] 137 #[.bool false,.slice none 0 0];obtain ⟨pa0,pa1,pa2,pa3,pa4⟩:=BA.out.two;obtain ⟨pb0,pb1,pb2,pb3,pb4⟩:=BB.out.two;go_wp2_with fail;refine (HC.out _ HN.out).mono ?_;rintro e w5 ⟨hn,rfl⟩;clear pa0 pa1 pa2 pa3 pa4 pb0 pb1 pb2 pb3 pb4;replace BA:=bW BA hn;replace BB:=bW BB hn;replace BP:=bW BP hn;replace HN:=tW HN hn;clear hn;obtain ⟨pa0,pa1,pa2,pa3,pa4⟩:=BA.out.two;obtain ⟨pb0,pb1,pb2,pb3,pb4⟩:=BB.out.two;go_wp2_with fail;clear pa0 pa1 pa2 pa3 pa4;clear pb0 pb1 pb2 pb3 pb4;refine wp_region_T 8 (fun W=>(W.cell? ⟨w.heap.size,0,none⟩=some (.bool true)∧W.cell? ⟨w.heap.size,1,none⟩=some (.slice a1 l1 c1))∧(W.cell? ⟨w.heap.size+1,0,none⟩=some (.bool false)∧W.cell? ⟨w.heap.size+1,1,none⟩=some (.slice a2 l2 c2))) 9 #[false,false,false,false,false,false,false,false,false] rfl (by kernel_rfl) (by kernel_rfl) ?_;refine tk 0 (by exact ⟨cW2 BA,cW2 BB⟩) ?_
 try simp only[PT]
 refine tk 1 (by exact ⟨cW2 BA,cW2 BB⟩) ?_
 try simp only[PT]
 refine tk 2 (by exact ⟨cW2 BA,cW2 BB⟩) ?_
 try simp only[PT]
 refine tk 3 (by exact ⟨cW2 BA,cW2 BB⟩) ?_
 try simp only[PT]
 refine tk 4 (by exact ⟨cW2 BA,cW2 BB⟩) ?_
 try simp only[PT]
 refine tk 5 (by exact ⟨cW2 BA,cW2 BB⟩) ?_
 try simp only[PT]
 refine tk1 6 fun K hK=>?_;go_simp;refine (HM.out _ HN.out.drew).mono ?_;rintro e w8 ⟨v8,rfl,hn,hi⟩;have hn:=hn.undr;obtain ⟨a8,l8,c8,rfl⟩:=hi.shape;have HI8:=hid hi;clear hi;replace BA:=bW BA hn;replace BB:=bW BB hn;replace BP:=bW BP hn;replace HN:=tW HN hn;clear hn;refine hK.out _ _ (fun _=>⟨cW2 BA,cW2 BB⟩) ?_;clear hK K
 try simp only[PT]
 refine tk1 7 fun K hK=>?_;go_simp;refine (rsigned_calls _ _ _ _ HI8.out).mono ?_;rintro e w9 ⟨v9,rfl,hn,hz⟩
 replace hz:IsZ w9 v9 (z):=by first | (rw[HE.out] at hz;exact hz) | (have e:=HE.out;unfold bne at e;rw[e] at hz;exact hz)
 obtain ⟨b9,a9,l9,c9,rfl⟩:=hz.shape;have HZ:=hid hz;clear hz;replace BA:=bW BA hn;replace BB:=bW BB hn;replace BP:=bW BP hn;replace HN:=tW HN hn;clear hn;refine hK.out _ _ (fun _=>⟨cW2 BA,cW2 BB⟩) ?_;clear hK K
 try simp only[PT]
 refine tlW ?_;obtain ⟨pa0,pa1,pa2,pa3,pa4⟩:=BA.out.two;obtain ⟨pb0,pb1,pb2,pb3,pb4⟩:=BB.out.two;obtain ⟨p0,p1,p2,p3,p4⟩:=BP.out.two;go_wp2_with fail;refine bodyPost_ret (v:=.agg #[.bool b9,.slice a9 l9 c9]) (by simp[results,Tryz.results111,go_sem,p0,p1]) rfl ?_;exact z_ret HN.out BP.out (by omega) HZ.out
theorem rplus_np_lt (K:Nat)(a1 a2:Option Addr)(l1 l2 c1 c2:Nat)(x y:Nat)(w:World)(hda:IsD w (.slice a1 l1 c1) x)(hdb:IsD w (.slice a2 l2 c2) y)(hK:K≤90000)(hx:x < B9^K)(hy:y < B9^K)(hle:x < y):
  Calls Tryz.prog 111 #[.agg #[.bool true,.slice a1 l1 c1],.agg #[.bool false,.slice a2 l2 c2]] w (RetZ w (sgnd false (y - x))):=by
 have hcmp:∀ W,New w W→Calls Tryz.prog 169 #[.slice a1 l1 c1,.slice a2 l2 c2] W fun e w'=>New W w'∧e=.returned (.int .i64 (cmpNat x y)):=fun W hW=>by
  obtain ⟨n,f,hf,hfv⟩:=hda.new hW;obtain ⟨m,g,hg,hgv⟩:=hdb.new hW;have hn:=len_le hf.canon hfv hx;have hm:=len_le hg.canon hgv hy;have:=rcompare_calls _ _ n m f g W hf hg (by omega) (by omega);rw[hfv,hgv] at this;exact this
 have hm:=fun W (hW:New w W)=>rsub_n K _ _ _ _ W (hdb.new hW) (hda.new hW) hK hy (by omega);obtain ⟨c,hc⟩:∃ c,cmpNat x y=c:=⟨_,rfl⟩;rw[hc] at hcmp
 have hc0:¬0≤c:=by
  rw[←hc];unfold cmpNat;split <;> (try split) <;> omega
 have hcd:decide (0≤c)=false:=decide_eq_false hc0;obtain ⟨z,hz⟩:∃ z,sgnd false (y - x)=z:=⟨_,rfl⟩;rw[hz];clear hda hdb hx hy hK hc;have HM:=hid hm;have HE:=hid hz;have HC:=hid hcmp;clear hm hz hcmp;go_enter Tryz.func111,Tryz.ntmps111;go_wp2_with fail;obtain ⟨BA,BB,BP,HN⟩:=lay3 w 137 #[.bool true,.slice a1 l1 c1] 137 #[.bool false,.slice a2 l2 c2] 137 #[.bool false,.slice none 0 0];obtain ⟨pa0,pa1,pa2,pa3,pa4⟩:=BA.out.two;obtain ⟨pb0,pb1,pb2,pb3,pb4⟩:=BB.out.two;go_wp2_with fail;refine (HC.out _ HN.out).mono ?_;rintro e w5 ⟨hn,rfl⟩;clear pa0 pa1 pa2 pa3 pa4 pb0 pb1 pb2 pb3 pb4;replace BA:=bW BA hn;replace BB:=bW BB hn;replace BP:=bW BP hn;replace HN:=tW HN hn;clear hn;obtain ⟨pa0,pa1,pa2,pa3,pa4⟩:=BA.out.two;obtain ⟨pb0,pb1,pb2,pb3,pb4⟩:=BB.out.two;go_wp2_with fail;clear pa0 pa1 pa2 pa3 pa4;clear pb0 pb1 pb2 pb3 pb4;refine wp_region_T 8 (fun W=>(W.cell? ⟨w.heap.size,0,none⟩=some (.bool true)∧W.cell? ⟨w.heap.size,1,none⟩=some (.slice a1 l1 c1))∧(W.cell? ⟨w.heap.size+1,0,none⟩=some (.bool false)∧W.cell? ⟨w.heap.size+1,1,none⟩=some (.slice a2 l2 c2))) 9 #[false,false,false,false,false,false,false,false,false] rfl (by kernel_rfl) (by kernel_rfl) ?_;refine tk 0 (by exact ⟨cW2 BA,cW2 BB⟩) ?_
 try simp only[PT]
 refine tk 1 (by exact ⟨cW2 BA,cW2 BB⟩) ?_
 try simp only[PT]
 refine tk 2 (by exact ⟨cW2 BA,cW2 BB⟩) ?_
 try simp only[PT]
 refine tk 3 (by exact ⟨cW2 BA,cW2 BB⟩) ?_
 try simp only[PT]
 refine tk 4 (by exact ⟨cW2 BA,cW2 BB⟩) ?_
 try simp only[PT]
 refine tk 5 (by exact ⟨cW2 BA,cW2 BB⟩) ?_
 try simp only[PT]
 refine tk1 6 fun K hK=>?_;go_simp;refine (HM.out _ HN.out.drew).mono ?_;rintro e w8 ⟨v8,rfl,hn,hi⟩;have hn:=hn.undr;obtain ⟨a8,l8,c8,rfl⟩:=hi.shape;have HI8:=hid hi;clear hi;replace BA:=bW BA hn;replace BB:=bW BB hn;replace BP:=bW BP hn;replace HN:=tW HN hn;clear hn;refine hK.out _ _ (fun _=>⟨cW2 BA,cW2 BB⟩) ?_;clear hK K
 try simp only[PT]
 refine tk1 7 fun K hK=>?_;go_simp;refine (rsigned_calls _ _ _ _ HI8.out).mono ?_;rintro e w9 ⟨v9,rfl,hn,hz⟩
 replace hz:IsZ w9 v9 (z):=by first | (rw[HE.out] at hz;exact hz) | (have e:=HE.out;unfold bne at e;rw[e] at hz;exact hz)
 obtain ⟨b9,a9,l9,c9,rfl⟩:=hz.shape;have HZ:=hid hz;clear hz;replace BA:=bW BA hn;replace BB:=bW BB hn;replace BP:=bW BP hn;replace HN:=tW HN hn;clear hn;refine hK.out _ _ (fun _=>⟨cW2 BA,cW2 BB⟩) ?_;clear hK K
 try simp only[PT]
 refine tlW ?_;obtain ⟨pa0,pa1,pa2,pa3,pa4⟩:=BA.out.two;obtain ⟨pb0,pb1,pb2,pb3,pb4⟩:=BB.out.two;obtain ⟨p0,p1,p2,p3,p4⟩:=BP.out.two;go_wp2_with fail;refine bodyPost_ret (v:=.agg #[.bool b9,.slice a9 l9 c9]) (by simp[results,Tryz.results111,go_sem,p0,p1]) rfl ?_;exact z_ret HN.out BP.out (by omega) HZ.out
theorem rplus_calls (K:Nat)(va vb:Value)(x y:Int)(w:World)(ha:IsZ w va x)(hb:IsZ w vb y)(hK:K≤90000)(hx:x.natAbs < B9^K)(hy:y.natAbs < B9^K):
  Calls Tryz.prog 111 #[va,vb] w (RetZ w (x+y)):=by
 obtain ⟨sA,a1,l1,c1,rfl⟩:=ha.shape;obtain ⟨sB,a2,l2,c2,rfl⟩:=hb.shape;obtain ⟨hb1,hda⟩:=ha.parts;obtain ⟨hb2,hdb⟩:=hb.parts;rcases Int.lt_or_le x 0 with h1 | h1 <;> rcases Int.lt_or_le y 0 with h2 | h2
 ·rw[hb1,hb2,decide_eq_true h1,decide_eq_true h2];have:=rplus_neg K a1 a2 l1 l2 c1 c2 _ _ w hda hdb hK hx hy;rw[show sgnd true (x.natAbs+y.natAbs)=x+y by unfold sgnd;simp;omega] at this;exact this
 ·rw[hb1,hb2,decide_eq_true h1,decide_eq_false (Int.not_lt.2 h2)];rcases Nat.lt_or_ge x.natAbs y.natAbs with h3 | h3
  ·have:=rplus_np_lt K a1 a2 l1 l2 c1 c2 _ _ w hda hdb hK hx hy h3;rw[show sgnd false (y.natAbs - x.natAbs)=x+y by unfold sgnd;simp;omega] at this;exact this
  ·have:=rplus_np_ge K a1 a2 l1 l2 c1 c2 _ _ w hda hdb hK hx hy h3;rw[show sgnd true (x.natAbs - y.natAbs)=x+y by unfold sgnd;simp;omega] at this;exact this
 ·rw[hb1,hb2,decide_eq_false (Int.not_lt.2 h1),decide_eq_true h2];rcases Nat.lt_or_ge x.natAbs y.natAbs with h3 | h3
  ·have:=rplus_pn_lt K a1 a2 l1 l2 c1 c2 _ _ w hda hdb hK hx hy h3;rw[show sgnd true (y.natAbs - x.natAbs)=x+y by unfold sgnd;simp;omega] at this;exact this
  ·have:=rplus_pn_ge K a1 a2 l1 l2 c1 c2 _ _ w hda hdb hK hx hy h3;rw[show sgnd false (x.natAbs - y.natAbs)=x+y by unfold sgnd;simp;omega] at this;exact this
 ·rw[hb1,hb2,decide_eq_false (Int.not_lt.2 h1),decide_eq_false (Int.not_lt.2 h2)];have:=rplus_pos K a1 a2 l1 l2 c1 c2 _ _ w hda hdb hK hx hy;rw[show sgnd false (x.natAbs+y.natAbs)=x+y by unfold sgnd;simp;omega] at this;exact this
end Go.Proofs.YtbkcjmojgglbkaaGreatDoor
