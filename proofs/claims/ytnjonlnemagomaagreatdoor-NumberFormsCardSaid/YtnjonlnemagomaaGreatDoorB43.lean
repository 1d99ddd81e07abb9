/- Part B43. -/
import Derived.Test.YtnjonlnemagomaaGreatDoorB37
namespace Go.Proofs.YtnjonlnemagomaaGreatDoor
open Go.RowKit Big Go.Lib
set_option maxRecDepth 100000
set_option maxHeartbeats 8000000
def absQ (q:Rat):Rat:=if q.num < 0 then -q else q
theorem yak (q:Rat)(w:World)(_hl:(rs q).size<=1000000):Calls Tryz.prog 34 #[.string (rs q)] w (RetS w (absQ q)):=by
 have hsg:=fun W=>yg4 q W;by_cases h:q.num < 0
 ·have hq:absQ q= -q:=by unfold absQ;rw[if_pos h]
  rw[Int.sign_eq_neg_one_of_neg h]at hsg;obtain ⟨s,hs, -,hl2,h0, -⟩:=y8b h
  have hr:rs (-q)=s.extract 1 s.size:=by
   apply ByteArray.ext;apply Array.toList_inj.1;rw[y2v,Lib.extract_to_end,hl2];rfl
  have h1:(1:Int)<=(s.size:Int):=by omega
  rw[hq];rw[hs] at hsg⊢;clear hs h hl2 _hl h0 hq;have HSG:=hid hsg;have HR:=hid hr;clear hsg hr;go_enter Tryz.func34,Tryz.ntmps34;go_wp2_with fail;refine (HSG.out _).mono ?_;rintro e w1 ⟨rfl,hw1⟩;rw[hw1];clear hw1;go_wp2_with fail;go_ret;exact ⟨by rw[HR.out];rfl,New.refl _⟩
 ·have hq:absQ q=q:=by unfold absQ;rw[if_neg h]
  rw[hq];have hs0:¬q.num.sign < 0:=fun h2=>h (Int.sign_neg_iff.1 h2);obtain ⟨sg,hsgn⟩:∃ sg,q.num.sign=sg:=⟨_,rfl⟩;simp only[hsgn] at hsg;rw[hsgn] at hs0;have hsd:decide (sg < 0)=false:=decide_eq_false hs0;obtain ⟨s,hs⟩:∃ s,rs q=s:=⟨_,rfl⟩;have hr:rs q=s:=hs;rw[hs] at hsg;have hs2:=hs;unfold RetS;rw[hs];clear hs hs2 h hq hsgn _hl hr;have HSG:=hid hsg;clear hsg;go_enter Tryz.func34,Tryz.ntmps34;go_wp2_with fail;refine (HSG.out _).mono ?_;rintro e w1 ⟨rfl,hw1⟩;rw[hw1];clear hw1;go_wp2_with fail;go_ret;exact ⟨rfl,New.refl _⟩
theorem yb9 (k:Nat)(q:Rat)(w:World)(hq:RFB k q)(hk:k<=40000):Calls Tryz.prog 110 #[.string (rs q)] w (RetS w (q.num:Rat)):=by
 have hsz:=hq.len;have hsl:=fun W=>y2i (rs q) W (by omega)
 have e1:upTo (rs q).data.toList=itoa q.num:=by
  rw[y2v];unfold y02;split
  ·exact (y0x (y44 _)).1
  ·exact (y55 _ _).1
 have h1:=y9t hq.num
 have hle:(itoa q.num).length<=(rs q).size:=by
  have:=yej (rs q).data.toList;rw[e1] at this;simpa using this
 simp only[e1]at hsl
 have hr:rs (q.num:Rat)=(rs q).extract 0 (itoa q.num).length:=by
  apply ByteArray.ext;apply Array.toList_inj.1;rw[y2v,y3m,Lib.extract_data];show _=((rs q).data.toList.take _);rw[y2v];unfold y02;split
  ·rw[Nat.sub_zero,List.take_length]
  ·rw[Nat.sub_zero,List.take_left]
 obtain ⟨m,hm⟩:∃ m,(itoa q.num).length=m:=⟨_,rfl⟩;obtain ⟨s,hs⟩:∃ s,rs q=s:=⟨_,rfl⟩;unfold RetS;rw[hm,hs] at hr;rw[hm,hs] at hle;simp only[hm,hs] at hsl;rw[hs,hr]
 have hmi:(m:Int)<=(s.size:Int):=by omega
 clear hs hm e1 h1 hr hq hk hsz hle;have HSL:=hid hsl;clear hsl;go_enter Tryz.func110,Tryz.ntmps110;go_wp2_with fail;refine (HSL.out _).mono ?_;rintro e w1 ⟨rfl,hw1⟩;rw[hw1];clear hw1;go_wp2_with fail;go_ret;exact ⟨rfl,New.refl _⟩
theorem FB.minR {k:Nat}{x y:Rat}(hx:FB k x)(hy:FB k y):FB k (minR x y):=by unfold Go.Proofs.YtnjonlnemagomaaGreatDoor.minR;split <;> assumption
theorem FB.maxR {k:Nat}{x y:Rat}(hx:FB k x)(hy:FB k y):FB k (maxR x y):=by unfold Go.Proofs.YtnjonlnemagomaaGreatDoor.maxR;split <;> assumption
theorem yok {s:ByteArray}(h:y1j s.data.toList=0):∃ q:Rat,s=rs q/\Fits q:=by
 obtain ⟨q,hf,hq⟩:=ya6 h;refine ⟨q,?_,hf⟩;apply ByteArray.ext;apply Array.toList_inj.1;rw[hq,y2v]
theorem ygh (bad:Int)(want:ByteArray)(w:World)(h:bad≠0):Calls Tryz.prog 21 #[.string ⟨#[]⟩,.int .i64 bad,.int .i64 bad,.string want] w fun e w'=>e=.returned (.bool true)/\New w w':=by
 have hb:(bad==0)=false:=beq_false_of_ne h;have hb2:(bad != 0)=true:=bne_iff_ne.2 h;clear h;go_enter Tryz.func21,Tryz.ntmps21;go_wp2_with fail;go_ret;exact ⟨rfl,New.refl _⟩
theorem yjy (big:Bool)(want:ByteArray)(w:World)(hL:∀ W,New w W->Calls Tryz.prog 104 #[.string want] W (y1o W (if big=true then 4 else 0))):Calls Tryz.prog 21 #[.string (if big=true then ⟨#[]⟩ else want),.int .i64 (if big=true then 4 else 0),.int .i64 0,.string want] w fun e w'=>e=.returned (.bool true)/\New w w':=by
 have HN:=hid (New.refl w);have HL:=hid hL;clear hL
 cases big with
 | true=>
  go_enter Tryz.func21,Tryz.ntmps21;go_wp2_with fail;refine (HL.out _ HN.out).mono ?_;rintro e w1 ⟨rfl,hn⟩;replace HN:=tW HN hn;clear hn;go_wp2_with fail;go_ret;exact ⟨rfl,HN.out⟩
 | false=>
  go_enter Tryz.func21,Tryz.ntmps21;go_wp2_with fail;refine (HL.out _ HN.out).mono ?_;rintro e w1 ⟨rfl,hn⟩;replace HN:=tW HN hn;clear hn;go_wp2_with fail;go_ret;exact ⟨rfl,HN.out⟩
theorem y9w (k:Nat)(q:Rat)(w:World)(hq:RFB k q)(hk:k<=40000):Calls Tryz.prog 111 #[.string (rs q)] w (RetS w ((q.den:Int):Rat)):=by
 have hsz:=hq.len;have hsl:=fun W=>y2i (rs q) W (by omega);by_cases hd:q.den=1
 ·have e1:upTo (rs q).data.toList=(rs q).data.toList:=by
   rw[y2v];unfold y02;rw[if_pos hd];exact (y0x (y44 _)).1
  have hr:rs (((1:Nat):Int):Rat)=⟨#[49]⟩:=by
   unfold rs;rw[y3m,Big.itoa_nonneg,y4v];rfl
  rw[hd];unfold RetS;rw[hr];rw[e1] at hsl;obtain ⟨s,hs⟩:∃ s,rs q=s:=⟨_,rfl⟩;simp only[hs] at hsl
  have hsl:∀ W,Calls Tryz.prog 96 #[.string s] W fun e w'=>e=.returned (.int .i64 (s.size:Nat))/\w'=W:=fun W=>(hsl W).mono fun e w' h=>by
   rw[h.1,Array.length_toList];exact ⟨rfl,h.2⟩
  rw[hs];clear e1 hr hs hsz hq hk hd;have hb:((s.size:Int)==(s.size:Int))=true:=beq_self_eq_true _;have HSL:=hid hsl;clear hsl;go_enter Tryz.func111,Tryz.ntmps111;go_wp2_with fail;refine (HSL.out _).mono ?_;rintro e w1 ⟨rfl,hw1⟩;rw[hw1];clear hw1;go_wp2_with fail;go_ret;exact ⟨rfl,New.refl _⟩
 ·have e1:upTo (rs q).data.toList=itoa q.num:=by
   rw[y2v];unfold y02;rw[if_neg hd];exact (y55 _ _).1
  have hrl:(rs q).data.toList=itoa q.num ++ 47::decDigits q.den:=by
   rw[y2v];unfold y02;rw[if_neg hd]
  have hr:rs ((q.den:Int):Rat)=(rs q).extract ((itoa q.num).length+1) (rs q).size:=by
   apply ByteArray.ext;apply Array.toList_inj.1;rw[y2v,y3m,Big.itoa_nonneg,Lib.extract_to_end,hrl];rw[List.drop_append,List.drop_of_length_le (by omega)];simp
  have hle:(itoa q.num).length+1<=(rs q).size:=by
   have:(rs q).data.toList.length=(rs q).size:=by simp
   rw[<-this,hrl,List.length_append,List.length_cons];omega
  rw[e1]at hsl;unfold RetS;rw[hr];obtain ⟨m,hm⟩:∃ m,(itoa q.num).length=m:=⟨_,rfl⟩;obtain ⟨s,hs⟩:∃ s,rs q=s:=⟨_,rfl⟩;rw[hm,hs] at hle;simp only[hm,hs] at hsl;rw[hm,hs];rw[hs] at hsz;have hb:((m:Int)==(s.size:Int))=false:=beq_false_of_ne (by omega);obtain ⟨m1,hm1⟩:∃ z,m+1=z:=⟨_,rfl⟩;rw[hm1]
  have hm1e:(m:Int)+1=(m1:Int):=by omega
  have hm1i:(m1:Int)<=(s.size:Int):=by omega
  have hsi:(s.size:Int)<=1000000:=by omega
  have hwr:IntKind.i64.wrap (m1:Int)=(m1:Int):=by rw[IntKind.wrap_i64];omega
  clear hs hm e1 hr hq hk hsz hle hd hrl hm1;have HSL:=hid hsl;clear hsl;go_enter Tryz.func111,Tryz.ntmps111;go_wp2_with fail;refine (HSL.out _).mono ?_;rintro e w1 ⟨rfl,hw1⟩;rw[hw1];clear hw1;go_wp2_with fail;go_ret;exact ⟨rfl,New.refl _⟩
theorem yaf {u k m:Nat}(h:u < 2^k)(hk:k<=3*m)(hm:1<=m):(decDigits u).length<=m:=by
 rw[decDigits_length,y0w hm];refine Nat.lt_of_lt_of_le h (Nat.le_trans (Nat.pow_le_pow_right (by omega) hk) ?_);rw[Nat.pow_mul];exact Nat.pow_le_pow_left (by decide) m
theorem ygy (n:Nat):(rs ((n:Int):Rat)).size=(decDigits n).length:=by
 unfold rs;rw[y3m,Big.itoa_nonneg,y1d]
theorem yez (k:Nat)(q:Rat)(w:World)(hq:RFB k q)(hk:k<=1800):Calls Tryz.prog 104 #[.string (rs q)] w (y1o w 0):=by
 have hn:=fun W=>yb9 k q W hq (by omega);have hnb:RFB (k+1) ((q.num:Int):Rat):=yiq (Nat.lt_of_lt_of_le hq.num (Nat.pow_le_pow_right (by omega) (by omega))) (by omega);have ha:=fun W=>yak ((q.num:Int):Rat) W (by have:=hnb.len;omega);have hd:=fun W=>y9w k q W hq (by omega)
 have e1:absQ ((q.num:Int):Rat)=((q.num.natAbs:Int):Rat):=by
  unfold absQ;rw[Rat.num_intCast];split
  ·rw[<-Rat.intCast_neg,show -q.num=(q.num.natAbs:Int) by omega]
  ·rw[show (q.num.natAbs:Int)=q.num by omega]
 rw[e1]at ha;have s1:=ygy q.num.natAbs;have s2:=ygy q.den;have d1:=yaf (m:=600) hq.num (by omega) (by omega);have d2:=yaf (m:=600) hq.den (by omega) (by omega);obtain ⟨N,hN⟩:∃ X,rs ((q.num:Int):Rat)=X:=⟨_,rfl⟩;obtain ⟨A,hA⟩:∃ X,rs ((q.num.natAbs:Int):Rat)=X:=⟨_,rfl⟩;obtain ⟨D,hD⟩:∃ X,rs ((q.den:Int):Rat)=X:=⟨_,rfl⟩;have hn:=fun W=>(hn W).mono fun e w' h=>RetS.to hN h;have ha:=fun W=>(ha W).mono fun e w' h=>RetS.to hA h;have hd:=fun W=>(hd W).mono fun e w' h=>RetS.to hD h;simp only[hN] at ha;rw[hA] at s1;rw[hD] at s2
 have i1:¬(600:Int) < (A.size:Int):=by omega
 have i2:¬(600:Int) < (D.size:Int):=by omega
 have b1:decide ((600:Int) < (A.size:Int))=false:=decide_eq_false i1;have b2:decide ((600:Int) < (D.size:Int))=false:=decide_eq_false i2;obtain ⟨s,hs⟩:∃ s,rs q=s:=⟨_,rfl⟩;simp only[hs] at hn hd;rw[hs];clear hN hA hD hs s1 s2 d1 d2 e1 hnb hq hk;have HNU:=hid hn;have HAB:=hid ha;have HDE:=hid hd;clear hn ha hd;go_enter Tryz.func104,Tryz.ntmps104;go_wp2_with fail;refine (HNU.out _).mono ?_;rintro e w1 ⟨rfl,hn⟩;have HN:=hid hn;clear hn;go_wp2_with fail;refine (HAB.out _).mono ?_;rintro e w2 ⟨rfl,hn⟩;replace HN:=tW HN hn;clear hn;go_wp2_with fail;refine (HDE.out _).mono ?_;rintro e w3 ⟨rfl,hn⟩;replace HN:=tW HN hn;clear hn;go_wp2_with fail;go_ret;exact ⟨rfl,HN.out⟩
theorem ybm (k:Nat)(q:Rat)(w:World)(hq:RFB k q)(hk:k<=39000):Calls Tryz.prog 104 #[.string (rs q)] w (y1o w (resE q)):=by
 have hn:=fun W=>yb9 k q W hq (by omega);have hnb:RFB (k+1) ((q.num:Int):Rat):=yiq (Nat.lt_of_lt_of_le hq.num (Nat.pow_le_pow_right (by omega) (by omega))) (by omega);have ha:=fun W=>yak ((q.num:Int):Rat) W (by have:=hnb.len;omega);have hd:=fun W=>y9w k q W hq (by omega)
 have e1:absQ ((q.num:Int):Rat)=((q.num.natAbs:Int):Rat):=by
  unfold absQ;rw[Rat.num_intCast];split
  ·rw[<-Rat.intCast_neg,show -q.num=(q.num.natAbs:Int) by omega]
  ·rw[show (q.num.natAbs:Int)=q.num by omega]
 rw[e1]at ha;have s1:=ygy q.num.natAbs;have s2:=ygy q.den;rw[decDigits_length] at s1 s2
 have hE:resE q=if 600 < nDigits q.num.natAbs then 4 else if 600 < nDigits q.den then 4 else 0:=by
  unfold resE bigQ;by_cases h1:600 < nDigits q.num.natAbs
  ·simp[h1]
  ·by_cases h2:600 < nDigits q.den
   ·simp[h2]
   ·simp[h1,h2]
 rw[<-s1,<-s2]at hE;rw[hE];obtain ⟨N,hN⟩:∃ X,rs ((q.num:Int):Rat)=X:=⟨_,rfl⟩;obtain ⟨A,hA⟩:∃ X,rs ((q.num.natAbs:Int):Rat)=X:=⟨_,rfl⟩;obtain ⟨D,hD⟩:∃ X,rs ((q.den:Int):Rat)=X:=⟨_,rfl⟩;have hn:=fun W=>(hn W).mono fun e w' h=>RetS.to hN h;have ha:=fun W=>(ha W).mono fun e w' h=>RetS.to hA h;have hd:=fun W=>(hd W).mono fun e w' h=>RetS.to hD h;simp only[hN] at ha;rw[hA,hD];obtain ⟨s,hs⟩:∃ s,rs q=s:=⟨_,rfl⟩;simp only[hs] at hn hd;rw[hs];clear hN hA hD hs s1 s2 e1 hnb hq hk hE;have HNU:=hid hn;have HAB:=hid ha;have HDE:=hid hd;clear hn ha hd;by_cases g1:600 < A.size
 ·rw[if_pos g1];have b1:decide ((600:Int) < (A.size:Int))=true:=decide_eq_true (by omega);go_enter Tryz.func104,Tryz.ntmps104;go_wp2_with fail;refine (HNU.out _).mono ?_;rintro e w1 ⟨rfl,hn⟩;have HN:=hid hn;clear hn;go_wp2_with fail;refine (HAB.out _).mono ?_;rintro e w2 ⟨rfl,hn⟩;replace HN:=tW HN hn;clear hn;go_wp2_with fail;go_ret;exact ⟨rfl,HN.out⟩
 rw[if_neg g1];have b1:decide ((600:Int) < (A.size:Int))=false:=decide_eq_false (by omega);by_cases g2:600 < D.size
 ·rw[if_pos g2];have b2:decide ((600:Int) < (D.size:Int))=true:=decide_eq_true (by omega);go_enter Tryz.func104,Tryz.ntmps104;go_wp2_with fail;refine (HNU.out _).mono ?_;rintro e w1 ⟨rfl,hn⟩;have HN:=hid hn;clear hn;go_wp2_with fail;refine (HAB.out _).mono ?_;rintro e w2 ⟨rfl,hn⟩;replace HN:=tW HN hn;clear hn;go_wp2_with fail;refine (HDE.out _).mono ?_;rintro e w3 ⟨rfl,hn⟩;replace HN:=tW HN hn;clear hn;go_wp2_with fail;go_ret;exact ⟨rfl,HN.out⟩
 ·rw[if_neg g2];have b2:decide ((600:Int) < (D.size:Int))=false:=decide_eq_false (by omega);go_enter Tryz.func104,Tryz.ntmps104;go_wp2_with fail;refine (HNU.out _).mono ?_;rintro e w1 ⟨rfl,hn⟩;have HN:=hid hn;clear hn;go_wp2_with fail;refine (HAB.out _).mono ?_;rintro e w2 ⟨rfl,hn⟩;replace HN:=tW HN hn;clear hn;go_wp2_with fail;refine (HDE.out _).mono ?_;rintro e w3 ⟨rfl,hn⟩;replace HN:=tW HN hn;clear hn;go_wp2_with fail;go_ret;exact ⟨rfl,HN.out⟩
end Go.Proofs.YtnjonlnemagomaaGreatDoor
