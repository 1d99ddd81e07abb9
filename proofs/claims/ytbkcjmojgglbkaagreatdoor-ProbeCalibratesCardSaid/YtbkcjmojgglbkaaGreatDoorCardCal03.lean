/- Part CardCal03. -/
import Derived.Test.YtbkcjmojgglbkaaGreatDoorCardCal02
namespace Go.Proofs.YtbkcjmojgglbkaaGreatDoor
open Go.RowKit Big Go.Lib
set_option maxRecDepth 100000
set_option maxHeartbeats 8000000
theorem rdenQ_calls (k:Nat)(q:Rat)(w:World)(hq:RFB k q)(hk:k≤40000):Calls Tryz.prog 107 #[.string (rs q)] w (RetS w ((q.den:Int):Rat)):=by
 have hsz:=hq.len;have hsl:=fun W=>rslash_calls (rs q) W (by omega);by_cases hd:q.den=1
 ·have e1:upTo (rs q).data.toList=(rs q).data.toList:=by
   rw[rs_list];unfold ratText;rw[if_pos hd];exact (split_plain (slashed_itoa' _)).1
  have hr:rs (((1:Nat):Int):Rat)=⟨#[49]⟩:=by
   unfold rs;rw[ratText_int,Big.itoa_nonneg,decDigits_one'];rfl
  rw[hd];unfold RetS;rw[hr];rw[e1] at hsl;obtain ⟨s,hs⟩:∃ s,rs q=s:=⟨_,rfl⟩;simp only[hs] at hsl
  have hsl:∀ W,Calls Tryz.prog 79 #[.string s] W fun e w'=>e=.returned (.int .i64 (s.size:Nat))∧w'=W:=fun W=>(hsl W).mono fun e w' h=>by
   rw[h.1,Array.length_toList];exact ⟨rfl,h.2⟩
  rw[hs];clear e1 hr hs hsz hq hk hd;have hb:((s.size:Int)==(s.size:Int))=true:=beq_self_eq_true _;have HSL:=hid hsl;clear hsl;go_enter Tryz.func107,Tryz.ntmps107;go_wp2_with fail;refine (HSL.out _).mono ?_;rintro e w1 ⟨rfl,hw1⟩;rw[hw1];clear hw1;go_wp2_with fail;go_ret;exact ⟨rfl,New.refl _⟩
 ·have e1:upTo (rs q).data.toList=itoa q.num:=by
   rw[rs_list];unfold ratText;rw[if_neg hd];exact (parts_itoa' _ _).1
  have hrl:(rs q).data.toList=itoa q.num ++ 47::decDigits q.den:=by
   rw[rs_list];unfold ratText;rw[if_neg hd]
  have hr:rs ((q.den:Int):Rat)=(rs q).extract ((itoa q.num).length+1) (rs q).size:=by
   apply ByteArray.ext;apply Array.toList_inj.1;rw[rs_list,ratText_int,Big.itoa_nonneg,Lib.extract_to_end,hrl];rw[List.drop_append,List.drop_of_length_le (by omega)];simp
  have hle:(itoa q.num).length+1≤(rs q).size:=by
   have:(rs q).data.toList.length=(rs q).size:=by simp
   rw[←this,hrl,List.length_append,List.length_cons];omega
  rw[e1]at hsl;unfold RetS;rw[hr];obtain ⟨m,hm⟩:∃ m,(itoa q.num).length=m:=⟨_,rfl⟩;obtain ⟨s,hs⟩:∃ s,rs q=s:=⟨_,rfl⟩;rw[hm,hs] at hle;simp only[hm,hs] at hsl;rw[hm,hs];rw[hs] at hsz;have hb:((m:Int)==(s.size:Int))=false:=beq_false_of_ne (by omega);obtain ⟨m1,hm1⟩:∃ z,m+1=z:=⟨_,rfl⟩;rw[hm1]
  have hm1e:(m:Int)+1=(m1:Int):=by omega
  have hm1i:(m1:Int)≤(s.size:Int):=by omega
  have hsi:(s.size:Int)≤1000000:=by omega
  have hwr:IntKind.i64.wrap (m1:Int)=(m1:Int):=by rw[IntKind.wrap_i64];omega
  clear hs hm e1 hr hq hk hsz hle hd hrl hm1;have HSL:=hid hsl;clear hsl;go_enter Tryz.func107,Tryz.ntmps107;go_wp2_with fail;refine (HSL.out _).mono ?_;rintro e w1 ⟨rfl,hw1⟩;rw[hw1];clear hw1;go_wp2_with fail;go_ret;exact ⟨rfl,New.refl _⟩
theorem dig_of_pow {u k m:Nat}(h:u < 2^k)(hk:k≤3*m)(hm:1≤m):(decDigits u).length≤m:=by
 rw[decDigits_length,nDigits_le_iff hm];refine Nat.lt_of_lt_of_le h (Nat.le_trans (Nat.pow_le_pow_right (by omega) hk) ?_);rw[Nat.pow_mul];exact Nat.pow_le_pow_left (by decide) m
theorem rs_nat (n:Nat):(rs ((n:Int):Rat)).size=(decDigits n).length:=by
 unfold rs;rw[ratText_int,Big.itoa_nonneg,bs_size]
theorem rlarge_calls (k:Nat)(q:Rat)(w:World)(hq:RFB k q)(hk:k≤1800):Calls Tryz.prog 162 #[.string (rs q)] w (RetNew w 0):=by
 have hn:=fun W=>rnum_calls k q W hq (by omega);have hnb:RFB (k+1) ((q.num:Int):Rat):=rfb_int (Nat.lt_of_lt_of_le hq.num (Nat.pow_le_pow_right (by omega) (by omega))) (by omega);have ha:=fun W=>rabs_calls ((q.num:Int):Rat) W (by have:=hnb.len;omega);have hd:=fun W=>rdenQ_calls k q W hq (by omega)
 have e1:absQ ((q.num:Int):Rat)=((q.num.natAbs:Int):Rat):=by
  unfold absQ;rw[Rat.num_intCast];split
  ·rw[←Rat.intCast_neg,show -q.num=(q.num.natAbs:Int) by omega]
  ·rw[show (q.num.natAbs:Int)=q.num by omega]
 rw[e1]at ha;have s1:=rs_nat q.num.natAbs;have s2:=rs_nat q.den;have d1:=dig_of_pow (m:=600) hq.num (by omega) (by omega);have d2:=dig_of_pow (m:=600) hq.den (by omega) (by omega);obtain ⟨N,hN⟩:∃ X,rs ((q.num:Int):Rat)=X:=⟨_,rfl⟩;obtain ⟨A,hA⟩:∃ X,rs ((q.num.natAbs:Int):Rat)=X:=⟨_,rfl⟩;obtain ⟨D,hD⟩:∃ X,rs ((q.den:Int):Rat)=X:=⟨_,rfl⟩;have hn:=fun W=>(hn W).mono fun e w' h=>RetS.to hN h;have ha:=fun W=>(ha W).mono fun e w' h=>RetS.to hA h;have hd:=fun W=>(hd W).mono fun e w' h=>RetS.to hD h;simp only[hN] at ha;rw[hA] at s1;rw[hD] at s2
 have i1:¬(600:Int) < (A.size:Int):=by omega
 have i2:¬(600:Int) < (D.size:Int):=by omega
 have b1:decide ((600:Int) < (A.size:Int))=false:=decide_eq_false i1;have b2:decide ((600:Int) < (D.size:Int))=false:=decide_eq_false i2;obtain ⟨s,hs⟩:∃ s,rs q=s:=⟨_,rfl⟩;simp only[hs] at hn hd;rw[hs];clear hN hA hD hs s1 s2 d1 d2 e1 hnb hq hk;have HNU:=hid hn;have HAB:=hid ha;have HDE:=hid hd;clear hn ha hd;go_enter Tryz.func162,Tryz.ntmps162;go_wp2_with fail;refine (HNU.out _).mono ?_;rintro e w1 ⟨rfl,hn⟩;have HN:=hid hn;clear hn;go_wp2_with fail;refine (HAB.out _).mono ?_;rintro e w2 ⟨rfl,hn⟩;replace HN:=tW HN hn;clear hn;go_wp2_with fail;refine (HDE.out _).mono ?_;rintro e w3 ⟨rfl,hn⟩;replace HN:=tW HN hn;clear hn;go_wp2_with fail;go_ret;exact ⟨rfl,HN.out⟩
theorem rlargeRow_calls (k:Nat)(a:Option Addr)(cap:Nat)(x y:Rat)(w:World)(hx:RFB k x)(hy:RFB k y)(hk:k≤1800)(hr:RdL w a (strs [rs x,rs y])):
  Calls Tryz.prog 102 #[.slice a 2 cap] w (RetNew w 0):=by
 obtain ⟨b1,o1,rfl,hc0⟩:=hr.str 0 (by simp);obtain ⟨b2,o2,e2,hc1⟩:=hr.str 1 (by simp)
 cases e2
 have h0:([rs x,rs y]:List ByteArray)[0]=rs x:=rfl;have h1:([rs x,rs y]:List ByteArray)[1]=rs y:=rfl;rw[h0,Nat.add_zero] at hc0;rw[h1] at hc1;have hl1:=fun W=>rlarge_calls k x W hx hk;have hl2:=fun W=>rlarge_calls k y W hy hk;obtain ⟨X,hX⟩:∃ X,rs x=X:=⟨_,rfl⟩;obtain ⟨Y,hY⟩:∃ Y,rs y=Y:=⟨_,rfl⟩;simp only[hX] at hl1;simp only[hY] at hl2;rw[hX] at hc0;rw[hY] at hc1;clear hX hY h0 h1 hr hx hy hk;have HL1:=hid hl1;have HL2:=hid hl2;have HC0:=hid hc0;have HC1:=hid hc1;clear hl1 hl2 hc0 hc1;go_enter Tryz.func102,Tryz.ntmps102;go_wp2_with fail;go_loopw [3] (fun i wr=>∃ j:Nat,j≤2∧i=.int .i64 (j:Int)∧Hid (New w wr)) (fun i _=>2 - (RowKit.intOf i).toNat)
 case atStart=>exact ⟨0,by omega,rfl,hid (New.refl _)⟩
 case round=>
  obtain ⟨j,hj,rfl,HN⟩:=hrel;by_cases hlt:j < 2
  ·obtain rfl | rfl:j=0∨j=1:=by omega
   ·have hc:=HN.out.cell HC0.out;go_wp2_with fail;refine (HL1.out _).mono ?_;rintro e w2 ⟨rfl,hn⟩;clear hc;replace HN:=tW HN hn;clear hn;go_wp2_with fail;go_roundw
    case rel=>exact ⟨1,by omega,rfl,HN⟩
    case measure=>simp[RowKit.intOf]
   ·have hc:=HN.out.cell HC1.out;go_wp2_with fail;refine (HL2.out _).mono ?_;rintro e w2 ⟨rfl,hn⟩;clear hc;replace HN:=tW HN hn;clear hn;go_wp2_with fail;go_roundw
    case rel=>exact ⟨2,by omega,rfl,HN⟩
    case measure=>simp[RowKit.intOf]
  ·obtain rfl:j=2:=by omega
   go_wp2_with fail;go_ret;exact ⟨rfl,HN.out⟩
end Go.Proofs.YtbkcjmojgglbkaaGreatDoor
