/- Part CardSn06. -/
import Derived.Test.YtnjonlnemagomaaGreatDoorB31
import Derived.Test.YtnjonlnemagomaaGreatDoorCardSn05
namespace Go.Proofs.YtnjonlnemagomaaGreatDoor
open Go.RowKit Big Go.Lib Go.Proofs.Tryz
set_option maxRecDepth 100000
set_option maxHeartbeats 8000000
set_option linter.all false
theorem csgn_lt {x y:Rat}(h:x < y):(x - y).num.sign= -1:=by
 have h1:¬(y - x).num.sign≤0:=by rw[sign_le];exact Rat.not_le.2 h
 have h2:(x - y).num= -(y - x).num:=by rw[←Rat.neg_sub,Rat.neg_num]
 rw[h2,Int.sign_neg];rcases Int.lt_trichotomy (y - x).num 0 with h3 | h3 | h3
 ·rw[Int.sign_eq_neg_one_of_neg h3] at h1;omega
 ·rw[h3] at h1;exact absurd (by decide) h1
 ·rw[Int.sign_eq_one_of_pos h3]
theorem csgn_gt {x y:Rat}(h:y < x):(x - y).num.sign=1:=by
 have h1:¬(x - y).num.sign≤0:=by rw[sign_le];exact Rat.not_le.2 h
 rcases Int.lt_trichotomy (x - y).num 0 with h3 | h3 | h3
 ·rw[Int.sign_eq_neg_one_of_neg h3] at h1;omega
 ·rw[h3] at h1;exact absurd (by decide) h1
 ·rw[Int.sign_eq_one_of_pos h3]
theorem csgn_eq (x:Rat):(x - x).num.sign=0:=by
 rw[Rat.sub_self];rfl
theorem crossed_sign (x y:Rat):(crossed x y).sign=(x - y).num.sign:=by
 have aa:x < y∨x=y∨y < x:=by
  by_cases h:x < y
  ·exact .inl h
  ·by_cases h2:y < x
   ·exact .inr (.inr h2)
   ·exact .inr (.inl (Rat.le_antisymm (Rat.not_lt.1 h2) (Rat.not_lt.1 h)))
 rcases aa with h | h | h
 ·rw[csgn_lt h];have h1:=crossed_neg.2 h;rcases Int.lt_trichotomy (crossed x y) 0 with h2 | h2 | h2
  ·exact Int.sign_eq_neg_one_of_neg h2
  ·rw[h2] at h1;exact absurd h1 (by decide)
  ·rw[Int.sign_eq_one_of_pos h2] at h1;omega
 ·rw[h,csgn_eq]
  have e:crossed y y=0:=by unfold crossed;omega
  rw[e];rfl
 ·rw[csgn_gt h];have h1:=crossed_pos.2 h;rcases Int.lt_trichotomy (crossed x y) 0 with h2 | h2 | h2
  ·rw[Int.sign_eq_neg_one_of_neg h2] at h1;omega
  ·rw[h2] at h1;exact absurd h1 (by decide)
  ·exact Int.sign_eq_one_of_pos h2
theorem txt_num {s:ByteArray}(h:ratErr s.data.toList=0):∃ q:Rat,s=rs q∧Fits q:=by
 obtain ⟨q,hf,hq⟩:=ratText_of_err h;refine ⟨q,?_,hf⟩;apply ByteArray.ext;apply Array.toList_inj.1;rw[hq,rs_list]
theorem err2_ok {x y:ByteArray}(h:err2 x y=0):∃ p q:Rat,x=rs p∧y=rs q∧Fits p∧Fits q:=by
 unfold err2 at h;split at h
 ·rename_i h1;obtain ⟨p,e1,f1⟩:=txt_num h1;obtain ⟨q,e2,f2⟩:=txt_num h;exact ⟨p,q,e1,e2,f1,f2⟩
 ·rename_i h1;exact absurd h h1
theorem lnum_bad (bad:Int)(want:ByteArray)(w:World)(h:bad≠0):Calls prog 21 #[.string ⟨#[]⟩,.int .i64 bad,.int .i64 bad,.string want] w fun e w'=>e=.returned (.bool true)∧New w w':=by
 have hb:(bad==0)=false:=beq_false_of_ne h;have aa:(bad != 0)=true:=bne_iff_ne.2 h;clear h;go_in;go_wp2_with fail;go_ret;exact ⟨rfl,New.refl _⟩
theorem lnum_ok (big:Bool)(want:ByteArray)(w:World)(hL:∀ W,New w W→Calls prog 104 #[.string want] W (RetNew W (if big=true then 4 else 0))):Calls prog 21 #[.string (if big=true then ⟨#[]⟩ else want),.int .i64 (if big=true then 4 else 0),.int .i64 0,.string want] w fun e w'=>e=.returned (.bool true)∧New w w':=by
 have HN:=hid (New.refl w);replace hL:=hid hL
 cases big with
 | true=>
  go_in;go_wp2_with fail;refine zM (hL _ HN) fun w1 hn=>?_;replace HN:=tW HN hn;clear hn;go_wp2_with fail;go_ret;exact ⟨rfl,HN⟩
 | false=>
  go_in;go_wp2_with fail;refine zM (hL _ HN) fun w1 hn=>?_;replace HN:=tW HN hn;clear hn;go_wp2_with fail;go_ret;exact ⟨rfl,HN⟩
theorem linteger_bad (bad want:Int)(w:World)(h:bad≠0):Calls prog 57 #[.int .i64 0,.int .i64 bad,.int .i64 bad,.int .i64 want] w fun e w'=>e=.returned (.bool true)∧New w w':=by
 have hb:(bad==0)=false:=beq_false_of_ne h;have aa:(bad != 0)=true:=bne_iff_ne.2 h;clear h;go_in;go_wp2_with fail;go_ret;exact ⟨rfl,New.refl _⟩
theorem linteger_ok (want:Int)(w:World):Calls prog 57 #[.int .i64 want,.int .i64 0,.int .i64 0,.int .i64 want] w fun e w'=>e=.returned (.bool true)∧New w w':=by
 have hb:(want==want)=true:=beq_self_eq_true want;go_in;go_wp2_with fail;go_ret;exact ⟨rfl,New.refl _⟩
theorem rdenQ_calls (k:Nat)(q:Rat)(w:World)(hq:RFB k q)(hk:k≤40000):Calls prog 111 #[.string (rs q)] w (RetS w ((q.den:Int):Rat)):=by
 have ad:=hq.len;have aa:=fun W=>rslash_calls (rs q) W (by omega);by_cases hd:q.den=1
 ·have e1:upTo (rs q).data.toList=(rs q).data.toList:=by
   rw[rs_list];unfold ratText;rw[if_pos hd];exact (split_plain (slashed_itoa' _)).1
  have hr:rs (((1:Nat):Int):Rat)=⟨#[49]⟩:=by
   unfold rs;rw[ratText_int,Big.itoa_nonneg,decDigits_one'];rfl
  rw[hd];unfold RetS;rw[hr];rw[e1] at aa;obtain ⟨s,hs⟩:∃ s,rs q=s:=⟨_,rfl⟩;simp only[hs] at aa
  have aa:∀ W,Calls prog 96 #[.string s] W fun e w'=>e=.returned (.int .i64 (s.size:Nat))∧w'=W:=fun W=>(aa W).mono fun e w' h=>by
   rw[h.1,Array.length_toList];exact ⟨rfl,h.2⟩
  rw[hs];clear e1 hr hs ad hq hk hd;have hb:((s.size:Int)==(s.size:Int))=true:=beq_self_eq_true _;have ag:=hid aa;clear aa;go_in;go_wp2_with fail;refine (ag _).mono ?_;rintro e w1 ⟨rfl,ab⟩;rw[ab];clear ab;go_wp2_with fail;go_ret;exact ⟨rfl,New.refl _⟩
 ·have e1:upTo (rs q).data.toList=itoa q.num:=by
   rw[rs_list];unfold ratText;rw[if_neg hd];exact (parts_itoa' _ _).1
  have ac:(rs q).data.toList=itoa q.num ++ 47::decDigits q.den:=by
   rw[rs_list];unfold ratText;rw[if_neg hd]
  have hr:rs ((q.den:Int):Rat)=(rs q).extract ((itoa q.num).length+1) (rs q).size:=by
   apply ByteArray.ext;apply Array.toList_inj.1;rw[rs_list,ratText_int,Big.itoa_nonneg,Lib.extract_to_end,ac];rw[List.drop_append,List.drop_of_length_le (by omega)];simp
  have ae:(itoa q.num).length+1≤(rs q).size:=by
   have:(rs q).data.toList.length=(rs q).size:=by simp
   rw[←this,ac,List.length_append,List.length_cons];omega
  rw[e1]at aa;unfold RetS;rw[hr];obtain ⟨m,hm⟩:∃ m,(itoa q.num).length=m:=⟨_,rfl⟩;obtain ⟨s,hs⟩:∃ s,rs q=s:=⟨_,rfl⟩;rw[hm,hs] at ae;simp only[hm,hs] at aa;rw[hm,hs];rw[hs] at ad;have hb:((m:Int)==(s.size:Int))=false:=beq_false_of_ne (by omega);obtain ⟨m1,af⟩:∃ z,m+1=z:=⟨_,rfl⟩;rw[af]
  have ah:(m:Int)+1=(m1:Int):=by omega
  have ai:(m1:Int)≤(s.size:Int):=by omega
  have aj:(s.size:Int)≤1000000:=by omega
  have ak:IntKind.i64.wrap (m1:Int)=(m1:Int):=by rw[IntKind.wrap_i64];omega
  clear hs hm e1 hr hq hk ad ae hd ac af;replace aa:=hid aa;go_in;go_wp2_with fail;refine (aa _).mono ?_;rintro e w1 ⟨rfl,ab⟩;rw[ab];clear ab;go_wp2_with fail;go_ret;exact ⟨rfl,New.refl _⟩
theorem rs_nat (n:Nat):(rs ((n:Int):Rat)).size=(decDigits n).length:=by
 unfold rs;rw[ratText_int,Big.itoa_nonneg,bs_size]
theorem rlargeQ_calls (k:Nat)(q:Rat)(w:World)(hq:RFB k q)(hk:k≤39000):Calls prog 104 #[.string (rs q)] w (RetNew w (resE q)):=by
 have hn:=fun W=>rnum_calls k q W hq (by omega);have ad:RFB (k+1) ((q.num:Int):Rat):=rfb_int (Nat.lt_of_lt_of_le hq.num (Nat.pow_le_pow_right (by omega) (by omega))) (by omega);have ha:=fun W=>rabs_calls ((q.num:Int):Rat) W (by have:=ad.len;omega);have hd:=fun W=>rdenQ_calls k q W hq (by omega)
 have e1:absQ ((q.num:Int):Rat)=((q.num.natAbs:Int):Rat):=by
  unfold absQ;rw[Rat.num_intCast];split
  ·rw[←Rat.intCast_neg,show -q.num=(q.num.natAbs:Int) by omega]
  ·rw[show (q.num.natAbs:Int)=q.num by omega]
 rw[e1]at ha;have s1:=rs_nat q.num.natAbs;have s2:=rs_nat q.den;rw[decDigits_length] at s1 s2
 have hE:resE q=if 600 < nDigits q.num.natAbs then 4 else if 600 < nDigits q.den then 4 else 0:=by
  unfold resE bigQ;by_cases h1:600 < nDigits q.num.natAbs
  ·simp[h1]
  ·by_cases h2:600 < nDigits q.den
   ·simp[h2]
   ·simp[h1,h2]
 rw[←s1,←s2]at hE;rw[hE];obtain ⟨N,hN⟩:∃ X,rs ((q.num:Int):Rat)=X:=⟨_,rfl⟩;obtain ⟨A,hA⟩:∃ X,rs ((q.num.natAbs:Int):Rat)=X:=⟨_,rfl⟩;obtain ⟨D,hD⟩:∃ X,rs ((q.den:Int):Rat)=X:=⟨_,rfl⟩;have hn:=fun W=>(hn W).mono fun e w' h=>RetS.to hN h;have ha:=fun W=>(ha W).mono fun e w' h=>RetS.to hA h;have hd:=fun W=>(hd W).mono fun e w' h=>RetS.to hD h;simp only[hN] at ha;rw[hA,hD];obtain ⟨s,hs⟩:∃ s,rs q=s:=⟨_,rfl⟩;simp only[hs] at hn hd;rw[hs];clear hN hA hD hs s1 s2 e1 ad hq hk hE;refine zh3 ?_ hn ha hd;clear hn ha hd;intro ab aa ac;by_cases g1:600 < A.size
 ·rw[if_pos g1];have b1:decide ((600:Int) < (A.size:Int))=true:=decide_eq_true (by omega);go_in;go_wp2_with fail;refine zM (ab _) fun w1 hn=>?_;have HN:=hid hn;clear hn;go_wp2_with fail;refine zM (aa _) fun w2 hn=>?_;replace HN:=tW HN hn;clear hn;go_wp2_with fail;go_ret;exact ⟨rfl,HN⟩
 rw[if_neg g1];have b1:decide ((600:Int) < (A.size:Int))=false:=decide_eq_false (by omega);by_cases g2:600 < D.size
 ·rw[if_pos g2];have b2:decide ((600:Int) < (D.size:Int))=true:=decide_eq_true (by omega);go_in;go_wp2_with fail;refine zM (ab _) fun w1 hn=>?_;have HN:=hid hn;clear hn;go_wp2_with fail;refine zM (aa _) fun w2 hn=>?_;replace HN:=tW HN hn;clear hn;go_wp2_with fail;refine zM (ac _) fun w3 hn=>?_;replace HN:=tW HN hn;clear hn;go_wp2_with fail;go_ret;exact ⟨rfl,HN⟩
 ·rw[if_neg g2];have b2:decide ((600:Int) < (D.size:Int))=false:=decide_eq_false (by omega);go_in;go_wp2_with fail;refine zM (ab _) fun w1 hn=>?_;have HN:=hid hn;clear hn;go_wp2_with fail;refine zM (aa _) fun w2 hn=>?_;replace HN:=tW HN hn;clear hn;go_wp2_with fail;refine zM (ac _) fun w3 hn=>?_;replace HN:=tW HN hn;clear hn;go_wp2_with fail;go_ret;exact ⟨rfl,HN⟩
end Go.Proofs.YtnjonlnemagomaaGreatDoor
