/- Part B31. -/
import Derived.Test.YtnjonlnemagomaaGreatDoorB26
namespace Go.Proofs.YtnjonlnemagomaaGreatDoor
open Go.RowKit Big Go.Lib Tryz
set_option maxRecDepth 100000
set_option maxHeartbeats 8000000
set_option linter.all false
def absQ (q:Rat):Rat:=if q.num < 0 then -q else q
theorem rabs_calls (q:Rat)(w:World)(_hl:(rs q).size≤1000000):Calls prog 34 #[.string (rs q)] w (RetS w (absQ q)):=by
 have aa:=fun W=>rsign_calls q W;by_cases h:q.num < 0
 ·have hq:absQ q= -q:=by unfold absQ;rw[if_pos h]
  rw[Int.sign_eq_neg_one_of_neg h]at aa;obtain ⟨s,hs, -,ad,h0, -⟩:=rs_facts_neg h
  have hr:rs (-q)=s.extract 1 s.size:=by
   apply ByteArray.ext;apply Array.toList_inj.1;rw[rs_list,Lib.extract_to_end,ad];rfl
  have h1:(1:Int)≤(s.size:Int):=by omega
  rw[hq];rw[hs] at aa⊢;clear hs h ad _hl h0 hq;have af:=hid aa;have HR:=hid hr;clear aa hr;go_in;go_wp2_with fail;refine (af _).mono ?_;rintro e w1 ⟨rfl,ac⟩;rw[ac];clear ac;go_wp2_with fail;go_ret;exact ⟨by rw[HR.out];rfl,New.refl _⟩
 ·have hq:absQ q=q:=by unfold absQ;rw[if_neg h]
  rw[hq];have ae:¬q.num.sign < 0:=fun h2=>h (Int.sign_neg_iff.1 h2);obtain ⟨sg,ab⟩:∃ sg,q.num.sign=sg:=⟨_,rfl⟩;simp only[ab] at aa;rw[ab] at ae;have ah:decide (sg < 0)=false:=decide_eq_false ae;obtain ⟨s,hs⟩:∃ s,rs q=s:=⟨_,rfl⟩;have hr:rs q=s:=hs;rw[hs] at aa;have ag:=hs;unfold RetS;rw[hs];clear hs ag h hq ab _hl hr;replace aa:=hid aa;go_in;go_wp2_with fail;refine (aa _).mono ?_;rintro e w1 ⟨rfl,ac⟩;rw[ac];clear ac;go_wp2_with fail;go_ret;exact ⟨rfl,New.refl _⟩
theorem rnum_calls (k:Nat)(q:Rat)(w:World)(hq:RFB k q)(hk:k≤40000):Calls prog 110 #[.string (rs q)] w (RetS w (q.num:Rat)):=by
 have ad:=hq.len;have aa:=fun W=>rslash_calls (rs q) W (by omega)
 have e1:upTo (rs q).data.toList=itoa q.num:=by
  rw[rs_list];unfold ratText;split
  ·exact (split_plain (slashed_itoa' _)).1
  ·exact (parts_itoa' _ _).1
 have h1:=itoa_len2 hq.num
 have ab:(itoa q.num).length≤(rs q).size:=by
  have:=sl_len (rs q).data.toList;rw[e1] at this;simpa using this
 simp only[e1]at aa
 have hr:rs (q.num:Rat)=(rs q).extract 0 (itoa q.num).length:=by
  apply ByteArray.ext;apply Array.toList_inj.1;rw[rs_list,ratText_int,Lib.extract_data];show _=((rs q).data.toList.take _);rw[rs_list];unfold ratText;split
  ·rw[Nat.sub_zero,List.take_length]
  ·rw[Nat.sub_zero,List.take_left]
 obtain ⟨m,hm⟩:∃ m,(itoa q.num).length=m:=⟨_,rfl⟩;obtain ⟨s,hs⟩:∃ s,rs q=s:=⟨_,rfl⟩;unfold RetS;rw[hm,hs] at hr;rw[hm,hs] at ab;simp only[hm,hs] at aa;rw[hs,hr]
 have ae:(m:Int)≤(s.size:Int):=by omega
 clear hs hm e1 h1 hr hq hk ad ab;replace aa:=hid aa;go_in;go_wp2_with fail;refine (aa _).mono ?_;rintro e w1 ⟨rfl,ac⟩;rw[ac];clear ac;go_wp2_with fail;go_ret;exact ⟨rfl,New.refl _⟩
theorem sign_le {x y:Rat}:(x - y).num.sign≤0 ↔ x≤y:=by
 have h1:(x - y).num.sign≤0 ↔ (x - y).num≤0:=by
  rcases Int.lt_trichotomy (x - y).num 0 with h | h | h
  ·rw[Int.sign_eq_neg_one_of_neg h];omega
  ·rw[h];decide
  ·rw[Int.sign_eq_one_of_pos h];omega
 rw[h1]
 have h2:(x - y).num≤0 ↔ 0≤(y - x).num:=by
  rw[←Rat.neg_sub,Rat.neg_num];omega
 rw[h2,Rat.num_nonneg,←Rat.le_iff_sub_nonneg]
theorem FB.minR {k:Nat}{x y:Rat}(hx:FB k x)(hy:FB k y):FB k (minR x y):=by unfold Go.Proofs.YtnjonlnemagomaaGreatDoor.minR;split <;> assumption
theorem FB.maxR {k:Nat}{x y:Rat}(hx:FB k x)(hy:FB k y):FB k (maxR x y):=by unfold Go.Proofs.YtnjonlnemagomaaGreatDoor.maxR;split <;> assumption
end Go.Proofs.YtnjonlnemagomaaGreatDoor
