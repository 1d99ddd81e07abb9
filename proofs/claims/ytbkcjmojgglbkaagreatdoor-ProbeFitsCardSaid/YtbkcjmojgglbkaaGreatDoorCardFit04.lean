/- Part CardFit04. -/
import Derived.Test.YtbkcjmojgglbkaaGreatDoorCardFit03
namespace Go.Proofs.YtbkcjmojgglbkaaGreatDoor
open Go.RowKit Big Go.Lib
set_option maxRecDepth 100000
set_option maxHeartbeats 8000000
theorem rslash_wide (s:ByteArray)(w:World)(hl:s.size≤9223372036854775807):
  Calls Tryz.prog 79 #[.string s] w fun e w'=>e=.returned (.int .i64 ((upTo s.data.toList).length:Nat))∧w'=w:=by
 obtain ⟨m,hm⟩:∃ m,(upTo s.data.toList).length=m:=⟨_,rfl⟩;have h1:=sl_len s.data.toList;have hin:=fun k=>upTo_in (l:=s.data.toList) (k:=k)
 have hlen:s.data.toList.length=s.size:=by simp
 have hat:m < s.size→s.data.toList[m]?=some 47:=fun h=>by
  have:=upTo_at (l:=s.data.toList) (by rw[hm,hlen];exact h)
  rwa [hm] at this
 simp only[hm]at hin;rw[hm] at h1⊢;rw[hlen] at h1;clear hm hlen;have HIN:=hid hin;have HAT:=hid hat;clear hin hat;go_enter Tryz.func79,Tryz.ntmps79;go_wp2
 go_loop [3] (fun i=>∃ k:Nat,k≤m∧i=.int .i64 k) (fun i=>s.size - (RowKit.intOf i).toNat)
 case atStart=>exact ⟨0,Nat.zero_le _,rfl⟩
 case round=>
  obtain ⟨k,hk,rfl⟩:=hrel;by_cases hlt:k < m
  ·have hks:k < s.size:=by omega
   obtain ⟨c,hc1,hne⟩:=HIN.out k hlt;obtain ⟨h',hc2⟩:=byte_at s hc1
   have hc:¬(s[k].toNat:Int)=47:=by
    intro h;refine hne (UInt8.toNat_inj.1 ?_);rw[←hc2];show s[k].toNat=47;omega
   have hcb:((s[k].toNat:Int)==47)=false:=beq_eq_false_iff_ne.2 hc;clear hne hc1 hc2;go_wp2;go_round
   case rel=>exact ⟨k+1,by omega,by go_num⟩
   case measure=>simp[RowKit.intOf];omega
  ·obtain rfl:k=m:=by omega
   by_cases hks:k < s.size
   ·have h47:=HAT.out hks;obtain ⟨h',hc2⟩:=byte_at s h47
    have hc:(s[k].toNat:Int)=47:=by rw[hc2];rfl
    have hcb:((s[k].toNat:Int)==47)=true:=beq_iff_eq.2 hc;clear h47 hc2;go_wp2;go_ret;exact ⟨rfl,rfl⟩
   ·have hks:k=s.size:=by omega
    subst hks;go_wp2;go_ret;exact ⟨rfl,rfl⟩
theorem rdigits_wide (s:ByteArray)(w:World)(hl:s.size≤9223372036854775807):Calls Tryz.prog 143 #[.string s] w fun e w'=>e=.returned (.bool (s.data.toList.all isDig))∧w'=w:=by
 obtain ⟨b,hb⟩:∃ b,s.data.toList.all isDig=b:=⟨_,rfl⟩;rw[hb];have HB:=hid hb;clear hb;go_enter Tryz.func143,Tryz.ntmps143;go_wp2
 go_loop [3] (fun i=>∃ k:Nat,k≤s.size∧i=.int .i64 k∧Hid (∀ c∈s.data.toList.take k,isDig c=true)) (fun i=>s.size - (RowKit.intOf i).toNat)
 case atStart=>exact ⟨0,Nat.zero_le _,rfl,hid (fun c hc=>by simp at hc)⟩
 case round=>
  obtain ⟨k,hk,rfl,HD⟩:=hrel;by_cases hlt:k < s.size
  ·have hts:=take_snoc s k hlt;obtain ⟨c,hc⟩:∃ c,s[k]=c:=⟨_,rfl⟩;by_cases hdig:isDig s[k]=true
   ·have h1:=isDig_iff.1 hdig
    have h48:¬((s[k].toNat:Int) < 48):=by omega
    have h57:¬((57:Int) < (s[k].toNat:Int)):=by omega
    have hnx:∀ c∈s.data.toList.take (k+1),isDig c=true:=by
     rw[hts];intro x hx;rcases List.mem_append.1 hx with hx | hx
     ·exact HD.out x hx
     ·rw[List.mem_singleton] at hx;rw[hx];exact hdig
    clear hts hc h1 hdig;have HNX:=hid hnx;clear hnx;go_wp2;go_round
    case rel=>exact ⟨k+1,by omega,by go_num,HNX⟩
    case measure=>simp[RowKit.intOf];omega
   ·have hf:b=false:=by
     rw[←HB.out,List.all_eq_false]
     exact ⟨s[k],by
      have:s[k]=s.data.toList[k]'(by simpa using hlt):=rfl;rw[this]
      exact List.getElem_mem _,by simpa using hdig⟩
    have hnd:¬(48≤s[k].toNat∧s[k].toNat≤57):=fun h=>hdig (isDig_iff.2 h);clear hts hc hdig;have HF:=hid hf;clear hf;by_cases h48:(s[k].toNat:Int) < 48
    ·clear hnd;go_wp2;go_ret;exact ⟨by rw[HF.out];rfl,rfl⟩
    ·have h57:(57:Int) < (s[k].toNat:Int):=by omega
     clear hnd;go_wp2;go_ret;exact ⟨by rw[HF.out];rfl,rfl⟩
  ·have hf:b=true:=by
    rw[←HB.out,List.all_eq_true];have:=HD.out;rw[List.take_of_length_le (by simp;omega)] at this;exact this
   have HF:=hid hf;clear hf;go_wp2;go_ret;exact ⟨by rw[HF.out];rfl,rfl⟩
theorem rdecform_wide (s:ByteArray)(w:World)(hl:s.size≤9223372036854775807):Calls Tryz.prog 80 #[.string s] w fun e w'=>e=.returned (.bool (isDec s.data.toList))∧w'=w:=by
 have hdg:=fun W=>rdigits_wide s W hl;obtain ⟨b,hb⟩:∃ b,isDec s.data.toList=b:=⟨_,rfl⟩;rw[hb]
 have hlen:s.data.toList.length=s.size:=by simp
 by_cases h0:s.size=0
 ·have hf:b=false:=by
   rw[←hb,List.eq_nil_of_length_eq_zero (l:=s.data.toList) (by rw[hlen];exact h0)];rfl
  have h0b:((s.size:Int)==0)=true:=beq_iff_eq.2 (by omega);rw[hf];clear hb hlen hdg;go_enter Tryz.func80,Tryz.ntmps80;go_wp2_with fail;go_ret;exact ⟨rfl,rfl⟩
 have hp:0 < s.size:=by omega
 have h0b:((s.size:Int)==0)=false:=beq_eq_false_iff_ne.2 (by omega)
 have hhead:s.data.toList.head?=some (s[0]'hp):=by
  rw[List.head?_eq_getElem?,List.getElem?_eq_getElem (by rw[hlen];exact hp)];rfl
 have hne:s.data.toList.isEmpty=false:=by
  rw[List.isEmpty_eq_false_iff];intro e;rw[e] at hhead
  cases hhead
 by_cases h1:1 < s.size∧(s[0]'hp).toNat=48
 ·obtain ⟨h1,h48⟩:=h1
  have hf:b=false:=by
   rw[←hb];unfold isDec;rw[hhead,show s[0]'hp=48 from UInt8.toNat_inj.1 h48]
   have:(s.data.toList==[48])=false:=by
    rw[beq_eq_false_iff_ne];intro e;have:=congrArg List.length e;rw[hlen] at this;simp at this;omega
   rw[this];simp
  have h1i:(1:Int) < (s.size:Int):=by omega
  have h1b:decide ((1:Int) < (s.size:Int))=true:=decide_eq_true h1i
  have hci:((s[0]'hp).toNat:Int)=48:=by omega
  have hcb:(((s[0]'hp).toNat:Int)==48)=true:=beq_iff_eq.2 hci;rw[hf];clear hb hlen hdg hhead hne h48;go_enter Tryz.func80,Tryz.ntmps80;go_wp2_with fail;go_ret;exact ⟨rfl,rfl⟩
 ·have hbe:s.data.toList.all isDig=b:=by
   rw[←hb];unfold isDec;rw[hne]
   have:(s.data.toList.head? != some 48 || s.data.toList==[48])=true:=by
    rw[hhead];by_cases h48:(s[0]'hp).toNat=48
    ·have h2:s.size=1:=by
      rcases Nat.lt_or_ge 1 s.size with h | h
      ·exact absurd ⟨h,h48⟩ h1
      ·omega
     have:s.data.toList=[48]:=by
      cases hd:s.data.toList with
      | nil=>rw[hd] at hlen;simp at hlen;omega
      | cons c l=>
       rw[hd]at hlen hhead;simp only[List.head?_cons,Option.some.injEq] at hhead;simp only[List.length_cons] at hlen;have hl0:l=[]:=List.eq_nil_of_length_eq_zero (by omega);rw[hhead,hl0,show s[0]'hp=48 from UInt8.toNat_inj.1 h48]
     rw[this];simp
    ·have:(some (s[0]'hp) != some (48:UInt8))=true:=by
      simp only[bne_iff_ne,ne_eq,Option.some.injEq];intro e;exact h48 (by rw[e];rfl)
     rw[this];rfl
   rw[this];simp
  rw[hbe]at hdg;clear hb hlen hhead hne hbe;by_cases h1s:1 < s.size
  ·have hci:¬((s[0]'hp).toNat:Int)=48:=by
    intro h;exact h1 ⟨h1s,by omega⟩
   have hcb:(((s[0]'hp).toNat:Int)==48)=false:=beq_eq_false_iff_ne.2 hci
   have h1i:(1:Int) < (s.size:Int):=by omega
   have h1b:decide ((1:Int) < (s.size:Int))=true:=decide_eq_true h1i;clear h1;have HDG:=hid hdg;clear hdg;go_enter Tryz.func80,Tryz.ntmps80;go_wp2_with fail;refine (HDG.out _).mono ?_;rintro e w1 ⟨rfl,hw⟩;rw[hw];clear hw;go_wp2_with fail;go_ret;exact ⟨rfl,rfl⟩
  ·have h1i:¬(1:Int) < (s.size:Int):=by omega
   have h1b:decide ((1:Int) < (s.size:Int))=false:=decide_eq_false h1i;clear h1;have HDG:=hid hdg;clear hdg;go_enter Tryz.func80,Tryz.ntmps80;go_wp2_with fail;refine (HDG.out _).mono ?_;rintro e w1 ⟨rfl,hw⟩;rw[hw];clear hw;go_wp2_with fail;go_ret;exact ⟨rfl,rfl⟩
end Go.Proofs.YtbkcjmojgglbkaaGreatDoor
