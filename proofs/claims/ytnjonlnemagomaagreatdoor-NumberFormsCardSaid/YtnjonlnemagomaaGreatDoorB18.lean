/- Part B18. -/
import Derived.WalkSpells
import Derived.Laws.AppendOwn
import Derived.Test.YtnjonlnemagomaaGreatDoorB17
namespace Go.Proofs.YtnjonlnemagomaaGreatDoor
open Go.RowKit Big Go.Lib
set_option maxRecDepth 100000
set_option maxHeartbeats 8000000
def bs (l:List UInt8):ByteArray:=⟨l.toArray⟩
theorem y1d (l:List UInt8):(bs l).size=l.length:=by simp[bs,ByteArray.size]
theorem ybv (l:List UInt8):(bs l).data.toList=l:=by simp[bs]
theorem y2b (a b:List UInt8):bs a ++ bs b=bs (a ++ b):=by apply ByteArray.ext;simp[bs,ByteArray.data_append]
theorem yp7:∀ d,d < 10->(⟨#[48,49,50,51,52,53,54,55,56,57]⟩:ByteArray).extract d (d+1)=bs [UInt8.ofNat (48+d)]:=by
 intro d hd;apply ByteArray.ext
 have:∀ d,d < 10->(#[48,49,50,51,52,53,54,55,56,57]:Array UInt8).extract d (d+1)=#[UInt8.ofNat (48+d)]:=by decide
 simpa[bs] using this d hd
theorem div10 (s:Nat):∃ q r:Nat,s / 10=q/\s % 10=r/\r < 10/\(s:Int) / 10=(q:Int)/\Int.tdiv (s:Int) 10=(q:Int)/\Int.tmod (s:Int) 10=(r:Int)/\(s:Int) % 10=(r:Int):=by
 refine ⟨s / 10,s % 10,rfl,rfl,by omega,by omega,?_,?_,by omega⟩
 ·rw[Int.tdiv_eq_ediv_of_nonneg (by omega)];omega
 ·rw[Int.tmod_eq_emod_of_nonneg (by omega)];omega
theorem y6g.le {n0 least i n:Nat}(h:y6g n0 least i n)(hl:least<=9)(hn:n0 < 9223372036854775808):i<=20:=by
 rcases h.few with h1 | h1
 ·omega
 ·rcases Nat.lt_or_ge 20 i with h2 | h2
  ·exfalso;have:=Nat.pow_le_pow_right (n:=10) (by omega) (show 19<=i - 1 by omega);omega
  ·omega
def lenS:Value->Nat
 | .string s=>s.size
 | _=>0
def yp0 (w:World)(n0 least:Nat)(e:Ending)(w':World):Prop:=∃ i n,e=.returned (.string (bs (y0g i n0)))/\New w w'/\y6g n0 least i n/\n=0/\least<=i
theorem y8c (n0 least:Nat)(w:World)(hn0:n0 < 9223372036854775808)(hl:least<=9):
  Calls Tryz.prog 151 #[.int .i64 (n0:Int),.int .i64 (least:Int)] w (yp0 w n0 least):=by
 have hn0i:(n0:Int) < 9223372036854775808:=by omega
 have HN0:=hid hn0;clear hn0;go_enter Tryz.func151,Tryz.ntmps151;go_wp2_with fail;go_loopw [0,5] (fun sn ss wr=>∃ (n i:Nat),sn=.int .i64 (n:Int)/\ss=.string (bs (y0g i n0))/\n<=n0/\Hid (y6g n0 least i n)/\Hid (New w wr)) (fun sn ss _=>(RowKit.intOf sn).toNat+(least - lenS ss))
 case atStart=>exact ⟨n0,0,rfl,rfl,Nat.le_refl _,hid (y6g.start _ _),hid (New.refl _)⟩
 case round=>
  obtain ⟨n,i,rfl,rfl,hnn,HD,HN⟩:=hrel;obtain ⟨S,hS⟩:∃ S,bs (y0g i n0)=S:=⟨_,rfl⟩
  have hsz:S.size=i:=by rw[<-hS,y1d,y2y]
  have hi20:=HD.out.le hl HN0.out;rw[hS];obtain ⟨q,d,hq,hd,hd10,e1,e2,e3,e4⟩:=div10 n
  have hszi:(S.size:Int)<=20:=by omega
  have hni:(n:Int)<=(n0:Int):=by omega
  by_cases hgo:0 < n\/i < least
  ·have hcut:=yp7 d hd10;have hnx:=HD.out.next hgo;rw[hq] at hnx
   have hpd:bs [UInt8.ofNat (48+d)] ++ S=bs (y0g (i+1) n0):=by
    rw[<-hS,y2b,ya7,<-HD.out.now,hd];rfl
   have hqn:q<=n0:=by omega
   obtain ⟨C,hC⟩:∃ C,bs [UInt8.ofNat (48+d)]=C:=⟨_,rfl⟩
   have hcs:C.size=1:=by rw[<-hC,y1d];rfl
   rw[hC]at hcut hpd
   have hq63:¬9223372036854775807 < C.size+S.size:=by omega
   have hqi:(q:Int) < 9223372036854775808:=by omega
   have hdi:(d:Int) < 10:=by omega
   have hm:q+(least - (i+1)) < n+(least - i):=by omega
   clear hC hS hq hd hd10 hi20 hnn;have hsl:lenS (.string S)=i:=hsz
   have hsm:lenS (.string (C ++ S))=i+1:=by show (C ++ S).size=_;rw[ByteArray.size_append,hcs,hsz];omega
   have HNX:=hid hnx;have HPD:=hid hpd;have HQN:=hid hqn;have HM:=hid hm;have HCS:=hid hcs;have HSL:=hid hsl;have HSM:=hid hsm;clear hnx hpd hqn hm hcs hsl hsm;rcases hgo with hgo | hgo
   ·clear hsz
    have h0:(0:Int) < (n:Int):=by omega
    have h0b:decide ((0:Int) < (n:Int))=true:=decide_eq_true h0;go_wp2_with fail;go_roundw
    case rel=>exact ⟨q,i+1,rfl,by rw[HPD.out],HQN.out,HNX,HN⟩
    case measure=>
     have h1:=HSL.out;have h2:=HSM.out;have h3:=HM.out;simp[RowKit.intOf,h1,h2];omega
   ·by_cases hn00:0 < n
    ·clear hsz
     have h0:(0:Int) < (n:Int):=by omega
     have h0b:decide ((0:Int) < (n:Int))=true:=decide_eq_true h0;go_wp2_with fail;go_roundw
     case rel=>exact ⟨q,i+1,rfl,by rw[HPD.out],HQN.out,HNX,HN⟩
     case measure=>
      have h1:=HSL.out;have h2:=HSM.out;have h3:=HM.out;simp[RowKit.intOf,h1,h2];omega
    ·have h0:¬(0:Int) < (n:Int):=by omega
     have h0b:decide ((0:Int) < (n:Int))=false:=decide_eq_false h0
     have h1:(S.size:Int) < (least:Int):=by have:=hsz;omega
     have h1b:decide ((S.size:Int) < (least:Int))=true:=decide_eq_true h1;clear hsz;go_wp2_with fail;go_roundw
     case rel=>exact ⟨q,i+1,rfl,by rw[HPD.out],HQN.out,HNX,HN⟩
     case measure=>
      have h1:=HSL.out;have h2:=HSM.out;have h3:=HM.out;simp[RowKit.intOf,h1,h2];omega
  ·have hn0':n=0:=by omega
   subst hn0'
   have h1:¬(S.size:Int) < (least:Int):=by omega
   have h1b:decide ((S.size:Int) < (least:Int))=false:=decide_eq_false h1
   have hli:least<=i:=by omega
   clear hgo e1 e2 e3 e4 hsz hi20;have HS:=hid hS;have HLI:=hid hli;clear hS hli;go_wp2_with fail;go_ret;exact ⟨i,0,by rw[HS.out];rfl,HN.out,HD.out,rfl,HLI.out⟩
theorem y1e (n0:Nat)(w:World)(hn0:n0 < 9223372036854775808):
  Calls Tryz.prog 151 #[.int .i64 (n0:Int),.int .i64 1] w fun e w'=>e=.returned (.string (bs (decDigits n0)))/\New w w':=
 (y8c n0 1 w hn0 (by omega)).mono fun e w' ⟨i,n,h1,h2,h3,h4,h5⟩=>⟨by rw[h1,h3.one h4 h5],h2⟩
theorem y72 (n0:Nat)(w:World)(hn0:n0 < 1000000000):
  Calls Tryz.prog 151 #[.int .i64 (n0:Int),.int .i64 9] w fun e w'=>e=.returned (.string (bs (y0g 9 n0)))/\New w w':=
 (y8c n0 9 w (by omega) (by omega)).mono fun e w' ⟨i,n,h1,h2,h3,h4,h5⟩=>⟨by rw[h1,h3.nine h4 h5 hn0],h2⟩
theorem ydi (s:ByteArray)(k:Nat)(h:k < s.size):s.data.toList.take (k+1)=s.data.toList.take k ++ [s[k]]:=by
 rw[List.take_succ_eq_append_getElem (by simpa using h)];rfl
theorem y37 (s:ByteArray)(l:List UInt8)(w:World)(hs:s.data.toList=l)(hd:∀ c∈l,y0z c=true)(hl:l.length<=18):
  Calls Tryz.prog 186 #[.string s] w fun e w'=>e=.returned (.int .i64 (dval 0 l:Nat))/\w'=w:=by
 subst hs
 have hsz:s.size<=18:=by simpa using hl
 have hbd:∀ k,dval 0 (s.data.toList.take k) < 1000000000000000000:=fun k=>by
  have h1:=y4g (l:=s.data.toList.take k) fun c hc=>hd c (List.mem_of_mem_take hc);have h2:10^(s.data.toList.take k).length<=10^18:=Nat.pow_le_pow_right (by omega) (by rw[List.length_take];omega);omega
 have HD:=hid hd;have HBD:=hid hbd;clear hd hbd;go_enter Tryz.func186,Tryz.ntmps186;go_wp2
 go_loop [3,4] (fun n i=>∃ k:Nat,k<=s.size/\i=.int .i64 k/\n=.int .i64 (dval 0 (s.data.toList.take k):Nat)) (fun _ i=>s.size - (RowKit.intOf i).toNat)
 case atStart=>exact ⟨0,Nat.zero_le _,rfl,rfl⟩
 case round=>
  obtain ⟨k,hk,rfl,rfl⟩:=hrel;by_cases hlt:k < s.size
  ·have hts:=ydi s k hlt
   have hc:=y2h.1 (HD.out s[k] (by
    have:s[k]=s.data.toList[k]'(by simpa using hlt):=rfl;rw[this]
    exact List.getElem_mem _))
   have hx:=HBD.out k
   have hv:dval 0 (s.data.toList.take (k+1))=10*dval 0 (s.data.toList.take k)+(s[k].toNat - 48):=by rw[hts,y4f,y2w,y3d]
   obtain ⟨x,hxx⟩:∃ x,dval 0 (s.data.toList.take k)=x:=⟨_,rfl⟩;rw[hxx] at hv hx
   have hx':(x:Int) < 100000000000000000:=by
    have h1:=HBD.out (k+1);rw[hv] at h1;omega
   have h48:48<=(s[k].toNat:Int):=by omega
   have h57:(s[k].toNat:Int)<=57:=by omega
   have hvi:((dval 0 (s.data.toList.take (k+1)):Nat):Int)=10*(x:Int)+(s[k].toNat:Int) - 48:=by rw[hv];omega
   rw[hxx];clear hts hc hv hx hxx;have HVI:=hid hvi;clear hvi;go_wp2;go_round
   case rel=>exact ⟨k+1,by omega,by go_num,by first | (rw[HVI.out];done) | (rw[HVI.out];go_num)⟩
   case measure=>simp[RowKit.intOf];omega
  ·go_wp2;go_ret;exact ⟨by rw[List.take_of_length_le (by simp;omega)];rfl,rfl⟩
theorem yej (l:List UInt8):(upTo l).length<=l.length:=by
 unfold upTo;exact (List.takeWhile_sublist _).length_le
theorem yl0:∀ {l:List UInt8} {k:Nat},k < (upTo l).length->∃ c,l[k]?=some c/\c≠47
 | [],k,h=>by simp[upTo] at h
 | c::l,k,h=>by
  by_cases hc:c=47
  ·subst hc;simp[upTo] at h
  ·have e:upTo (c::l)=c::upTo l:=by simp[upTo,hc]
   rw[e]at h
   match k,h with
   | 0,_=>exact ⟨c,rfl,hc⟩
   | k+1,h=>exact yl0 (l:=l) (k:=k) (by simpa using h)
theorem yo5 {l:List UInt8}(h:(upTo l).length < l.length):l[(upTo l).length]?=some 47:=by
 cases hs:y0e l with
 | true=>
  have e:=y1y hs;obtain ⟨a,ha⟩:∃ a,upTo l=a:=⟨_,rfl⟩;obtain ⟨b,hb⟩:∃ b,behind l=b:=⟨_,rfl⟩;rw[ha,hb] at e;rw[ha,e];simp
 | false=>
  have e:=(y0x hs).1;rw[e] at h;omega
theorem byte_at (s:ByteArray){k:Nat}{c:UInt8}(h:s.data.toList[k]?=some c):∃ h':k < s.size,s[k]'h'=c:=by
 obtain ⟨h1,h2⟩:=List.getElem?_eq_some_iff.1 h;exact ⟨by simpa using h1,h2⟩
theorem y2i (s:ByteArray)(w:World)(hl:s.size<=1000000):
  Calls Tryz.prog 96 #[.string s] w fun e w'=>e=.returned (.int .i64 ((upTo s.data.toList).length:Nat))/\w'=w:=by
 obtain ⟨m,hm⟩:∃ m,(upTo s.data.toList).length=m:=⟨_,rfl⟩;have h1:=yej s.data.toList;have hin:=fun k=>yl0 (l:=s.data.toList) (k:=k)
 have hlen:s.data.toList.length=s.size:=by simp
 have hat:m < s.size->s.data.toList[m]?=some 47:=fun h=>by
  have:=yo5 (l:=s.data.toList) (by rw[hm,hlen];exact h)
  rwa [hm] at this
 simp only[hm]at hin;rw[hm] at h1⊢;rw[hlen] at h1;clear hm hlen;have HIN:=hid hin;have HAT:=hid hat;clear hin hat;go_enter Tryz.func96,Tryz.ntmps96;go_wp2
 go_loop [3] (fun i=>∃ k:Nat,k<=m/\i=.int .i64 k) (fun i=>s.size - (RowKit.intOf i).toNat)
 case atStart=>exact ⟨0,Nat.zero_le _,rfl⟩
 case round=>
  obtain ⟨k,hk,rfl⟩:=hrel;by_cases hlt:k < m
  ·have hks:k < s.size:=by omega
   obtain ⟨c,hc1,hne⟩:=HIN.out k hlt;obtain ⟨h',hc2⟩:=byte_at s hc1
   have hc:¬(s[k].toNat:Int)=47:=by
    intro h;refine hne (UInt8.toNat_inj.1 ?_);rw[<-hc2];show s[k].toNat=47;omega
   have hcb:((s[k].toNat:Int)==47)=false:=beq_eq_false_iff_ne.2 hc;clear hne hc1 hc2;go_wp2;go_round
   case rel=>exact ⟨k+1,by omega,by go_num⟩
   case measure=>simp[RowKit.intOf];omega
  ·obtain rfl:k=m:=by omega
   by_cases hks:k < s.size
   ·have h47:=HAT.out hks;obtain ⟨h',hc2⟩:=byte_at s h47
    have hc:(s[k].toNat:Int)=47:=by rw[hc2];rfl
    have hcb:((s[k].toNat:Int)==47)=true:=beq_iff_eq.2 hc;clear h47 hc2;go_wp2;go_ret;exact ⟨rfl,rfl⟩
   ·have hks:k=s.size:=by omega
    subst hks;go_wp2;go_ret;exact ⟨rfl,rfl⟩
theorem ybp (s:ByteArray)(w:World)(hl:s.size<=1000000):Calls Tryz.prog 169 #[.string s] w fun e w'=>e=.returned (.bool (s.data.toList.all y0z))/\w'=w:=by
 obtain ⟨b,hb⟩:∃ b,s.data.toList.all y0z=b:=⟨_,rfl⟩;rw[hb];have HB:=hid hb;clear hb;go_enter Tryz.func169,Tryz.ntmps169;go_wp2
 go_loop [3] (fun i=>∃ k:Nat,k<=s.size/\i=.int .i64 k/\Hid (∀ c∈s.data.toList.take k,y0z c=true)) (fun i=>s.size - (RowKit.intOf i).toNat)
 case atStart=>exact ⟨0,Nat.zero_le _,rfl,hid (fun c hc=>by simp at hc)⟩
 case round=>
  obtain ⟨k,hk,rfl,HD⟩:=hrel;by_cases hlt:k < s.size
  ·have hts:=ydi s k hlt;obtain ⟨c,hc⟩:∃ c,s[k]=c:=⟨_,rfl⟩;by_cases hdig:y0z s[k]=true
   ·have h1:=y2h.1 hdig
    have h48:¬((s[k].toNat:Int) < 48):=by omega
    have h57:¬((57:Int) < (s[k].toNat:Int)):=by omega
    have hnx:∀ c∈s.data.toList.take (k+1),y0z c=true:=by
     rw[hts];intro x hx;rcases List.mem_append.1 hx with hx | hx
     ·exact HD.out x hx
     ·rw[List.mem_singleton] at hx;rw[hx];exact hdig
    clear hts hc h1 hdig;have HNX:=hid hnx;clear hnx;go_wp2;go_round
    case rel=>exact ⟨k+1,by omega,by go_num,HNX⟩
    case measure=>simp[RowKit.intOf];omega
   ·have hf:b=false:=by
     rw[<-HB.out,List.all_eq_false]
     exact ⟨s[k],by
      have:s[k]=s.data.toList[k]'(by simpa using hlt):=rfl;rw[this]
      exact List.getElem_mem _,by simpa using hdig⟩
    have hnd:¬(48<=s[k].toNat/\s[k].toNat<=57):=fun h=>hdig (y2h.2 h);clear hts hc hdig;have HF:=hid hf;clear hf;by_cases h48:(s[k].toNat:Int) < 48
    ·clear hnd;go_wp2;go_ret;exact ⟨by rw[HF.out];rfl,rfl⟩
    ·have h57:(57:Int) < (s[k].toNat:Int):=by omega
     clear hnd;go_wp2;go_ret;exact ⟨by rw[HF.out];rfl,rfl⟩
  ·have hf:b=true:=by
    rw[<-HB.out,List.all_eq_true];have:=HD.out;rw[List.take_of_length_le (by simp;omega)] at this;exact this
   have HF:=hid hf;clear hf;go_wp2;go_ret;exact ⟨by rw[HF.out];rfl,rfl⟩
theorem y3t (s:ByteArray)(w:World)(hl:s.size<=1000000):Calls Tryz.prog 97 #[.string s] w fun e w'=>e=.returned (.bool (y2f s.data.toList))/\w'=w:=by
 have hdg:=fun W=>ybp s W hl;obtain ⟨b,hb⟩:∃ b,y2f s.data.toList=b:=⟨_,rfl⟩;rw[hb]
 have hlen:s.data.toList.length=s.size:=by simp
 by_cases h0:s.size=0
 ·have hf:b=false:=by
   rw[<-hb,List.eq_nil_of_length_eq_zero (l:=s.data.toList) (by rw[hlen];exact h0)];rfl
  have h0b:((s.size:Int)==0)=true:=beq_iff_eq.2 (by omega);rw[hf];clear hb hlen hdg;go_enter Tryz.func97,Tryz.ntmps97;go_wp2_with fail;go_ret;exact ⟨rfl,rfl⟩
 have hp:0 < s.size:=by omega
 have h0b:((s.size:Int)==0)=false:=beq_eq_false_iff_ne.2 (by omega)
 have hhead:s.data.toList.head?=some (s[0]'hp):=by
  rw[List.head?_eq_getElem?,List.getElem?_eq_getElem (by rw[hlen];exact hp)];rfl
 have hne:s.data.toList.isEmpty=false:=by
  rw[List.isEmpty_eq_false_iff];intro e;rw[e] at hhead
  cases hhead
 by_cases h1:1 < s.size/\(s[0]'hp).toNat=48
 ·obtain ⟨h1,h48⟩:=h1
  have hf:b=false:=by
   rw[<-hb];unfold y2f;rw[hhead,show s[0]'hp=48 from UInt8.toNat_inj.1 h48]
   have:(s.data.toList==[48])=false:=by
    rw[beq_eq_false_iff_ne];intro e;have:=congrArg List.length e;rw[hlen] at this;simp at this;omega
   rw[this];simp
  have h1i:(1:Int) < (s.size:Int):=by omega
  have h1b:decide ((1:Int) < (s.size:Int))=true:=decide_eq_true h1i
  have hci:((s[0]'hp).toNat:Int)=48:=by omega
  have hcb:(((s[0]'hp).toNat:Int)==48)=true:=beq_iff_eq.2 hci;rw[hf];clear hb hlen hdg hhead hne h48;go_enter Tryz.func97,Tryz.ntmps97;go_wp2_with fail;go_ret;exact ⟨rfl,rfl⟩
 ·have hbe:s.data.toList.all y0z=b:=by
   rw[<-hb];unfold y2f;rw[hne]
   have:(s.data.toList.head? != some 48 || s.data.toList==[48])=true:=by
    rw[hhead];by_cases h48:(s[0]'hp).toNat=48
    ·have h2:s.size=1:=by
      rcases Nat.lt_or_ge 1 s.size with h | h
      ·exact absurd ⟨h,h48⟩ h1
      ·omega
     have:s.data.toList=[48]:=by
      cases hd:s.data.toList with
      | nil=>rw[hd] at hlen;simp at hlen;omega
      | cons c l=>
       rw[hd]at hlen hhead;simp only[List.head?_cons,Option.some.injEq] at hhead;simp only[List.length_cons] at hlen;have hl0:l=[]:=List.eq_nil_of_length_eq_zero (by omega);rw[hhead,hl0,show s[0]'hp=48 from UInt8.toNat_inj.1 h48]
     rw[this];simp
    ·have:(some (s[0]'hp) != some (48:UInt8))=true:=by
      simp only[bne_iff_ne,ne_eq,Option.some.injEq];intro e;exact h48 (by rw[e];rfl)
     rw[this];rfl
   rw[this];simp
  rw[hbe]at hdg;clear hb hlen hhead hne hbe;by_cases h1s:1 < s.size
  ·have hci:¬((s[0]'hp).toNat:Int)=48:=by
    intro h;exact h1 ⟨h1s,by omega⟩
   have hcb:(((s[0]'hp).toNat:Int)==48)=false:=beq_eq_false_iff_ne.2 hci
   have h1i:(1:Int) < (s.size:Int):=by omega
   have h1b:decide ((1:Int) < (s.size:Int))=true:=decide_eq_true h1i;clear h1;have HDG:=hid hdg;clear hdg;go_enter Tryz.func97,Tryz.ntmps97;go_wp2_with fail;refine (HDG.out _).mono ?_;rintro e w1 ⟨rfl,hw⟩;rw[hw];clear hw;go_wp2_with fail;go_ret;exact ⟨rfl,rfl⟩
  ·have h1i:¬(1:Int) < (s.size:Int):=by omega
   have h1b:decide ((1:Int) < (s.size:Int))=false:=decide_eq_false h1i;clear h1;have HDG:=hid hdg;clear hdg;go_enter Tryz.func97,Tryz.ntmps97;go_wp2_with fail;refine (HDG.out _).mono ?_;rintro e w1 ⟨rfl,hw⟩;rw[hw];clear hw;go_wp2_with fail;go_ret;exact ⟨rfl,rfl⟩
end Go.Proofs.YtnjonlnemagomaaGreatDoor
namespace Go.Proofs.YtnjonlnemagomaaGreatDoor
open Go.RowKit Big
open Go.Lib (hid)
set_option maxRecDepth 100000
set_option maxHeartbeats 8000000
def yb6 (w:World)(U g:Nat->Nat)(k:Nat)(e:Ending)(w':World):Prop:=New w w'/\∃ t:Nat,e=.returned (.int .i64 (t:Int))/\GFit B9 U g k t
theorem yi0 (au av:Option Addr) (lu cu cv k j:Nat) (o g:Nat->Nat) (w:World) (hlu:lu<=1000000) (hj:j+(k+2) < lu) (hu:Rd w au .i64 lu o) (hv:Rd w av .i64 (k+2) g) (hol:∀ i,o i < B9) (hgl:∀ i,i < k+2->g i < B9)
  (hg0:g (k+1)≠0) (hlt:vf B9 (fun i=>o (j+1+i)) (k+2) < vf B9 g (k+2)):
  Calls Tryz.prog 221 #[.slice au lu cu,.slice av (k+2) cv,.int .i64 (j:Int)] w (yb6 w (fun i=>o (j+i)) g k):=by
 obtain ⟨U,hUU⟩:∃ U:Nat->Nat,U=fun i=>o (j+i):=⟨_,rfl⟩
 have hU:∀ i,i < k+3->U i < B9:=fun i _=>by rw[hUU];exact hol (j+i)
 have hlt':vf B9 (fun i=>U (1+i)) (k+2) < vf B9 g (k+2):=by rw[hUU];simpa only[<-Nat.add_assoc] using hlt
 obtain ⟨n,hn⟩:∃ n,k+2=n:=⟨_,rfl⟩;obtain ⟨b1,o1,rfl,c2⟩:=hu (j+n) (by omega);obtain ⟨b1',o1',e1,c1⟩:=hu (j+n - 1) (by omega);injection e1 with e1;injection e1 with e1 e2;subst e1 e2;obtain ⟨b1',o1',e1,c0⟩:=hu (j+n - 2) (by omega);injection e1 with e1;injection e1 with e1 e2;subst e1 e2;obtain ⟨b2,o2,rfl,d1⟩:=hv (n - 1) (by omega);obtain ⟨b2',o2',e1,d0⟩:=hv (n - 2) (by omega);injection e1 with e1;injection e1 with e1 e2;subst e1 e2;have hs:=GWay.start (B:=B9) (u:=U) (by decide) hU hgl hg0;have hbd:=fun t r (h:GWay B9 U g k t r)=>h.bound hU hgl hg0 hlt';have hps:=fun t r (h:GWay B9 U g k t r)=>h.pass hgl hg0;have hls:=fun t r (h:GWay B9 U g k t r)=>h.less (by decide) hU hgl hg0 hlt'
 have u2:U (k+2)=o (j+n):=by rw[hUU,<-hn]
 have u1:U (k+1)=o (j+n - 1):=by rw[hUU];show o (j+(k+1))=_;rw[show j+(k+1)=j+n - 1 by omega]
 have u0:U k=o (j+n - 2):=by rw[hUU];show o (j+k)=_;rw[show j+k=j+n - 2 by omega]
 have v1:g (k+1)=g (n - 1):=by rw[show k+1=n - 1 by omega]
 have v0:g k=g (n - 2):=by rw[show k=n - 2 by omega]
 have x2b:=hol (j+n);have x1b:=hol (j+n - 1);have x0b:=hol (j+n - 2);have y1b:=hgl (n - 1) (by omega);have y0b:=hgl (n - 2) (by omega);rw[<-hUU,hn];rw[u2,u1,v1] at hs;simp only[u0,v1,v0] at hls hps;rw[v1] at hg0;have hrest:∀ t r,GWay B9 U g k t r->r < B9:=fun t r h=>h.hr;obtain ⟨x2,e2⟩:∃ x,o (j+n)=x:=⟨_,rfl⟩;obtain ⟨x1,e1⟩:∃ x,o (j+n - 1)=x:=⟨_,rfl⟩;obtain ⟨x0,e0⟩:∃ x,o (j+n - 2)=x:=⟨_,rfl⟩;obtain ⟨y1,f1⟩:∃ x,g (n - 1)=x:=⟨_,rfl⟩;obtain ⟨y0,f0⟩:∃ x,g (n - 2)=x:=⟨_,rfl⟩;rw[e2] at c2 x2b hs;rw[e1] at c1 x1b hs;rw[e0] at c0 x0b;rw[f1] at d1 y1b hs hg0;rw[f0] at d0 y0b;simp only[e0,f1,f0] at hls hps
 have hn2:2<=n:=by omega
 have hjn:j+n < lu:=by omega
 have hB:(0:Nat) < B9:=by decide
 clear hU hlt' hu hv hol hgl hlt hj hn hUU u2 u1 u0 v1 v0 e2 e1 e0 f1 f0;obtain ⟨T,hT⟩:∃ T,x2*B9+x1=T:=⟨_,rfl⟩;obtain ⟨z2,hz2⟩:∃ z,x2*B9=z:=⟨_,rfl⟩;rw[hT] at hs
 have i1:(x2:Int)*1000000000=(z2:Int):=by unfold B9 at hz2;omega
 have i2:(z2:Int)+(x1:Int)=(T:Int):=by rw[hz2] at hT;omega
 have i3:(T:Int) < 1000000000000000000:=by unfold B9 at *;omega
 have i4:(z2:Int) < 1000000000000000000:=by unfold B9 at *;omega
 obtain ⟨g1,g2,g3,g4⟩:=divd T y1;obtain ⟨t0,ht0⟩:∃ z,T / y1=z:=⟨_,rfl⟩;obtain ⟨r0,hr0⟩:∃ z,T % y1=z:=⟨_,rfl⟩;rw[ht0,hr0] at hs;rw[ht0] at g1 g2;rw[hr0] at g3 g4;have ht:=hbd _ _ hs;have hr:=hrest _ _ hs
 have b1i:(x1:Int) < 1000000000:=by unfold B9 at x1b;omega
 have b2i:(x2:Int) < 1000000000:=by unfold B9 at x2b;omega
 have b0i:(x0:Int) < 1000000000:=by unfold B9 at x0b;omega
 have y1i:(y1:Int) < 1000000000:=by unfold B9 at y1b;omega
 have y0i:(y0:Int) < 1000000000:=by unfold B9 at y0b;omega
 have t0i:(t0:Int) < 2000000000:=by unfold B9 at ht;omega
 have r0i:(r0:Int) < 1000000000:=by unfold B9 at hr;omega
 have y1n:((y1:Int)==0)=false:=by simp;omega
 have y1m:(y1:Int)≠0:=by omega
 have y1p:(0:Int) < (y1:Int):=by omega
 clear hT hz2 ht0 hr0 ht hr x2b x1b hg0;have d1':=d1;have D1:=hid d1';have HS:=hid hs;have HBD:=hid hbd;have HPS:=hid hps;have HLS:=hid hls;have HREST:=hid hrest;have C0:=hid c0;have D0:=hid d0;have X0B:=hid x0b;have Y1B:=hid y1b;have Y0B:=hid y0b;clear d1' hs hbd hps hls hrest c0 d0 x0b y1b y0b;go_enter Tryz.func221,Tryz.ntmps221;go_wp2_with fail
 go_quiet (fail)
 go_wp2_with fail
 go_quiet (fail)
 clear c2 c1 d1 i1 i2 i3 i4 g1 g2 g3 g4 b1i b2i y1n y1m y1p;go_wp2_with fail;go_loopw [9,10] (fun st sr wr=>∃ t r:Nat,st=.int .i64 (t:Int)/\sr=.int .i64 (r:Int)/\(t:Int) < 2000000000/\(r:Int) < 1000000000/\Hid (GWay B9 U g k t r)/\Hid (New w wr)) (fun st _ _=>(intOf st).toNat)
 case atStart=>exact ⟨t0,r0,rfl,rfl,t0i,r0i,HS,hid (by (repeat first | with_reducible exact New.refl _ | with_reducible refine New.drewN ?_ _))⟩
 case round=>
  clear t0i r0i HS;obtain ⟨t,r,rfl,rfl,ti,ri,HG,HN⟩:=hrel;have hc0:=HN.out.cell C0.out;have hd0:=HN.out.cell D0.out;have hd1:=HN.out.cell D1.out;by_cases h1:B9<=t
  ·have h1i:(1000000000:Int)<=(t:Int):=by unfold B9 at h1;omega
   have h1b:decide ((1000000000:Int)<=(t:Int))=true:=decide_eq_true h1i;have hl:=HLS.out t r HG.out (.inl h1);obtain ⟨l1,l2,l3⟩:=hl
   have hs1:((t:Int) - 1)=((t - 1:Nat):Int):=by omega
   obtain ⟨t9,ht9⟩:∃ x,t - 1=x:=⟨_,rfl⟩
   have hmm:t9 < t:=by omega
   rw[ht9]at hs1 l2 l3
   have t9i:(t9:Int) < 2000000000:=by omega
   obtain ⟨r9,hr9⟩:∃ x,r+y1=x:=⟨_,rfl⟩
   have hs2:(r:Int)+(y1:Int)=(r9:Int):=by omega
   have hr9b:(r9:Int) < 2000000000:=by omega
   rw[hr9]at l2 l3;clear hr9 ht9 l1 h1;by_cases h3:B9<=r9
   ·have h3i:(1000000000:Int)<=(r9:Int):=by unfold B9 at h3;omega
    have h3b:decide ((1000000000:Int)<=(r9:Int))=true:=decide_eq_true h3i;have hp:=l3 h3;clear h3 l2 l3;have HP:=hid hp;have HMM:=hid hmm;clear hp hmm;go_wp2_with fail
    repeat (go_quiet (fail);go_wp2_with fail)
    go_ret;exact ⟨by (have hN:=HN.out;repeat first | with_reducible exact hN | with_reducible refine New.drewN ?_ _),_,rfl,HP.out⟩
   ·have h3i:¬(1000000000:Int)<=(r9:Int):=by unfold B9 at h3;omega
    have h3b:decide ((1000000000:Int)<=(r9:Int))=false:=decide_eq_false h3i
    have hr9c:(r9:Int) < 1000000000:=by omega
    have hp:=l2 (by omega);clear h3 l2 l3;have HP:=hid hp;have HMM:=hid hmm;clear hp hmm;go_wp2_with fail
    repeat (go_quiet (fail);go_wp2_with fail)
    go_roundw
    case rel=>exact ⟨t9,r9,rfl,rfl,t9i,hr9c,HP,hid (by (have hN:=HN.out;repeat first | with_reducible exact hN | with_reducible refine New.drewN ?_ _))⟩
    case measure=>simp[intOf];exact HMM.out
  ·have h1i:¬(1000000000:Int)<=(t:Int):=by unfold B9 at h1;omega
   have h1b:decide ((1000000000:Int)<=(t:Int))=false:=decide_eq_false h1i;obtain ⟨a,ha⟩:∃ a,t*y0=a:=⟨_,rfl⟩;obtain ⟨b,hb⟩:∃ b,r*B9=b:=⟨_,rfl⟩;obtain ⟨c,hc⟩:∃ c,b+x0=c:=⟨_,rfl⟩
   have a1:(t:Int)*(y0:Int)=(a:Int):=by rw[<-ha,Int.natCast_mul]
   have a2:(r:Int)*1000000000=(b:Int):=by unfold B9 at hb;omega
   have a3:(b:Int)+(x0:Int)=(c:Int):=by omega
   have a4:a<=B9*B9:=by rw[<-ha];exact Nat.mul_le_mul (by omega) (Nat.le_of_lt Y0B.out)
   have a5:(a:Int)<=1000000000000000000:=by unfold B9 at a4;omega
   have a6:(b:Int) < 1000000000000000000:=by unfold B9 at hb;omega
   have a7:(c:Int) < 1000000001000000000:=by omega
   by_cases h2:c < a
   ·have h2i:(c:Int) < (a:Int):=by omega
    have h2b:decide ((c:Int) < (a:Int))=true:=decide_eq_true h2i;have hl:=HLS.out t r HG.out (.inr (by rw[ha,hb,hc];exact h2));clear ha hb hc a4;obtain ⟨l1,l2,l3⟩:=hl
    have hs1:((t:Int) - 1)=((t - 1:Nat):Int):=by omega
    obtain ⟨t9,ht9⟩:∃ x,t - 1=x:=⟨_,rfl⟩
    have hmm:t9 < t:=by omega
    rw[ht9]at hs1 l2 l3
    have t9i:(t9:Int) < 2000000000:=by omega
    obtain ⟨r9,hr9⟩:∃ x,r+y1=x:=⟨_,rfl⟩
    have hs2:(r:Int)+(y1:Int)=(r9:Int):=by omega
    have hr9b:(r9:Int) < 2000000000:=by omega
    rw[hr9]at l2 l3;clear hr9 ht9 l1 h1;by_cases h3:B9<=r9
    ·have h3i:(1000000000:Int)<=(r9:Int):=by unfold B9 at h3;omega
     have h3b:decide ((1000000000:Int)<=(r9:Int))=true:=decide_eq_true h3i;have hp:=l3 h3;clear h3 l2 l3;have HP:=hid hp;have HMM:=hid hmm;clear hp hmm;go_wp2_with fail
     repeat (go_quiet (fail);go_wp2_with fail)
     go_ret;exact ⟨by (have hN:=HN.out;repeat first | with_reducible exact hN | with_reducible refine New.drewN ?_ _),_,rfl,HP.out⟩
    ·have h3i:¬(1000000000:Int)<=(r9:Int):=by unfold B9 at h3;omega
     have h3b:decide ((1000000000:Int)<=(r9:Int))=false:=decide_eq_false h3i
     have hr9c:(r9:Int) < 1000000000:=by omega
     have hp:=l2 (by omega);clear h3 l2 l3;have HP:=hid hp;have HMM:=hid hmm;clear hp hmm;go_wp2_with fail
     repeat (go_quiet (fail);go_wp2_with fail)
     go_roundw
     case rel=>exact ⟨t9,r9,rfl,rfl,t9i,hr9c,HP,hid (by (have hN:=HN.out;repeat first | with_reducible exact hN | with_reducible refine New.drewN ?_ _))⟩
     case measure=>simp[intOf];exact HMM.out
   ·have h2i:¬(c:Int) < (a:Int):=by omega
    have h2b:decide ((c:Int) < (a:Int))=false:=decide_eq_false h2i;have hp:=HPS.out t r HG.out (by omega) (by rw[ha,hb,hc];omega);clear ha hb hc a4 h1;have HP:=hid hp;clear hp;go_wp2_with fail
    go_quiet (fail)
    clear hc0 hd0 hd1;go_wp2_with fail;go_ret;exact ⟨by (have hN:=HN.out;repeat first | with_reducible exact hN | with_reducible refine New.drewN ?_ _),_,rfl,HP.out⟩
def y7e (w:World)(q r:Nat)(e:Ending)(w':World):Prop:=∃ vq vr,e=.returned (.tuple #[vq,vr])/\New w w'/\IsD w' vq q/\IsD w' vr r
theorem yo3 (w:World):IsD w (.slice none 0 0) 0:=⟨0,fun _=>0,⟨⟨none,0,⟨rfl,Nat.le_refl _,Nat.zero_le _,fun _=>rfl⟩,Rd.zero _ _ _ _,fun i hi=>by omega⟩,fun h=>absurd rfl h⟩,rfl⟩
theorem yiy (w:World)(t:TypeId)(d:Nat)(hd:d < B9):DgN (w.alloc (.cells #[.int .i64 (d:Int)] t)) (.slice (some ⟨w.heap.size,0,none⟩) 1 1) 1 (fun _=>d):=
 ⟨_,1,⟨rfl,Nat.le_refl _,by unfold maxLen;omega,fun h=>by cases h⟩,fun i hi=>⟨w.heap.size,0,rfl,by
  obtain rfl:i=0:=by omega
  exact (Box.alloc w w.heap.size t _ rfl).cell 0⟩,fun i _=>hd⟩
theorem ykb (w:World)(t:TypeId)(d:Nat)(hd:d < B9)(h0:d≠0):IsD (w.alloc (.cells #[.int .i64 (d:Int)] t)) (.slice (some ⟨w.heap.size,0,none⟩) 1 1) d:=
 ⟨1,fun _=>d,⟨yiy w t d hd,fun _=>h0⟩,by simp[vf]⟩
theorem yh4 (K:Nat)(va vb:Value)(x y:Nat)(w:World)(ha:IsD w va x)(hb:IsD w vb y)(hK:K<=90000)(hx:x < B9^K)(hy:y < B9^K)(hlt:x < y):
  Calls Tryz.prog 171 #[va,vb] w (y7e w 0 x):=by
 have hA:=ha;obtain ⟨n,f,hf,hfv⟩:=ha;obtain ⟨m,g,hg,hgv⟩:=hb;have hn:=y4c hf.canon hfv hx;have hm:=y4c hg.canon hgv hy;have hcmp:=y4s va vb n m f g w hf hg (by omega) (by omega)
 have hc:y1a x y= -1:=by unfold y1a;rw[if_pos hlt]
 rw[hfv,hgv,hc]at hcmp;obtain ⟨⟨a,cap,⟨rfl, -⟩, -⟩, -⟩:=hf;obtain ⟨⟨a',cap',⟨rfl, -⟩, -⟩, -⟩:=hg;clear hfv hgv hn hm hx hy hK hc hlt;have HCMP:=hid hcmp;have HA:=hid hA;clear hcmp hA;go_enter Tryz.func171,Tryz.ntmps171;go_wp2_with fail;refine HCMP.out.mono ?_;rintro e w1 ⟨hn,rfl⟩;have HN:=hid hn;clear hn;go_wp2_with fail;go_ret2;exact ⟨_,_,rfl,HN.out,yo3 _,HA.out.new HN.out⟩
theorem yld (K:Nat)(va vb:Value)(x y:Nat)(w:World)(ha:IsD w va x)(hb:IsD w vb y)(hK:K<=90000)(hx:x < B9^K)(hy:y < B9)(hy0:0 < y)(hle:y<=x):
  Calls Tryz.prog 171 #[va,vb] w (y7e w (x / y) (x % y)):=by
 have hdv:=fun W (hW:New w W)=>y9a K va x y W (ha.new hW) (by omega) hx hy0 hy;obtain ⟨n,f,hf,hfv⟩:=ha;obtain ⟨m,g,hg,hgv⟩:=hb;have hn:=y4c hf.canon hfv hx;have hm:=y4c (K:=1) hg.canon hgv (by rw[Nat.pow_one];exact hy)
 have hm1:m=1:=by
  rcases Nat.eq_zero_or_pos m with h | h
  ·subst h;rw[y14] at hgv;omega
  ·omega
 have hcmp:=y4s va vb n m f g w hf hg (by omega) (by omega)
 have hc:0<=y1a x y:=by unfold y1a;rw[if_neg (by omega)];split <;> omega
 rw[hfv,hgv]at hcmp;obtain ⟨c,hcc⟩:∃ c,y1a x y=c:=⟨_,rfl⟩;rw[hcc] at hc hcmp
 have hcn:¬c < 0:=by omega
 have hcd:decide (c < 0)=false:=decide_eq_false hcn;clear hc;subst hm1
 have hg0:g 0=y:=by rw[<-hgv];simp[vf]
 obtain ⟨⟨a,cap,⟨rfl, -⟩, -⟩, -⟩:=hf;obtain ⟨⟨a',cap',⟨rfl, -⟩,hr, -⟩, -⟩:=hg;obtain ⟨b1,o1,rfl,hcell⟩:=hr 0 (by omega);rw[hg0,Nat.add_zero] at hcell;have hr9:x % y < B9:=Nat.lt_trans (Nat.mod_lt _ hy0) hy
 have hyi:(y:Int) < 1000000000:=by unfold B9 at hy;omega
 clear hfv hgv hn hm hx hK hle hr hcc hg0 hy;obtain ⟨q,hq⟩:∃ q,x / y=q:=⟨_,rfl⟩;obtain ⟨r,hr⟩:∃ q,x % y=q:=⟨_,rfl⟩;rw[hr] at hr9;simp only[hq,hr] at hdv;rw[hq,hr];clear hq hr hy0;have HCMP:=hid hcmp;have HDV:=hid hdv;have HC:=hid hcell;have HR9:=hid hr9;clear hcmp hdv hcell hr9;go_enter Tryz.func171,Tryz.ntmps171;go_wp2_with fail;refine HCMP.out.mono ?_;rintro e w1 ⟨hn,rfl⟩;have hcell:=hn.cell HC.out;have HN:=hid hn;clear hn;go_wp2_with fail;refine (HDV.out _ HN.out).mono ?_;rintro e w2 ⟨vq,rfl,hn,hq⟩;obtain ⟨a3,n3,c3,rfl⟩:=hq.shape;have hN:=HN.out.trans hn;clear HN hn hcell;have hN2:=hN.alloc (.cells #[.int .i64 (r:Int)] 3);have hq2:=hq.new ((New.refl w2).alloc (.cells #[.int .i64 (r:Int)] 3));have htr:=y3q _ 1 (fun _=>r) _ (yiy w2 3 r HR9.out);have HTR:=hid htr;have HN:=hid hN2;have HQ:=hid hq2;clear htr hN2 hq2;clear hN hq;go_wp2_with fail;refine HTR.out.mono ?_;rintro e w3 ⟨hw,v3,n3,rfl, -,hd,hv⟩;rw[<-hw];have hdd:IsD _ v3 r:=⟨n3,_,hd,by rw[hv];simp[vf]⟩;obtain ⟨a5,n5,c5,rfl⟩:=hdd.shape;clear hw hd hv;have HDD:=hid hdd;clear hdd;go_wp2_with fail;go_ret2;exact ⟨_,_,rfl,HN.out,HQ.out,HDD.out⟩
def RowZ (w:World)(b:Nat)(t:TypeId)(n:Nat)(f:Nat->Int):Prop:=
 ∃ c:Array Value,w.heap[b]?=some (.cells c t (0,0))/\n<=c.size/\∀ i,i < n->c[i]?=some (.int .i64 (f i))
def updZ (f:Nat->Int)(k:Nat)(z:Int):Nat->Int:=fun i=>if i=k then z else f i
theorem ydk (f:Nat->Int)(k:Nat)(z:Int):updZ f k z k=z:=by simp[updZ]
theorem yij (f:Nat->Int){k i:Nat}(z:Int)(h:i≠k):updZ f k z i=f i:=by simp[updZ,h]
section
variable {w w':World} {b:Nat} {t:TypeId} {n:Nat} {f:Nat->Int}
theorem RowZ.cell (h:RowZ w b t n f){i:Nat}(hi:i < n):w.cell? ⟨b,i,none⟩=some (.int .i64 (f i)):=by
 obtain ⟨c,hb,_,hc⟩:=h;simp[World.cell?,hb,hc i hi]
theorem RowZ.frozen (h:RowZ w b t n f)(i:Nat):w.frozen? ⟨b,i,none⟩=false:=by
 obtain ⟨c,hb,_⟩:=h;simp[World.frozen?,hb]
theorem RowZ.lt (h:RowZ w b t n f):b < w.heap.size:=by
 obtain ⟨c,hb,_⟩:=h;rcases Nat.lt_or_ge b w.heap.size with h1 | h1
 ·exact h1
 ·rw[Array.getElem?_eq_none h1] at hb;cases hb
theorem RowZ.of_block (h:RowZ w b t n f)(e:w'.heap[b]?=w.heap[b]?):RowZ w' b t n f:=by
 obtain ⟨c,hb,h1⟩:=h;exact ⟨c,by rw[e,hb],h1⟩
theorem RowZ.new (h:RowZ w b t n f)(hn:New w w'):RowZ w' b t n f:=h.of_block (Below.block hn b h.lt)
theorem RowZ.drewN (h:RowZ w b t n f)(m:Nat):RowZ (w.drewN m) b t n f:=h
theorem RowZ.drew (h:RowZ w b t n f):RowZ w.drew b t n f:=h
theorem RowZ.set (h:RowZ w b t n f)(i:Nat)(z:Int):RowZ (w.setCell ⟨b,i,none⟩ (.int .i64 z)) b t n (updZ f i z):=by
 obtain ⟨c,hb,hs,hc⟩:=h;refine ⟨c.setIfInBounds i (.int .i64 z),?_,by simpa using hs,fun j hj=>?_⟩
 ·simp[World.setCell,Array.getElem?_modify,hb]
 ·rw[Array.getElem?_setIfInBounds];unfold updZ;by_cases e:i=j
  ·subst e;rw[if_pos rfl,if_pos (by omega),if_pos rfl]
  ·rw[if_neg e,if_neg (fun h=>e h.symm)];exact hc j hj
theorem RowZ.other (h:RowZ w b t n f){p:Addr}(hp:b≠p.block)(u:Value):RowZ (w.setCell p u) b t n f:=by
 obtain ⟨c,hb,h1⟩:=h;refine ⟨c,?_,h1⟩;simp[World.setCell,Array.getElem?_modify,hb,Ne.symm hp]
theorem RowZ.congr (h:RowZ w b t n f){g:Nat->Int}(e:∀ i,i < n->f i=g i):RowZ w b t n g:=by
 obtain ⟨c,hb,hs,hc⟩:=h;exact ⟨c,hb,hs,fun i hi=>by rw[hc i hi,e i hi]⟩
theorem RowZ.le (h:RowZ w b t n f){m:Nat}(hm:m<=n):RowZ w b t m f:=by
 obtain ⟨c,hb,hs,hc⟩:=h;exact ⟨c,hb,by omega,fun i hi=>hc i (by omega)⟩
theorem RowZ.rd {o:Nat->Nat}(h:RowZ w b t n fun i=>(o i:Int)):Rd w (some ⟨b,0,none⟩) .i64 n o:=fun i hi=>⟨b,0,rfl,by
 have:=h.cell hi
 simpa using this⟩
theorem Row.z {o:Nat->Nat}(h:Row w b t .i64 n o):RowZ w b t n fun i=>(o i:Int):=by
 obtain ⟨c,hb,hs,hc⟩:=h;exact ⟨c,hb,by omega,hc⟩
theorem RowZ.of_own {base:Nat}{v:Value}{xs:List Value}{o:Nat->Nat}(h:w.ownsRow base t 1 v n xs)(h0:0 < n)(hx:∀ i,i < n->xs[i]?=some (.int .i64 (o i:Int))):
  ∃ g cap,v=.slice (some ⟨g,0,none⟩) n cap/\base<=g/\n<=cap/\cap<=maxLen/\RowZ w g t n fun i=>(o i:Int):=by
 rcases h.2 with ⟨_,h1⟩ | ⟨g,cap,cur,e,hb,hc,h2,h3,h4,h5⟩
 ·omega
 ·refine ⟨g,cap,e,hb,h2,h3,cur,hc,by omega,fun i hi=>?_⟩;have:=hx i hi;rw[<-h5,Nat.mul_one,List.getElem?_take_of_lt hi] at this;simpa using this
end
theorem y8q (o:Nat->Nat)(k v:Nat):updZ (fun i=>(o i:Int)) k (v:Int)=fun i=>((upd o k v i:Nat):Int):=by
 funext i;unfold updZ upd;split <;> rfl
section
variable {B m k mq j A V t c n2:Nat} {gv o p qf:Nat->Nat}
theorem ym3 (D:Dv B m k mq (j+1) A V gv o qf) (hn2:k+2=n2) (fit:GFit B (fun a=>o (j+a)) gv k t) (hV:vf B gv n2=V) (hVW:V<=B^(k+2)) (hm:m+1=mq+(k+2)) (hj:j < mq) (hp:∀ i,p i < B)
  (hout:∀ a,(a < j\/j+n2<=a)->p a=o a) (hval:vf B (fun a=>p (j+a)) n2+t*vf B gv n2=vf B (fun a=>o (j+a)) n2+c*B^n2) (hc:c<=o (j+n2)):
  Dv B m k mq j A V gv (upd p (j+n2) (o (j+n2) - c)) (upd qf j t):=by
 subst hn2;have h1:=yhy (B:=B) (p:=p) (u:=fun a=>o (j+a)) (j:=j) (n:=k+2) (c:=c) (d:=o (j+(k+2)) - c) (b':=0) (t:=t) (V:=V) (by rw[<-hV];exact hval) (by show _=o (j+(k+2))+B*0;omega);rw[Nat.zero_mul,Nat.add_zero] at h1;have hge:=fit.ge;rw[hV] at hge;refine D.step hm hj hVW fit.hh (fun i=>?_) (fun i hi=>?_) h1 (yl8 h1 hge)
 ·unfold upd;split
  ·exact Nat.lt_of_le_of_lt (Nat.sub_le _ _) (D.ol _)
  ·exact hp i
 ·rw[y0a _ _ (by omega)];exact hout i (by omega)
theorem yll (_hB:0 < B)(hp:∀ i,p i < B)(hval:vf B (fun a=>p (j+a)) n2+t*vf B gv n2=vf B (fun a=>o (j+a)) n2+c*B^n2)(hc:0 < c):0 < t:=by
 rcases Nat.eq_zero_or_pos t with h | h
 ·exfalso;subst h;have h1:vf B (fun a=>p (j+a)) n2 < B^n2:=y4t fun i _=>hp _;have h2:=Nat.mul_le_mul_right (B^n2) hc;rw[Nat.succ_eq_add_one,Nat.zero_add,Nat.one_mul] at h2;omega
 ·exact h
theorem yh8 {p2:Nat->Nat} {cc:Nat} (D:Dv B m k mq (j+1) A V gv o qf) (hB:0 < B) (hn2:k+2=n2) (fit:GFit B (fun a=>o (j+a)) gv k t) (hV:vf B gv n2=V) (hVW:V<=B^(k+2)) (hm:m+1=mq+(k+2)) (hj:j < mq)
  (hp:∀ i,p i < B) (hp2:∀ i,p2 i < B) (hout:∀ a,(a < j\/j+n2<=a)->p a=o a) (hout2:∀ a,(a < j\/j+n2<=a)->p2 a=p a)
  (hval:vf B (fun a=>p (j+a)) n2+t*vf B gv n2=vf B (fun a=>o (j+a)) n2+c*B^n2) (hc:o (j+n2) < c)
  (hval2:vf B (fun a=>p2 (j+a)) n2+cc*B^n2=vf B (fun a=>p (j+a)) n2+vf B gv n2) (hcc:cc<=1):
  c=o (j+n2)+cc/\Dv B m k mq j A V gv (upd p2 (j+n2) 0) (upd qf j (t - 1)):=by
 subst hn2;have hP:=y4t (B:=B) (f:=fun a=>p (j+a)) (n:=k+2) fun i _=>hp _;have hP2:=y4t (B:=B) (f:=fun a=>p2 (j+a)) (n:=k+2) fun i _=>hp2 _;have hle:=fit.le;rw[hV] at hle hval hval2;obtain ⟨h1,h2,h3,h4⟩:=yju (P:=B^(k+2)) (U:=vf B (fun a=>o (j+a)) (k+3)) (e:=c - o (j+(k+2))) (un:=o (j+(k+2))) hval (y03 _ _ _) (by omega) (by omega) hval2 hP hP2 hVW hcc hle;refine ⟨by omega,?_⟩
 have e1:vf B (fun x=>upd p2 (j+(k+2)) 0 (j+x)) (k+3)=vf B (fun a=>p2 (j+a)) (k+2):=by
  rw[y03,upd_same,Nat.zero_mul,Nat.add_zero];exact y0s fun x hx=>y0a _ _ (by omega)
 refine D.step hm hj hVW (Nat.lt_of_le_of_lt (Nat.sub_le _ _) fit.hh) (fun i=>?_) (fun i hi=>?_) (by rw[e1];exact h3) (by rw[e1];exact h4)
 ·unfold upd;split
  ·exact hB
  ·exact hp2 i
 ·rw[y0a _ _ (by omega),hout2 i (by omega)];exact hout i (by omega)
end
end Go.Proofs.YtnjonlnemagomaaGreatDoor
