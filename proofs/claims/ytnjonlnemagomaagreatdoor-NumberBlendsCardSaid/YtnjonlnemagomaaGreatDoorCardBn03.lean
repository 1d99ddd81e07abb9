/- Part CardBn03. -/
import Derived.OwnWalk
import Derived.Laws.AppendOwn
import Derived.Laws.AppendOwnNone
import Derived.Maps.AppendAt
import Derived.Test.YtnjonlnemagomaaGreatDoorProg
import Derived.Test.YtnjonlnemagomaaGreatDoorB15
namespace Go.Proofs.YtnjonlnemagomaaGreatDoor
open Go.RowKit Big Go.Lib Tryz
set_option maxRecDepth 100000
set_option maxHeartbeats 8000000
set_option linter.all false
theorem Box.drew {w:World}{B:Nat}{t:TypeId}{cs:Array Value}(h:Box w B t cs):Box w.drew B t cs:=h
theorem half_parts:(Rat.divInt 1 2).num=1∧(Rat.divInt 1 2).den=2:=by
 have h:=divInt_parts (x:=1) (y:=2) (by decide);rw[h.1,h.2];decide
theorem half_eq:(1 / 2:Rat)=Rat.divInt 1 2:=by
 rw[Rat.div_def,Rat.inv_def,Rat.one_mul];rfl
theorem rs_half:rs (1 / 2)=⟨#[49,47,50]⟩:=by
 unfold rs
 have:ratText (1 / 2)=[49,47,50]:=by
  unfold ratText;rw[half_eq,half_parts.1,half_parts.2,if_neg (by decide),show (1:Int)=((1:Nat):Int) from rfl,Big.itoa_nonneg,decDigits_one',decDigits_small (by omega)];rfl
 rw[this];rfl
theorem rfb_half:RFB 2 (1 / 2):=⟨by rw[half_eq,half_parts.1];decide,by rw[half_eq,half_parts.2];decide⟩
theorem rhalf_calls (k:Nat)(x:Rat)(w:World)(hx:RFB k x)(hk:k+2≤40000):Calls prog 44 #[.string (rs x)] w (RetS w (x*(1 / 2))):=by
 have hm:=fun W=>rmulQ_calls k 2 x (1 / 2) W hx rfb_half hk;simp only[rs_half] at hm;obtain ⟨R,hR⟩:∃ R,x*(1 / 2)=R:=⟨_,rfl⟩;obtain ⟨A,hA⟩:∃ A,rs x=A:=⟨_,rfl⟩;simp only[hA,hR] at hm;rw[hA,hR];clear hA hR hx hk;replace hm:=hid hm;go_in;go_wp2_with fail;refine zM (hm _) fun w2 hn=>?_;replace hn:=hid hn;go_wp2_with fail;go_ret;exact ⟨rfl,hn⟩
theorem rslash_wide (s:ByteArray)(w:World)(hl:s.size≤9223372036854775807):
  Calls prog 96 #[.string s] w fun e w'=>e=.returned (.int .i64 ((upTo s.data.toList).length:Nat))∧w'=w:=by
 obtain ⟨m,hm⟩:∃ m,(upTo s.data.toList).length=m:=⟨_,rfl⟩;have h1:=sl_len s.data.toList;have ac:=fun k=>upTo_in (l:=s.data.toList) (k:=k)
 have ab:s.data.toList.length=s.size:=by simp
 have ae:m < s.size→s.data.toList[m]?=some 47:=fun h=>by
  have:=upTo_at (l:=s.data.toList) (by rw[hm,ab];exact h)
  rwa [hm] at this
 simp only[hm]at ac;rw[hm] at h1⊢;rw[ab] at h1;clear hm ab;replace ac:=hid ac;replace ae:=hid ae;go_in;go_wp2
 go_loop [3] (fun i=>∃ k:Nat,k≤m∧i=.int .i64 k) (fun i=>s.size - (RowKit.intOf i).toNat)
 case atStart=>exact ⟨0,Nat.zero_le _,rfl⟩
 case round=>
  obtain ⟨k,hk,rfl⟩:=hrel;by_cases hlt:k < m
  ·have ad:k < s.size:=by omega
   obtain ⟨c,ag,ah⟩:=ac.out k hlt;obtain ⟨h',aa⟩:=byte_at s ag
   have hc:¬(s[k].toNat:Int)=47:=by
    intro h;refine ah (UInt8.toNat_inj.1 ?_);rw[←aa];show s[k].toNat=47;omega
   have ai:((s[k].toNat:Int)==47)=false:=beq_eq_false_iff_ne.2 hc;clear ah ag aa;go_wp2;go_round
   case rel=>exact ⟨k+1,by omega,by go_num⟩
   case measure=>simp[RowKit.intOf];omega
  ·obtain rfl:k=m:=by omega
   by_cases ad:k < s.size
   ·have af:=ae.out ad;obtain ⟨h',aa⟩:=byte_at s af
    have hc:(s[k].toNat:Int)=47:=by rw[aa];rfl
    have ai:((s[k].toNat:Int)==47)=true:=beq_iff_eq.2 hc;clear af aa;go_wp2;go_ret;exact ⟨rfl,rfl⟩
   ·have ad:k=s.size:=by omega
    subst ad;go_wp2;go_ret;exact ⟨rfl,rfl⟩
theorem rdigits_wide (s:ByteArray)(w:World)(hl:s.size≤9223372036854775807):Calls prog 169 #[.string s] w fun e w'=>e=.returned (.bool (s.data.toList.all isDig))∧w'=w:=by
 obtain ⟨b,hb⟩:∃ b,s.data.toList.all isDig=b:=⟨_,rfl⟩;rw[hb];replace hb:=hid hb;go_in;go_wp2
 go_loop [3] (fun i=>∃ k:Nat,k≤s.size∧i=.int .i64 k∧Hid (∀ c∈s.data.toList.take k,isDig c=true)) (fun i=>s.size - (RowKit.intOf i).toNat)
 case atStart=>exact ⟨0,Nat.zero_le _,rfl,hid (fun c hc=>by simp at hc)⟩
 case round=>
  obtain ⟨k,hk,rfl,HD⟩:=hrel;by_cases hlt:k < s.size
  ·have ab:=take_snoc s k hlt;obtain ⟨c,hc⟩:∃ c,s[k]=c:=⟨_,rfl⟩;by_cases hdig:isDig s[k]=true
   ·have h1:=isDig_iff.1 hdig
    have ad:¬((s[k].toNat:Int) < 48):=by omega
    have ae:¬((57:Int) < (s[k].toNat:Int)):=by omega
    have aa:∀ c∈s.data.toList.take (k+1),isDig c=true:=by
     rw[ab];intro x hx;rcases List.mem_append.1 hx with hx | hx
     ·exact HD x hx
     ·rw[List.mem_singleton] at hx;rw[hx];exact hdig
    clear ab hc h1 hdig;replace aa:=hid aa;go_wp2;go_round
    case rel=>exact ⟨k+1,by omega,by go_num,aa⟩
    case measure=>simp[RowKit.intOf];omega
   ·have hf:b=false:=by
     rw[←hb.out,List.all_eq_false]
     exact ⟨s[k],by
      have:s[k]=s.data.toList[k]'(by simpa using hlt):=rfl;rw[this]
      exact List.getElem_mem _,by simpa using hdig⟩
    have ac:¬(48≤s[k].toNat∧s[k].toNat≤57):=fun h=>hdig (isDig_iff.2 h);clear ab hc hdig;replace hf:=hid hf;by_cases ad:(s[k].toNat:Int) < 48
    ·clear ac;go_wp2;go_ret;exact ⟨by rw[hf.out];rfl,rfl⟩
    ·have ae:(57:Int) < (s[k].toNat:Int):=by omega
     clear ac;go_wp2;go_ret;exact ⟨by rw[hf.out];rfl,rfl⟩
  ·have hf:b=true:=by
    rw[←hb.out,List.all_eq_true];have:=HD.out;rw[List.take_of_length_le (by simp;omega)] at this;exact this
   replace hf:=hid hf;go_wp2;go_ret;exact ⟨by rw[hf.out];rfl,rfl⟩
theorem rdecform_wide (s:ByteArray)(w:World)(hl:s.size≤9223372036854775807):Calls prog 97 #[.string s] w fun e w'=>e=.returned (.bool (isDec s.data.toList))∧w'=w:=by
 have ac:=fun W=>rdigits_wide s W hl;obtain ⟨b,hb⟩:∃ b,isDec s.data.toList=b:=⟨_,rfl⟩;rw[hb]
 have ab:s.data.toList.length=s.size:=by simp
 by_cases h0:s.size=0
 ·have hf:b=false:=by
   rw[←hb,List.eq_nil_of_length_eq_zero (l:=s.data.toList) (by rw[ab];exact h0)];rfl
  have ak:((s.size:Int)==0)=true:=beq_iff_eq.2 (by omega);rw[hf];clear hb ab ac;go_in;go_wp2_with fail;go_ret;exact ⟨rfl,rfl⟩
 have hp:0 < s.size:=by omega
 have ak:((s.size:Int)==0)=false:=beq_eq_false_iff_ne.2 (by omega)
 have aa:s.data.toList.head?=some (s[0]'hp):=by
  rw[List.head?_eq_getElem?,List.getElem?_eq_getElem (by rw[ab];exact hp)];rfl
 have ag:s.data.toList.isEmpty=false:=by
  rw[List.isEmpty_eq_false_iff];intro e;rw[e] at aa
  cases aa
 by_cases h1:1 < s.size∧(s[0]'hp).toNat=48
 ·obtain ⟨h1,ad⟩:=h1
  have hf:b=false:=by
   rw[←hb];unfold isDec;rw[aa,show s[0]'hp=48 from UInt8.toNat_inj.1 ad]
   have:(s.data.toList==[48])=false:=by
    rw[beq_eq_false_iff_ne];intro e;have:=congrArg List.length e;rw[ab] at this;simp at this;omega
   rw[this];simp
  have ae:(1:Int) < (s.size:Int):=by omega
  have ah:decide ((1:Int) < (s.size:Int))=true:=decide_eq_true ae
  have af:((s[0]'hp).toNat:Int)=48:=by omega
  have al:(((s[0]'hp).toNat:Int)==48)=true:=beq_iff_eq.2 af;rw[hf];clear hb ab ac aa ag ad;go_in;go_wp2_with fail;go_ret;exact ⟨rfl,rfl⟩
 ·have ai:s.data.toList.all isDig=b:=by
   rw[←hb];unfold isDec;rw[ag]
   have:(s.data.toList.head? != some 48 || s.data.toList==[48])=true:=by
    rw[aa];by_cases ad:(s[0]'hp).toNat=48
    ·have h2:s.size=1:=by
      rcases Nat.lt_or_ge 1 s.size with h | h
      ·exact absurd ⟨h,ad⟩ h1
      ·omega
     have:s.data.toList=[48]:=by
      cases hd:s.data.toList with
      | nil=>rw[hd] at ab;simp at ab;omega
      | cons c l=>
       rw[hd]at ab aa;simp only[List.head?_cons,Option.some.injEq] at aa;simp only[List.length_cons] at ab;have am:l=[]:=List.eq_nil_of_length_eq_zero (by omega);rw[aa,am,show s[0]'hp=48 from UInt8.toNat_inj.1 ad]
     rw[this];simp
    ·have:(some (s[0]'hp) != some (48:UInt8))=true:=by
      simp only[bne_iff_ne,ne_eq,Option.some.injEq];intro e;exact ad (by rw[e];rfl)
     rw[this];rfl
   rw[this];simp
  rw[ai]at ac;clear hb ab aa ag ai;by_cases h1s:1 < s.size
  ·have af:¬((s[0]'hp).toNat:Int)=48:=by
    intro h;exact h1 ⟨h1s,by omega⟩
   have al:(((s[0]'hp).toNat:Int)==48)=false:=beq_eq_false_iff_ne.2 af
   have ae:(1:Int) < (s.size:Int):=by omega
   have ah:decide ((1:Int) < (s.size:Int))=true:=decide_eq_true ae;clear h1;have aj:=hid ac;clear ac;go_in;go_wp2_with fail;refine (aj _).mono ?_;rintro e w1 ⟨rfl,hw⟩;rw[hw];clear hw;go_wp2_with fail;go_ret;exact ⟨rfl,rfl⟩
  ·have ae:¬(1:Int) < (s.size:Int):=by omega
   have ah:decide ((1:Int) < (s.size:Int))=false:=decide_eq_false ae;clear h1;replace ac:=hid ac;go_in;go_wp2_with fail;refine (ac _).mono ?_;rintro e w1 ⟨rfl,hw⟩;rw[hw];clear hw;go_wp2_with fail;go_ret;exact ⟨rfl,rfl⟩
theorem rcheck_posw (U:ByteArray)(w:World)(hl:U.size≤9223372036854775807)(hh:(U.data.toList.head?==some 45)=false):Calls prog 18 #[.string U] w fun e w'=>e=.returned (.int .i64 (ratErr U.data.toList))∧New w w':=by
 have bu:unsigned U.data.toList=U.data.toList:=by
  unfold unsigned;rw[if_neg (by intro h;rw[h] at hh;simp at hh)]
 obtain ⟨r,hr⟩:∃ r,ratErr U.data.toList=r:=⟨_,rfl⟩;rw[hr];obtain ⟨k,ae⟩:∃ k,(upTo U.data.toList).length=k:=⟨_,rfl⟩;have bq:=fun W=>rslash_wide U W hl;simp only[ae] at bq;obtain ⟨A,hA⟩:∃ A,upTo U.data.toList=A:=⟨_,rfl⟩
 have hR:∀ br,slashed U.data.toList=br→r=if form2 (form1 false A) br (behind U.data.toList)=false then 1 else if (decide (600 < A.length) || decide (600 < (behind U.data.toList).length)) then 4 else if (br && Nat.gcd (dval 0 A) (dval 0 (behind U.data.toList)) != 1) then 1 else 0:=fun br hb=>by
  rw[←hr];exact ratErr_eq bu hh hA rfl hb
 have cg:=sl_len U.data.toList;rw[ae,show U.data.toList.length=U.size by simp] at cg
 have e1:(U.extract 0 k).data.toList=A:=by
  rw[Lib.extract_data];show U.data.toList.take k=A;rw[←ae]
  cases hbr:slashed U.data.toList with
  | true=>
   conv=>lhs;arg 2;rw[split_slash hbr]
   rw[←hA];simp
  | false=>
   rw[←hA,(split_plain hbr).1];exact List.take_of_length_le (by simp)
 have a4:=fun W=>rdecform_wide (U.extract 0 k) W (by simp;omega);rw[e1] at a4;obtain ⟨S1,al⟩:∃ S,U.extract 0 k=S:=⟨_,rfl⟩;simp only[al] at a4;rw[al] at e1
 have cy:(U.size:Int)≤9223372036854775807:=by omega
 have c0:(k:Int)≤(U.size:Int):=by omega
 have ch:=New.refl w;refine zh7 ?_ ch hR bq a4 hA e1 al;clear ch hR bq a4 hA e1 al;intro HN HR bz bv ba cv bx;by_cases h0:U.size=0
 ·have bi:U.data.toList=[]:=List.eq_nil_of_length_eq_zero (by simpa using h0)
  have b9:isDec A=false:=by
   rw[←ba.out,bi];rfl
  have bn:r=1:=by
   rw[←hr,bi];rfl
  have cw:¬(0:Int) < (U.size:Int):=by omega
  clear hr bu hh bi;replace bn:=hid bn;go_in;go_wp2_with fail;refine (bz _).mono ?_;rintro e w1 ⟨rfl,hw⟩;rw[hw];clear hw;have al:=bx.out;go_wp2_with fail;refine (bv _).mono ?_;rintro e w1 ⟨rfl,hw⟩;rw[hw,b9];clear hw b9;go_wp2_with fail;go_ret;exact ⟨by rw[bn.out];rfl,HN.out⟩
 have hp0:0 < U.size:=by omega
 have hc:¬((U[0]'hp0).toNat:Int)=45:=by
  intro h
  have h1:U.data.toList.head?=some (U[0]'hp0):=by
   rw[List.head?_eq_getElem?,List.getElem?_eq_getElem (by simpa using hp0)];rfl
  rw[h1,show U[0]'hp0=45 from UInt8.toNat_inj.1 (by show (U[0]'hp0).toNat=45;omega)] at hh;exact absurd hh (by decide)
 have cz:(((U[0]'hp0).toNat:Int)==45)=false:=beq_eq_false_iff_ne.2 hc;clear h0 hr bu hh;go_in;go_wp2_with fail;refine (bz _).mono ?_;rintro e w1 ⟨rfl,hw⟩;rw[hw];clear hw;have al:=bx.out;go_wp2_with fail;refine (bv _).mono ?_;rintro e w1 ⟨rfl,hw⟩;rw[hw];clear hw al
 cases af:isDec A with
 | false=>
  have aa:r=1:=by
   have:=HR.out _ rfl;unfold form2 form1 at this;rw[af] at this;rw[this]
   cases slashed U.data.toList <;> rfl
  clear af;replace aa:=hid aa;go_wp2_with fail;go_ret;exact ⟨by rw[aa.out];rfl,HN.out⟩
 | true=>
  have a6:form1 false A=true:=by unfold form1;rw[af];rfl
  replace af:=hid af;replace a6:=hid a6
  cases hbr:slashed U.data.toList with
  | false=>
   have ce:k=U.size:=by
    have:=(split_plain hbr).1;rw[←ae,this];simp
   have ac:behind U.data.toList=[]:=(split_plain hbr).2
   have a7:¬(k:Int) < (U.size:Int):=by omega
   have cf:decide ((k:Int) < (U.size:Int))=false:=decide_eq_false a7
   have hz:(U.size:Int) - (k:Int) - 1= -1:=by omega
   have aa:=HR.out _ hbr;rw[ac,show form2 (form1 false A) false []=form1 false A from rfl,a6.out,if_neg (by decide)] at aa
   have a0:A.length=k:=by rw[←ba.out];exact ae
   by_cases h6:600 < k
   ·have ai:(600:Int) < (k:Int):=by omega
    have ay:decide ((600:Int) < (k:Int))=true:=decide_eq_true ai
    have aa:r=4:=by
     rw[aa,a0,decide_eq_true h6];rfl
    clear ae ce ac h6 hbr a0;have bf:=hid aa;clear aa;go_wp2_with fail;go_ret;exact ⟨by rw[bf.out];rfl,HN.out⟩
   ·have ai:¬(600:Int) < (k:Int):=by omega
    have ay:decide ((600:Int) < (k:Int))=false:=decide_eq_false ai
    have a9:(U.size:Int) - (k:Int)=0:=by omega
    have aa:r=0:=by
     rw[aa,a0,decide_eq_false h6];rfl
    clear ae ce ac h6 hbr hz a0;replace aa:=hid aa;go_wp2_with fail;go_ret;exact ⟨by rw[aa.out];rfl,HN.out⟩
  | true=>
   have bt:=split_slash hbr;have bm:=congrArg List.length bt
   have b7:U.data.toList.length=U.size:=by simp
   rw[b7,List.length_append,List.length_cons,ae]at bm;obtain ⟨k1,cd⟩:∃ z,k+1=z:=⟨_,rfl⟩
   have e2:(U.extract k1 U.size).data.toList=behind U.data.toList:=by
    rw[Lib.extract_to_end]
    conv=>lhs;arg 2;rw[bt]
    rw[←cd,←ae];simp
   obtain ⟨B,hB⟩:∃ B,behind U.data.toList=B:=⟨_,rfl⟩;rw[hB] at e2 bm;have a5:=fun W=>rdecform_wide (U.extract k1 U.size) W (by simp;omega);rw[e2] at a5;obtain ⟨S2,b6⟩:∃ S,U.extract k1 U.size=S:=⟨_,rfl⟩;rw[b6] at e2;simp only[b6] at a5
   have a7:(k:Int) < (U.size:Int):=by omega
   have cf:decide ((k:Int) < (U.size:Int))=true:=decide_eq_true a7
   have cs:(k:Int)+1=(k1:Int):=by omega
   have cu:k1≤U.size:=by omega
   have ct:(k1:Int)≤(U.size:Int):=by omega
   obtain ⟨y,hy⟩:∃ y,B.length=y:=⟨_,rfl⟩
   have aw:(U.size:Int) - (k:Int)=(y:Int)+1:=by omega
   have ak:(U.size:Int) - (k:Int) - 1=(y:Int):=by omega
   have aa:=HR.out _ hbr;rw[hB] at aa
   have ar:form2 (form1 false A) true B=(isDec B && B != [48] && B != [49]):=by
    rw[a6.out];unfold form2;rw[if_pos rfl,Bool.true_and]
   rw[ar]at aa;have b4:upTo U.data.toList=A:=ba.out
   have b5:A.length=k:=by rw[←b4];exact ae
   have am:=fun (ao:∀ c∈A,isDig c=true) (ab:∀ c∈B,isDig c=true) (h6:k≤600) (h7:y≤600) W=>rparts_slash U (sgnd false (dval 0 A)) (sgnd false (dval 0 B)) W (by omega) hbr (fun W' s' _ bp=>rparse_pos s' A W' (by rw[bp,b4]) ao (by omega)) (fun W' s' _ bp=>rparse_pos s' B W' (by rw[bp,hB]) ab (by omega));clear ae bt bm b7 cd hB hbr ar;refine zh8 ?_ aa am b5 aw ak a5 e2 hy;clear aa am b5 aw ak a5 e2 hy;intro an cm ax cn b0 ck cl HY;go_wp2_with fail;refine (ck _).mono ?_;rintro e w1 ⟨rfl,hw⟩;rw[hw];clear hw
   cases hdb2:isDec B with
   | false=>
    have aa:r=1:=by rw[an.out,hdb2];rfl
    clear hdb2;replace aa:=hid aa;go_wp2_with fail;go_ret;exact ⟨by rw[aa.out];rfl,HN.out⟩
   | true=>
    have ad:S2.toList=B:=by rw[ByteArray.toList_eq];exact cl.out
    by_cases ac:B=[48]
    ·have aa:r=1:=by rw[an.out,ac,if_pos (by decide)]
     have cr:(S2.toList==[48])=true:=by rw[ad,ac];rfl
     clear hdb2 ac ad;replace aa:=hid aa;go_wp2_with fail;go_ret;exact ⟨by rw[aa.out];rfl,HN.out⟩
    have c5:(S2.toList==[48])=false:=by rw[ad,beq_eq_false_iff_ne];exact ac
    by_cases ab:B=[49]
    ·have aa:r=1:=by rw[an.out,ab,if_pos (by decide)]
     have cr:(S2.toList==[49])=true:=by rw[ad,ab];rfl
     clear hdb2 ac ab ad;replace aa:=hid aa;go_wp2_with fail;go_ret;exact ⟨by rw[aa.out];rfl,HN.out⟩
    have a8:(S2.toList==[49])=false:=by rw[ad,beq_eq_false_iff_ne];exact ab
    have au:(isDec B && B != [48] && B != [49])=true:=by rw[hdb2];simp[ac,ab]
    have ah:=an.out;rw[au,if_neg (by decide)] at ah;have aw:=cn.out;have ak:=b0.out;clear ad ac ab au;by_cases h6:600 < k
    ·have ai:(600:Int) < (k:Int):=by omega
     have ay:decide ((600:Int) < (k:Int))=true:=decide_eq_true ai
     have aa:r=4:=by rw[ah,ax.out,decide_eq_true h6];rfl
     clear hdb2 ah h6 aw ak;replace aa:=hid aa;go_wp2_with fail;go_ret;exact ⟨by rw[aa.out];rfl,HN.out⟩
    have ai:¬(600:Int) < (k:Int):=by omega
    have ay:decide ((600:Int) < (k:Int))=false:=decide_eq_false ai;have av:=HY.out;by_cases h7:600 < y
    ·have az:(600:Int) < (y:Int):=by omega
     have b3:decide ((600:Int) < (y:Int))=true:=decide_eq_true az
     have aa:r=4:=by rw[ah,ax.out,av,decide_eq_true h7,decide_eq_false h6];rfl
     clear hdb2 ah h6 h7 av;replace aa:=hid aa;go_wp2_with fail;go_ret;exact ⟨by rw[aa.out];rfl,HN.out⟩
    have az:¬(600:Int) < (y:Int):=by omega
    have b3:decide ((600:Int) < (y:Int))=false:=decide_eq_false az;have ao:=isDec_digs af.out;have ab:=isDec_digs hdb2;have am:=cm.out ao ab (by omega) (by omega)
    have bg:dval 0 A < B9^600:=by
     have h1:=dval_lt ao;rw[ax.out] at h1;exact b9_lt (n:=600) h1 (by omega)
    have bh:dval 0 B < B9^600:=by
     have h1:=dval_lt ab;rw[av] at h1;exact b9_lt (n:=600) h1 (by omega)
    obtain ⟨P,hP⟩:∃ P,dval 0 A=P:=⟨_,rfl⟩;obtain ⟨Q,hQ⟩:∃ Q,dval 0 B=Q:=⟨_,rfl⟩;rw[hP] at bg am;rw[hQ] at bh am;have bj:=fun W va vb (h1:IsD W va P) (h2:IsD W vb Q)=>rcommon_calls 600 va vb P Q W h1 h2 (by omega) bg bh;rw[hP,hQ,decide_eq_false (by rw[ax.out];exact h6),decide_eq_false (by rw[av];exact h7)] at ah;obtain ⟨G,hG⟩:∃ G,Nat.gcd P Q=G:=⟨_,rfl⟩;simp only[hG] at bj ah
    have ci:r=if G=1 then 0 else 1:=by
     rw[ah];by_cases h:G=1
     ·rw[if_pos h,h];rfl
     ·rw[if_neg h];simp[h]
    have co:G≠0∨True:=.inr trivial;clear hdb2 ah h6 h7 av ao ab bg bh hP hQ co hG;refine zh3 ?_ am bj ci;clear am bj ci;intro bw cj be;go_wp2_with fail;refine (bw _).mono ?_;rintro e w2 ⟨v1,v2,rfl,hn,a8,a9⟩;obtain ⟨b1,a1,l1,c1,rfl⟩:=a8.shape;obtain ⟨b2,a2,l2,c2,rfl⟩:=a9.shape;have bk:=a8.parts.2;have bl:=a9.parts.2;rw[sgnd_abs] at bk bl;clear a8 a9 ai ay az b3 aw ak a7 cf;have bb:=hid bk;have bc:=hid bl;clear bk bl;replace HN:=tW HN hn;clear hn;go_upto_region 13 with (fail);obtain ⟨BA,BB,hn⟩:=lay2 w2 124 #[.bool b1,.slice a1 l1 c1] 124 #[.bool b2,.slice a2 l2 c2];obtain ⟨HN,bb,bc⟩:=zn3 hn HN bb.new bc.new;clear hn;have pa:=BA.out.two;have pb:=BB.out.two;go_wp2_with fail;refine zN (cj _ _ _ bb bc) fun w3 v3 hn hg=>?_;clear pa pb;replace HN:=tW HN hn;clear hn;obtain ⟨n,f,ca,ag⟩:=hg;have ap:=ca.canon;obtain ⟨⟨a3,c3,⟨rfl, -⟩,bo, -⟩, -⟩:=ca;by_cases hn1:n=1
    ·subst hn1;obtain ⟨b8,o8,rfl,aq⟩:=bo 0 (by omega)
     have cb:f 0=G:=by rw[←ag];simp[vf]
     rw[cb,Nat.add_zero]at aq;clear ap bo ag cb;by_cases aj:G=1
     ·have aa:r=0:=by rw[be.out,if_pos aj]
      rw[aj]at aq;clear aj;have bf:=hid aa;clear aa;go_wp2_with fail;go_ret;exact ⟨by rw[bf.out];rfl,HN.out⟩
     ·have aa:r=1:=by rw[be.out,if_neg aj]
      have cp:((G:Int)==1)=false:=beq_eq_false_iff_ne.2 (by omega)
      have cx:((G:Int) != 1)=true:=by rw[bne,cp];rfl
      clear aj;replace aa:=hid aa;go_wp2_with fail;go_ret;exact ⟨by rw[aa.out];rfl,HN.out⟩
    ·have aj:G≠1:=by
      intro h;rw[h] at ag;have h1:=len_le (K:=1) ap ag (by decide)
      have:n=0:=by omega
      rw[this,vf_zero]at ag;omega
     have aa:r=1:=by rw[be.out,if_neg aj]
     have cq:((n:Int)==1)=false:=beq_eq_false_iff_ne.2 (by omega)
     have c4:((n:Int) != 1)=true:=by rw[bne,cq];rfl
     clear aj ap bo ag hn1;replace aa:=hid aa;go_wp2_with fail;go_ret;exact ⟨by rw[aa.out];rfl,HN.out⟩
theorem rcheck_negw (s:ByteArray)(w:World)(hls:s.size≤9223372036854775807)(hh:(s.data.toList.head?==some 45)=true):Calls prog 18 #[.string s] w fun e w'=>e=.returned (.int .i64 (ratErr s.data.toList))∧New w w':=by
 have bl:s.data.toList.head?=some 45:=by simpa using hh
 have cg:s.data.toList[0]?=some 45:=by rw[←List.head?_eq_getElem?];exact bl
 obtain ⟨hp0,ch⟩:=byte_at s cg
 have hc:((s[0]'hp0).toNat:Int)=45:=by rw[ch];rfl
 have c4:(((s[0]'hp0).toNat:Int)==45)=true:=beq_iff_eq.2 hc
 have bt:unsigned s.data.toList=(s.extract 1 s.size).data.toList:=by
  unfold unsigned;rw[if_pos bl,Lib.extract_to_end]
  cases s.data.toList with
  | nil=>rfl
  | cons c l=>rfl
 have hl:(s.extract 1 s.size).size≤9223372036854775807:=by simp;omega
 obtain ⟨U,b4⟩:∃ U,s.extract 1 s.size=U:=⟨_,rfl⟩;rw[b4] at bt hl;obtain ⟨r,hr⟩:∃ r,ratErr s.data.toList=r:=⟨_,rfl⟩;rw[hr];obtain ⟨k,af⟩:∃ k,(upTo U.data.toList).length=k:=⟨_,rfl⟩;have bp:=fun W=>rslash_wide U W hl;simp only[af] at bp;obtain ⟨A,hA⟩:∃ A,upTo U.data.toList=A:=⟨_,rfl⟩
 have hR:∀ br,slashed U.data.toList=br→r=if form2 (form1 true A) br (behind U.data.toList)=false then 1 else if (decide (600 < A.length) || decide (600 < (behind U.data.toList).length)) then 4 else if (br && Nat.gcd (dval 0 A) (dval 0 (behind U.data.toList)) != 1) then 1 else 0:=fun br hb=>by
  rw[←hr];exact ratErr_eq bt hh hA rfl hb
 have cd:=sl_len U.data.toList;rw[af,show U.data.toList.length=U.size by simp] at cd
 have e1:(U.extract 0 k).data.toList=A:=by
  rw[Lib.extract_data];show U.data.toList.take k=A;rw[←af]
  cases hbr:slashed U.data.toList with
  | true=>
   conv=>lhs;arg 2;rw[split_slash hbr]
   rw[←hA];simp
  | false=>
   rw[←hA,(split_plain hbr).1];exact List.take_of_length_le (by simp)
 have a6:=fun W=>rdecform_wide (U.extract 0 k) W (by simp;omega);rw[e1] at a6;obtain ⟨S1,aq⟩:∃ S,U.extract 0 k=S:=⟨_,rfl⟩;simp only[aq] at a6;rw[aq] at e1
 have c0:(U.size:Int)≤9223372036854775807:=by omega
 have c5:(k:Int)≤(U.size:Int):=by omega
 have ce:=New.refl w
 have cu:(1:Int)≤(s.size:Int):=by omega
 have c7:(s.size:Int)≤9223372036854775807:=by omega
 clear hr bt hh bl cg ch hls;refine zh7 ?_ ce hR bp a6 hA e1 aq;clear ce hR bp a6 hA e1 aq;intro HN HR cp cj bu cl co;go_in;go_wp2_with fail;refine (cp _).mono ?_;rintro e w1 ⟨rfl,hw⟩;rw[hw];clear hw b4 cu;have aq:=co.out;go_wp2_with fail;refine (cj _).mono ?_;rintro e w1 ⟨rfl,hw⟩;rw[hw];clear hw
 cases ae:isDec A with
 | false=>
  have aa:r=1:=by
   have:=HR.out _ rfl;unfold form2 form1 at this;rw[ae] at this;rw[this]
   cases slashed U.data.toList <;> rfl
  clear ae;replace aa:=hid aa;go_wp2_with fail;go_ret;exact ⟨by rw[aa.out];rfl,HN.out⟩
 | true=>
  have an:S1.toList=A:=by rw[ByteArray.toList_eq];exact cl.out
  by_cases hA0:A=[48]
  ·have aa:r=1:=by
    have:=HR.out _ rfl;unfold form2 form1 at this;rw[hA0] at this;rw[this]
    cases slashed U.data.toList <;> rfl
   have hz:(S1.toList==[48])=true:=by rw[an,hA0];rfl
   clear ae hA0 an;have ao:=hid aa;clear aa;go_wp2_with fail;go_ret;exact ⟨by rw[ao.out];rfl,HN.out⟩
  ·have hz:(S1.toList==[48])=false:=by rw[an,beq_eq_false_iff_ne];exact hA0
   have a8:form1 true A=true:=by unfold form1;rw[ae];simp[hA0]
   clear hA0 an;replace ae:=hid ae;replace a8:=hid a8
   cases hbr:slashed U.data.toList with
   | false=>
    have ca:k=U.size:=by
     have:=(split_plain hbr).1;rw[←af,this];simp
    have ac:behind U.data.toList=[]:=(split_plain hbr).2
    have a9:¬(k:Int) < (U.size:Int):=by omega
    have cb:decide ((k:Int) < (U.size:Int))=false:=decide_eq_false a9
    have hz:(U.size:Int) - (k:Int) - 1= -1:=by omega
    have aa:=HR.out _ hbr;rw[ac,show form2 (form1 true A) false []=form1 true A from rfl,a8.out,if_neg (by decide)] at aa
    have a5:A.length=k:=by rw[←bu.out];exact af
    by_cases h6:600 < k
    ·have ai:(600:Int) < (k:Int):=by omega
     have a0:decide ((600:Int) < (k:Int))=true:=decide_eq_true ai
     have aa:r=4:=by
      rw[aa,a5,decide_eq_true h6];rfl
     clear af ca ac h6 hbr a5;have ao:=hid aa;clear aa;go_wp2_with fail;go_ret;exact ⟨by rw[ao.out];rfl,HN.out⟩
    ·have ai:¬(600:Int) < (k:Int):=by omega
     have a0:decide ((600:Int) < (k:Int))=false:=decide_eq_false ai
     have bb:(U.size:Int) - (k:Int)=0:=by omega
     have aa:r=0:=by
      rw[aa,a5,decide_eq_false h6];rfl
     clear af ca ac h6 hbr hz a5;replace aa:=hid aa;go_wp2_with fail;go_ret;exact ⟨by rw[aa.out];rfl,HN.out⟩
   | true=>
    have bq:=split_slash hbr;have bm:=congrArg List.length bq
    have b5:U.data.toList.length=U.size:=by simp
    rw[b5,List.length_append,List.length_cons,af]at bm;obtain ⟨k1,b9⟩:∃ z,k+1=z:=⟨_,rfl⟩
    have e2:(U.extract k1 U.size).data.toList=behind U.data.toList:=by
     rw[Lib.extract_to_end]
     conv=>lhs;arg 2;rw[bq]
     rw[←b9,←af];simp
    obtain ⟨B,hB⟩:∃ B,behind U.data.toList=B:=⟨_,rfl⟩;rw[hB] at e2 bm;have a7:=fun W=>rdecform_wide (U.extract k1 U.size) W (by simp;omega);rw[e2] at a7;obtain ⟨S2,b3⟩:∃ S,U.extract k1 U.size=S:=⟨_,rfl⟩;rw[b3] at e2;simp only[b3] at a7
    have a9:(k:Int) < (U.size:Int):=by omega
    have cb:decide ((k:Int) < (U.size:Int))=true:=decide_eq_true a9
    have cw:(k:Int)+1=(k1:Int):=by omega
    have cy:k1≤U.size:=by omega
    have cx:(k1:Int)≤(U.size:Int):=by omega
    obtain ⟨y,hy⟩:∃ y,B.length=y:=⟨_,rfl⟩
    have ay:(U.size:Int) - (k:Int)=(y:Int)+1:=by omega
    have ak:(U.size:Int) - (k:Int) - 1=(y:Int):=by omega
    have aa:=HR.out _ hbr;rw[hB] at aa
    have av:form2 (form1 true A) true B=(isDec B && B != [48] && B != [49]):=by
     rw[a8.out];unfold form2;rw[if_pos rfl,Bool.true_and]
    rw[av]at aa;have bz:upTo U.data.toList=A:=bu.out
    have b0:A.length=k:=by rw[←bz];exact af
    have al:=fun (ap:∀ c∈A,isDig c=true) (ab:∀ c∈B,isDig c=true) (h6:k≤600) (h7:y≤600) W=>rparts_slash U (sgnd false (dval 0 A)) (sgnd false (dval 0 B)) W (by omega) hbr (fun W' s' _ bo=>rparse_pos s' A W' (by rw[bo,bz]) ap (by omega)) (fun W' s' _ bo=>rparse_pos s' B W' (by rw[bo,hB]) ab (by omega));clear af bq bm b5 b9 hB hbr av;refine zh8 ?_ aa al b0 ay ak a7 e2 hy;clear aa al b0 ay ak a7 e2 hy;intro am cn az cq bw ck cm HY;go_wp2_with fail;refine (ck _).mono ?_;rintro e w1 ⟨rfl,hw⟩;rw[hw];clear hw
    cases hdb2:isDec B with
    | false=>
     have aa:r=1:=by rw[am.out,hdb2];rfl
     clear hdb2;replace aa:=hid aa;go_wp2_with fail;go_ret;exact ⟨by rw[aa.out];rfl,HN.out⟩
    | true=>
     have ad:S2.toList=B:=by rw[ByteArray.toList_eq];exact cm.out
     by_cases ac:B=[48]
     ·have aa:r=1:=by rw[am.out,ac,if_pos (by decide)]
      have cv:(S2.toList==[48])=true:=by rw[ad,ac];rfl
      clear hdb2 ac ad;replace aa:=hid aa;go_wp2_with fail;go_ret;exact ⟨by rw[aa.out];rfl,HN.out⟩
     have c8:(S2.toList==[48])=false:=by rw[ad,beq_eq_false_iff_ne];exact ac
     by_cases ab:B=[49]
     ·have aa:r=1:=by rw[am.out,ab,if_pos (by decide)]
      have cv:(S2.toList==[49])=true:=by rw[ad,ab];rfl
      clear hdb2 ac ab ad;replace aa:=hid aa;go_wp2_with fail;go_ret;exact ⟨by rw[aa.out];rfl,HN.out⟩
     have ba:(S2.toList==[49])=false:=by rw[ad,beq_eq_false_iff_ne];exact ab
     have aw:(isDec B && B != [48] && B != [49])=true:=by rw[hdb2];simp[ac,ab]
     have ah:=am.out;rw[aw,if_neg (by decide)] at ah;have ay:=cq.out;have ak:=bw.out;clear ad ac ab aw;by_cases h6:600 < k
     ·have ai:(600:Int) < (k:Int):=by omega
      have a0:decide ((600:Int) < (k:Int))=true:=decide_eq_true ai
      have aa:r=4:=by rw[ah,az.out,decide_eq_true h6];rfl
      clear hdb2 ah h6 ay ak;replace aa:=hid aa;go_wp2_with fail;go_ret;exact ⟨by rw[aa.out];rfl,HN.out⟩
     have ai:¬(600:Int) < (k:Int):=by omega
     have a0:decide ((600:Int) < (k:Int))=false:=decide_eq_false ai;have ax:=HY.out;by_cases h7:600 < y
     ·have a4:(600:Int) < (y:Int):=by omega
      have bx:decide ((600:Int) < (y:Int))=true:=decide_eq_true a4
      have aa:r=4:=by rw[ah,az.out,ax,decide_eq_true h7,decide_eq_false h6];rfl
      clear hdb2 ah h6 h7 ax;replace aa:=hid aa;go_wp2_with fail;go_ret;exact ⟨by rw[aa.out];rfl,HN.out⟩
     have a4:¬(600:Int) < (y:Int):=by omega
     have bx:decide ((600:Int) < (y:Int))=false:=decide_eq_false a4;have ap:=isDec_digs ae.out;have ab:=isDec_digs hdb2;have al:=cn.out ap ab (by omega) (by omega)
     have bg:dval 0 A < B9^600:=by
      have h1:=dval_lt ap;rw[az.out] at h1;exact b9_lt (n:=600) h1 (by omega)
     have bh:dval 0 B < B9^600:=by
      have h1:=dval_lt ab;rw[ax] at h1;exact b9_lt (n:=600) h1 (by omega)
     obtain ⟨P,hP⟩:∃ P,dval 0 A=P:=⟨_,rfl⟩;obtain ⟨Q,hQ⟩:∃ Q,dval 0 B=Q:=⟨_,rfl⟩;rw[hP] at bg al;rw[hQ] at bh al;have bi:=fun W va vb (h1:IsD W va P) (h2:IsD W vb Q)=>rcommon_calls 600 va vb P Q W h1 h2 (by omega) bg bh;rw[hP,hQ,decide_eq_false (by rw[az.out];exact h6),decide_eq_false (by rw[ax];exact h7)] at ah;obtain ⟨G,hG⟩:∃ G,Nat.gcd P Q=G:=⟨_,rfl⟩;simp only[hG] at bi ah
     have cf:r=if G=1 then 0 else 1:=by
      rw[ah];by_cases h:G=1
      ·rw[if_pos h,h];rfl
      ·rw[if_neg h];simp[h]
     have cr:G≠0∨True:=.inr trivial;clear hdb2 ah h6 h7 ax ap ab bg bh hP hQ cr hG;refine zh3 ?_ al bi cf;clear al bi cf;intro bv ci bf;go_wp2_with fail;refine (bv _).mono ?_;rintro e w2 ⟨v1,v2,rfl,hn,ba,bb⟩;obtain ⟨b1,a1,l1,c1,rfl⟩:=ba.shape;obtain ⟨b2,a2,l2,c2,rfl⟩:=bb.shape;have bj:=ba.parts.2;have bk:=bb.parts.2;rw[sgnd_abs] at bj bk;clear ba bb ai a0 a4 bx ay ak a9 cb;have bc:=hid bj;have be:=hid bk;clear bj bk;replace HN:=tW HN hn;clear hn;go_upto_region 13 with (fail);obtain ⟨BA,BB,hn⟩:=lay2 w2 124 #[.bool b1,.slice a1 l1 c1] 124 #[.bool b2,.slice a2 l2 c2];obtain ⟨HN,bc,be⟩:=zn3 hn HN bc.new be.new;clear hn;have pa:=BA.out.two;have pb:=BB.out.two;go_wp2_with fail;refine zN (ci _ _ _ bc be) fun w3 v3 hn hg=>?_;clear pa pb;replace HN:=tW HN hn;clear hn;obtain ⟨n,f,b6,ag⟩:=hg;have ar:=b6.canon;obtain ⟨⟨a3,c3,⟨rfl, -⟩,bn, -⟩, -⟩:=b6;by_cases hn1:n=1
     ·subst hn1;obtain ⟨b8,o8,rfl,au⟩:=bn 0 (by omega)
      have b7:f 0=G:=by rw[←ag];simp[vf]
      rw[b7,Nat.add_zero]at au;clear ar bn ag b7;by_cases aj:G=1
      ·have aa:r=0:=by rw[bf.out,if_pos aj]
       rw[aj]at au;clear aj;have ao:=hid aa;clear aa;go_wp2_with fail;go_ret;exact ⟨by rw[ao.out];rfl,HN.out⟩
      ·have aa:r=1:=by rw[bf.out,if_neg aj]
       have cs:((G:Int)==1)=false:=beq_eq_false_iff_ne.2 (by omega)
       have cz:((G:Int) != 1)=true:=by rw[bne,cs];rfl
       clear aj;replace aa:=hid aa;go_wp2_with fail;go_ret;exact ⟨by rw[aa.out];rfl,HN.out⟩
     ·have aj:G≠1:=by
       intro h;rw[h] at ag;have h1:=len_le (K:=1) ar ag (by decide)
       have:n=0:=by omega
       rw[this,vf_zero]at ag;omega
      have aa:r=1:=by rw[bf.out,if_neg aj]
      have ct:((n:Int)==1)=false:=beq_eq_false_iff_ne.2 (by omega)
      have c6:((n:Int) != 1)=true:=by rw[bne,ct];rfl
      clear aj ar bn ag hn1;replace aa:=hid aa;go_wp2_with fail;go_ret;exact ⟨by rw[aa.out];rfl,HN.out⟩
theorem rcheck_wide (s:ByteArray)(w:World)(hl:s.size≤9223372036854775807):Calls prog 18 #[.string s] w fun e w'=>e=.returned (.int .i64 (ratErr s.data.toList))∧New w w':=by
 cases h:s.data.toList.head?==some 45 with
 | true=>exact rcheck_negw s w hl h
 | false=>exact rcheck_posw s w hl h
end Go.Proofs.YtnjonlnemagomaaGreatDoor
