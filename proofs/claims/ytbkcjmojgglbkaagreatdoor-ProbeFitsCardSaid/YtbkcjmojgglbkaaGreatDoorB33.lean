/- Part B33. -/
import Derived.Shelf.Strings.BuilderK
import Derived.Lib.AppendIntMem
import Derived.Test.YtbkcjmojgglbkaaGreatDoorB32
namespace Go.Proofs.YtbkcjmojgglbkaaGreatDoor
open Go.RowKit Big Go.Lib Go.Sort
set_option maxRecDepth 100000
set_option maxHeartbeats 8000000
theorem b9_pow {k n:Nat}(h:k≤9*n):10^k≤B9^n:=by
 rw[show B9=10^9 by decide,←Nat.pow_mul];exact Nat.pow_le_pow_right (by omega) h
theorem b9_lt {x k n:Nat}(h1:x < 10^k)(h:k≤9*n):x < B9^n:=Nat.lt_of_lt_of_le h1 (b9_pow h)
theorem ratErr_eq {l U A B:List UInt8}{neg br:Bool}(hU:unsigned l=U)(hn:(l.head?==some 45)=neg)(hA:upTo U=A)(hB:behind U=B)(hb:slashed U=br):
  ratErr l=if form2 (form1 neg A) br B=false then 1 else if (decide (600 < A.length) || decide (600 < B.length)) then 4 else if (br && Nat.gcd (dval 0 A) (dval 0 B) != 1) then 1 else 0:=by
 unfold ratErr ratLarge ratCommon;rw[←form_eq hU hn hA hB hb,hU,hA,hB,hb]
theorem rcheck_pos (U:ByteArray)(w:World)(hl:U.size≤1000000)(hh:(U.data.toList.head?==some 45)=false):Calls Tryz.prog 17 #[.string U] w fun e w'=>e=.returned (.int .i64 (ratErr U.data.toList))∧New w w':=by
 have hus:unsigned U.data.toList=U.data.toList:=by
  unfold unsigned;rw[if_neg (by intro h;rw[h] at hh;simp at hh)]
 obtain ⟨r,hr⟩:∃ r,ratErr U.data.toList=r:=⟨_,rfl⟩;rw[hr];obtain ⟨k,hk'⟩:∃ k,(upTo U.data.toList).length=k:=⟨_,rfl⟩;have hsl:=fun W=>rslash_calls U W hl;simp only[hk'] at hsl;obtain ⟨A,hA⟩:∃ A,upTo U.data.toList=A:=⟨_,rfl⟩
 have hR:∀ br,slashed U.data.toList=br→r=if form2 (form1 false A) br (behind U.data.toList)=false then 1 else if (decide (600 < A.length) || decide (600 < (behind U.data.toList).length)) then 4 else if (br && Nat.gcd (dval 0 A) (dval 0 (behind U.data.toList)) != 1) then 1 else 0:=fun br hb=>by
  rw[←hr];exact ratErr_eq hus hh hA rfl hb
 have hkle:=sl_len U.data.toList;rw[hk',show U.data.toList.length=U.size by simp] at hkle
 have e1:(U.extract 0 k).data.toList=A:=by
  rw[Lib.extract_data];show U.data.toList.take k=A;rw[←hk']
  cases hbr:slashed U.data.toList with
  | true=>
   conv=>lhs;arg 2;rw[split_slash hbr]
   rw[←hA];simp
  | false=>
   rw[←hA,(split_plain hbr).1];exact List.take_of_length_le (by simp)
 have hda:=fun W=>rdecform_calls (U.extract 0 k) W (by simp;omega);rw[e1] at hda;obtain ⟨S1,hS1⟩:∃ S,U.extract 0 k=S:=⟨_,rfl⟩;simp only[hS1] at hda;rw[hS1] at e1
 have hUi:(U.size:Int)≤1000000:=by omega
 have hki:(k:Int)≤(U.size:Int):=by omega
 have hn0:=New.refl w;have HN:=hid hn0;have HR:=hid hR;have HSL:=hid hsl;have HDA:=hid hda;have HAU:=hid hA;have HE1:=hid e1;have HS1:=hid hS1;clear hn0 hR hsl hda hA e1 hS1;by_cases h0:U.size=0
 ·have hUn:U.data.toList=[]:=List.eq_nil_of_length_eq_zero (by simpa using h0)
  have hd0:isDec A=false:=by
   rw[←HAU.out,hUn];rfl
  have hr1:r=1:=by
   rw[←hr,hUn];rfl
  have h0b:¬(0:Int) < (U.size:Int):=by omega
  clear hr hus hh hUn;have HRR:=hid hr1;clear hr1;go_enter Tryz.func17,Tryz.ntmps17;go_wp2_with fail;refine (HSL.out _).mono ?_;rintro e w1 ⟨rfl,hw⟩;rw[hw];clear hw;have hS1:=HS1.out;go_wp2_with fail;refine (HDA.out _).mono ?_;rintro e w1 ⟨rfl,hw⟩;rw[hw,hd0];clear hw hd0;go_wp2_with fail;go_ret;exact ⟨by rw[HRR.out];rfl,HN.out⟩
 have hp0:0 < U.size:=by omega
 have hc:¬((U[0]'hp0).toNat:Int)=45:=by
  intro h
  have h1:U.data.toList.head?=some (U[0]'hp0):=by
   rw[List.head?_eq_getElem?,List.getElem?_eq_getElem (by simpa using hp0)];rfl
  rw[h1,show U[0]'hp0=45 from UInt8.toNat_inj.1 (by show (U[0]'hp0).toNat=45;omega)] at hh;exact absurd hh (by decide)
 have hcb:(((U[0]'hp0).toNat:Int)==45)=false:=beq_eq_false_iff_ne.2 hc;clear h0 hr hus hh;go_enter Tryz.func17,Tryz.ntmps17;go_wp2_with fail;refine (HSL.out _).mono ?_;rintro e w1 ⟨rfl,hw⟩;rw[hw];clear hw;have hS1:=HS1.out;go_wp2_with fail;refine (HDA.out _).mono ?_;rintro e w1 ⟨rfl,hw⟩;rw[hw];clear hw hS1
 cases hda1:isDec A with
 | false=>
  have hrr:r=1:=by
   have:=HR.out _ rfl;unfold form2 form1 at this;rw[hda1] at this;rw[this]
   cases slashed U.data.toList <;> rfl
  clear hda1;have HRR:=hid hrr;clear hrr;go_wp2_with fail;go_ret;exact ⟨by rw[HRR.out];rfl,HN.out⟩
 | true=>
  have hf1:form1 false A=true:=by unfold form1;rw[hda1];rfl
  have HDA1:=hid hda1;have HF1:=hid hf1;clear hda1 hf1
  cases hbr:slashed U.data.toList with
  | false=>
   have hkU:k=U.size:=by
    have:=(split_plain hbr).1;rw[←hk',this];simp
   have hB0:behind U.data.toList=[]:=(split_plain hbr).2
   have hkc:¬(k:Int) < (U.size:Int):=by omega
   have hkd:decide ((k:Int) < (U.size:Int))=false:=decide_eq_false hkc
   have hz:(U.size:Int) - (k:Int) - 1= -1:=by omega
   have hrr:=HR.out _ hbr;rw[hB0,show form2 (form1 false A) false []=form1 false A from rfl,HF1.out,if_neg (by decide)] at hrr
   have hAl:A.length=k:=by rw[←HAU.out];exact hk'
   by_cases h6:600 < k
   ·have h6i:(600:Int) < (k:Int):=by omega
    have h6b:decide ((600:Int) < (k:Int))=true:=decide_eq_true h6i
    have hrr:r=4:=by
     rw[hrr,hAl,decide_eq_true h6];rfl
    clear hk' hkU hB0 h6 hbr hAl;have HRR:=hid hrr;clear hrr;go_wp2_with fail;go_ret;exact ⟨by rw[HRR.out];rfl,HN.out⟩
   ·have h6i:¬(600:Int) < (k:Int):=by omega
    have h6b:decide ((600:Int) < (k:Int))=false:=decide_eq_false h6i
    have hz2:(U.size:Int) - (k:Int)=0:=by omega
    have hrr:r=0:=by
     rw[hrr,hAl,decide_eq_false h6];rfl
    clear hk' hkU hB0 h6 hbr hz hAl;have HRR:=hid hrr;clear hrr;go_wp2_with fail;go_ret;exact ⟨by rw[HRR.out];rfl,HN.out⟩
  | true=>
   have hsp:=split_slash hbr;have hll:=congrArg List.length hsp
   have hUl:U.data.toList.length=U.size:=by simp
   rw[hUl,List.length_append,List.length_cons,hk']at hll;obtain ⟨k1,hk1⟩:∃ z,k+1=z:=⟨_,rfl⟩
   have e2:(U.extract k1 U.size).data.toList=behind U.data.toList:=by
    rw[Lib.extract_to_end]
    conv=>lhs;arg 2;rw[hsp]
    rw[←hk1,←hk'];simp
   obtain ⟨B,hB⟩:∃ B,behind U.data.toList=B:=⟨_,rfl⟩;rw[hB] at e2 hll;have hdb:=fun W=>rdecform_calls (U.extract k1 U.size) W (by simp;omega);rw[e2] at hdb;obtain ⟨S2,hS2⟩:∃ S,U.extract k1 U.size=S:=⟨_,rfl⟩;rw[hS2] at e2;simp only[hS2] at hdb
   have hkc:(k:Int) < (U.size:Int):=by omega
   have hkd:decide ((k:Int) < (U.size:Int))=true:=decide_eq_true hkc
   have hk1e:(k:Int)+1=(k1:Int):=by omega
   have hk1n:k1≤U.size:=by omega
   have hk1i:(k1:Int)≤(U.size:Int):=by omega
   obtain ⟨y,hy⟩:∃ y,B.length=y:=⟨_,rfl⟩
   have hyi:(U.size:Int) - (k:Int)=(y:Int)+1:=by omega
   have hyi2:(U.size:Int) - (k:Int) - 1=(y:Int):=by omega
   have hrr:=HR.out _ hbr;rw[hB] at hrr
   have hform:form2 (form1 false A) true B=(isDec B && B != [48] && B != [49]):=by
    rw[HF1.out];unfold form2;rw[if_pos rfl,Bool.true_and]
   rw[hform]at hrr;have hAU:upTo U.data.toList=A:=HAU.out
   have hAk:A.length=k:=by rw[←hAU];exact hk'
   have hpa:=fun (hA1:∀ c∈A,isDig c=true) (hB1:∀ c∈B,isDig c=true) (h6:k≤600) (h7:y≤600) W=>rparts_slash U (sgnd false (dval 0 A)) (sgnd false (dval 0 B)) W (by omega) hbr (fun W' s' _ hs'=>rparse_pos s' A W' (by rw[hs',hAU]) hA1 (by omega)) (fun W' s' _ hs'=>rparse_pos s' B W' (by rw[hs',hB]) hB1 (by omega));clear hk' hsp hll hUl hk1 hB hbr hform;have HRR0:=hid hrr;have HPA:=hid hpa;have HAK:=hid hAk;have HYI:=hid hyi;have HYI2:=hid hyi2;have HDB:=hid hdb;have HE2:=hid e2;have HY:=hid hy;clear hrr hpa hAk hyi hyi2 hdb e2 hy;go_wp2_with fail;refine (HDB.out _).mono ?_;rintro e w1 ⟨rfl,hw⟩;rw[hw];clear hw
   cases hdb2:isDec B with
   | false=>
    have hrr:r=1:=by rw[HRR0.out,hdb2];rfl
    clear hdb2;have HRR:=hid hrr;clear hrr;go_wp2_with fail;go_ret;exact ⟨by rw[HRR.out];rfl,HN.out⟩
   | true=>
    have hS2l:S2.toList=B:=by rw[ByteArray.toList_eq];exact HE2.out
    by_cases hB0:B=[48]
    ·have hrr:r=1:=by rw[HRR0.out,hB0,if_pos (by decide)]
     have hzb:(S2.toList==[48])=true:=by rw[hS2l,hB0];rfl
     clear hdb2 hB0 hS2l;have HRR:=hid hrr;clear hrr;go_wp2_with fail;go_ret;exact ⟨by rw[HRR.out];rfl,HN.out⟩
    have hz0:(S2.toList==[48])=false:=by rw[hS2l,beq_eq_false_iff_ne];exact hB0
    by_cases hB1:B=[49]
    ·have hrr:r=1:=by rw[HRR0.out,hB1,if_pos (by decide)]
     have hzb:(S2.toList==[49])=true:=by rw[hS2l,hB1];rfl
     clear hdb2 hB0 hB1 hS2l;have HRR:=hid hrr;clear hrr;go_wp2_with fail;go_ret;exact ⟨by rw[HRR.out];rfl,HN.out⟩
    have hz1:(S2.toList==[49])=false:=by rw[hS2l,beq_eq_false_iff_ne];exact hB1
    have hgood:(isDec B && B != [48] && B != [49])=true:=by rw[hdb2];simp[hB0,hB1]
    have hr2:=HRR0.out;rw[hgood,if_neg (by decide)] at hr2;have hyi:=HYI.out;have hyi2:=HYI2.out;clear hS2l hB0 hB1 hgood;by_cases h6:600 < k
    ·have h6i:(600:Int) < (k:Int):=by omega
     have h6b:decide ((600:Int) < (k:Int))=true:=decide_eq_true h6i
     have hrr:r=4:=by rw[hr2,HAK.out,decide_eq_true h6];rfl
     clear hdb2 hr2 h6 hyi hyi2;have HRR:=hid hrr;clear hrr;go_wp2_with fail;go_ret;exact ⟨by rw[HRR.out];rfl,HN.out⟩
    have h6i:¬(600:Int) < (k:Int):=by omega
    have h6b:decide ((600:Int) < (k:Int))=false:=decide_eq_false h6i;have hye:=HY.out;by_cases h7:600 < y
    ·have h7i:(600:Int) < (y:Int):=by omega
     have h7b:decide ((600:Int) < (y:Int))=true:=decide_eq_true h7i
     have hrr:r=4:=by rw[hr2,HAK.out,hye,decide_eq_true h7,decide_eq_false h6];rfl
     clear hdb2 hr2 h6 h7 hye;have HRR:=hid hrr;clear hrr;go_wp2_with fail;go_ret;exact ⟨by rw[HRR.out];rfl,HN.out⟩
    have h7i:¬(600:Int) < (y:Int):=by omega
    have h7b:decide ((600:Int) < (y:Int))=false:=decide_eq_false h7i;have hA1:=isDec_digs HDA1.out;have hB1:=isDec_digs hdb2;have hpa:=HPA.out hA1 hB1 (by omega) (by omega)
    have hAb:dval 0 A < B9^600:=by
     have h1:=dval_lt hA1;rw[HAK.out] at h1;exact b9_lt (n:=600) h1 (by omega)
    have hBb:dval 0 B < B9^600:=by
     have h1:=dval_lt hB1;rw[hye] at h1;exact b9_lt (n:=600) h1 (by omega)
    obtain ⟨P,hP⟩:∃ P,dval 0 A=P:=⟨_,rfl⟩;obtain ⟨Q,hQ⟩:∃ Q,dval 0 B=Q:=⟨_,rfl⟩;rw[hP] at hAb hpa;rw[hQ] at hBb hpa;have hcm:=fun W va vb (h1:IsD W va P) (h2:IsD W vb Q)=>rcommon_calls 600 va vb P Q W h1 h2 (by omega) hAb hBb;rw[hP,hQ,decide_eq_false (by rw[HAK.out];exact h6),decide_eq_false (by rw[hye];exact h7)] at hr2;obtain ⟨G,hG⟩:∃ G,Nat.gcd P Q=G:=⟨_,rfl⟩;simp only[hG] at hcm hr2
    have hr3:r=if G=1 then 0 else 1:=by
     rw[hr2];by_cases h:G=1
     ·rw[if_pos h,h];rfl
     ·rw[if_neg h];simp[h]
    have hG0:G≠0∨True:=.inr trivial;clear hdb2 hr2 h6 h7 hye hA1 hB1 hAb hBb hP hQ hG0 hG;have HPA2:=hid hpa;have HCM:=hid hcm;have HR3:=hid hr3;clear hpa hcm hr3;go_wp2_with fail;refine (HPA2.out _).mono ?_;rintro e w2 ⟨v1,v2,rfl,hn,hz1,hz2⟩;obtain ⟨b1,a1,l1,c1,rfl⟩:=hz1.shape;obtain ⟨b2,a2,l2,c2,rfl⟩:=hz2.shape;have hd1:=hz1.parts.2;have hd2:=hz2.parts.2;rw[sgnd_abs] at hd1 hd2;clear hz1 hz2 h6i h6b h7i h7b hyi hyi2 hkc hkd;have HD1:=hid hd1;have HD2:=hid hd2;clear hd1 hd2;replace HN:=tW HN hn;clear hn;go_upto_region 13 with (fail);have HN0:=HN;clear HN;obtain ⟨BA,BB,HN⟩:=lay2 w2 137 #[.bool b1,.slice a1 l1 c1] 137 #[.bool b2,.slice a2 l2 c2];replace HD1:=hid (HD1.out.new HN.out);replace HD2:=hid (HD2.out.new HN.out);have HN_:=HN0.out.trans HN.out;clear HN HN0;have HN:=hid HN_;clear HN_;obtain ⟨pa0,pa1,pa2,pa3,pa4⟩:=BA.out.two;obtain ⟨pb0,pb1,pb2,pb3,pb4⟩:=BB.out.two;go_wp2_with fail;refine (HCM.out _ _ _ HD1.out HD2.out).mono ?_;rintro e w3 ⟨v3,rfl,hn,hg⟩;clear pa0 pa1 pa2 pa3 pa4 pb0 pb1 pb2 pb3 pb4;replace HN:=tW HN hn;clear hn;obtain ⟨n,f,hdg,hval⟩:=hg;have hcan:=hdg.canon;obtain ⟨⟨a3,c3,⟨rfl, -⟩,hrd, -⟩, -⟩:=hdg;by_cases hn1:n=1
    ·subst hn1;obtain ⟨b8,o8,rfl,hcell⟩:=hrd 0 (by omega)
     have hf0:f 0=G:=by rw[←hval];simp[vf]
     rw[hf0,Nat.add_zero]at hcell;clear hcan hrd hval hf0;by_cases hG1:G=1
     ·have hrr:r=0:=by rw[HR3.out,if_pos hG1]
      rw[hG1]at hcell;clear hG1;have HRR:=hid hrr;clear hrr;go_wp2_with fail;go_ret;exact ⟨by rw[HRR.out];rfl,HN.out⟩
     ·have hrr:r=1:=by rw[HR3.out,if_neg hG1]
      have hGb:((G:Int)==1)=false:=beq_eq_false_iff_ne.2 (by omega)
      have hGc:((G:Int) != 1)=true:=by rw[bne,hGb];rfl
      clear hG1;have HRR:=hid hrr;clear hrr;go_wp2_with fail;go_ret;exact ⟨by rw[HRR.out];rfl,HN.out⟩
    ·have hG1:G≠1:=by
      intro h;rw[h] at hval;have h1:=len_le (K:=1) hcan hval (by decide)
      have:n=0:=by omega
      rw[this,vf_zero]at hval;omega
     have hrr:r=1:=by rw[HR3.out,if_neg hG1]
     have hnb:((n:Int)==1)=false:=beq_eq_false_iff_ne.2 (by omega)
     have hnc:((n:Int) != 1)=true:=by rw[bne,hnb];rfl
     clear hG1 hcan hrd hval hn1;have HRR:=hid hrr;clear hrr;go_wp2_with fail;go_ret;exact ⟨by rw[HRR.out];rfl,HN.out⟩
theorem rcheck_neg (s:ByteArray)(w:World)(hls:s.size≤1000000)(hh:(s.data.toList.head?==some 45)=true):Calls Tryz.prog 17 #[.string s] w fun e w'=>e=.returned (.int .i64 (ratErr s.data.toList))∧New w w':=by
 have hhd:s.data.toList.head?=some 45:=by simpa using hh
 have hs0:s.data.toList[0]?=some 45:=by rw[←List.head?_eq_getElem?];exact hhd
 obtain ⟨hp0,hs1⟩:=byte_at s hs0
 have hc:((s[0]'hp0).toNat:Int)=45:=by rw[hs1];rfl
 have hcb:(((s[0]'hp0).toNat:Int)==45)=true:=beq_iff_eq.2 hc
 have hus:unsigned s.data.toList=(s.extract 1 s.size).data.toList:=by
  unfold unsigned;rw[if_pos hhd,Lib.extract_to_end]
  cases s.data.toList with
  | nil=>rfl
  | cons c l=>rfl
 have hl:(s.extract 1 s.size).size≤1000000:=by simp;omega
 obtain ⟨U,hUe⟩:∃ U,s.extract 1 s.size=U:=⟨_,rfl⟩;rw[hUe] at hus hl;obtain ⟨r,hr⟩:∃ r,ratErr s.data.toList=r:=⟨_,rfl⟩;rw[hr];obtain ⟨k,hk'⟩:∃ k,(upTo U.data.toList).length=k:=⟨_,rfl⟩;have hsl:=fun W=>rslash_calls U W hl;simp only[hk'] at hsl;obtain ⟨A,hA⟩:∃ A,upTo U.data.toList=A:=⟨_,rfl⟩
 have hR:∀ br,slashed U.data.toList=br→r=if form2 (form1 true A) br (behind U.data.toList)=false then 1 else if (decide (600 < A.length) || decide (600 < (behind U.data.toList).length)) then 4 else if (br && Nat.gcd (dval 0 A) (dval 0 (behind U.data.toList)) != 1) then 1 else 0:=fun br hb=>by
  rw[←hr];exact ratErr_eq hus hh hA rfl hb
 have hkle:=sl_len U.data.toList;rw[hk',show U.data.toList.length=U.size by simp] at hkle
 have e1:(U.extract 0 k).data.toList=A:=by
  rw[Lib.extract_data];show U.data.toList.take k=A;rw[←hk']
  cases hbr:slashed U.data.toList with
  | true=>
   conv=>lhs;arg 2;rw[split_slash hbr]
   rw[←hA];simp
  | false=>
   rw[←hA,(split_plain hbr).1];exact List.take_of_length_le (by simp)
 have hda:=fun W=>rdecform_calls (U.extract 0 k) W (by simp;omega);rw[e1] at hda;obtain ⟨S1,hS1⟩:∃ S,U.extract 0 k=S:=⟨_,rfl⟩;simp only[hS1] at hda;rw[hS1] at e1
 have hUi:(U.size:Int)≤1000000:=by omega
 have hki:(k:Int)≤(U.size:Int):=by omega
 have hn0:=New.refl w
 have hp1:(1:Int)≤(s.size:Int):=by omega
 have hsi:(s.size:Int)≤1000000:=by omega
 clear hr hus hh hhd hs0 hs1 hls;have HN:=hid hn0;have HR:=hid hR;have HSL:=hid hsl;have HDA:=hid hda;have HAU:=hid hA;have HE1:=hid e1;have HS1:=hid hS1;clear hn0 hR hsl hda hA e1 hS1;go_enter Tryz.func17,Tryz.ntmps17;go_wp2_with fail;refine (HSL.out _).mono ?_;rintro e w1 ⟨rfl,hw⟩;rw[hw];clear hw hUe hp1;have hS1:=HS1.out;go_wp2_with fail;refine (HDA.out _).mono ?_;rintro e w1 ⟨rfl,hw⟩;rw[hw];clear hw
 cases hda1:isDec A with
 | false=>
  have hrr:r=1:=by
   have:=HR.out _ rfl;unfold form2 form1 at this;rw[hda1] at this;rw[this]
   cases slashed U.data.toList <;> rfl
  clear hda1;have HRR:=hid hrr;clear hrr;go_wp2_with fail;go_ret;exact ⟨by rw[HRR.out];rfl,HN.out⟩
 | true=>
  have hS1l:S1.toList=A:=by rw[ByteArray.toList_eq];exact HE1.out
  by_cases hA0:A=[48]
  ·have hrr:r=1:=by
    have:=HR.out _ rfl;unfold form2 form1 at this;rw[hA0] at this;rw[this]
    cases slashed U.data.toList <;> rfl
   have hz:(S1.toList==[48])=true:=by rw[hS1l,hA0];rfl
   clear hda1 hA0 hS1l;have HRR:=hid hrr;clear hrr;go_wp2_with fail;go_ret;exact ⟨by rw[HRR.out];rfl,HN.out⟩
  ·have hz:(S1.toList==[48])=false:=by rw[hS1l,beq_eq_false_iff_ne];exact hA0
   have hf1:form1 true A=true:=by unfold form1;rw[hda1];simp[hA0]
   clear hA0 hS1l;have HDA1:=hid hda1;have HF1:=hid hf1;clear hda1 hf1
   cases hbr:slashed U.data.toList with
   | false=>
    have hkU:k=U.size:=by
     have:=(split_plain hbr).1;rw[←hk',this];simp
    have hB0:behind U.data.toList=[]:=(split_plain hbr).2
    have hkc:¬(k:Int) < (U.size:Int):=by omega
    have hkd:decide ((k:Int) < (U.size:Int))=false:=decide_eq_false hkc
    have hz:(U.size:Int) - (k:Int) - 1= -1:=by omega
    have hrr:=HR.out _ hbr;rw[hB0,show form2 (form1 true A) false []=form1 true A from rfl,HF1.out,if_neg (by decide)] at hrr
    have hAl:A.length=k:=by rw[←HAU.out];exact hk'
    by_cases h6:600 < k
    ·have h6i:(600:Int) < (k:Int):=by omega
     have h6b:decide ((600:Int) < (k:Int))=true:=decide_eq_true h6i
     have hrr:r=4:=by
      rw[hrr,hAl,decide_eq_true h6];rfl
     clear hk' hkU hB0 h6 hbr hAl;have HRR:=hid hrr;clear hrr;go_wp2_with fail;go_ret;exact ⟨by rw[HRR.out];rfl,HN.out⟩
    ·have h6i:¬(600:Int) < (k:Int):=by omega
     have h6b:decide ((600:Int) < (k:Int))=false:=decide_eq_false h6i
     have hz2:(U.size:Int) - (k:Int)=0:=by omega
     have hrr:r=0:=by
      rw[hrr,hAl,decide_eq_false h6];rfl
     clear hk' hkU hB0 h6 hbr hz hAl;have HRR:=hid hrr;clear hrr;go_wp2_with fail;go_ret;exact ⟨by rw[HRR.out];rfl,HN.out⟩
   | true=>
    have hsp:=split_slash hbr;have hll:=congrArg List.length hsp
    have hUl:U.data.toList.length=U.size:=by simp
    rw[hUl,List.length_append,List.length_cons,hk']at hll;obtain ⟨k1,hk1⟩:∃ z,k+1=z:=⟨_,rfl⟩
    have e2:(U.extract k1 U.size).data.toList=behind U.data.toList:=by
     rw[Lib.extract_to_end]
     conv=>lhs;arg 2;rw[hsp]
     rw[←hk1,←hk'];simp
    obtain ⟨B,hB⟩:∃ B,behind U.data.toList=B:=⟨_,rfl⟩;rw[hB] at e2 hll;have hdb:=fun W=>rdecform_calls (U.extract k1 U.size) W (by simp;omega);rw[e2] at hdb;obtain ⟨S2,hS2⟩:∃ S,U.extract k1 U.size=S:=⟨_,rfl⟩;rw[hS2] at e2;simp only[hS2] at hdb
    have hkc:(k:Int) < (U.size:Int):=by omega
    have hkd:decide ((k:Int) < (U.size:Int))=true:=decide_eq_true hkc
    have hk1e:(k:Int)+1=(k1:Int):=by omega
    have hk1n:k1≤U.size:=by omega
    have hk1i:(k1:Int)≤(U.size:Int):=by omega
    obtain ⟨y,hy⟩:∃ y,B.length=y:=⟨_,rfl⟩
    have hyi:(U.size:Int) - (k:Int)=(y:Int)+1:=by omega
    have hyi2:(U.size:Int) - (k:Int) - 1=(y:Int):=by omega
    have hrr:=HR.out _ hbr;rw[hB] at hrr
    have hform:form2 (form1 true A) true B=(isDec B && B != [48] && B != [49]):=by
     rw[HF1.out];unfold form2;rw[if_pos rfl,Bool.true_and]
    rw[hform]at hrr;have hAU:upTo U.data.toList=A:=HAU.out
    have hAk:A.length=k:=by rw[←hAU];exact hk'
    have hpa:=fun (hA1:∀ c∈A,isDig c=true) (hB1:∀ c∈B,isDig c=true) (h6:k≤600) (h7:y≤600) W=>rparts_slash U (sgnd false (dval 0 A)) (sgnd false (dval 0 B)) W (by omega) hbr (fun W' s' _ hs'=>rparse_pos s' A W' (by rw[hs',hAU]) hA1 (by omega)) (fun W' s' _ hs'=>rparse_pos s' B W' (by rw[hs',hB]) hB1 (by omega));clear hk' hsp hll hUl hk1 hB hbr hform;have HRR0:=hid hrr;have HPA:=hid hpa;have HAK:=hid hAk;have HYI:=hid hyi;have HYI2:=hid hyi2;have HDB:=hid hdb;have HE2:=hid e2;have HY:=hid hy;clear hrr hpa hAk hyi hyi2 hdb e2 hy;go_wp2_with fail;refine (HDB.out _).mono ?_;rintro e w1 ⟨rfl,hw⟩;rw[hw];clear hw
    cases hdb2:isDec B with
    | false=>
     have hrr:r=1:=by rw[HRR0.out,hdb2];rfl
     clear hdb2;have HRR:=hid hrr;clear hrr;go_wp2_with fail;go_ret;exact ⟨by rw[HRR.out];rfl,HN.out⟩
    | true=>
     have hS2l:S2.toList=B:=by rw[ByteArray.toList_eq];exact HE2.out
     by_cases hB0:B=[48]
     ·have hrr:r=1:=by rw[HRR0.out,hB0,if_pos (by decide)]
      have hzb:(S2.toList==[48])=true:=by rw[hS2l,hB0];rfl
      clear hdb2 hB0 hS2l;have HRR:=hid hrr;clear hrr;go_wp2_with fail;go_ret;exact ⟨by rw[HRR.out];rfl,HN.out⟩
     have hz0:(S2.toList==[48])=false:=by rw[hS2l,beq_eq_false_iff_ne];exact hB0
     by_cases hB1:B=[49]
     ·have hrr:r=1:=by rw[HRR0.out,hB1,if_pos (by decide)]
      have hzb:(S2.toList==[49])=true:=by rw[hS2l,hB1];rfl
      clear hdb2 hB0 hB1 hS2l;have HRR:=hid hrr;clear hrr;go_wp2_with fail;go_ret;exact ⟨by rw[HRR.out];rfl,HN.out⟩
     have hz1:(S2.toList==[49])=false:=by rw[hS2l,beq_eq_false_iff_ne];exact hB1
     have hgood:(isDec B && B != [48] && B != [49])=true:=by rw[hdb2];simp[hB0,hB1]
     have hr2:=HRR0.out;rw[hgood,if_neg (by decide)] at hr2;have hyi:=HYI.out;have hyi2:=HYI2.out;clear hS2l hB0 hB1 hgood;by_cases h6:600 < k
     ·have h6i:(600:Int) < (k:Int):=by omega
      have h6b:decide ((600:Int) < (k:Int))=true:=decide_eq_true h6i
      have hrr:r=4:=by rw[hr2,HAK.out,decide_eq_true h6];rfl
      clear hdb2 hr2 h6 hyi hyi2;have HRR:=hid hrr;clear hrr;go_wp2_with fail;go_ret;exact ⟨by rw[HRR.out];rfl,HN.out⟩
     have h6i:¬(600:Int) < (k:Int):=by omega
     have h6b:decide ((600:Int) < (k:Int))=false:=decide_eq_false h6i;have hye:=HY.out;by_cases h7:600 < y
     ·have h7i:(600:Int) < (y:Int):=by omega
      have h7b:decide ((600:Int) < (y:Int))=true:=decide_eq_true h7i
      have hrr:r=4:=by rw[hr2,HAK.out,hye,decide_eq_true h7,decide_eq_false h6];rfl
      clear hdb2 hr2 h6 h7 hye;have HRR:=hid hrr;clear hrr;go_wp2_with fail;go_ret;exact ⟨by rw[HRR.out];rfl,HN.out⟩
     have h7i:¬(600:Int) < (y:Int):=by omega
     have h7b:decide ((600:Int) < (y:Int))=false:=decide_eq_false h7i;have hA1:=isDec_digs HDA1.out;have hB1:=isDec_digs hdb2;have hpa:=HPA.out hA1 hB1 (by omega) (by omega)
     have hAb:dval 0 A < B9^600:=by
      have h1:=dval_lt hA1;rw[HAK.out] at h1;exact b9_lt (n:=600) h1 (by omega)
     have hBb:dval 0 B < B9^600:=by
      have h1:=dval_lt hB1;rw[hye] at h1;exact b9_lt (n:=600) h1 (by omega)
     obtain ⟨P,hP⟩:∃ P,dval 0 A=P:=⟨_,rfl⟩;obtain ⟨Q,hQ⟩:∃ Q,dval 0 B=Q:=⟨_,rfl⟩;rw[hP] at hAb hpa;rw[hQ] at hBb hpa;have hcm:=fun W va vb (h1:IsD W va P) (h2:IsD W vb Q)=>rcommon_calls 600 va vb P Q W h1 h2 (by omega) hAb hBb;rw[hP,hQ,decide_eq_false (by rw[HAK.out];exact h6),decide_eq_false (by rw[hye];exact h7)] at hr2;obtain ⟨G,hG⟩:∃ G,Nat.gcd P Q=G:=⟨_,rfl⟩;simp only[hG] at hcm hr2
     have hr3:r=if G=1 then 0 else 1:=by
      rw[hr2];by_cases h:G=1
      ·rw[if_pos h,h];rfl
      ·rw[if_neg h];simp[h]
     have hG0:G≠0∨True:=.inr trivial;clear hdb2 hr2 h6 h7 hye hA1 hB1 hAb hBb hP hQ hG0 hG;have HPA2:=hid hpa;have HCM:=hid hcm;have HR3:=hid hr3;clear hpa hcm hr3;go_wp2_with fail;refine (HPA2.out _).mono ?_;rintro e w2 ⟨v1,v2,rfl,hn,hz1,hz2⟩;obtain ⟨b1,a1,l1,c1,rfl⟩:=hz1.shape;obtain ⟨b2,a2,l2,c2,rfl⟩:=hz2.shape;have hd1:=hz1.parts.2;have hd2:=hz2.parts.2;rw[sgnd_abs] at hd1 hd2;clear hz1 hz2 h6i h6b h7i h7b hyi hyi2 hkc hkd;have HD1:=hid hd1;have HD2:=hid hd2;clear hd1 hd2;replace HN:=tW HN hn;clear hn;go_upto_region 13 with (fail);have HN0:=HN;clear HN;obtain ⟨BA,BB,HN⟩:=lay2 w2 137 #[.bool b1,.slice a1 l1 c1] 137 #[.bool b2,.slice a2 l2 c2];replace HD1:=hid (HD1.out.new HN.out);replace HD2:=hid (HD2.out.new HN.out);have HN_:=HN0.out.trans HN.out;clear HN HN0;have HN:=hid HN_;clear HN_;obtain ⟨pa0,pa1,pa2,pa3,pa4⟩:=BA.out.two;obtain ⟨pb0,pb1,pb2,pb3,pb4⟩:=BB.out.two;go_wp2_with fail;refine (HCM.out _ _ _ HD1.out HD2.out).mono ?_;rintro e w3 ⟨v3,rfl,hn,hg⟩;clear pa0 pa1 pa2 pa3 pa4 pb0 pb1 pb2 pb3 pb4;replace HN:=tW HN hn;clear hn;obtain ⟨n,f,hdg,hval⟩:=hg;have hcan:=hdg.canon;obtain ⟨⟨a3,c3,⟨rfl, -⟩,hrd, -⟩, -⟩:=hdg;by_cases hn1:n=1
     ·subst hn1;obtain ⟨b8,o8,rfl,hcell⟩:=hrd 0 (by omega)
      have hf0:f 0=G:=by rw[←hval];simp[vf]
      rw[hf0,Nat.add_zero]at hcell;clear hcan hrd hval hf0;by_cases hG1:G=1
      ·have hrr:r=0:=by rw[HR3.out,if_pos hG1]
       rw[hG1]at hcell;clear hG1;have HRR:=hid hrr;clear hrr;go_wp2_with fail;go_ret;exact ⟨by rw[HRR.out];rfl,HN.out⟩
      ·have hrr:r=1:=by rw[HR3.out,if_neg hG1]
       have hGb:((G:Int)==1)=false:=beq_eq_false_iff_ne.2 (by omega)
       have hGc:((G:Int) != 1)=true:=by rw[bne,hGb];rfl
       clear hG1;have HRR:=hid hrr;clear hrr;go_wp2_with fail;go_ret;exact ⟨by rw[HRR.out];rfl,HN.out⟩
     ·have hG1:G≠1:=by
       intro h;rw[h] at hval;have h1:=len_le (K:=1) hcan hval (by decide)
       have:n=0:=by omega
       rw[this,vf_zero]at hval;omega
      have hrr:r=1:=by rw[HR3.out,if_neg hG1]
      have hnb:((n:Int)==1)=false:=beq_eq_false_iff_ne.2 (by omega)
      have hnc:((n:Int) != 1)=true:=by rw[bne,hnb];rfl
      clear hG1 hcan hrd hval hn1;have HRR:=hid hrr;clear hrr;go_wp2_with fail;go_ret;exact ⟨by rw[HRR.out];rfl,HN.out⟩
theorem rcheck_calls (s:ByteArray)(w:World)(hl:s.size≤1000000):Calls Tryz.prog 17 #[.string s] w fun e w'=>e=.returned (.int .i64 (ratErr s.data.toList))∧New w w':=by
 cases h:s.data.toList.head?==some 45 with
 | true=>exact rcheck_neg s w hl h
 | false=>exact rcheck_pos s w hl h
theorem wrap64n {z:Int}{k:Nat}(h:z=(k:Int))(hk:k < 1000000):wrap64 z=(k:Int):=by
 subst h;exact ld_in (by omega) (by omega)
theorem power_calls (n:Nat)(w:World)(hn:n≤16):Calls Tryz.prog 142 #[.int .i64 (n:Int)] w fun e w'=>e=.returned (.int .i64 ((2^n:Nat):Int))∧w'=w:=by
 have hni:(n:Int)≤16:=by omega
 go_enter Tryz.func142,Tryz.ntmps142;go_wp2_with fail;go_loopw [3,4] (fun p i wr=>∃ (k q:Nat),k≤n∧i=.int .i64 (k:Int)∧p=.int .i64 (q:Int)∧Hid (2^k=q)∧wr=w) (fun _ i _=>n - (RowKit.intOf i).toNat)
 case atStart=>exact ⟨0,1,Nat.zero_le _,rfl,rfl,hid rfl,rfl⟩
 case round=>
  obtain ⟨k,q,hk,rfl,rfl,HQ,rfl⟩:=hrel
  have hq:q≤65536:=by
   rw[←HQ.out];have:2^k≤2^16:=Nat.pow_le_pow_right (by decide) (by omega);exact this
  by_cases hlt:k < n
  ·have hw1:wrap64 (2*(q:Int))=((2*q:Nat):Int):=wrap64n (by omega) (by omega)
   have hw2:IntKind.i64.wrap (2*(q:Int))=((2*q:Nat):Int):=by rw[IntKind.wrap_i64];omega
   go_wp2_with fail;go_roundw
   case rel=>exact ⟨k+1,2*q,by omega,by go_num,rfl,hid (by rw[Nat.pow_succ,HQ.out];omega),by first | rfl | trivial⟩
   case measure=>simp[RowKit.intOf];omega
  ·have hkk:k=n:=by omega
   have HKK:=hid hkk;clear hkk;go_wp2_with fail;go_ret;exact ⟨ret_i64 (by rw[←HKK.out,HQ.out]),rfl⟩
theorem rtop_calls (b s z:Int)(g o:ByteArray)(w:World)(lo:0≤b)(hi:b≤12):Calls Tryz.prog 78 #[.agg #[.int .i64 b,.int .i64 s,.int .i64 z,.string g,.string o]] w fun e w'=>e=.returned (.int .i64 (2^b.toNat - 1))∧New w w':=by
 obtain ⟨n,rfl⟩:∃ n:Nat,b=(n:Int):=⟨b.toNat,by omega⟩;have hp:=fun W=>power_calls n W (by omega);have hle:2^n≤2^12:=Nat.pow_le_pow_right (by decide) (by omega)
 have he:(2:Int)^((n:Int)).toNat - 1=((2^n:Nat):Int) - 1:=by rw[Int.toNat_natCast];simp
 rw[he];obtain ⟨p,hp2⟩:∃ p,2^n=p:=⟨_,rfl⟩;rw[hp2] at hle⊢;simp only[hp2] at hp
 have hpi:(p:Int)≤4096:=by omega
 clear he hp2 hle lo hi;have HP:=hid hp;clear hp;go_enter Tryz.func78,Tryz.ntmps78;go_wp2_with fail;obtain ⟨BA,HN⟩:=lay1 w 24 #[.int .i64 (n:Int),.int .i64 s,.int .i64 z,.string g,.string o];refine (HP.out _).mono ?_;rintro e w1 ⟨rfl,hw⟩;rw[hw];clear hw;go_wp2_with fail;go_ret;exact ⟨rfl,HN.out⟩
theorem rat_two_pow (n:Nat):(2:Rat)^n=((2^n:Int):Rat):=by
 induction n with
 | zero=>rfl
 | succ n ih=>
  rw[Rat.pow_succ,ih,Int.pow_succ];exact (Rat.intCast_mul _ _).symm
theorem rat_inv_pow {a:Rat}(h:a≠0)(n:Nat):a⁻¹^n=(a^n)⁻¹:=by
 have h1:∀ n:Nat,a⁻¹^n*a^n=1:=fun n=>by
  induction n with
  | zero=>rw[Rat.pow_zero,Rat.pow_zero,Rat.mul_one]
  | succ n ih=>
   rw[Rat.pow_succ,Rat.pow_succ,Rat.mul_assoc,Rat.mul_comm a⁻¹,Rat.mul_assoc,Rat.mul_inv_cancel a h,Rat.mul_one];exact ih
 have h2:a^n≠0:=by
  intro e;have:=h1 n;rw[e,Rat.mul_zero] at this;exact absurd this (by decide)
 have h3:=h1 n
 have h4:a⁻¹^n*a^n*(a^n)⁻¹=(a^n)⁻¹:=by rw[h3,Rat.one_mul]
 rwa [Rat.mul_assoc,Rat.mul_inv_cancel _ h2,Rat.mul_one] at h4
theorem rs_two:rs 2=⟨#[50]⟩:=by
 rw[show (2:Rat)=((2:Int):Rat) from rfl,rs_int,show (2:Int)=((2:Nat):Int) from rfl,Big.itoa_nonneg,decDigits_small (by omega)];rfl
theorem rfb_two:RFB 2 2:=⟨by show (2:Int).natAbs < 4;decide,by show (1:Nat) < 4;decide⟩
theorem rpow2_calls (s:Int)(w:World)(lo: -200≤s)(hi:s≤200):Calls Tryz.prog 103 #[.string ⟨#[50]⟩,.int .i64 s] w (RetS w (stepQ s)):=by
 unfold stepQ;by_cases h:s < 0
 ·obtain ⟨n,rfl⟩:∃ n:Nat,s= -(n:Int):=⟨(-s).toNat,by omega⟩;rw[if_pos h,←rs_two];have:=rpow_neg 2 n 2 w rfb_two (by decide) (by omega) (by omega) (by omega);rw[rat_inv_pow (by decide),rat_two_pow] at this;rw[show (- -(n:Int)).toNat=n by omega];exact this
 ·obtain ⟨n,rfl⟩:∃ n:Nat,s=(n:Int):=⟨s.toNat,by omega⟩;rw[if_neg h,←rs_two];have:=rpow_nat 2 n 2 w rfb_two (by omega) (by omega);rw[rat_two_pow] at this;rw[Int.toNat_natCast];exact this
theorem rlsb_calls (b s z:Int)(g o:ByteArray)(w:World)(lo: -20≤s)(hi:s≤4):Calls Tryz.prog 46 #[.agg #[.int .i64 b,.int .i64 s,.int .i64 z,.string g,.string o]] w (RetS w (stepQ s)):=by
 have hp:=fun W=>rpow2_calls s W (by omega) (by omega);obtain ⟨R,hR⟩:∃ R,stepQ s=R:=⟨_,rfl⟩;simp only[hR] at hp;rw[hR];clear hR lo hi;have HP:=hid hp;clear hp;go_enter Tryz.func46,Tryz.ntmps46;go_wp2_with fail;obtain ⟨BA,HN⟩:=lay1 w 24 #[.int .i64 b,.int .i64 s,.int .i64 z,.string g,.string o];refine (HP.out _).mono ?_;rintro e w1 ⟨rfl,hn⟩;replace HN:=tW HN hn;clear hn;go_wp2_with fail;go_ret;exact ⟨rfl,HN.out⟩
theorem RFB.of {k:Nat}{q:Rat}(h:FB k q):RFB k q:=⟨h.num,by simpa[BdK] using h.den⟩
theorem rfb_int {z:Int}{k:Nat}(h:z.natAbs < 2^k)(hk:1≤k):RFB k (z:Rat):=⟨by rw[Rat.num_intCast];exact h,by
 rw[Rat.den_intCast]
 exact Nat.lt_of_lt_of_le (by decide:1 < 2^1) (Nat.pow_le_pow_right (by omega) hk)⟩
theorem rcheckCode_calls (b s z code:Int)(g o:ByteArray)(w:World)(lo:0≤b)(hi:b≤12):
  Calls Tryz.prog 19 #[.agg #[.int .i64 b,.int .i64 s,.int .i64 z,.string g,.string o],.int .i64 code] w (RetNew w (if outside code 0 (2^b.toNat - 1) then 3 else 0)):=by
 obtain ⟨t,ht⟩:∃ t,(2:Int)^b.toNat - 1=t:=⟨_,rfl⟩;have htp:=fun W=>rtop_calls b s z g o W lo hi;rw[ht] at htp⊢;clear ht lo hi;by_cases h1:code < 0
 ·have hr:(if outside code 0 t then (3:Int) else 0)=3:=by rw[if_pos (by simp[outside];omega)]
  have h1b:decide (code < 0)=true:=decide_eq_true h1;rw[hr];clear hr htp;go_enter Tryz.func19,Tryz.ntmps19;go_upto_region 1 with (fail);obtain ⟨BA,HN⟩:=lay1 w 24 #[.int .i64 b,.int .i64 s,.int .i64 z,.string g,.string o];obtain ⟨⟨pa0,pa1,pa2,pa3,pa4⟩,pa5⟩:=BA.out.five;go_wp2_with fail;go_ret;exact ⟨rfl,HN.out⟩
 ·have h1b:decide (code < 0)=false:=decide_eq_false h1;by_cases h2:t < code
  ·have hr:(if outside code 0 t then (3:Int) else 0)=3:=by rw[if_pos (by simp[outside];omega)]
   have h2b:decide (t < code)=true:=decide_eq_true h2;rw[hr];clear hr;have HTP:=hid htp;clear htp;go_enter Tryz.func19,Tryz.ntmps19;go_upto_region 1 with (fail);obtain ⟨BA,HN⟩:=lay1 w 24 #[.int .i64 b,.int .i64 s,.int .i64 z,.string g,.string o];obtain ⟨⟨pa0,pa1,pa2,pa3,pa4⟩,pa5⟩:=BA.out.five;go_wp2_with fail;refine (HTP.out _).mono ?_;rintro e w1 ⟨rfl,hn⟩;clear pa0 pa1 pa2 pa3 pa4 pa5;replace HN:=tW HN hn;clear hn;go_wp2_with fail;go_ret;exact ⟨rfl,HN.out⟩
  ·have hr:(if outside code 0 t then (3:Int) else 0)=0:=by rw[if_neg (by simp[outside];omega)]
   have h2b:decide (t < code)=false:=decide_eq_false h2;rw[hr];clear hr;have HTP:=hid htp;clear htp;go_enter Tryz.func19,Tryz.ntmps19;go_upto_region 1 with (fail);obtain ⟨BA,HN⟩:=lay1 w 24 #[.int .i64 b,.int .i64 s,.int .i64 z,.string g,.string o];obtain ⟨⟨pa0,pa1,pa2,pa3,pa4⟩,pa5⟩:=BA.out.five;go_wp2_with fail;refine (HTP.out _).mono ?_;rintro e w1 ⟨rfl,hn⟩;clear pa0 pa1 pa2 pa3 pa4 pa5;replace HN:=tW HN hn;clear hn;go_wp2_with fail;go_ret;exact ⟨rfl,HN.out⟩
theorem rcheckAdc_a (b s z:Int)(g o:ByteArray)(w:World)(hb:outside b 8 12=true∨outside s (-20) 4=true):
  Calls Tryz.prog 14 #[.agg #[.int .i64 b,.int .i64 s,.int .i64 z,.string g,.string o]] w (RetNew w 3):=by
 by_cases h1:b < 8
 ·have h1b:=decide_eq_true h1;clear hb;go_enter Tryz.func14,Tryz.ntmps14;go_upto_region 1 with (fail);obtain ⟨BA,HN⟩:=lay1 w 24 #[.int .i64 b,.int .i64 s,.int .i64 z,.string g,.string o];obtain ⟨⟨pa0,pa1,pa2,pa3,pa4⟩,pa5⟩:=BA.out.five;go_wp2_with fail;go_ret;exact ⟨rfl,HN.out⟩
 have h1b:=decide_eq_false h1;by_cases h2:12 < b
 ·have h2b:=decide_eq_true h2;clear hb;go_enter Tryz.func14,Tryz.ntmps14;go_upto_region 1 with (fail);obtain ⟨BA,HN⟩:=lay1 w 24 #[.int .i64 b,.int .i64 s,.int .i64 z,.string g,.string o];obtain ⟨⟨pa0,pa1,pa2,pa3,pa4⟩,pa5⟩:=BA.out.five;go_wp2_with fail;go_ret;exact ⟨rfl,HN.out⟩
 have h2b:=decide_eq_false h2;by_cases h3:s < -20
 ·have h3b:=decide_eq_true h3;clear hb;go_enter Tryz.func14,Tryz.ntmps14;go_upto_region 1 with (fail);obtain ⟨BA,HN⟩:=lay1 w 24 #[.int .i64 b,.int .i64 s,.int .i64 z,.string g,.string o];obtain ⟨⟨pa0,pa1,pa2,pa3,pa4⟩,pa5⟩:=BA.out.five;go_wp2_with fail;go_ret;exact ⟨rfl,HN.out⟩
 have h3b:=decide_eq_false h3
 have h4:4 < s:=by
  simp only[outside,Bool.or_eq_true,decide_eq_true_eq]at hb;omega
 have h4b:=decide_eq_true h4;clear hb;go_enter Tryz.func14,Tryz.ntmps14;go_upto_region 1 with (fail);obtain ⟨BA,HN⟩:=lay1 w 24 #[.int .i64 b,.int .i64 s,.int .i64 z,.string g,.string o];obtain ⟨⟨pa0,pa1,pa2,pa3,pa4⟩,pa5⟩:=BA.out.five;go_wp2_with fail;go_ret;exact ⟨rfl,HN.out⟩
abbrev adcV (b s z:Int)(g o:ByteArray):Value:=.agg #[.int .i64 b,.int .i64 s,.int .i64 z,.string g,.string o]
def absQ (q:Rat):Rat:=if q.num < 0 then -q else q
theorem rabs_calls (q:Rat)(w:World)(_hl:(rs q).size≤1000000):Calls Tryz.prog 51 #[.string (rs q)] w (RetS w (absQ q)):=by
 have hsg:=fun W=>rsign_calls q W;by_cases h:q.num < 0
 ·have hq:absQ q= -q:=by unfold absQ;rw[if_pos h]
  rw[Int.sign_eq_neg_one_of_neg h]at hsg;obtain ⟨s,hs, -,hl2,h0, -⟩:=rs_facts_neg h
  have hr:rs (-q)=s.extract 1 s.size:=by
   apply ByteArray.ext;apply Array.toList_inj.1;rw[rs_list,Lib.extract_to_end,hl2];rfl
  have h1:(1:Int)≤(s.size:Int):=by omega
  rw[hq];rw[hs] at hsg⊢;clear hs h hl2 _hl h0 hq;have HSG:=hid hsg;have HR:=hid hr;clear hsg hr;go_enter Tryz.func51,Tryz.ntmps51;go_wp2_with fail;refine (HSG.out _).mono ?_;rintro e w1 ⟨rfl,hw1⟩;rw[hw1];clear hw1;go_wp2_with fail;go_ret;exact ⟨by rw[HR.out];rfl,New.refl _⟩
 ·have hq:absQ q=q:=by unfold absQ;rw[if_neg h]
  rw[hq];have hs0:¬q.num.sign < 0:=fun h2=>h (Int.sign_neg_iff.1 h2);obtain ⟨sg,hsgn⟩:∃ sg,q.num.sign=sg:=⟨_,rfl⟩;simp only[hsgn] at hsg;rw[hsgn] at hs0;have hsd:decide (sg < 0)=false:=decide_eq_false hs0;obtain ⟨s,hs⟩:∃ s,rs q=s:=⟨_,rfl⟩;have hr:rs q=s:=hs;rw[hs] at hsg;have hs2:=hs;unfold RetS;rw[hs];clear hs hs2 h hq hsgn _hl hr;have HSG:=hid hsg;clear hsg;go_enter Tryz.func51,Tryz.ntmps51;go_wp2_with fail;refine (HSG.out _).mono ?_;rintro e w1 ⟨rfl,hw1⟩;rw[hw1];clear hw1;go_wp2_with fail;go_ret;exact ⟨rfl,New.refl _⟩
theorem rnum_calls (k:Nat)(q:Rat)(w:World)(hq:RFB k q)(hk:k≤40000):Calls Tryz.prog 106 #[.string (rs q)] w (RetS w (q.num:Rat)):=by
 have hsz:=hq.len;have hsl:=fun W=>rslash_calls (rs q) W (by omega)
 have e1:upTo (rs q).data.toList=itoa q.num:=by
  rw[rs_list];unfold ratText;split
  ·exact (split_plain (slashed_itoa' _)).1
  ·exact (parts_itoa' _ _).1
 have h1:=itoa_len2 hq.num
 have hle:(itoa q.num).length≤(rs q).size:=by
  have:=sl_len (rs q).data.toList;rw[e1] at this;simpa using this
 simp only[e1]at hsl
 have hr:rs (q.num:Rat)=(rs q).extract 0 (itoa q.num).length:=by
  apply ByteArray.ext;apply Array.toList_inj.1;rw[rs_list,ratText_int,Lib.extract_data];show _=((rs q).data.toList.take _);rw[rs_list];unfold ratText;split
  ·rw[Nat.sub_zero,List.take_length]
  ·rw[Nat.sub_zero,List.take_left]
 obtain ⟨m,hm⟩:∃ m,(itoa q.num).length=m:=⟨_,rfl⟩;obtain ⟨s,hs⟩:∃ s,rs q=s:=⟨_,rfl⟩;unfold RetS;rw[hm,hs] at hr;rw[hm,hs] at hle;simp only[hm,hs] at hsl;rw[hs,hr]
 have hmi:(m:Int)≤(s.size:Int):=by omega
 clear hs hm e1 h1 hr hq hk hsz hle;have HSL:=hid hsl;clear hsl;go_enter Tryz.func106,Tryz.ntmps106;go_wp2_with fail;refine (HSL.out _).mono ?_;rintro e w1 ⟨rfl,hw1⟩;rw[hw1];clear hw1;go_wp2_with fail;go_ret;exact ⟨rfl,New.refl _⟩
def markE (c tp:Int)(t:ByteArray):Int:=if outside c 0 tp then 3 else ratErr t.data.toList
def noAdc:Value:=.agg #[.int .i64 0,.int .i64 0,.int .i64 0,.string ⟨#[]⟩,.string ⟨#[]⟩]
def RetAdc (w:World)(v:Value)(n:Int)(e:Ending)(w':World):Prop:=e=.returned (.tuple #[v,.int .i64 n])∧New w w'
def AwakeOk:Prop:=∀ w,Env w→Calls Tryz.prog 10 #[] w fun e w'=>e=.returned (.bool true)∧New w w'
abbrev adV (b s z:Int)(g o:ByteArray):Value:=.agg #[.int .i64 b,.int .i64 s,.int .i64 z,.string g,.string o]
abbrev mkV (c:Int)(t:ByteArray):Value:=.agg #[.int .i64 c,.string t]
def grpT (q r:Nat):List UInt8:=if q=0 then decDigits r else padDigits 18 r
def Grp (T V:Nat)(ps:List (List UInt8)):Prop:=(if V=0 then [] else decDigits V) ++ ps.reverse.flatten=decDigits T
theorem Grp.start {T:Nat}(h:T≠0):Grp T T []:=by unfold Grp;rw[if_neg h];simp
theorem Grp.step {T V q r:Nat}{ps:List (List UInt8)}(h:Grp T V ps)(h0:V≠0)(hq:q*1000000000000000000+r=V)(hr:r < 1000000000000000000):Grp T q (ps ++ [grpT q r]):=by
 unfold Grp at h⊢;rw[if_neg h0] at h;rw[List.reverse_append,List.flatten_append,List.reverse_singleton,List.flatten_singleton,←h,←List.append_assoc];congr 1;unfold grpT;by_cases hq0:q=0
 ·rw[if_pos hq0,if_pos hq0,List.nil_append];rw[hq0,Nat.zero_mul,Nat.zero_add] at hq;rw[hq]
 ·rw[if_neg hq0,if_neg hq0,←hq]
  have e:(10:Nat)^18=1000000000000000000:=by decide
  have:=decDigits_pad hq0 18 r (by rw[e];exact hr);rw[e] at this;exact this.symm
theorem Grp.end_ {T:Nat}{ps:List (List UInt8)}(h:Grp T 0 ps):ps.reverse.flatten=decDigits T:=by
 unfold Grp at h;rw[if_pos rfl,List.nil_append] at h;exact h
theorem dig18 {r:Nat}(h:r < 1000000000000000000):(decDigits r).length≤18:=by
 rw[decDigits_length,nDigits_le_iff (by omega)]
 have e:(10:Nat)^18=1000000000000000000:=by decide
 rw[e];exact h
theorem grp_zero (r:Nat):grpT 0 r=decDigits r:=if_pos rfl
theorem grp_pad {q r:Nat}(hq:q≠0)(h:r < 1000000000000000000):grpT q r=List.replicate (18 - (decDigits r).length) 48 ++ decDigits r:=by
 unfold grpT;rw[if_neg hq,padDigits_of_nDigits (by rw[←decDigits_length];exact dig18 h),decDigits_length]
theorem grp_len {q r:Nat}(h:r < 1000000000000000000):(grpT q r).length≤18:=by
 unfold grpT;split
 ·exact dig18 h
 ·rw[padDigits_length];exact Nat.le_refl _
def GrpN (T g L:Nat):Prop:=L≤40001∧(g≠0→2^L*g≤T)
theorem GrpN.start (T:Nat):GrpN T T 0:=⟨by omega,fun _=>by rw[Nat.pow_zero,Nat.one_mul];exact Nat.le_refl _⟩
theorem GrpN.lt {T g L:Nat}(h:GrpN T g L)(hT:T < 2^40000)(h0:g≠0):L < 40000:=by
 have h1:=h.2 h0;have h2:2^L*1≤2^L*g:=Nat.mul_le_mul_left _ (by omega);rw[Nat.mul_one] at h2;exact (Nat.pow_lt_pow_iff_right (by omega)).1 (Nat.lt_of_le_of_lt (Nat.le_trans h2 h1) hT)
theorem GrpN.step {T g q r L:Nat}(h:GrpN T g L)(hT:T < 2^40000)(h0:g≠0)(hq:q*1000000000000000000+r=g):GrpN T q (L+1):=by
 have h1:=h.lt hT h0;refine ⟨by omega,fun _=>Nat.le_trans ?_ (h.2 h0)⟩;rw[Nat.pow_succ,Nat.mul_assoc];exact Nat.mul_le_mul_left _ (by omega)
def grpOut (ps:List (List UInt8))(k:Nat):List UInt8:=(ps.drop k).reverse.flatten
theorem grpOut_end (ps:List (List UInt8)):grpOut ps ps.length=[]:=by unfold grpOut;rw[List.drop_length];rfl
theorem grpOut_next {ps:List (List UInt8)}{k:Nat}(h:k < ps.length):grpOut ps k=grpOut ps (k+1) ++ ps[k]:=by
 unfold grpOut;rw[List.drop_eq_getElem_cons h,List.reverse_cons,List.flatten_append,List.flatten_singleton]
theorem grpOut_len {ps:List (List UInt8)}(h:∀ p∈ps,p.length≤18):∀ k,(grpOut ps k).length≤18*ps.length:=fun k=>by
 have key:∀ l:List (List UInt8),(∀ p∈l,p.length≤18)→l.reverse.flatten.length≤18*l.length:=fun l=>by
  induction l with
  | nil=>intro _;exact Nat.le_refl _
  | cons x l ih=>
   intro hl;rw[List.reverse_cons,List.flatten_append,List.flatten_singleton,List.length_append,List.length_cons];have h1:=ih fun p hp=>hl p (List.mem_cons_of_mem _ hp);have h2:=hl x (List.mem_cons_self ..);omega
 have h1:=key (ps.drop k) fun p hp=>h p (List.mem_of_mem_drop hp);rw[List.length_drop] at h1;unfold grpOut;omega
theorem bwrite_calls (B b:Nat)(bs:List Value)(s:ByteArray)(w:World)(h:Lib.IsBuilderF 239 5 B b bs w)(hlen:bs.length+s.size≤140737488355328)(hBw:B≤w.heap.size):
  Calls Tryz.prog 205 #[.pointer (some ⟨b,0,none⟩),.string s] w fun e w'=>e=.returned (.tuple #[.int .i64 s.size,.nilIface])∧(Lib.BuilderAtF 239 5 B b (.pointer (some ⟨b,0,none⟩)) (bs ++ Lib.strCells s) w'∧Below B w w'∧Lib.OthersKept 5 (some b) w w'):=
 Any.Builder_WriteString_k {Tryz.lays105 with} Tryz.Builder_Extra_105 B b bs s w h hlen hBw
theorem fmtU_in (u:Nat)(w:World)(he:Env w)(hu64:u < 18446744073709551616):
  Calls Tryz.prog 236 #[.int .u64 u,.int .i64 10] w fun e w'=>e=.returned (.string ⟨(Lib.decDigits u).toArray⟩)∧New w w':=by
 have htab:=he.tab;clear he;by_cases hs:u < 100
 ·go_enter Tryz.func236,Tryz.ntmps236;go_wp2_with fail;refine (Tryz.internal_strconv_small u hs _).mono ?_;rintro e w' ⟨rfl,rfl⟩;go_wp2_with fail;go_ret;exact ⟨rfl,New.refl _⟩
 ·have hu1:1≤u:=by omega
  have hnd20:Lib.nDigits u≤20:=by have:=Lib.numDigits_eq u hu1 hu64;split at this <;> omega
  have hal:Tryz.prog.arrayLen 281=24:=by kernel_rfl
  have hel:Tryz.prog.underlying 281=some (.array 24 5):=by kernel_rfl
  have hsl:∀ W,(Instr.sliceAt 281 (.pointer (some ⟨w.heap.size,0,none⟩)) none (some (.int .i64 (Lib.nDigits u:Int))) none).run Tryz.prog W=.ok (.slice (some ⟨w.heap.size,0,none⟩) (Lib.nDigits u) 24) W:=fun W=>by
   rw[run_sliceAt_array_h W 281 ⟨w.heap.size,0,none⟩ (by simp[Program.arrayLen,Program.elem,hel]) .i64 (Lib.nDigits u:Int) (by omega) (by rw[hal];omega)];go_simp
  have hH0:=Lib.holds_zero0 w 281 (Lib.nDigits u) (by omega);have hfmt:=Tryz.internal_strconv_formatBase10 w.heap.size 0 24 u (Array.replicate (Lib.nDigits u) 0) (w.alloc (.cells Lib.zeros24 281)) hH0 (by rw[Array.size_replicate];exact Lib.lt_pow_nDigits u) hu64 (by rw[Array.size_replicate];omega);rw[Array.size_replicate] at hfmt;have HH0:=hid hH0;have HTB:=hid htab
  have iu:¬(u:Int) < 100:=by omega
  clear hH0 hal htab;go_enter Tryz.func236,Tryz.ntmps236;go_wp2_with fail;refine (Tryz.internal_strconv_numDigits u hu1 hu64 _ (Lib.tabIs_alloc HTB.out _)).mono ?_;rintro e w' ⟨rfl,rfl⟩;go_wp2_with fail;refine hfmt.mono ?_;rintro e w' ⟨rfl,k,v',dk,rfl,hF⟩
  have hcv:(convert 237 9 (.slice (some ⟨w.heap.size,0,none⟩) (Lib.nDigits u) 24)).run Tryz.prog ((putRow (fun (b:UInt8)=>Value.int .u8 (b.toNat:Int)) (w.alloc (.cells Lib.zeros24 281)) w.heap.size 0 dk).drewN k)=.ok (.string ⟨(Lib.decDigits u).toArray⟩) ((putRow (fun (b:UInt8)=>Value.int .u8 (b.toNat:Int)) (w.alloc (.cells Lib.zeros24 281)) w.heap.size 0 dk).drewN k):=by
   have h:=run_convert_bytes_back (P:=Tryz.prog) ((putRow (fun (b:UInt8)=>Value.int .u8 (b.toNat:Int)) (w.alloc (.cells Lib.zeros24 281)) w.heap.size 0 dk).drewN k) 237 9 5 ⟨w.heap.size,0,none⟩ 24 (Lib.decDigits u) Tryz.underlying237 Tryz.underlying5 Tryz.underlying9 (fun j hj=>by
    rw[Lib.row_is_numeral hF j hj,Lib.add_plain,World.cell?_drewN]
    exact cell?_putRow (fun (b:UInt8)=>Value.int .u8 (b.toNat:Int)) _ w.heap.size 0 _ dk HH0.out (by rw[hF.size,Array.size_replicate]) j (by rw[hF.size];rw[Lib.decDigits_length] at hj;exact hj))
   rw[Lib.decDigits_length]at h;exact h
  go_wp2_with fail;go_ret;obtain ⟨os,eo⟩:=Lib.fin_at w (.cells Lib.zeros24 281) dk k 0;exact ⟨rfl,by rw[eo];exact new_grow w k os⟩
theorem fmtU_calls (u:Nat)(w:World)(he:Env w)(hu64:u < 18446744073709551616):
  Calls Tryz.prog 203 #[.int .u64 u,.int .i64 10] w fun e w'=>e=.returned (.string (bs (Lib.decDigits u)))∧New w w':=by
 have h:=fmtU_in u w he hu64;clear he;go_enter Tryz.func203,Tryz.ntmps203;go_wp2_with fail;refine h.mono ?_;rintro e w' ⟨rfl,hn⟩;go_wp2_with fail;go_ret;exact ⟨rfl,hn⟩
theorem repeat_one (c:UInt8):∀ n:Nat,Lib.repeatL [c] n=List.replicate n c
 | 0=>rfl
 | n+1=>by rw[List.replicate_succ,←repeat_one c n];rfl
theorem repeat_calls (k:Nat)(w:World)(hk:k≤100):
  Calls Tryz.prog 204 #[.string ⟨#[48]⟩,.int .i64 k] w fun e w'=>e=.returned (.string (bs (List.replicate k 48)))∧New w w':=
 (Tryz.strings_Repeat ⟨#[48]⟩ k w (by omega) (by show 1*k≤_;omega)).mono fun e w' ⟨h1,h2⟩=>⟨by rw[h1];show Ending.returned (.string ⟨(Lib.repeatL [48] k).toArray⟩)=_;rw[repeat_one];rfl,h2⟩
end Go.Proofs.YtbkcjmojgglbkaaGreatDoor
