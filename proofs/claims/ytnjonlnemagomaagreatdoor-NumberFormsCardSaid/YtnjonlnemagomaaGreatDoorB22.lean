/- Part B22. -/
import Derived.Test.YtnjonlnemagomaaGreatDoorB10
import Derived.Test.YtnjonlnemagomaaGreatDoorB21
namespace Go.Proofs.YtnjonlnemagomaaGreatDoor
open Go.RowKit Big Go.Lib
set_option maxRecDepth 100000
set_option maxHeartbeats 8000000
theorem ypq {k n:Nat}(h:k<=9*n):10^k<=B9^n:=by
 rw[show B9=10^9 by decide,<-Nat.pow_mul];exact Nat.pow_le_pow_right (by omega) h
theorem yn6 {x k n:Nat}(h1:x < 10^k)(h:k<=9*n):x < B9^n:=Nat.lt_of_lt_of_le h1 (ypq h)
theorem yew {l U A B:List UInt8}{neg br:Bool}(hU:unsigned l=U)(hn:(l.head?==some 45)=neg)(hA:upTo U=A)(hB:behind U=B)(hb:y0e U=br):
  y1j l=if y4u (y3y neg A) br B=false then 1 else if (decide (600 < A.length) || decide (600 < B.length)) then 4 else if (br && Nat.gcd (dval 0 A) (dval 0 B) != 1) then 1 else 0:=by
 unfold y1j y68 y3w;rw[<-ykf hU hn hA hB hb,hU,hA,hB,hb]
theorem yha (U:ByteArray)(w:World)(hl:U.size<=1000000)(hh:(U.data.toList.head?==some 45)=false):Calls Tryz.prog 18 #[.string U] w fun e w'=>e=.returned (.int .i64 (y1j U.data.toList))/\New w w':=by
 have hus:unsigned U.data.toList=U.data.toList:=by
  unfold unsigned;rw[if_neg (by intro h;rw[h] at hh;simp at hh)]
 obtain ⟨r,hr⟩:∃ r,y1j U.data.toList=r:=⟨_,rfl⟩;rw[hr];obtain ⟨k,hk'⟩:∃ k,(upTo U.data.toList).length=k:=⟨_,rfl⟩;have hsl:=fun W=>y2i U W hl;simp only[hk'] at hsl;obtain ⟨A,hA⟩:∃ A,upTo U.data.toList=A:=⟨_,rfl⟩
 have hR:∀ br,y0e U.data.toList=br->r=if y4u (y3y false A) br (behind U.data.toList)=false then 1 else if (decide (600 < A.length) || decide (600 < (behind U.data.toList).length)) then 4 else if (br && Nat.gcd (dval 0 A) (dval 0 (behind U.data.toList)) != 1) then 1 else 0:=fun br hb=>by
  rw[<-hr];exact yew hus hh hA rfl hb
 have hkle:=yej U.data.toList;rw[hk',show U.data.toList.length=U.size by simp] at hkle
 have e1:(U.extract 0 k).data.toList=A:=by
  rw[Lib.extract_data];show U.data.toList.take k=A;rw[<-hk']
  cases hbr:y0e U.data.toList with
  | true=>
   conv=>lhs;arg 2;rw[y1y hbr]
   rw[<-hA];simp
  | false=>
   rw[<-hA,(y0x hbr).1];exact List.take_of_length_le (by simp)
 have hda:=fun W=>y3t (U.extract 0 k) W (by simp;omega);rw[e1] at hda;obtain ⟨S1,hS1⟩:∃ S,U.extract 0 k=S:=⟨_,rfl⟩;simp only[hS1] at hda;rw[hS1] at e1
 have hUi:(U.size:Int)<=1000000:=by omega
 have hki:(k:Int)<=(U.size:Int):=by omega
 have hn0:=New.refl w;have HN:=hid hn0;have HR:=hid hR;have HSL:=hid hsl;have HDA:=hid hda;have HAU:=hid hA;have HE1:=hid e1;have HS1:=hid hS1;clear hn0 hR hsl hda hA e1 hS1;by_cases h0:U.size=0
 ·have hUn:U.data.toList=[]:=List.eq_nil_of_length_eq_zero (by simpa using h0)
  have hd0:y2f A=false:=by
   rw[<-HAU.out,hUn];rfl
  have hr1:r=1:=by
   rw[<-hr,hUn];rfl
  have h0b:¬(0:Int) < (U.size:Int):=by omega
  clear hr hus hh hUn;have HRR:=hid hr1;clear hr1;go_enter Tryz.func18,Tryz.ntmps18;go_wp2_with fail;refine (HSL.out _).mono ?_;rintro e w1 ⟨rfl,hw⟩;rw[hw];clear hw;have hS1:=HS1.out;go_wp2_with fail;refine (HDA.out _).mono ?_;rintro e w1 ⟨rfl,hw⟩;rw[hw,hd0];clear hw hd0;go_wp2_with fail;go_ret;exact ⟨by rw[HRR.out];rfl,HN.out⟩
 have hp0:0 < U.size:=by omega
 have hc:¬((U[0]'hp0).toNat:Int)=45:=by
  intro h
  have h1:U.data.toList.head?=some (U[0]'hp0):=by
   rw[List.head?_eq_getElem?,List.getElem?_eq_getElem (by simpa using hp0)];rfl
  rw[h1,show U[0]'hp0=45 from UInt8.toNat_inj.1 (by show (U[0]'hp0).toNat=45;omega)] at hh;exact absurd hh (by decide)
 have hcb:(((U[0]'hp0).toNat:Int)==45)=false:=beq_eq_false_iff_ne.2 hc;clear h0 hr hus hh;go_enter Tryz.func18,Tryz.ntmps18;go_wp2_with fail;refine (HSL.out _).mono ?_;rintro e w1 ⟨rfl,hw⟩;rw[hw];clear hw;have hS1:=HS1.out;go_wp2_with fail;refine (HDA.out _).mono ?_;rintro e w1 ⟨rfl,hw⟩;rw[hw];clear hw hS1
 cases hda1:y2f A with
 | false=>
  have hrr:r=1:=by
   have:=HR.out _ rfl;unfold y4u y3y at this;rw[hda1] at this;rw[this]
   cases y0e U.data.toList <;> rfl
  clear hda1;have HRR:=hid hrr;clear hrr;go_wp2_with fail;go_ret;exact ⟨by rw[HRR.out];rfl,HN.out⟩
 | true=>
  have hf1:y3y false A=true:=by unfold y3y;rw[hda1];rfl
  have HDA1:=hid hda1;have HF1:=hid hf1;clear hda1 hf1
  cases hbr:y0e U.data.toList with
  | false=>
   have hkU:k=U.size:=by
    have:=(y0x hbr).1;rw[<-hk',this];simp
   have hB0:behind U.data.toList=[]:=(y0x hbr).2
   have hkc:¬(k:Int) < (U.size:Int):=by omega
   have hkd:decide ((k:Int) < (U.size:Int))=false:=decide_eq_false hkc
   have hz:(U.size:Int) - (k:Int) - 1= -1:=by omega
   have hrr:=HR.out _ hbr;rw[hB0,show y4u (y3y false A) false []=y3y false A from rfl,HF1.out,if_neg (by decide)] at hrr
   have hAl:A.length=k:=by rw[<-HAU.out];exact hk'
   by_cases h6:600 < k
   ·have h6i:(600:Int) < (k:Int):=by omega
    have h6b:decide ((600:Int) < (k:Int))=true:=decide_eq_true h6i
    have hrr:r=4:=by
     rw[hrr,hAl,decide_eq_true h6];rfl
    clear hk' hkU hB0 h6 hbr hAl;have HRR:=hid hrr;clear hrr;go_wp2_with fail;go_ret;exact ⟨by rw[HRR.out];rfl,HN.out⟩
   ·have h6i:¬(600:Int) < (k:Int):=by omega
    have h6b:decide ((600:Int) < (k:Int))=false:=decide_eq_false h6i
    have hz2:(U.size:Int) - (k:Int)=0:=by omega
    have hrr:r=0:=by
     rw[hrr,hAl,decide_eq_false h6];rfl
    clear hk' hkU hB0 h6 hbr hz hAl;have HRR:=hid hrr;clear hrr;go_wp2_with fail;go_ret;exact ⟨by rw[HRR.out];rfl,HN.out⟩
  | true=>
   have hsp:=y1y hbr;have hll:=congrArg List.length hsp
   have hUl:U.data.toList.length=U.size:=by simp
   rw[hUl,List.length_append,List.length_cons,hk']at hll;obtain ⟨k1,hk1⟩:∃ z,k+1=z:=⟨_,rfl⟩
   have e2:(U.extract k1 U.size).data.toList=behind U.data.toList:=by
    rw[Lib.extract_to_end]
    conv=>lhs;arg 2;rw[hsp]
    rw[<-hk1,<-hk'];simp
   obtain ⟨B,hB⟩:∃ B,behind U.data.toList=B:=⟨_,rfl⟩;rw[hB] at e2 hll;have hdb:=fun W=>y3t (U.extract k1 U.size) W (by simp;omega);rw[e2] at hdb;obtain ⟨S2,hS2⟩:∃ S,U.extract k1 U.size=S:=⟨_,rfl⟩;rw[hS2] at e2;simp only[hS2] at hdb
   have hkc:(k:Int) < (U.size:Int):=by omega
   have hkd:decide ((k:Int) < (U.size:Int))=true:=decide_eq_true hkc
   have hk1e:(k:Int)+1=(k1:Int):=by omega
   have hk1n:k1<=U.size:=by omega
   have hk1i:(k1:Int)<=(U.size:Int):=by omega
   obtain ⟨y,hy⟩:∃ y,B.length=y:=⟨_,rfl⟩
   have hyi:(U.size:Int) - (k:Int)=(y:Int)+1:=by omega
   have hyi2:(U.size:Int) - (k:Int) - 1=(y:Int):=by omega
   have hrr:=HR.out _ hbr;rw[hB] at hrr
   have hform:y4u (y3y false A) true B=(y2f B && B != [48] && B != [49]):=by
    rw[HF1.out];unfold y4u;rw[if_pos rfl,Bool.true_and]
   rw[hform]at hrr;have hAU:upTo U.data.toList=A:=HAU.out
   have hAk:A.length=k:=by rw[<-hAU];exact hk'
   have hpa:=fun (hA1:∀ c∈A,y0z c=true) (hB1:∀ c∈B,y0z c=true) (h6:k<=600) (h7:y<=600) W=>y61 U (sgnd false (dval 0 A)) (sgnd false (dval 0 B)) W (by omega) hbr (fun W' s' _ hs'=>y4a s' A W' (by rw[hs',hAU]) hA1 (by omega)) (fun W' s' _ hs'=>y4a s' B W' (by rw[hs',hB]) hB1 (by omega));clear hk' hsp hll hUl hk1 hB hbr hform;have HRR0:=hid hrr;have HPA:=hid hpa;have HAK:=hid hAk;have HYI:=hid hyi;have HYI2:=hid hyi2;have HDB:=hid hdb;have HE2:=hid e2;have HY:=hid hy;clear hrr hpa hAk hyi hyi2 hdb e2 hy;go_wp2_with fail;refine (HDB.out _).mono ?_;rintro e w1 ⟨rfl,hw⟩;rw[hw];clear hw
   cases hdb2:y2f B with
   | false=>
    have hrr:r=1:=by rw[HRR0.out,hdb2];rfl
    clear hdb2;have HRR:=hid hrr;clear hrr;go_wp2_with fail;go_ret;exact ⟨by rw[HRR.out];rfl,HN.out⟩
   | true=>
    have hS2l:S2.toList=B:=by rw[ByteArray.toList_eq];exact HE2.out
    by_cases hB0:B=[48]
    ·have hrr:r=1:=by rw[HRR0.out,hB0,if_pos (by decide)]
     have hzb:(S2.toList==[48])=true:=by rw[hS2l,hB0];rfl
     clear hdb2 hB0 hS2l;have HRR:=hid hrr;clear hrr;go_wp2_with fail;go_ret;exact ⟨by rw[HRR.out];rfl,HN.out⟩
    have hz0:(S2.toList==[48])=false:=by rw[hS2l,beq_eq_false_iff_ne];exact hB0
    by_cases hB1:B=[49]
    ·have hrr:r=1:=by rw[HRR0.out,hB1,if_pos (by decide)]
     have hzb:(S2.toList==[49])=true:=by rw[hS2l,hB1];rfl
     clear hdb2 hB0 hB1 hS2l;have HRR:=hid hrr;clear hrr;go_wp2_with fail;go_ret;exact ⟨by rw[HRR.out];rfl,HN.out⟩
    have hz1:(S2.toList==[49])=false:=by rw[hS2l,beq_eq_false_iff_ne];exact hB1
    have hgood:(y2f B && B != [48] && B != [49])=true:=by rw[hdb2];simp[hB0,hB1]
    have hr2:=HRR0.out;rw[hgood,if_neg (by decide)] at hr2;have hyi:=HYI.out;have hyi2:=HYI2.out;clear hS2l hB0 hB1 hgood;by_cases h6:600 < k
    ·have h6i:(600:Int) < (k:Int):=by omega
     have h6b:decide ((600:Int) < (k:Int))=true:=decide_eq_true h6i
     have hrr:r=4:=by rw[hr2,HAK.out,decide_eq_true h6];rfl
     clear hdb2 hr2 h6 hyi hyi2;have HRR:=hid hrr;clear hrr;go_wp2_with fail;go_ret;exact ⟨by rw[HRR.out];rfl,HN.out⟩
    have h6i:¬(600:Int) < (k:Int):=by omega
    have h6b:decide ((600:Int) < (k:Int))=false:=decide_eq_false h6i;have hye:=HY.out;by_cases h7:600 < y
    ·have h7i:(600:Int) < (y:Int):=by omega
     have h7b:decide ((600:Int) < (y:Int))=true:=decide_eq_true h7i
     have hrr:r=4:=by rw[hr2,HAK.out,hye,decide_eq_true h7,decide_eq_false h6];rfl
     clear hdb2 hr2 h6 h7 hye;have HRR:=hid hrr;clear hrr;go_wp2_with fail;go_ret;exact ⟨by rw[HRR.out];rfl,HN.out⟩
    have h7i:¬(600:Int) < (y:Int):=by omega
    have h7b:decide ((600:Int) < (y:Int))=false:=decide_eq_false h7i;have hA1:=y47 HDA1.out;have hB1:=y47 hdb2;have hpa:=HPA.out hA1 hB1 (by omega) (by omega)
    have hAb:dval 0 A < B9^600:=by
     have h1:=y4g hA1;rw[HAK.out] at h1;exact yn6 (n:=600) h1 (by omega)
    have hBb:dval 0 B < B9^600:=by
     have h1:=y4g hB1;rw[hye] at h1;exact yn6 (n:=600) h1 (by omega)
    obtain ⟨P,hP⟩:∃ P,dval 0 A=P:=⟨_,rfl⟩;obtain ⟨Q,hQ⟩:∃ Q,dval 0 B=Q:=⟨_,rfl⟩;rw[hP] at hAb hpa;rw[hQ] at hBb hpa;have hcm:=fun W va vb (h1:IsD W va P) (h2:IsD W vb Q)=>y7g 600 va vb P Q W h1 h2 (by omega) hAb hBb;rw[hP,hQ,decide_eq_false (by rw[HAK.out];exact h6),decide_eq_false (by rw[hye];exact h7)] at hr2;obtain ⟨G,hG⟩:∃ G,Nat.gcd P Q=G:=⟨_,rfl⟩;simp only[hG] at hcm hr2
    have hr3:r=if G=1 then 0 else 1:=by
     rw[hr2];by_cases h:G=1
     ·rw[if_pos h,h];rfl
     ·rw[if_neg h];simp[h]
    have hG0:G≠0\/True:=.inr trivial;clear hdb2 hr2 h6 h7 hye hA1 hB1 hAb hBb hP hQ hG0 hG;have HPA2:=hid hpa;have HCM:=hid hcm;have HR3:=hid hr3;clear hpa hcm hr3;go_wp2_with fail;refine (HPA2.out _).mono ?_;rintro e w2 ⟨v1,v2,rfl,hn,hz1,hz2⟩;obtain ⟨b1,a1,l1,c1,rfl⟩:=hz1.shape;obtain ⟨b2,a2,l2,c2,rfl⟩:=hz2.shape;have hd1:=hz1.parts.2;have hd2:=hz2.parts.2;rw[y6b] at hd1 hd2;clear hz1 hz2 h6i h6b h7i h7b hyi hyi2 hkc hkd;have HD1:=hid hd1;have HD2:=hid hd2;clear hd1 hd2;replace HN:=tW HN hn;clear hn;go_upto_region 13 with (fail);have HN0:=HN;clear HN;obtain ⟨BA,BB,HN⟩:=lay2 w2 124 #[.bool b1,.slice a1 l1 c1] 124 #[.bool b2,.slice a2 l2 c2];replace HD1:=hid (HD1.out.new HN.out);replace HD2:=hid (HD2.out.new HN.out);have HN_:=HN0.out.trans HN.out;clear HN HN0;have HN:=hid HN_;clear HN_;obtain ⟨pa0,pa1,pa2,pa3,pa4⟩:=BA.out.two;obtain ⟨pb0,pb1,pb2,pb3,pb4⟩:=BB.out.two;go_wp2_with fail;refine (HCM.out _ _ _ HD1.out HD2.out).mono ?_;rintro e w3 ⟨v3,rfl,hn,hg⟩;clear pa0 pa1 pa2 pa3 pa4 pb0 pb1 pb2 pb3 pb4;replace HN:=tW HN hn;clear hn;obtain ⟨n,f,hdg,hval⟩:=hg;have hcan:=hdg.canon;obtain ⟨⟨a3,c3,⟨rfl, -⟩,hrd, -⟩, -⟩:=hdg;by_cases hn1:n=1
    ·subst hn1;obtain ⟨b8,o8,rfl,hcell⟩:=hrd 0 (by omega)
     have hf0:f 0=G:=by rw[<-hval];simp[vf]
     rw[hf0,Nat.add_zero]at hcell;clear hcan hrd hval hf0;by_cases hG1:G=1
     ·have hrr:r=0:=by rw[HR3.out,if_pos hG1]
      rw[hG1]at hcell;clear hG1;have HRR:=hid hrr;clear hrr;go_wp2_with fail;go_ret;exact ⟨by rw[HRR.out];rfl,HN.out⟩
     ·have hrr:r=1:=by rw[HR3.out,if_neg hG1]
      have hGb:((G:Int)==1)=false:=beq_eq_false_iff_ne.2 (by omega)
      have hGc:((G:Int) != 1)=true:=by rw[bne,hGb];rfl
      clear hG1;have HRR:=hid hrr;clear hrr;go_wp2_with fail;go_ret;exact ⟨by rw[HRR.out];rfl,HN.out⟩
    ·have hG1:G≠1:=by
      intro h;rw[h] at hval;have h1:=y4c (K:=1) hcan hval (by decide)
      have:n=0:=by omega
      rw[this,y14]at hval;omega
     have hrr:r=1:=by rw[HR3.out,if_neg hG1]
     have hnb:((n:Int)==1)=false:=beq_eq_false_iff_ne.2 (by omega)
     have hnc:((n:Int) != 1)=true:=by rw[bne,hnb];rfl
     clear hG1 hcan hrd hval hn1;have HRR:=hid hrr;clear hrr;go_wp2_with fail;go_ret;exact ⟨by rw[HRR.out];rfl,HN.out⟩
theorem yid (s:ByteArray)(w:World)(hls:s.size<=1000000)(hh:(s.data.toList.head?==some 45)=true):Calls Tryz.prog 18 #[.string s] w fun e w'=>e=.returned (.int .i64 (y1j s.data.toList))/\New w w':=by
 have hhd:s.data.toList.head?=some 45:=by simpa using hh
 have hs0:s.data.toList[0]?=some 45:=by rw[<-List.head?_eq_getElem?];exact hhd
 obtain ⟨hp0,hs1⟩:=byte_at s hs0
 have hc:((s[0]'hp0).toNat:Int)=45:=by rw[hs1];rfl
 have hcb:(((s[0]'hp0).toNat:Int)==45)=true:=beq_iff_eq.2 hc
 have hus:unsigned s.data.toList=(s.extract 1 s.size).data.toList:=by
  unfold unsigned;rw[if_pos hhd,Lib.extract_to_end]
  cases s.data.toList with
  | nil=>rfl
  | cons c l=>rfl
 have hl:(s.extract 1 s.size).size<=1000000:=by simp;omega
 obtain ⟨U,hUe⟩:∃ U,s.extract 1 s.size=U:=⟨_,rfl⟩;rw[hUe] at hus hl;obtain ⟨r,hr⟩:∃ r,y1j s.data.toList=r:=⟨_,rfl⟩;rw[hr];obtain ⟨k,hk'⟩:∃ k,(upTo U.data.toList).length=k:=⟨_,rfl⟩;have hsl:=fun W=>y2i U W hl;simp only[hk'] at hsl;obtain ⟨A,hA⟩:∃ A,upTo U.data.toList=A:=⟨_,rfl⟩
 have hR:∀ br,y0e U.data.toList=br->r=if y4u (y3y true A) br (behind U.data.toList)=false then 1 else if (decide (600 < A.length) || decide (600 < (behind U.data.toList).length)) then 4 else if (br && Nat.gcd (dval 0 A) (dval 0 (behind U.data.toList)) != 1) then 1 else 0:=fun br hb=>by
  rw[<-hr];exact yew hus hh hA rfl hb
 have hkle:=yej U.data.toList;rw[hk',show U.data.toList.length=U.size by simp] at hkle
 have e1:(U.extract 0 k).data.toList=A:=by
  rw[Lib.extract_data];show U.data.toList.take k=A;rw[<-hk']
  cases hbr:y0e U.data.toList with
  | true=>
   conv=>lhs;arg 2;rw[y1y hbr]
   rw[<-hA];simp
  | false=>
   rw[<-hA,(y0x hbr).1];exact List.take_of_length_le (by simp)
 have hda:=fun W=>y3t (U.extract 0 k) W (by simp;omega);rw[e1] at hda;obtain ⟨S1,hS1⟩:∃ S,U.extract 0 k=S:=⟨_,rfl⟩;simp only[hS1] at hda;rw[hS1] at e1
 have hUi:(U.size:Int)<=1000000:=by omega
 have hki:(k:Int)<=(U.size:Int):=by omega
 have hn0:=New.refl w
 have hp1:(1:Int)<=(s.size:Int):=by omega
 have hsi:(s.size:Int)<=1000000:=by omega
 clear hr hus hh hhd hs0 hs1 hls;have HN:=hid hn0;have HR:=hid hR;have HSL:=hid hsl;have HDA:=hid hda;have HAU:=hid hA;have HE1:=hid e1;have HS1:=hid hS1;clear hn0 hR hsl hda hA e1 hS1;go_enter Tryz.func18,Tryz.ntmps18;go_wp2_with fail;refine (HSL.out _).mono ?_;rintro e w1 ⟨rfl,hw⟩;rw[hw];clear hw hUe hp1;have hS1:=HS1.out;go_wp2_with fail;refine (HDA.out _).mono ?_;rintro e w1 ⟨rfl,hw⟩;rw[hw];clear hw
 cases hda1:y2f A with
 | false=>
  have hrr:r=1:=by
   have:=HR.out _ rfl;unfold y4u y3y at this;rw[hda1] at this;rw[this]
   cases y0e U.data.toList <;> rfl
  clear hda1;have HRR:=hid hrr;clear hrr;go_wp2_with fail;go_ret;exact ⟨by rw[HRR.out];rfl,HN.out⟩
 | true=>
  have hS1l:S1.toList=A:=by rw[ByteArray.toList_eq];exact HE1.out
  by_cases hA0:A=[48]
  ·have hrr:r=1:=by
    have:=HR.out _ rfl;unfold y4u y3y at this;rw[hA0] at this;rw[this]
    cases y0e U.data.toList <;> rfl
   have hz:(S1.toList==[48])=true:=by rw[hS1l,hA0];rfl
   clear hda1 hA0 hS1l;have HRR:=hid hrr;clear hrr;go_wp2_with fail;go_ret;exact ⟨by rw[HRR.out];rfl,HN.out⟩
  ·have hz:(S1.toList==[48])=false:=by rw[hS1l,beq_eq_false_iff_ne];exact hA0
   have hf1:y3y true A=true:=by unfold y3y;rw[hda1];simp[hA0]
   clear hA0 hS1l;have HDA1:=hid hda1;have HF1:=hid hf1;clear hda1 hf1
   cases hbr:y0e U.data.toList with
   | false=>
    have hkU:k=U.size:=by
     have:=(y0x hbr).1;rw[<-hk',this];simp
    have hB0:behind U.data.toList=[]:=(y0x hbr).2
    have hkc:¬(k:Int) < (U.size:Int):=by omega
    have hkd:decide ((k:Int) < (U.size:Int))=false:=decide_eq_false hkc
    have hz:(U.size:Int) - (k:Int) - 1= -1:=by omega
    have hrr:=HR.out _ hbr;rw[hB0,show y4u (y3y true A) false []=y3y true A from rfl,HF1.out,if_neg (by decide)] at hrr
    have hAl:A.length=k:=by rw[<-HAU.out];exact hk'
    by_cases h6:600 < k
    ·have h6i:(600:Int) < (k:Int):=by omega
     have h6b:decide ((600:Int) < (k:Int))=true:=decide_eq_true h6i
     have hrr:r=4:=by
      rw[hrr,hAl,decide_eq_true h6];rfl
     clear hk' hkU hB0 h6 hbr hAl;have HRR:=hid hrr;clear hrr;go_wp2_with fail;go_ret;exact ⟨by rw[HRR.out];rfl,HN.out⟩
    ·have h6i:¬(600:Int) < (k:Int):=by omega
     have h6b:decide ((600:Int) < (k:Int))=false:=decide_eq_false h6i
     have hz2:(U.size:Int) - (k:Int)=0:=by omega
     have hrr:r=0:=by
      rw[hrr,hAl,decide_eq_false h6];rfl
     clear hk' hkU hB0 h6 hbr hz hAl;have HRR:=hid hrr;clear hrr;go_wp2_with fail;go_ret;exact ⟨by rw[HRR.out];rfl,HN.out⟩
   | true=>
    have hsp:=y1y hbr;have hll:=congrArg List.length hsp
    have hUl:U.data.toList.length=U.size:=by simp
    rw[hUl,List.length_append,List.length_cons,hk']at hll;obtain ⟨k1,hk1⟩:∃ z,k+1=z:=⟨_,rfl⟩
    have e2:(U.extract k1 U.size).data.toList=behind U.data.toList:=by
     rw[Lib.extract_to_end]
     conv=>lhs;arg 2;rw[hsp]
     rw[<-hk1,<-hk'];simp
    obtain ⟨B,hB⟩:∃ B,behind U.data.toList=B:=⟨_,rfl⟩;rw[hB] at e2 hll;have hdb:=fun W=>y3t (U.extract k1 U.size) W (by simp;omega);rw[e2] at hdb;obtain ⟨S2,hS2⟩:∃ S,U.extract k1 U.size=S:=⟨_,rfl⟩;rw[hS2] at e2;simp only[hS2] at hdb
    have hkc:(k:Int) < (U.size:Int):=by omega
    have hkd:decide ((k:Int) < (U.size:Int))=true:=decide_eq_true hkc
    have hk1e:(k:Int)+1=(k1:Int):=by omega
    have hk1n:k1<=U.size:=by omega
    have hk1i:(k1:Int)<=(U.size:Int):=by omega
    obtain ⟨y,hy⟩:∃ y,B.length=y:=⟨_,rfl⟩
    have hyi:(U.size:Int) - (k:Int)=(y:Int)+1:=by omega
    have hyi2:(U.size:Int) - (k:Int) - 1=(y:Int):=by omega
    have hrr:=HR.out _ hbr;rw[hB] at hrr
    have hform:y4u (y3y true A) true B=(y2f B && B != [48] && B != [49]):=by
     rw[HF1.out];unfold y4u;rw[if_pos rfl,Bool.true_and]
    rw[hform]at hrr;have hAU:upTo U.data.toList=A:=HAU.out
    have hAk:A.length=k:=by rw[<-hAU];exact hk'
    have hpa:=fun (hA1:∀ c∈A,y0z c=true) (hB1:∀ c∈B,y0z c=true) (h6:k<=600) (h7:y<=600) W=>y61 U (sgnd false (dval 0 A)) (sgnd false (dval 0 B)) W (by omega) hbr (fun W' s' _ hs'=>y4a s' A W' (by rw[hs',hAU]) hA1 (by omega)) (fun W' s' _ hs'=>y4a s' B W' (by rw[hs',hB]) hB1 (by omega));clear hk' hsp hll hUl hk1 hB hbr hform;have HRR0:=hid hrr;have HPA:=hid hpa;have HAK:=hid hAk;have HYI:=hid hyi;have HYI2:=hid hyi2;have HDB:=hid hdb;have HE2:=hid e2;have HY:=hid hy;clear hrr hpa hAk hyi hyi2 hdb e2 hy;go_wp2_with fail;refine (HDB.out _).mono ?_;rintro e w1 ⟨rfl,hw⟩;rw[hw];clear hw
    cases hdb2:y2f B with
    | false=>
     have hrr:r=1:=by rw[HRR0.out,hdb2];rfl
     clear hdb2;have HRR:=hid hrr;clear hrr;go_wp2_with fail;go_ret;exact ⟨by rw[HRR.out];rfl,HN.out⟩
    | true=>
     have hS2l:S2.toList=B:=by rw[ByteArray.toList_eq];exact HE2.out
     by_cases hB0:B=[48]
     ·have hrr:r=1:=by rw[HRR0.out,hB0,if_pos (by decide)]
      have hzb:(S2.toList==[48])=true:=by rw[hS2l,hB0];rfl
      clear hdb2 hB0 hS2l;have HRR:=hid hrr;clear hrr;go_wp2_with fail;go_ret;exact ⟨by rw[HRR.out];rfl,HN.out⟩
     have hz0:(S2.toList==[48])=false:=by rw[hS2l,beq_eq_false_iff_ne];exact hB0
     by_cases hB1:B=[49]
     ·have hrr:r=1:=by rw[HRR0.out,hB1,if_pos (by decide)]
      have hzb:(S2.toList==[49])=true:=by rw[hS2l,hB1];rfl
      clear hdb2 hB0 hB1 hS2l;have HRR:=hid hrr;clear hrr;go_wp2_with fail;go_ret;exact ⟨by rw[HRR.out];rfl,HN.out⟩
     have hz1:(S2.toList==[49])=false:=by rw[hS2l,beq_eq_false_iff_ne];exact hB1
     have hgood:(y2f B && B != [48] && B != [49])=true:=by rw[hdb2];simp[hB0,hB1]
     have hr2:=HRR0.out;rw[hgood,if_neg (by decide)] at hr2;have hyi:=HYI.out;have hyi2:=HYI2.out;clear hS2l hB0 hB1 hgood;by_cases h6:600 < k
     ·have h6i:(600:Int) < (k:Int):=by omega
      have h6b:decide ((600:Int) < (k:Int))=true:=decide_eq_true h6i
      have hrr:r=4:=by rw[hr2,HAK.out,decide_eq_true h6];rfl
      clear hdb2 hr2 h6 hyi hyi2;have HRR:=hid hrr;clear hrr;go_wp2_with fail;go_ret;exact ⟨by rw[HRR.out];rfl,HN.out⟩
     have h6i:¬(600:Int) < (k:Int):=by omega
     have h6b:decide ((600:Int) < (k:Int))=false:=decide_eq_false h6i;have hye:=HY.out;by_cases h7:600 < y
     ·have h7i:(600:Int) < (y:Int):=by omega
      have h7b:decide ((600:Int) < (y:Int))=true:=decide_eq_true h7i
      have hrr:r=4:=by rw[hr2,HAK.out,hye,decide_eq_true h7,decide_eq_false h6];rfl
      clear hdb2 hr2 h6 h7 hye;have HRR:=hid hrr;clear hrr;go_wp2_with fail;go_ret;exact ⟨by rw[HRR.out];rfl,HN.out⟩
     have h7i:¬(600:Int) < (y:Int):=by omega
     have h7b:decide ((600:Int) < (y:Int))=false:=decide_eq_false h7i;have hA1:=y47 HDA1.out;have hB1:=y47 hdb2;have hpa:=HPA.out hA1 hB1 (by omega) (by omega)
     have hAb:dval 0 A < B9^600:=by
      have h1:=y4g hA1;rw[HAK.out] at h1;exact yn6 (n:=600) h1 (by omega)
     have hBb:dval 0 B < B9^600:=by
      have h1:=y4g hB1;rw[hye] at h1;exact yn6 (n:=600) h1 (by omega)
     obtain ⟨P,hP⟩:∃ P,dval 0 A=P:=⟨_,rfl⟩;obtain ⟨Q,hQ⟩:∃ Q,dval 0 B=Q:=⟨_,rfl⟩;rw[hP] at hAb hpa;rw[hQ] at hBb hpa;have hcm:=fun W va vb (h1:IsD W va P) (h2:IsD W vb Q)=>y7g 600 va vb P Q W h1 h2 (by omega) hAb hBb;rw[hP,hQ,decide_eq_false (by rw[HAK.out];exact h6),decide_eq_false (by rw[hye];exact h7)] at hr2;obtain ⟨G,hG⟩:∃ G,Nat.gcd P Q=G:=⟨_,rfl⟩;simp only[hG] at hcm hr2
     have hr3:r=if G=1 then 0 else 1:=by
      rw[hr2];by_cases h:G=1
      ·rw[if_pos h,h];rfl
      ·rw[if_neg h];simp[h]
     have hG0:G≠0\/True:=.inr trivial;clear hdb2 hr2 h6 h7 hye hA1 hB1 hAb hBb hP hQ hG0 hG;have HPA2:=hid hpa;have HCM:=hid hcm;have HR3:=hid hr3;clear hpa hcm hr3;go_wp2_with fail;refine (HPA2.out _).mono ?_;rintro e w2 ⟨v1,v2,rfl,hn,hz1,hz2⟩;obtain ⟨b1,a1,l1,c1,rfl⟩:=hz1.shape;obtain ⟨b2,a2,l2,c2,rfl⟩:=hz2.shape;have hd1:=hz1.parts.2;have hd2:=hz2.parts.2;rw[y6b] at hd1 hd2;clear hz1 hz2 h6i h6b h7i h7b hyi hyi2 hkc hkd;have HD1:=hid hd1;have HD2:=hid hd2;clear hd1 hd2;replace HN:=tW HN hn;clear hn;go_upto_region 13 with (fail);have HN0:=HN;clear HN;obtain ⟨BA,BB,HN⟩:=lay2 w2 124 #[.bool b1,.slice a1 l1 c1] 124 #[.bool b2,.slice a2 l2 c2];replace HD1:=hid (HD1.out.new HN.out);replace HD2:=hid (HD2.out.new HN.out);have HN_:=HN0.out.trans HN.out;clear HN HN0;have HN:=hid HN_;clear HN_;obtain ⟨pa0,pa1,pa2,pa3,pa4⟩:=BA.out.two;obtain ⟨pb0,pb1,pb2,pb3,pb4⟩:=BB.out.two;go_wp2_with fail;refine (HCM.out _ _ _ HD1.out HD2.out).mono ?_;rintro e w3 ⟨v3,rfl,hn,hg⟩;clear pa0 pa1 pa2 pa3 pa4 pb0 pb1 pb2 pb3 pb4;replace HN:=tW HN hn;clear hn;obtain ⟨n,f,hdg,hval⟩:=hg;have hcan:=hdg.canon;obtain ⟨⟨a3,c3,⟨rfl, -⟩,hrd, -⟩, -⟩:=hdg;by_cases hn1:n=1
     ·subst hn1;obtain ⟨b8,o8,rfl,hcell⟩:=hrd 0 (by omega)
      have hf0:f 0=G:=by rw[<-hval];simp[vf]
      rw[hf0,Nat.add_zero]at hcell;clear hcan hrd hval hf0;by_cases hG1:G=1
      ·have hrr:r=0:=by rw[HR3.out,if_pos hG1]
       rw[hG1]at hcell;clear hG1;have HRR:=hid hrr;clear hrr;go_wp2_with fail;go_ret;exact ⟨by rw[HRR.out];rfl,HN.out⟩
      ·have hrr:r=1:=by rw[HR3.out,if_neg hG1]
       have hGb:((G:Int)==1)=false:=beq_eq_false_iff_ne.2 (by omega)
       have hGc:((G:Int) != 1)=true:=by rw[bne,hGb];rfl
       clear hG1;have HRR:=hid hrr;clear hrr;go_wp2_with fail;go_ret;exact ⟨by rw[HRR.out];rfl,HN.out⟩
     ·have hG1:G≠1:=by
       intro h;rw[h] at hval;have h1:=y4c (K:=1) hcan hval (by decide)
       have:n=0:=by omega
       rw[this,y14]at hval;omega
      have hrr:r=1:=by rw[HR3.out,if_neg hG1]
      have hnb:((n:Int)==1)=false:=beq_eq_false_iff_ne.2 (by omega)
      have hnc:((n:Int) != 1)=true:=by rw[bne,hnb];rfl
      clear hG1 hcan hrd hval hn1;have HRR:=hid hrr;clear hrr;go_wp2_with fail;go_ret;exact ⟨by rw[HRR.out];rfl,HN.out⟩
theorem yee (s:ByteArray)(w:World)(hl:s.size<=1000000):Calls Tryz.prog 18 #[.string s] w fun e w'=>e=.returned (.int .i64 (y1j s.data.toList))/\New w w':=by
 cases h:s.data.toList.head?==some 45 with
 | true=>exact yid s w hl h
 | false=>exact yha s w hl h
theorem yn7 (m d:Nat)(w:World)(hm:m<=4000000000000000000)(hd:0 < d)(hd2:d<=4000000000000000000):Calls Tryz.prog 73 #[.int .i64 (-(m:Int)),.int .i64 (-(d:Int))] w (RetS w (Rat.divInt ((m:Int)) d)):=by
 obtain ⟨hnum,hden⟩:=y8l (x:=(m:Int)) (m:=m) (d:=d) (by omega) hd;obtain ⟨R,hR⟩:∃ R,Rat.divInt ((m:Int)) d=R:=⟨_,rfl⟩;rw[hR] at hnum hden⊢;have hgc:=fun W=>y6a m d W (by omega) (by omega);have hg0:0 < Nat.gcd m d:=Nat.gcd_pos_of_pos_right _ hd;obtain ⟨g,hg⟩:∃ g,Nat.gcd m d=g:=⟨_,rfl⟩
 have hgd:g<=d:=by rw[<-hg];exact Nat.le_of_dvd hd (Nat.gcd_dvd_right _ _)
 simp only[hg]at hgc hnum hden hg0;obtain ⟨p1,p2, -, -⟩:=divd m g;obtain ⟨q1,q2, -, -⟩:=divd d g;have hPm:m / g<=m:=Nat.div_le_self _ _;have hQd:d / g<=d:=Nat.div_le_self _ _;obtain ⟨P,hP⟩:∃ P,m / g=P:=⟨_,rfl⟩;obtain ⟨Q,hQ⟩:∃ Q,d / g=Q:=⟨_,rfl⟩;rw[hP] at p1 p2 hPm hnum;rw[hQ] at q1 q2 hQd hden
 have hQ0:0 < Q:=by rw[<-hQ];exact Nat.div_pos hgd hg0
 have hdp:=fun W=>y1e P W (by omega);have hdq:=fun W=>y1e Q W (by omega);have hlp:=ydt (n:=P) (by omega);have hlq:=ydt (n:=Q) (by omega);obtain ⟨S,hS⟩:∃ S,bs (decDigits P)=S:=⟨_,rfl⟩;obtain ⟨D,hD⟩:∃ D,bs (decDigits Q)=D:=⟨_,rfl⟩
 have hSs:S.size<=64:=by rw[<-hS,y1d];exact hlp
 have hDs:D.size<=64:=by rw[<-hD,y1d];exact hlq
 simp only[hS]at hdp;simp only[hD] at hdq
 have hx0:¬(P:Int) < 0:=(by omega);have hmx:max (m:Int) (-(m:Int))=(m:Int):=(by omega);have hmy:max (P:Int) (-(P:Int))=(P:Int):=(by omega)
 have hres1:Q=1->rs R=S:=fun h=>by
  unfold rs y02;rw[if_pos (by rw[hden,h]),hnum];rw[y8n,Big.itoa_nonneg,hS]
 have hres2:Q≠1->rs R=S ++ ⟨#[47]⟩ ++ D:=fun h=>by
  unfold rs y02;rw[if_neg (by rw[hden];exact h),hnum,hden];rw[y8n,Big.itoa_nonneg,ycf,hS,hD]
 have hgi:(0:Int) < (g:Int):=by omega
 have hgb:((g:Int)==0)=false:=by simp;omega
 have hgn:(g:Int)≠0:=by omega
 have hdi:(0:Int) < (d:Int):=by omega
 have hd0: -(d:Int) < 0:=by omega
 have hd0b:decide (-(d:Int) < 0)=true:=decide_eq_true hd0
 have hz1:0 - (-(m:Int))=((m:Int)):=by omega
 have hz2:0 - -(d:Int)=(d:Int):=by omega
 have k1:¬(-(m:Int)) < -4000000000000000000:=by omega
 have k2:¬4000000000000000000 < (-(m:Int)):=by omega
 have k3:¬ -(d:Int) < -4000000000000000000:=by omega
 have k4:¬4000000000000000000 < -(d:Int):=by omega
 have k1b:=decide_eq_false k1;have k2b:=decide_eq_false k2;have k3b:=decide_eq_false k3;have k4b:=decide_eq_false k4
 have hq63a:¬9223372036854775807 < S.size:=by omega
 have hq63b:¬9223372036854775807 < S.size+1:=by omega
 have hq63c:¬9223372036854775807 < S.size+1+D.size:=by omega
 have hPi:(P:Int)<=4000000000000000000:=by omega
 have hQi:(Q:Int)<=4000000000000000000:=by omega
 have hmi:(m:Int)<=4000000000000000000:=by omega
 by_cases hQ1:Q=1
 ·have hr:=hres1 hQ1;clear hnum hden hR hg0 hg hgd hP hQ hPm hQd hlp hlq hS hD hSs hDs hres1 hres2 hm hd hd2 hQ0;have HGC:=hid hgc;have HDP:=hid hdp;have HDQ:=hid hdq;have HR:=hid hr;have P1:=hid p1;have P2:=hid p2;have QQ1:=hid q1;have QQ2:=hid q2;have HGI:=hid hgi;have HGB:=hid hgb;have HGN:=hid hgn;have HA:=hid hq63a;have HB:=hid hq63b;have HC:=hid hq63c;have HPI:=hid hPi;have HQI:=hid hQi;have HX0:=hid hx0;clear hgc hdp hdq hr p1 p2 q1 q2 hgi hgb hgn hq63a hq63b hq63c hPi hQi hx0;subst hQ1;go_enter Tryz.func73,Tryz.ntmps73;go_wp2_with fail;refine (HGC.out _).mono ?_;rintro e w1 ⟨rfl,hn⟩;clear hz1 hz2 hmx k1 k2 k3 k4 k1b k2b k3b k4b hd0 hd0b;have HN:=hid hn;clear hn;have p1:=P1.out;have p2:=P2.out;have q1:=QQ1.out;have q2:=QQ2.out;have hgi:=HGI.out;have hgb:=HGB.out;have hgn:=HGN.out;have hPi:=HPI.out;have hQi:=HQI.out;have hx0:=HX0.out;go_wp2_with fail
  go_quiet (fail)
  replace HN:=hid (HN.out.drewN nq);obtain ⟨w9,hw9⟩:∃ x,w1.drewN nq=x:=⟨_,rfl⟩;rw[hw9] at HN⊢;clear hw9 p1 p2 q1 q2 hgi hgb hgn;have hpi:=HPI.out;go_wp2_with fail;refine (HDP.out _).mono ?_;rintro e w2 ⟨rfl,hn⟩;replace HN:=tW HN hn;clear hn;have hA:=HA.out;go_wp2_with fail;go_ret;exact ⟨by rw[HR.out];rfl,HN.out⟩
 ·have hr:=hres2 hQ1
  have hQ2:(1:Int) < (Q:Int):=by omega
  have hQ2b:decide ((1:Int) < (Q:Int))=true:=decide_eq_true hQ2;clear hnum hden hR hg0 hg hgd hP hQ hPm hQd hlp hlq hS hD hSs hDs hres1 hres2 hm hd hd2 hQ0 hQ1;have HGC:=hid hgc;have HDP:=hid hdp;have HDQ:=hid hdq;have HR:=hid hr;have P1:=hid p1;have P2:=hid p2;have QQ1:=hid q1;have QQ2:=hid q2;have HGI:=hid hgi;have HGB:=hid hgb;have HGN:=hid hgn;have HA:=hid hq63a;have HB:=hid hq63b;have HC:=hid hq63c;have HPI:=hid hPi;have HQI:=hid hQi;have HQ2:=hid hQ2;have HQ2B:=hid hQ2b;have HX0:=hid hx0;clear hgc hdp hdq hr p1 p2 q1 q2 hgi hgb hgn hq63a hq63b hq63c hPi hQi hQ2 hQ2b hx0;go_enter Tryz.func73,Tryz.ntmps73;go_wp2_with fail;refine (HGC.out _).mono ?_;rintro e w1 ⟨rfl,hn⟩;clear hz1 hz2 hmx k1 k2 k3 k4 k1b k2b k3b k4b hd0 hd0b;have HN:=hid hn;clear hn;have p1:=P1.out;have p2:=P2.out;have q1:=QQ1.out;have q2:=QQ2.out;have hgi:=HGI.out;have hgb:=HGB.out;have hgn:=HGN.out;have hPi:=HPI.out;have hQi:=HQI.out;have hx0:=HX0.out;go_wp2_with fail
  go_quiet (fail)
  replace HN:=hid (HN.out.drewN nq);obtain ⟨w9,hw9⟩:∃ x,w1.drewN nq=x:=⟨_,rfl⟩;rw[hw9] at HN⊢;clear hw9 p1 p2 q1 q2 hgi hgb hgn;have hpi:=HPI.out;go_wp2_with fail;refine (HDP.out _).mono ?_;rintro e w2 ⟨rfl,hn⟩;replace HN:=tW HN hn;clear hn;have hA:=HA.out;have hB:=HB.out;have hQ2:=HQ2.out;have hQ2b:=HQ2B.out;go_wp2_with fail;refine (HDQ.out _).mono ?_;rintro e w3 ⟨rfl,hn⟩;replace HN:=tW HN hn;clear hn;have hC:=HC.out;go_wp2_with fail;go_ret;exact ⟨by rw[HR.out];rfl,HN.out⟩
theorem ymq (m d:Nat)(w:World)(hm:m<=4000000000000000000)(hd:0 < d)(hd2:d<=4000000000000000000)(hmp:0 < m):Calls Tryz.prog 73 #[.int .i64 ((m:Int)),.int .i64 (-(d:Int))] w (RetS w (Rat.divInt (-(m:Int)) d)):=by
 obtain ⟨hnum,hden⟩:=y8l (x:= -(m:Int)) (m:=m) (d:=d) (by omega) hd;obtain ⟨R,hR⟩:∃ R,Rat.divInt (-(m:Int)) d=R:=⟨_,rfl⟩;rw[hR] at hnum hden⊢;have hgc:=fun W=>y6a m d W (by omega) (by omega);have hg0:0 < Nat.gcd m d:=Nat.gcd_pos_of_pos_right _ hd;obtain ⟨g,hg⟩:∃ g,Nat.gcd m d=g:=⟨_,rfl⟩
 have hgd:g<=d:=by rw[<-hg];exact Nat.le_of_dvd hd (Nat.gcd_dvd_right _ _)
 simp only[hg]at hgc hnum hden hg0;obtain ⟨p1,p2, -, -⟩:=divd m g;obtain ⟨q1,q2, -, -⟩:=divd d g;have hPm:m / g<=m:=Nat.div_le_self _ _;have hQd:d / g<=d:=Nat.div_le_self _ _;obtain ⟨P,hP⟩:∃ P,m / g=P:=⟨_,rfl⟩;obtain ⟨Q,hQ⟩:∃ Q,d / g=Q:=⟨_,rfl⟩;rw[hP] at p1 p2 hPm hnum;rw[hQ] at q1 q2 hQd hden
 have hQ0:0 < Q:=by rw[<-hQ];exact Nat.div_pos hgd hg0
 have hdp:=fun W=>y1e P W (by omega);have hdq:=fun W=>y1e Q W (by omega);have hlp:=ydt (n:=P) (by omega);have hlq:=ydt (n:=Q) (by omega);obtain ⟨S,hS⟩:∃ S,bs (decDigits P)=S:=⟨_,rfl⟩;obtain ⟨D,hD⟩:∃ D,bs (decDigits Q)=D:=⟨_,rfl⟩
 have hSs:S.size<=64:=by rw[<-hS,y1d];exact hlp
 have hDs:D.size<=64:=by rw[<-hD,y1d];exact hlq
 simp only[hS]at hdp;simp only[hD] at hdq;obtain ⟨hx0,hx1,hx2,hx3,hx4,hx5,hx6,hx7⟩:=ydp (P:=P) (m:=m) (g:=g) hmp (by rw[<-hP];exact Nat.div_pos (by rw[<-hg];exact Nat.le_of_dvd hmp (Nat.gcd_dvd_left _ _)) hg0) p2
 have hres1:Q=1->rs R=⟨#[45]⟩ ++ S:=fun h=>by
  unfold rs y02;rw[if_pos (by rw[hden,h]),hnum];rw[y7f hmp,Big.itoa_neg (by omega),<-hS];exact (y2b [45] _).symm
 have hres2:Q≠1->rs R=⟨#[45]⟩ ++ S ++ ⟨#[47]⟩ ++ D:=fun h=>by
  unfold rs y02;rw[if_neg (by rw[hden];exact h),hnum,hden];rw[y7f hmp,Big.itoa_neg (by omega),ycf,<-hS,<-hD,show bs (45::decDigits P)=⟨#[45]⟩ ++ bs (decDigits P) from (y2b [45] _).symm]
 have hgi:(0:Int) < (g:Int):=by omega
 have hgb:((g:Int)==0)=false:=by simp;omega
 have hgn:(g:Int)≠0:=by omega
 have hdi:(0:Int) < (d:Int):=by omega
 have hd0: -(d:Int) < 0:=by omega
 have hd0b:decide (-(d:Int) < 0)=true:=decide_eq_true hd0
 have hz1:0 - ((m:Int))=(-(m:Int)):=by omega
 have hz2:0 - -(d:Int)=(d:Int):=by omega
 have k1:¬((m:Int)) < -4000000000000000000:=by omega
 have k2:¬4000000000000000000 < ((m:Int)):=by omega
 have k3:¬ -(d:Int) < -4000000000000000000:=by omega
 have k4:¬4000000000000000000 < -(d:Int):=by omega
 have k1b:=decide_eq_false k1;have k2b:=decide_eq_false k2;have k3b:=decide_eq_false k3;have k4b:=decide_eq_false k4
 have hq63a:¬9223372036854775807 < 1+S.size:=by omega
 have hq63b:¬9223372036854775807 < 1+S.size+1:=by omega
 have hq63c:¬9223372036854775807 < 1+S.size+1+D.size:=by omega
 have hPi:(P:Int)<=4000000000000000000:=by omega
 have hQi:(Q:Int)<=4000000000000000000:=by omega
 have hmi:(m:Int)<=4000000000000000000:=by omega
 by_cases hQ1:Q=1
 ·have hr:=hres1 hQ1;clear hnum hden hR hg0 hg hgd hP hQ hPm hQd hlp hlq hS hD hSs hDs hres1 hres2 hm hd hd2 hQ0 hmp;have HGC:=hid hgc;have HDP:=hid hdp;have HDQ:=hid hdq;have HR:=hid hr;have P1:=hid p1;have P2:=hid p2;have QQ1:=hid q1;have QQ2:=hid q2;have HGI:=hid hgi;have HGB:=hid hgb;have HGN:=hid hgn;have HA:=hid hq63a;have HB:=hid hq63b;have HC:=hid hq63c;have HPI:=hid hPi;have HQI:=hid hQi;have HX0:=hid hx0;have HX4:=hid hx4;have HX5:=hid hx5;have HX6:=hid hx6;have HX7:=hid hx7;clear hgc hdp hdq hr p1 p2 q1 q2 hgi hgb hgn hq63a hq63b hq63c hPi hQi hx0 hx4 hx5 hx6 hx7;subst hQ1;go_enter Tryz.func73,Tryz.ntmps73;go_wp2_with fail;refine (HGC.out _).mono ?_;rintro e w1 ⟨rfl,hn⟩;clear hz1 hz2  k1 k2 k3 k4 k1b k2b k3b k4b hd0 hd0b;have HN:=hid hn;clear hn;have p1:=P1.out;have p2:=P2.out;have q1:=QQ1.out;have q2:=QQ2.out;have hgi:=HGI.out;have hgb:=HGB.out;have hgn:=HGN.out;have hPi:=HPI.out;have hQi:=HQI.out
  (have hx0:=HX0.out;have hx4:=HX4.out;have hx5:=HX5.out;have hx6:=HX6.out;have hx7:=HX7.out)
  go_wp2_with fail
  go_quiet (fail)
  replace HN:=hid (HN.out.drewN nq);obtain ⟨w9,hw9⟩:∃ x,w1.drewN nq=x:=⟨_,rfl⟩;rw[hw9] at HN⊢;clear hw9 p1 p2 q1 q2 hgi hgb hgn;have hpi:=HPI.out;go_wp2_with fail;refine (HDP.out _).mono ?_;rintro e w2 ⟨rfl,hn⟩;replace HN:=tW HN hn;clear hn;have hA:=HA.out;go_wp2_with fail;go_ret;exact ⟨by rw[HR.out];rfl,HN.out⟩
 ·have hr:=hres2 hQ1
  have hQ2:(1:Int) < (Q:Int):=by omega
  have hQ2b:decide ((1:Int) < (Q:Int))=true:=decide_eq_true hQ2;clear hnum hden hR hg0 hg hgd hP hQ hPm hQd hlp hlq hS hD hSs hDs hres1 hres2 hm hd hd2 hQ0 hQ1 hmp;have HGC:=hid hgc;have HDP:=hid hdp;have HDQ:=hid hdq;have HR:=hid hr;have P1:=hid p1;have P2:=hid p2;have QQ1:=hid q1;have QQ2:=hid q2;have HGI:=hid hgi;have HGB:=hid hgb;have HGN:=hid hgn;have HA:=hid hq63a;have HB:=hid hq63b;have HC:=hid hq63c;have HPI:=hid hPi;have HQI:=hid hQi;have HQ2:=hid hQ2;have HQ2B:=hid hQ2b;have HX0:=hid hx0;have HX4:=hid hx4;have HX5:=hid hx5;have HX6:=hid hx6;have HX7:=hid hx7;clear hgc hdp hdq hr p1 p2 q1 q2 hgi hgb hgn hq63a hq63b hq63c hPi hQi hQ2 hQ2b hx0 hx4 hx5 hx6 hx7;go_enter Tryz.func73,Tryz.ntmps73;go_wp2_with fail;refine (HGC.out _).mono ?_;rintro e w1 ⟨rfl,hn⟩;clear hz1 hz2  k1 k2 k3 k4 k1b k2b k3b k4b hd0 hd0b;have HN:=hid hn;clear hn;have p1:=P1.out;have p2:=P2.out;have q1:=QQ1.out;have q2:=QQ2.out;have hgi:=HGI.out;have hgb:=HGB.out;have hgn:=HGN.out;have hPi:=HPI.out;have hQi:=HQI.out
  (have hx0:=HX0.out;have hx4:=HX4.out;have hx5:=HX5.out;have hx6:=HX6.out;have hx7:=HX7.out)
  go_wp2_with fail
  go_quiet (fail)
  replace HN:=hid (HN.out.drewN nq);obtain ⟨w9,hw9⟩:∃ x,w1.drewN nq=x:=⟨_,rfl⟩;rw[hw9] at HN⊢;clear hw9 p1 p2 q1 q2 hgi hgb hgn;have hpi:=HPI.out;go_wp2_with fail;refine (HDP.out _).mono ?_;rintro e w2 ⟨rfl,hn⟩;replace HN:=tW HN hn;clear hn;have hA:=HA.out;have hB:=HB.out;have hQ2:=HQ2.out;have hQ2b:=HQ2B.out;go_wp2_with fail;refine (HDQ.out _).mono ?_;rintro e w3 ⟨rfl,hn⟩;replace HN:=tW HN hn;clear hn;have hC:=HC.out;go_wp2_with fail;go_ret;exact ⟨by rw[HR.out];rfl,HN.out⟩
theorem y8p (x:Int)(d:Int):Rat.divInt (-x) (-d)=Rat.divInt x d:=by
 rcases Int.lt_trichotomy d 0 with h | h | h
 ·rw[Rat.divInt_eq_divInt_iff (by omega) (by omega)];rw[Int.neg_mul,Int.mul_neg]
 ·rw[h,Int.neg_zero,Rat.divInt_zero,Rat.divInt_zero]
 ·rw[Rat.divInt_eq_divInt_iff (by omega) (by omega)];rw[Int.neg_mul,Int.mul_neg]
theorem yhz (x d:Int)(w:World)(lo: -4000000000000000000<=x)(hi:x<=4000000000000000000)(hd:d≠0)(lo2: -4000000000000000000<=d)(hd2:d<=4000000000000000000):Calls Tryz.prog 73 #[.int .i64 x,.int .i64 d] w (RetS w (Rat.divInt x d)):=by
 rcases Int.lt_or_gt_of_ne hd with h | h
 ·obtain ⟨n,rfl⟩:∃ n:Nat,d= -(n:Int):=⟨d.natAbs,by omega⟩;rcases Int.lt_or_le 0 x with h1 | h1
  ·obtain ⟨m,rfl⟩:∃ m:Nat,x=(m:Int):=⟨x.toNat,by omega⟩;have:=ymq m n w (by omega) (by omega) (by omega) (by omega)
   rwa [show Rat.divInt (-(m:Int)) (n:Int)=Rat.divInt (m:Int) (-(n:Int)) by rw[<-y8p (m:Int),Int.neg_neg]] at this
  ·obtain ⟨m,rfl⟩:∃ m:Nat,x= -(m:Int):=⟨x.natAbs,by omega⟩;have:=yn7 m n w (by omega) (by omega) (by omega)
   rwa [<-y8p] at this
 ·obtain ⟨n,rfl⟩:∃ n:Nat,d=(n:Int):=⟨d.toNat,by omega⟩;exact ykx x n w lo hi (by omega) (by omega)
end Go.Proofs.YtnjonlnemagomaaGreatDoor
