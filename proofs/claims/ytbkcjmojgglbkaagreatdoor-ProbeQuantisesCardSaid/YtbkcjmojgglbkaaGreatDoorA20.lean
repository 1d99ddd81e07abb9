/- Part A20. -/
import Derived.Test.YtbkcjmojgglbkaaGreatDoorA11
import Derived.Test.YtbkcjmojgglbkaaGreatDoorA19
namespace Go.Proofs.YtbkcjmojgglbkaaGreatDoor
open Go.RowKit Big Go.Lib
set_option maxRecDepth 100000
set_option maxHeartbeats 8000000
theorem rs_slash (q:Rat):(upTo (rs q).data.toList).length=(rs q).size ↔ q.den=1:=by
 have hl:(rs q).size=(ratText q).length:=by unfold rs;rw[bs_size]
 rw[rs_list,hl];unfold ratText;split
 ·rename_i h;rw[(split_plain (slashed_itoa' q.num)).1];exact ⟨fun _=>h,fun _=>rfl⟩
 ·rename_i h;rw[(parts_itoa' _ _).1,List.length_append,List.length_cons];exact ⟨fun h1=>by omega,fun h1=>absurd h1 h⟩
theorem riswhole_calls (q:Rat)(w:World)(hl:(rs q).size≤1000000):Calls Tryz.prog 147 #[.string (rs q)] w fun e w'=>e=.returned (.bool (decide (q.den=1)))∧w'=w:=by
 have hsl:=fun W=>rslash_calls (rs q) W hl;have hiff:=rs_slash q;have hle:=sl_len (rs q).data.toList
 have hlen:(rs q).data.toList.length=(rs q).size:=by simp
 rw[hlen]at hle;obtain ⟨k,hk⟩:∃ k,(upTo (rs q).data.toList).length=k:=⟨_,rfl⟩;simp only[hk] at hsl hiff hle;obtain ⟨s,hs⟩:∃ s,rs q=s:=⟨_,rfl⟩;rw[hs] at hsl hiff hle hl⊢;clear hk hs hlen;by_cases h:q.den=1
 ·have hks:=hiff.2 h;rw[decide_eq_true h];subst hks;clear hiff h hle hl;have HSL:=hid hsl;clear hsl;go_enter Tryz.func147,Tryz.ntmps147;go_wp2_with fail;refine (HSL.out _).mono ?_;rintro e w1 ⟨rfl,hw⟩;rw[hw];clear hw;go_wp2_with fail;go_ret;exact ⟨rfl,rfl⟩
 ·have hks:k≠s.size:=fun h1=>h (hiff.1 h1)
  have hkb:((k:Int)==(s.size:Int))=false:=by simp;omega
  rw[decide_eq_false h];clear hiff h hle hl hks;have HSL:=hid hsl;clear hsl;go_enter Tryz.func147,Tryz.ntmps147;go_wp2_with fail;refine (HSL.out _).mono ?_;rintro e w1 ⟨rfl,hw⟩;rw[hw];clear hw;go_wp2_with fail;go_ret;exact ⟨rfl,rfl⟩
theorem rs_int (z:Int):rs (z:Rat)=bs (itoa z):=by unfold rs;rw[ratText_int]
theorem rfloorQ_calls (k:Nat)(q:Rat)(w:World)(hq:RFB k q)(hk:k≤40000):Calls Tryz.prog 83 #[.string (rs q)] w (RetS w (q.floor:Rat)):=by
 have hwh:=fun W=>riswhole_calls q W (by have:=hq.len;omega);by_cases h:q.den=1
 ·have hr:rs (q.floor:Rat)=rs q:=by
   rw[rs_int,Rat.floor_def,h];unfold rs ratText;rw[if_pos h];simp
  rw[decide_eq_true h]at hwh;obtain ⟨s,hs⟩:∃ s,rs q=s:=⟨_,rfl⟩;rw[hs] at hr⊢;simp only[hs] at hwh;clear hs hq h;have HWH:=hid hwh;have HR:=hid hr;clear hwh hr;go_enter Tryz.func83,Tryz.ntmps83;go_wp2_with fail;refine (HWH.out _).mono ?_;rintro e w1 ⟨rfl,hw⟩;rw[hw];clear hw;go_wp2_with fail;go_ret;exact ⟨by rw[HR.out];rfl,New.refl _⟩
 ·rw[decide_eq_false h] at hwh;have hp:=fun W=>rparts_calls k q W hq hk
  have hd0:(0:Int) < (q.den:Int):=by have:=q.den_nz;omega
  have hfl:=fun W va vb (ha:IsZ W va q.num) (hb:IsZ W vb (q.den:Int))=>rfloorDiv_calls k va vb _ _ W ha hb (by omega) (pow_b9 hq.num (Nat.le_refl _)) (pow_b9 (by simpa using hq.den) (Nat.le_refl _)) hd0;rw[←Rat.floor_def] at hfl
  have hfb:q.floor.natAbs < B9^k:=by
   rw[Rat.floor_def];exact Nat.lt_of_le_of_lt (Int.natAbs_ediv_le_natAbs _ _) (pow_b9 hq.num (Nat.le_refl _))
  have htx:=fun W v (hv:IsZ W v q.floor)=>rtext_calls k v q.floor W hv (by omega) hfb;have hr:=rs_int q.floor;obtain ⟨s,hs⟩:∃ s,rs q=s:=⟨_,rfl⟩;rw[hs];simp only[hs] at hwh hp;have hn0:=New.refl w;clear hs hq h hk hd0 hfb;have HWH:=hid hwh;have HR:=hid hr;have HP:=hid hp;have HFL:=hid hfl;have HTX:=hid htx;have HN:=hid hn0;clear hwh hr hp hfl htx hn0;go_enter Tryz.func83,Tryz.ntmps83;go_wp2_with fail;refine (HWH.out _).mono ?_;rintro e w1 ⟨rfl,hw⟩;rw[hw];clear hw;go_wp2_with fail;refine (HP.out _).mono ?_;rintro e w1 ⟨v1,v2,rfl,hn,hz1,hz2⟩;obtain ⟨b1,a1,l1,c1,rfl⟩:=hz1.shape;obtain ⟨b2,a2,l2,c2,rfl⟩:=hz2.shape;have HZ1:=hid hz1;have HZ2:=hid hz2;clear hz1 hz2;replace HN:=tW HN hn;clear hn;go_upto_region 4 with (fail);have HN0:=HN;clear HN;obtain ⟨BA,BB,HN⟩:=lay2 w1 137 #[.bool b1,.slice a1 l1 c1] 137 #[.bool b2,.slice a2 l2 c2];replace HZ1:=hid (HZ1.out.new HN.out);replace HZ2:=hid (HZ2.out.new HN.out);have HN_:=HN0.out.trans HN.out;clear HN HN0;have HN:=hid HN_;clear HN_;obtain ⟨pa0,pa1,pa2,pa3,pa4⟩:=BA.out.two;obtain ⟨pb0,pb1,pb2,pb3,pb4⟩:=BB.out.two;go_wp2_with fail;refine (HFL.out _ _ _ HZ1.out HZ2.out).mono ?_;rintro e w2 ⟨v3,rfl,hn,hz3⟩;obtain ⟨b3,a3,l3,c3,rfl⟩:=hz3.shape;have HZ3:=hid hz3;clear hz3;clear pa0 pa1 pa2 pa3 pa4 pb0 pb1 pb2 pb3 pb4;replace HN:=tW HN hn;clear hn;go_wp2_with fail;refine (HTX.out _ _ HZ3.out).mono ?_;rintro e w3 ⟨rfl,hn⟩;replace HN:=tW HN hn;clear hn;go_wp2_with fail;go_ret;exact ⟨by rw[HR.out];rfl,HN.out⟩
theorem rat_pow_add (a:Rat)(m:Nat):∀ n,a^m*a^n=a^(m+n)
 | 0=>by rw[Rat.pow_zero,Rat.mul_one,Nat.add_zero]
 | n+1=>by rw[Rat.pow_succ,←Rat.mul_assoc,rat_pow_add a m n,←Nat.add_assoc,Rat.pow_succ]
theorem rs_one:rs 1=⟨#[49]⟩:=by
 rw[show (1:Rat)=((1:Int):Rat) from rfl,rs_int,show (1:Int)=((1:Nat):Int) from rfl,Big.itoa_nonneg,decDigits_one'];rfl
theorem RFB.pow {j:Nat}{a:Rat}(h:RFB j a):∀ e:Nat,RFB (j*e+1) (a^e)
 | 0=>by rw[Rat.pow_zero];exact ⟨by show (1:Int).natAbs < 2^(j*0+1);simp,by show (1:Nat) < 2^(j*0+1);simp⟩
 | e+1=>by
  rw[Rat.pow_succ];have:=(RFB.pow h e).mul h;refine this.mono ?_;rw[Nat.mul_add];omega
theorem rpow_nat (j k0:Nat)(a:Rat)(w:World)(ha:RFB j a)(hb:j*(4*k0+4)+2≤40000)(hk0:k0≤40000):Calls Tryz.prog 103 #[.string (rs a),.int .i64 (k0:Int)] w (RetS w (a^k0)):=by
 have hmul:=fun (eo ea:Nat) (h1:eo≤k0) (h2:ea≤2*k0+1) W=>rmulQ_calls (j*eo+1) (j*ea+1) (a^eo) (a^ea) W (ha.pow eo) (ha.pow ea) (by
  have e1:j*eo≤j*k0:=Nat.mul_le_mul_left _ h1;have e2:j*ea≤j*(2*k0+1):=Nat.mul_le_mul_left _ h2;rw[Nat.mul_add] at e2;rw[Nat.mul_add] at hb;have e3:j*(4*k0)=4*(j*k0):=Nat.mul_left_comm _ _ _;have e4:j*(2*k0)=2*(j*k0):=Nat.mul_left_comm _ _ _
  omega)
 have hsq:=fun (ea:Nat) (h2:ea≤k0) W=>rmulQ_calls (j*ea+1) (j*ea+1) (a^ea) (a^ea) W (ha.pow ea) (ha.pow ea) (by
  have e2:j*ea≤j*k0:=Nat.mul_le_mul_left _ h2;rw[Nat.mul_add] at hb;have e3:j*(4*k0)=4*(j*k0):=Nat.mul_left_comm _ _ _
  omega)
 have hadd:∀ m n,a^m*a^n=a^(m+n):=fun m n=>rat_pow_add a m n;simp only[hadd] at hmul hsq
 have h1:rs (a^0)=⟨#[49]⟩:=by rw[Rat.pow_zero,rs_one]
 have h2:rs (a^1)=rs a:=by rw[show a^1=a^0*a from Rat.pow_succ a 0,Rat.pow_zero,Rat.one_mul]
 obtain ⟨F,hF⟩:∃ F:Nat→ByteArray,(fun e=>rs (a^e))=F:=⟨_,rfl⟩
 have hFe:∀ e,rs (a^e)=F e:=fun e=>by rw[←hF]
 have hend:∀ W W',New W W'→RetS W (a^k0) (.returned (.string (F k0))) W':=fun W W' h=>⟨by rw[hFe],h⟩;simp only[hFe] at hmul hsq;have hmul:=fun eo ea h1 h2 W=>(hmul eo ea h1 h2 W).mono fun e w' h=>RetS.to (hFe _) h;have hsq:=fun ea h2 W=>(hsq ea h2 W).mono fun e w' h=>RetS.to (hFe _) h;rw[hFe] at h1 h2;rw[←h2]
 have hk0n:¬(k0:Int) < 0:=by omega
 have hk0b:decide ((k0:Int) < 0)=false:=decide_eq_false hk0n;clear hF hFe h2 ha hb hadd;have HMUL:=hid hmul;have HSQ:=hid hsq;have H1:=hid h1;have HEND:=hid hend;clear hmul hsq h1 hend;go_enter Tryz.func103,Tryz.ntmps103;go_wp2_with fail;clear hk0n hk0b;go_loopw [0,1,5] (fun sa sk so wr=>∃ (ea kk eo:Nat),sa=.string (F ea)∧sk=.int .i64 (kk:Int)∧so=.string (F eo)∧Hid (eo+kk*ea=k0)∧Hid (ea≤2*k0+1)∧kk≤40000∧Hid (New w wr)) (fun _ sk _ _=>(RowKit.intOf sk).toNat)
 case atStart=>exact ⟨1,k0,0,rfl,rfl,by rw[H1.out],hid (by omega),hid (by omega),hk0,hid (New.refl _)⟩
 case round=>
  clear hk0;obtain ⟨ea,kk,eo,rfl,rfl,rfl,HE,HA,hkk,HN⟩:=hrel;rcases Nat.eq_zero_or_pos kk with h0 | h0
  ·subst h0;have he:=HE.out;rw[Nat.zero_mul,Nat.add_zero] at he;subst he;go_wp2_with fail;go_ret;exact HEND.out _ _ HN.out
  ·have hle:ea≤kk*ea:=Nat.le_mul_of_pos_left ea h0
   have hak:ea≤k0:=by have:=HE.out;omega
   have hok:eo≤k0:=by have:=HE.out;omega
   have hm:=HMUL.out eo ea hok (by omega);have hs:=HSQ.out ea hak
   have h0i:(0:Int) < (kk:Int):=by omega
   have h0b:decide ((0:Int) < (kk:Int))=true:=decide_eq_true h0i;obtain ⟨d1,d2,d3,d4⟩:=divd kk 2;obtain ⟨q,hq⟩:∃ q,kk / 2=q:=⟨_,rfl⟩;obtain ⟨r,hr⟩:∃ r,kk % 2=r:=⟨_,rfl⟩;rw[hq] at d1 d2;rw[hr] at d3 d4;have d1':(kk:Int) / 2=(q:Int):=d1;have d2':Int.tdiv (kk:Int) 2=(q:Int):=d2;have d3':Int.tmod (kk:Int) 2=(r:Int):=d3;have d4':(kk:Int) % 2=(r:Int):=d4
   have hqk:q < kk:=by omega
   have hqi:(q:Int)≤40000:=by omega
   have hkk2:kk=2*q+r:=by omega
   have hr2:r=0∨r=1:=by omega
   have hA2:ea+ea≤2*k0+1:=by omega
   clear d1 d2 d3 d4 hq hr hle hak hok h0;rcases hr2 with hr | hr
   ·subst hr
    have hE2:eo+q*(ea+ea)=k0:=by
     rw[←HE.out,hkk2,Nat.add_zero,Nat.mul_comm 2,Nat.mul_assoc,Nat.two_mul]
    have hrb:(((0:Nat):Int)==1)=false:=rfl;clear hkk2 HA;have HM:=hid hm;have HS:=hid hs;have HE2:=hid hE2;have HA2:=hid hA2;have HQK:=hid hqk;clear hm hs hE2 hA2 hqk;go_wp2_with fail;refine (HS.out _).mono ?_;rintro e w2 ⟨rfl,hn⟩;replace HN:=tW HN hn;clear hn;go_wp2_with fail;go_roundw
    case rel=>exact ⟨ea+ea,q,eo,rfl,rfl,rfl,HE2,HA2,by omega,HN⟩
    case measure=>simp[RowKit.intOf];exact HQK.out
   ·subst hr
    have hE2:eo+ea+q*(ea+ea)=k0:=by
     rw[←HE.out,hkk2,Nat.add_mul,Nat.mul_comm 2,Nat.mul_assoc,Nat.two_mul];omega
    clear hkk2 HA;have HM:=hid hm;have HS:=hid hs;have HE2:=hid hE2;have HA2:=hid hA2;have HQK:=hid hqk;clear hm hs hE2 hA2 hqk;go_wp2_with fail;refine (HM.out _).mono ?_;rintro e w2 ⟨rfl,hn⟩;replace HN:=tW HN hn;clear hn;go_wp2_with fail;refine (HS.out _).mono ?_;rintro e w2 ⟨rfl,hn⟩;replace HN:=tW HN hn;clear hn;go_wp2_with fail;go_roundw
    case rel=>exact ⟨ea+ea,q,eo+ea,rfl,rfl,rfl,HE2,HA2,by omega,HN⟩
    case measure=>simp[RowKit.intOf];exact HQK.out
theorem rpow_neg (j k0:Nat)(a:Rat)(w:World)(ha:RFB j a)(h0:0 < a.num)(hb:j*(4*k0+4)+2≤40000)(hk0:k0≤40000)(hk:0 < k0):Calls Tryz.prog 103 #[.string (rs a),.int .i64 (-(k0:Int))] w (RetS w (a⁻¹^k0)):=by
 have hj:j≤40000:=by
  have:j*4≤j*(4*k0+4):=Nat.mul_le_mul_left _ (by omega);omega
 have hr:=fun W=>rrecip_calls j a W ha hj h0;have hp:=fun W=>rpow_nat j k0 a⁻¹ W (ha.inv (by omega)) hb hk0;obtain ⟨A,hA⟩:∃ A,rs a=A:=⟨_,rfl⟩;obtain ⟨B,hB⟩:∃ B,rs a⁻¹=B:=⟨_,rfl⟩;obtain ⟨R,hR⟩:∃ R,a⁻¹^k0=R:=⟨_,rfl⟩;simp only[hA] at hr;have hr:=fun W=>(hr W).mono fun e w' h=>RetS.to hB h;simp only[hB,hR] at hp;rw[hA,hR]
 have hk1: -(k0:Int) < 0:=by omega
 have hk1b:decide (-(k0:Int) < 0)=true:=decide_eq_true hk1
 have hki:(k0:Int)≤40000:=by omega
 clear hA hB hR ha h0 hb hk0 hk hj;have HR:=hid hr;have HP:=hid hp;clear hr hp;go_enter Tryz.func103,Tryz.ntmps103;go_wp2_with fail;refine (HR.out _).mono ?_;rintro e w1 ⟨rfl,hn⟩;have HN:=hid hn;clear hn;go_wp2_with fail;refine (HP.out _).mono ?_;rintro e w2 ⟨rfl,hn⟩;replace HN:=tW HN hn;clear hn;go_wp2_with fail;go_ret;exact ⟨rfl,HN.out⟩
theorem b9_pow {k n:Nat}(h:k≤9*n):10^k≤B9^n:=by
 rw[show B9=10^9 by decide,←Nat.pow_mul];exact Nat.pow_le_pow_right (by omega) h
theorem b9_lt {x k n:Nat}(h1:x < 10^k)(h:k≤9*n):x < B9^n:=Nat.lt_of_lt_of_le h1 (b9_pow h)
theorem ratErr_eq {l U A B:List UInt8}{neg br:Bool}(hU:unsigned l=U)(hn:(l.head?==some 45)=neg)(hA:upTo U=A)(hB:behind U=B)(hb:slashed U=br):
  ratErr l=if form2 (form1 neg A) br B=false then 1 else if (decide (600 < A.length) || decide (600 < B.length)) then 4 else if (br && Nat.gcd (dval 0 A) (dval 0 B) != 1) then 1 else 0:=by
 unfold ratErr ratLarge ratCommon;rw[←form_eq hU hn hA hB hb,hU,hA,hB,hb]
theorem rcheck_pos (U:ByteArray)(w:World)(hl:U.size≤1000000)(hh:(U.data.toList.head?==some 45)=false):Calls Tryz.prog 17 #[.string U] w fun e w'=>e=.returned (.int .i64 (ratErr U.data.toList))∧New w w':=by
 have hus:unsigned U.data.toList=U.data.toList:=by
  unfold unsigned;rw[if_neg (by intro h;rw[h] at hh;simp at hh)]
 obtain ⟨r,hr⟩:∃ r,ratErr U.data.toList=r:=⟨_,rfl⟩;rw[hr];obtain ⟨k,hk'⟩:∃ k,(upTo U.data.toList).length=k:=⟨_,rfl⟩;have hsl:=fun W=>rslash_calls U W hl;simp only[hk'] at hsl;obtain ⟨A,hA⟩:∃ A,upTo U.data.toList=A:=⟨_,rfl⟩
 have hR:∀ br,slashed U.data.toList=br→r=if form2 (form1 false A) br (behind U.data.toList)=false then 1 else if (decide (600 < A.length) || decide (600 < (behind U.data.toList).length)) then 4 else if (br && Nat.gcd (dval 0 A) (dval 0 (behind U.data.toList)) != 1) then 1 else 0:=fun br hb=>by
  rw[←hr];exact ratErr_eq hus hh hA rfl hb
 have hkle:=sl_len U.data.toList;rw[hk',show U.data.toList.length=U.size by simp] at hkle
 have e1:(U.extract 0 k).data.toList=A:=by
  rw[Lib.extract_data];show U.data.toList.take k=A;rw[←hk']
  cases hbr:slashed U.data.toList with
  | true=>
   conv=>lhs;arg 2;rw[split_slash hbr]
   rw[←hA];simp
  | false=>
   rw[←hA,(split_plain hbr).1];exact List.take_of_length_le (by simp)
 have hda:=fun W=>rdecform_calls (U.extract 0 k) W (by simp;omega);rw[e1] at hda;obtain ⟨S1,hS1⟩:∃ S,U.extract 0 k=S:=⟨_,rfl⟩;simp only[hS1] at hda;rw[hS1] at e1
 have hUi:(U.size:Int)≤1000000:=by omega
 have hki:(k:Int)≤(U.size:Int):=by omega
 have hn0:=New.refl w;have HN:=hid hn0;have HR:=hid hR;have HSL:=hid hsl;have HDA:=hid hda;have HAU:=hid hA;have HE1:=hid e1;have HS1:=hid hS1;clear hn0 hR hsl hda hA e1 hS1;by_cases h0:U.size=0
 ·have hUn:U.data.toList=[]:=List.eq_nil_of_length_eq_zero (by simpa using h0)
  have hd0:isDec A=false:=by
   rw[←HAU.out,hUn];rfl
  have hr1:r=1:=by
   rw[←hr,hUn];rfl
  have h0b:¬(0:Int) < (U.size:Int):=by omega
  clear hr hus hh hUn;have HRR:=hid hr1;clear hr1;go_enter Tryz.func17,Tryz.ntmps17;go_wp2_with fail;refine (HSL.out _).mono ?_;rintro e w1 ⟨rfl,hw⟩;rw[hw];clear hw;have hS1:=HS1.out;go_wp2_with fail;refine (HDA.out _).mono ?_;rintro e w1 ⟨rfl,hw⟩;rw[hw,hd0];clear hw hd0;go_wp2_with fail;go_ret;exact ⟨by rw[HRR.out];rfl,HN.out⟩
 have hp0:0 < U.size:=by omega
 have hc:¬((U[0]'hp0).toNat:Int)=45:=by
  intro h
  have h1:U.data.toList.head?=some (U[0]'hp0):=by
   rw[List.head?_eq_getElem?,List.getElem?_eq_getElem (by simpa using hp0)];rfl
  rw[h1,show U[0]'hp0=45 from UInt8.toNat_inj.1 (by show (U[0]'hp0).toNat=45;omega)] at hh;exact absurd hh (by decide)
 have hcb:(((U[0]'hp0).toNat:Int)==45)=false:=beq_eq_false_iff_ne.2 hc;clear h0 hr hus hh;go_enter Tryz.func17,Tryz.ntmps17;go_wp2_with fail;refine (HSL.out _).mono ?_;rintro e w1 ⟨rfl,hw⟩;rw[hw];clear hw;have hS1:=HS1.out;go_wp2_with fail;refine (HDA.out _).mono ?_;rintro e w1 ⟨rfl,hw⟩;rw[hw];clear hw hS1
 cases hda1:isDec A with
 | false=>
  have hrr:r=1:=by
   have:=HR.out _ rfl;unfold form2 form1 at this;rw[hda1] at this;rw[this]
   cases slashed U.data.toList <;> rfl
  clear hda1;have HRR:=hid hrr;clear hrr;go_wp2_with fail;go_ret;exact ⟨by rw[HRR.out];rfl,HN.out⟩
 | true=>
  have hf1:form1 false A=true:=by unfold form1;rw[hda1];rfl
  have HDA1:=hid hda1;have HF1:=hid hf1;clear hda1 hf1
  cases hbr:slashed U.data.toList with
  | false=>
   have hkU:k=U.size:=by
    have:=(split_plain hbr).1;rw[←hk',this];simp
   have hB0:behind U.data.toList=[]:=(split_plain hbr).2
   have hkc:¬(k:Int) < (U.size:Int):=by omega
   have hkd:decide ((k:Int) < (U.size:Int))=false:=decide_eq_false hkc
   have hz:(U.size:Int) - (k:Int) - 1= -1:=by omega
   have hrr:=HR.out _ hbr;rw[hB0,show form2 (form1 false A) false []=form1 false A from rfl,HF1.out,if_neg (by decide)] at hrr
   have hAl:A.length=k:=by rw[←HAU.out];exact hk'
   by_cases h6:600 < k
   ·have h6i:(600:Int) < (k:Int):=by omega
    have h6b:decide ((600:Int) < (k:Int))=true:=decide_eq_true h6i
    have hrr:r=4:=by
     rw[hrr,hAl,decide_eq_true h6];rfl
    clear hk' hkU hB0 h6 hbr hAl;have HRR:=hid hrr;clear hrr;go_wp2_with fail;go_ret;exact ⟨by rw[HRR.out];rfl,HN.out⟩
   ·have h6i:¬(600:Int) < (k:Int):=by omega
    have h6b:decide ((600:Int) < (k:Int))=false:=decide_eq_false h6i
    have hz2:(U.size:Int) - (k:Int)=0:=by omega
    have hrr:r=0:=by
     rw[hrr,hAl,decide_eq_false h6];rfl
    clear hk' hkU hB0 h6 hbr hz hAl;have HRR:=hid hrr;clear hrr;go_wp2_with fail;go_ret;exact ⟨by rw[HRR.out];rfl,HN.out⟩
  | true=>
   have hsp:=split_slash hbr;have hll:=congrArg List.length hsp
   have hUl:U.data.toList.length=U.size:=by simp
   rw[hUl,List.length_append,List.length_cons,hk']at hll;obtain ⟨k1,hk1⟩:∃ z,k+1=z:=⟨_,rfl⟩
   have e2:(U.extract k1 U.size).data.toList=behind U.data.toList:=by
    rw[Lib.extract_to_end]
    conv=>lhs;arg 2;rw[hsp]
    rw[←hk1,←hk'];simp
   obtain ⟨B,hB⟩:∃ B,behind U.data.toList=B:=⟨_,rfl⟩;rw[hB] at e2 hll;have hdb:=fun W=>rdecform_calls (U.extract k1 U.size) W (by simp;omega);rw[e2] at hdb;obtain ⟨S2,hS2⟩:∃ S,U.extract k1 U.size=S:=⟨_,rfl⟩;rw[hS2] at e2;simp only[hS2] at hdb
   have hkc:(k:Int) < (U.size:Int):=by omega
   have hkd:decide ((k:Int) < (U.size:Int))=true:=decide_eq_true hkc
   have hk1e:(k:Int)+1=(k1:Int):=by omega
   have hk1n:k1≤U.size:=by omega
   have hk1i:(k1:Int)≤(U.size:Int):=by omega
   obtain ⟨y,hy⟩:∃ y,B.length=y:=⟨_,rfl⟩
   have hyi:(U.size:Int) - (k:Int)=(y:Int)+1:=by omega
   have hyi2:(U.size:Int) - (k:Int) - 1=(y:Int):=by omega
   have hrr:=HR.out _ hbr;rw[hB] at hrr
   have hform:form2 (form1 false A) true B=(isDec B && B != [48] && B != [49]):=by
    rw[HF1.out];unfold form2;rw[if_pos rfl,Bool.true_and]
   rw[hform]at hrr;have hAU:upTo U.data.toList=A:=HAU.out
   have hAk:A.length=k:=by rw[←hAU];exact hk'
   have hpa:=fun (hA1:∀ c∈A,isDig c=true) (hB1:∀ c∈B,isDig c=true) (h6:k≤600) (h7:y≤600) W=>rparts_slash U (sgnd false (dval 0 A)) (sgnd false (dval 0 B)) W (by omega) hbr (fun W' s' _ hs'=>rparse_pos s' A W' (by rw[hs',hAU]) hA1 (by omega)) (fun W' s' _ hs'=>rparse_pos s' B W' (by rw[hs',hB]) hB1 (by omega));clear hk' hsp hll hUl hk1 hB hbr hform;have HRR0:=hid hrr;have HPA:=hid hpa;have HAK:=hid hAk;have HYI:=hid hyi;have HYI2:=hid hyi2;have HDB:=hid hdb;have HE2:=hid e2;have HY:=hid hy;clear hrr hpa hAk hyi hyi2 hdb e2 hy;go_wp2_with fail;refine (HDB.out _).mono ?_;rintro e w1 ⟨rfl,hw⟩;rw[hw];clear hw
   cases hdb2:isDec B with
   | false=>
    have hrr:r=1:=by rw[HRR0.out,hdb2];rfl
    clear hdb2;have HRR:=hid hrr;clear hrr;go_wp2_with fail;go_ret;exact ⟨by rw[HRR.out];rfl,HN.out⟩
   | true=>
    have hS2l:S2.toList=B:=by rw[ByteArray.toList_eq];exact HE2.out
    by_cases hB0:B=[48]
    ·have hrr:r=1:=by rw[HRR0.out,hB0,if_pos (by decide)]
     have hzb:(S2.toList==[48])=true:=by rw[hS2l,hB0];rfl
     clear hdb2 hB0 hS2l;have HRR:=hid hrr;clear hrr;go_wp2_with fail;go_ret;exact ⟨by rw[HRR.out];rfl,HN.out⟩
    have hz0:(S2.toList==[48])=false:=by rw[hS2l,beq_eq_false_iff_ne];exact hB0
    by_cases hB1:B=[49]
    ·have hrr:r=1:=by rw[HRR0.out,hB1,if_pos (by decide)]
     have hzb:(S2.toList==[49])=true:=by rw[hS2l,hB1];rfl
     clear hdb2 hB0 hB1 hS2l;have HRR:=hid hrr;clear hrr;go_wp2_with fail;go_ret;exact ⟨by rw[HRR.out];rfl,HN.out⟩
    have hz1:(S2.toList==[49])=false:=by rw[hS2l,beq_eq_false_iff_ne];exact hB1
    have hgood:(isDec B && B != [48] && B != [49])=true:=by rw[hdb2];simp[hB0,hB1]
    have hr2:=HRR0.out;rw[hgood,if_neg (by decide)] at hr2;have hyi:=HYI.out;have hyi2:=HYI2.out;clear hS2l hB0 hB1 hgood;by_cases h6:600 < k
    ·have h6i:(600:Int) < (k:Int):=by omega
     have h6b:decide ((600:Int) < (k:Int))=true:=decide_eq_true h6i
     have hrr:r=4:=by rw[hr2,HAK.out,decide_eq_true h6];rfl
     clear hdb2 hr2 h6 hyi hyi2;have HRR:=hid hrr;clear hrr;go_wp2_with fail;go_ret;exact ⟨by rw[HRR.out];rfl,HN.out⟩
    have h6i:¬(600:Int) < (k:Int):=by omega
    have h6b:decide ((600:Int) < (k:Int))=false:=decide_eq_false h6i;have hye:=HY.out;by_cases h7:600 < y
    ·have h7i:(600:Int) < (y:Int):=by omega
     have h7b:decide ((600:Int) < (y:Int))=true:=decide_eq_true h7i
     have hrr:r=4:=by rw[hr2,HAK.out,hye,decide_eq_true h7,decide_eq_false h6];rfl
     clear hdb2 hr2 h6 h7 hye;have HRR:=hid hrr;clear hrr;go_wp2_with fail;go_ret;exact ⟨by rw[HRR.out];rfl,HN.out⟩
    have h7i:¬(600:Int) < (y:Int):=by omega
    have h7b:decide ((600:Int) < (y:Int))=false:=decide_eq_false h7i;have hA1:=isDec_digs HDA1.out;have hB1:=isDec_digs hdb2;have hpa:=HPA.out hA1 hB1 (by omega) (by omega)
    have hAb:dval 0 A < B9^600:=by
     have h1:=dval_lt hA1;rw[HAK.out] at h1
     exact b9_lt (n:=600) h1 (by omega)
    have hBb:dval 0 B < B9^600:=by
     have h1:=dval_lt hB1;rw[hye] at h1
     exact b9_lt (n:=600) h1 (by omega)
    obtain ⟨P,hP⟩:∃ P,dval 0 A=P:=⟨_,rfl⟩;obtain ⟨Q,hQ⟩:∃ Q,dval 0 B=Q:=⟨_,rfl⟩;rw[hP] at hAb hpa;rw[hQ] at hBb hpa;have hcm:=fun W va vb (h1:IsD W va P) (h2:IsD W vb Q)=>rcommon_calls 600 va vb P Q W h1 h2 (by omega) hAb hBb;rw[hP,hQ,decide_eq_false (by rw[HAK.out];exact h6),decide_eq_false (by rw[hye];exact h7)] at hr2;obtain ⟨G,hG⟩:∃ G,Nat.gcd P Q=G:=⟨_,rfl⟩;simp only[hG] at hcm hr2
    have hr3:r=if G=1 then 0 else 1:=by
     rw[hr2];by_cases h:G=1
     ·rw[if_pos h,h];rfl
     ·rw[if_neg h];simp[h]
    have hG0:G≠0∨True:=.inr trivial;clear hdb2 hr2 h6 h7 hye hA1 hB1 hAb hBb hP hQ hG0 hG;have HPA2:=hid hpa;have HCM:=hid hcm;have HR3:=hid hr3;clear hpa hcm hr3;go_wp2_with fail;refine (HPA2.out _).mono ?_;rintro e w2 ⟨v1,v2,rfl,hn,hz1,hz2⟩;obtain ⟨b1,a1,l1,c1,rfl⟩:=hz1.shape;obtain ⟨b2,a2,l2,c2,rfl⟩:=hz2.shape;have hd1:=hz1.parts.2;have hd2:=hz2.parts.2;rw[sgnd_abs] at hd1 hd2;clear hz1 hz2 h6i h6b h7i h7b hyi hyi2 hkc hkd;have HD1:=hid hd1;have HD2:=hid hd2;clear hd1 hd2;replace HN:=tW HN hn;clear hn;go_upto_region 13 with (fail);have HN0:=HN;clear HN;obtain ⟨BA,BB,HN⟩:=lay2 w2 137 #[.bool b1,.slice a1 l1 c1] 137 #[.bool b2,.slice a2 l2 c2];replace HD1:=hid (HD1.out.new HN.out);replace HD2:=hid (HD2.out.new HN.out);have HN_:=HN0.out.trans HN.out;clear HN HN0;have HN:=hid HN_;clear HN_;obtain ⟨pa0,pa1,pa2,pa3,pa4⟩:=BA.out.two;obtain ⟨pb0,pb1,pb2,pb3,pb4⟩:=BB.out.two;go_wp2_with fail;refine (HCM.out _ _ _ HD1.out HD2.out).mono ?_;rintro e w3 ⟨v3,rfl,hn,hg⟩;clear pa0 pa1 pa2 pa3 pa4 pb0 pb1 pb2 pb3 pb4;replace HN:=tW HN hn;clear hn;obtain ⟨n,f,hdg,hval⟩:=hg;have hcan:=hdg.canon;obtain ⟨⟨a3,c3,⟨rfl, -⟩,hrd, -⟩, -⟩:=hdg;by_cases hn1:n=1
    ·subst hn1;obtain ⟨b8,o8,rfl,hcell⟩:=hrd 0 (by omega)
     have hf0:f 0=G:=by rw[←hval];simp[vf]
     rw[hf0,Nat.add_zero]at hcell;clear hcan hrd hval hf0;by_cases hG1:G=1
     ·have hrr:r=0:=by rw[HR3.out,if_pos hG1]
      rw[hG1]at hcell;clear hG1;have HRR:=hid hrr;clear hrr;go_wp2_with fail;go_ret;exact ⟨by rw[HRR.out];rfl,HN.out⟩
     ·have hrr:r=1:=by rw[HR3.out,if_neg hG1]
      have hGb:((G:Int)==1)=false:=beq_eq_false_iff_ne.2 (by omega)
      have hGc:((G:Int) != 1)=true:=by rw[bne,hGb];rfl
      clear hG1;have HRR:=hid hrr;clear hrr;go_wp2_with fail;go_ret;exact ⟨by rw[HRR.out];rfl,HN.out⟩
    ·have hG1:G≠1:=by
      intro h;rw[h] at hval;have h1:=len_le (K:=1) hcan hval (by decide)
      have:n=0:=by omega
      rw[this,vf_zero]at hval;omega
     have hrr:r=1:=by rw[HR3.out,if_neg hG1]
     have hnb:((n:Int)==1)=false:=beq_eq_false_iff_ne.2 (by omega)
     have hnc:((n:Int) != 1)=true:=by rw[bne,hnb];rfl
     clear hG1 hcan hrd hval hn1;have HRR:=hid hrr;clear hrr;go_wp2_with fail;go_ret;exact ⟨by rw[HRR.out];rfl,HN.out⟩
theorem rcheck_neg (s:ByteArray)(w:World)(hls:s.size≤1000000)(hh:(s.data.toList.head?==some 45)=true):Calls Tryz.prog 17 #[.string s] w fun e w'=>e=.returned (.int .i64 (ratErr s.data.toList))∧New w w':=by
 have hhd:s.data.toList.head?=some 45:=by simpa using hh
 have hs0:s.data.toList[0]?=some 45:=by rw[←List.head?_eq_getElem?];exact hhd
 obtain ⟨hp0,hs1⟩:=byte_at s hs0
 have hc:((s[0]'hp0).toNat:Int)=45:=by rw[hs1];rfl
 have hcb:(((s[0]'hp0).toNat:Int)==45)=true:=beq_iff_eq.2 hc
 have hus:unsigned s.data.toList=(s.extract 1 s.size).data.toList:=by
  unfold unsigned;rw[if_pos hhd,Lib.extract_to_end]
  cases s.data.toList with
  | nil=>rfl
  | cons c l=>rfl
 have hl:(s.extract 1 s.size).size≤1000000:=by simp;omega
 obtain ⟨U,hUe⟩:∃ U,s.extract 1 s.size=U:=⟨_,rfl⟩;rw[hUe] at hus hl;obtain ⟨r,hr⟩:∃ r,ratErr s.data.toList=r:=⟨_,rfl⟩;rw[hr];obtain ⟨k,hk'⟩:∃ k,(upTo U.data.toList).length=k:=⟨_,rfl⟩;have hsl:=fun W=>rslash_calls U W hl;simp only[hk'] at hsl;obtain ⟨A,hA⟩:∃ A,upTo U.data.toList=A:=⟨_,rfl⟩
 have hR:∀ br,slashed U.data.toList=br→r=if form2 (form1 true A) br (behind U.data.toList)=false then 1 else if (decide (600 < A.length) || decide (600 < (behind U.data.toList).length)) then 4 else if (br && Nat.gcd (dval 0 A) (dval 0 (behind U.data.toList)) != 1) then 1 else 0:=fun br hb=>by
  rw[←hr];exact ratErr_eq hus hh hA rfl hb
 have hkle:=sl_len U.data.toList;rw[hk',show U.data.toList.length=U.size by simp] at hkle
 have e1:(U.extract 0 k).data.toList=A:=by
  rw[Lib.extract_data];show U.data.toList.take k=A;rw[←hk']
  cases hbr:slashed U.data.toList with
  | true=>
   conv=>lhs;arg 2;rw[split_slash hbr]
   rw[←hA];simp
  | false=>
   rw[←hA,(split_plain hbr).1];exact List.take_of_length_le (by simp)
 have hda:=fun W=>rdecform_calls (U.extract 0 k) W (by simp;omega);rw[e1] at hda;obtain ⟨S1,hS1⟩:∃ S,U.extract 0 k=S:=⟨_,rfl⟩;simp only[hS1] at hda;rw[hS1] at e1
 have hUi:(U.size:Int)≤1000000:=by omega
 have hki:(k:Int)≤(U.size:Int):=by omega
 have hn0:=New.refl w
 have hp1:(1:Int)≤(s.size:Int):=by omega
 have hsi:(s.size:Int)≤1000000:=by omega
 clear hr hus hh hhd hs0 hs1 hls;have HN:=hid hn0;have HR:=hid hR;have HSL:=hid hsl;have HDA:=hid hda;have HAU:=hid hA;have HE1:=hid e1;have HS1:=hid hS1;clear hn0 hR hsl hda hA e1 hS1;go_enter Tryz.func17,Tryz.ntmps17;go_wp2_with fail;refine (HSL.out _).mono ?_;rintro e w1 ⟨rfl,hw⟩;rw[hw];clear hw hUe hp1;have hS1:=HS1.out;go_wp2_with fail;refine (HDA.out _).mono ?_;rintro e w1 ⟨rfl,hw⟩;rw[hw];clear hw
 cases hda1:isDec A with
 | false=>
  have hrr:r=1:=by
   have:=HR.out _ rfl;unfold form2 form1 at this;rw[hda1] at this;rw[this]
   cases slashed U.data.toList <;> rfl
  clear hda1;have HRR:=hid hrr;clear hrr;go_wp2_with fail;go_ret;exact ⟨by rw[HRR.out];rfl,HN.out⟩
 | true=>
  have hS1l:S1.toList=A:=by rw[ByteArray.toList_eq];exact HE1.out
  by_cases hA0:A=[48]
  ·have hrr:r=1:=by
    have:=HR.out _ rfl;unfold form2 form1 at this;rw[hA0] at this;rw[this]
    cases slashed U.data.toList <;> rfl
   have hz:(S1.toList==[48])=true:=by rw[hS1l,hA0];rfl
   clear hda1 hA0 hS1l;have HRR:=hid hrr;clear hrr;go_wp2_with fail;go_ret;exact ⟨by rw[HRR.out];rfl,HN.out⟩
  ·have hz:(S1.toList==[48])=false:=by rw[hS1l,beq_eq_false_iff_ne];exact hA0
   have hf1:form1 true A=true:=by unfold form1;rw[hda1];simp[hA0]
   clear hA0 hS1l;have HDA1:=hid hda1;have HF1:=hid hf1;clear hda1 hf1
   cases hbr:slashed U.data.toList with
   | false=>
    have hkU:k=U.size:=by
     have:=(split_plain hbr).1;rw[←hk',this];simp
    have hB0:behind U.data.toList=[]:=(split_plain hbr).2
    have hkc:¬(k:Int) < (U.size:Int):=by omega
    have hkd:decide ((k:Int) < (U.size:Int))=false:=decide_eq_false hkc
    have hz:(U.size:Int) - (k:Int) - 1= -1:=by omega
    have hrr:=HR.out _ hbr;rw[hB0,show form2 (form1 true A) false []=form1 true A from rfl,HF1.out,if_neg (by decide)] at hrr
    have hAl:A.length=k:=by rw[←HAU.out];exact hk'
    by_cases h6:600 < k
    ·have h6i:(600:Int) < (k:Int):=by omega
     have h6b:decide ((600:Int) < (k:Int))=true:=decide_eq_true h6i
     have hrr:r=4:=by
      rw[hrr,hAl,decide_eq_true h6];rfl
     clear hk' hkU hB0 h6 hbr hAl;have HRR:=hid hrr;clear hrr;go_wp2_with fail;go_ret;exact ⟨by rw[HRR.out];rfl,HN.out⟩
    ·have h6i:¬(600:Int) < (k:Int):=by omega
     have h6b:decide ((600:Int) < (k:Int))=false:=decide_eq_false h6i
     have hz2:(U.size:Int) - (k:Int)=0:=by omega
     have hrr:r=0:=by
      rw[hrr,hAl,decide_eq_false h6];rfl
     clear hk' hkU hB0 h6 hbr hz hAl;have HRR:=hid hrr;clear hrr;go_wp2_with fail;go_ret;exact ⟨by rw[HRR.out];rfl,HN.out⟩
   | true=>
    have hsp:=split_slash hbr;have hll:=congrArg List.length hsp
    have hUl:U.data.toList.length=U.size:=by simp
    rw[hUl,List.length_append,List.length_cons,hk']at hll;obtain ⟨k1,hk1⟩:∃ z,k+1=z:=⟨_,rfl⟩
    have e2:(U.extract k1 U.size).data.toList=behind U.data.toList:=by
     rw[Lib.extract_to_end]
     conv=>lhs;arg 2;rw[hsp]
     rw[←hk1,←hk'];simp
    obtain ⟨B,hB⟩:∃ B,behind U.data.toList=B:=⟨_,rfl⟩;rw[hB] at e2 hll;have hdb:=fun W=>rdecform_calls (U.extract k1 U.size) W (by simp;omega);rw[e2] at hdb;obtain ⟨S2,hS2⟩:∃ S,U.extract k1 U.size=S:=⟨_,rfl⟩;rw[hS2] at e2;simp only[hS2] at hdb
    have hkc:(k:Int) < (U.size:Int):=by omega
    have hkd:decide ((k:Int) < (U.size:Int))=true:=decide_eq_true hkc
    have hk1e:(k:Int)+1=(k1:Int):=by omega
    have hk1n:k1≤U.size:=by omega
    have hk1i:(k1:Int)≤(U.size:Int):=by omega
    obtain ⟨y,hy⟩:∃ y,B.length=y:=⟨_,rfl⟩
    have hyi:(U.size:Int) - (k:Int)=(y:Int)+1:=by omega
    have hyi2:(U.size:Int) - (k:Int) - 1=(y:Int):=by omega
    have hrr:=HR.out _ hbr;rw[hB] at hrr
    have hform:form2 (form1 true A) true B=(isDec B && B != [48] && B != [49]):=by
     rw[HF1.out];unfold form2;rw[if_pos rfl,Bool.true_and]
    rw[hform]at hrr;have hAU:upTo U.data.toList=A:=HAU.out
    have hAk:A.length=k:=by rw[←hAU];exact hk'
    have hpa:=fun (hA1:∀ c∈A,isDig c=true) (hB1:∀ c∈B,isDig c=true) (h6:k≤600) (h7:y≤600) W=>rparts_slash U (sgnd false (dval 0 A)) (sgnd false (dval 0 B)) W (by omega) hbr (fun W' s' _ hs'=>rparse_pos s' A W' (by rw[hs',hAU]) hA1 (by omega)) (fun W' s' _ hs'=>rparse_pos s' B W' (by rw[hs',hB]) hB1 (by omega));clear hk' hsp hll hUl hk1 hB hbr hform;have HRR0:=hid hrr;have HPA:=hid hpa;have HAK:=hid hAk;have HYI:=hid hyi;have HYI2:=hid hyi2;have HDB:=hid hdb;have HE2:=hid e2;have HY:=hid hy;clear hrr hpa hAk hyi hyi2 hdb e2 hy;go_wp2_with fail;refine (HDB.out _).mono ?_;rintro e w1 ⟨rfl,hw⟩;rw[hw];clear hw
    cases hdb2:isDec B with
    | false=>
     have hrr:r=1:=by rw[HRR0.out,hdb2];rfl
     clear hdb2;have HRR:=hid hrr;clear hrr;go_wp2_with fail;go_ret;exact ⟨by rw[HRR.out];rfl,HN.out⟩
    | true=>
     have hS2l:S2.toList=B:=by rw[ByteArray.toList_eq];exact HE2.out
     by_cases hB0:B=[48]
     ·have hrr:r=1:=by rw[HRR0.out,hB0,if_pos (by decide)]
      have hzb:(S2.toList==[48])=true:=by rw[hS2l,hB0];rfl
      clear hdb2 hB0 hS2l;have HRR:=hid hrr;clear hrr;go_wp2_with fail;go_ret;exact ⟨by rw[HRR.out];rfl,HN.out⟩
     have hz0:(S2.toList==[48])=false:=by rw[hS2l,beq_eq_false_iff_ne];exact hB0
     by_cases hB1:B=[49]
     ·have hrr:r=1:=by rw[HRR0.out,hB1,if_pos (by decide)]
      have hzb:(S2.toList==[49])=true:=by rw[hS2l,hB1];rfl
      clear hdb2 hB0 hB1 hS2l;have HRR:=hid hrr;clear hrr;go_wp2_with fail;go_ret;exact ⟨by rw[HRR.out];rfl,HN.out⟩
     have hz1:(S2.toList==[49])=false:=by rw[hS2l,beq_eq_false_iff_ne];exact hB1
     have hgood:(isDec B && B != [48] && B != [49])=true:=by rw[hdb2];simp[hB0,hB1]
     have hr2:=HRR0.out;rw[hgood,if_neg (by decide)] at hr2;have hyi:=HYI.out;have hyi2:=HYI2.out;clear hS2l hB0 hB1 hgood;by_cases h6:600 < k
     ·have h6i:(600:Int) < (k:Int):=by omega
      have h6b:decide ((600:Int) < (k:Int))=true:=decide_eq_true h6i
      have hrr:r=4:=by rw[hr2,HAK.out,decide_eq_true h6];rfl
      clear hdb2 hr2 h6 hyi hyi2;have HRR:=hid hrr;clear hrr;go_wp2_with fail;go_ret;exact ⟨by rw[HRR.out];rfl,HN.out⟩
     have h6i:¬(600:Int) < (k:Int):=by omega
     have h6b:decide ((600:Int) < (k:Int))=false:=decide_eq_false h6i;have hye:=HY.out;by_cases h7:600 < y
     ·have h7i:(600:Int) < (y:Int):=by omega
      have h7b:decide ((600:Int) < (y:Int))=true:=decide_eq_true h7i
      have hrr:r=4:=by rw[hr2,HAK.out,hye,decide_eq_true h7,decide_eq_false h6];rfl
      clear hdb2 hr2 h6 h7 hye;have HRR:=hid hrr;clear hrr;go_wp2_with fail;go_ret;exact ⟨by rw[HRR.out];rfl,HN.out⟩
     have h7i:¬(600:Int) < (y:Int):=by omega
     have h7b:decide ((600:Int) < (y:Int))=false:=decide_eq_false h7i;have hA1:=isDec_digs HDA1.out;have hB1:=isDec_digs hdb2;have hpa:=HPA.out hA1 hB1 (by omega) (by omega)
     have hAb:dval 0 A < B9^600:=by
      have h1:=dval_lt hA1;rw[HAK.out] at h1
      exact b9_lt (n:=600) h1 (by omega)
     have hBb:dval 0 B < B9^600:=by
      have h1:=dval_lt hB1;rw[hye] at h1
      exact b9_lt (n:=600) h1 (by omega)
     obtain ⟨P,hP⟩:∃ P,dval 0 A=P:=⟨_,rfl⟩;obtain ⟨Q,hQ⟩:∃ Q,dval 0 B=Q:=⟨_,rfl⟩;rw[hP] at hAb hpa;rw[hQ] at hBb hpa;have hcm:=fun W va vb (h1:IsD W va P) (h2:IsD W vb Q)=>rcommon_calls 600 va vb P Q W h1 h2 (by omega) hAb hBb;rw[hP,hQ,decide_eq_false (by rw[HAK.out];exact h6),decide_eq_false (by rw[hye];exact h7)] at hr2;obtain ⟨G,hG⟩:∃ G,Nat.gcd P Q=G:=⟨_,rfl⟩;simp only[hG] at hcm hr2
     have hr3:r=if G=1 then 0 else 1:=by
      rw[hr2];by_cases h:G=1
      ·rw[if_pos h,h];rfl
      ·rw[if_neg h];simp[h]
     have hG0:G≠0∨True:=.inr trivial;clear hdb2 hr2 h6 h7 hye hA1 hB1 hAb hBb hP hQ hG0 hG;have HPA2:=hid hpa;have HCM:=hid hcm;have HR3:=hid hr3;clear hpa hcm hr3;go_wp2_with fail;refine (HPA2.out _).mono ?_;rintro e w2 ⟨v1,v2,rfl,hn,hz1,hz2⟩;obtain ⟨b1,a1,l1,c1,rfl⟩:=hz1.shape;obtain ⟨b2,a2,l2,c2,rfl⟩:=hz2.shape;have hd1:=hz1.parts.2;have hd2:=hz2.parts.2;rw[sgnd_abs] at hd1 hd2;clear hz1 hz2 h6i h6b h7i h7b hyi hyi2 hkc hkd;have HD1:=hid hd1;have HD2:=hid hd2;clear hd1 hd2;replace HN:=tW HN hn;clear hn;go_upto_region 13 with (fail);have HN0:=HN;clear HN;obtain ⟨BA,BB,HN⟩:=lay2 w2 137 #[.bool b1,.slice a1 l1 c1] 137 #[.bool b2,.slice a2 l2 c2];replace HD1:=hid (HD1.out.new HN.out);replace HD2:=hid (HD2.out.new HN.out);have HN_:=HN0.out.trans HN.out;clear HN HN0;have HN:=hid HN_;clear HN_;obtain ⟨pa0,pa1,pa2,pa3,pa4⟩:=BA.out.two;obtain ⟨pb0,pb1,pb2,pb3,pb4⟩:=BB.out.two;go_wp2_with fail;refine (HCM.out _ _ _ HD1.out HD2.out).mono ?_;rintro e w3 ⟨v3,rfl,hn,hg⟩;clear pa0 pa1 pa2 pa3 pa4 pb0 pb1 pb2 pb3 pb4;replace HN:=tW HN hn;clear hn;obtain ⟨n,f,hdg,hval⟩:=hg;have hcan:=hdg.canon;obtain ⟨⟨a3,c3,⟨rfl, -⟩,hrd, -⟩, -⟩:=hdg;by_cases hn1:n=1
     ·subst hn1;obtain ⟨b8,o8,rfl,hcell⟩:=hrd 0 (by omega)
      have hf0:f 0=G:=by rw[←hval];simp[vf]
      rw[hf0,Nat.add_zero]at hcell;clear hcan hrd hval hf0;by_cases hG1:G=1
      ·have hrr:r=0:=by rw[HR3.out,if_pos hG1]
       rw[hG1]at hcell;clear hG1;have HRR:=hid hrr;clear hrr;go_wp2_with fail;go_ret;exact ⟨by rw[HRR.out];rfl,HN.out⟩
      ·have hrr:r=1:=by rw[HR3.out,if_neg hG1]
       have hGb:((G:Int)==1)=false:=beq_eq_false_iff_ne.2 (by omega)
       have hGc:((G:Int) != 1)=true:=by rw[bne,hGb];rfl
       clear hG1;have HRR:=hid hrr;clear hrr;go_wp2_with fail;go_ret;exact ⟨by rw[HRR.out];rfl,HN.out⟩
     ·have hG1:G≠1:=by
       intro h;rw[h] at hval;have h1:=len_le (K:=1) hcan hval (by decide)
       have:n=0:=by omega
       rw[this,vf_zero]at hval;omega
      have hrr:r=1:=by rw[HR3.out,if_neg hG1]
      have hnb:((n:Int)==1)=false:=beq_eq_false_iff_ne.2 (by omega)
      have hnc:((n:Int) != 1)=true:=by rw[bne,hnb];rfl
      clear hG1 hcan hrd hval hn1;have HRR:=hid hrr;clear hrr;go_wp2_with fail;go_ret;exact ⟨by rw[HRR.out];rfl,HN.out⟩
theorem rcheck_calls (s:ByteArray)(w:World)(hl:s.size≤1000000):Calls Tryz.prog 17 #[.string s] w fun e w'=>e=.returned (.int .i64 (ratErr s.data.toList))∧New w w':=by
 cases h:s.data.toList.head?==some 45 with
 | true=>exact rcheck_neg s w hl h
 | false=>exact rcheck_pos s w hl h
theorem rtoInt_calls (z : Nat) (w : World) (hz : z < 1000000000000000000) : Calls Tryz.prog 86 #[.string (rs (z : Int))] w fun e w' => e = .returned (.tuple #[.int .i64 (z : Int), .bool true]) ∧ New w w' := by
  have hl : (rs ((z : Int) : Rat)).size ≤ 19 := by
    rw [rs_int, bs_size, Big.itoa_nonneg, decDigits_length, nDigits_le_iff (by omega)]
    omega
  have hwh := fun W => riswhole_calls ((z : Int) : Rat) W (by omega)
  rw [decide_eq_true (show (((z : Int) : Rat)).den = 1 by simp)] at hwh
  have hp := fun W => rparse_itoa (rs ((z : Int) : Rat)) (z : Int) W (by rw [rs_int, bs_list]) (by
    have := hl
    rw [rs_int, bs_size] at this
    omega)
  obtain ⟨s, hs⟩ : ∃ s, rs ((z : Int) : Rat) = s := ⟨_, rfl⟩
  simp only [hs] at hwh hp
  rw [hs] at hl ⊢
  have hl1 : ¬ (20 : Int) < (s.size : Int) := by omega
  have hl2 : decide ((20 : Int) < (s.size : Int)) = false := decide_eq_false hl1
  clear hs hl
  have hn0 := New.refl w
  have HN := hid hn0
  have HWH := hid hwh
  have HP := hid hp
  have HZZ := hid hz
  clear hn0 hwh hp hz
  go_enter Tryz.func86, Tryz.ntmps86
  go_wp2_with fail
  refine (HWH.out _).mono ?_
  rintro e w1 ⟨rfl, hw⟩
  rw [hw]
  clear hw
  go_wp2_with fail
  refine (HP.out _).mono ?_
  rintro e w1 ⟨v1, rfl, hn, hz1⟩
  obtain ⟨b, a, n, c, rfl⟩ := hz1.shape
  obtain ⟨hb, hd⟩ := hz1.parts
  rw [decide_eq_false (show ¬ (z : Int) < 0 by omega)] at hb
  subst hb
  rw [Int.natAbs_natCast] at hd
  have hn2 : n ≤ 2 := by
    obtain ⟨n', f, hdg, hv⟩ := hd
    have := len_le (K := 2) hdg.canon hv (by have := HZZ.out; have e : B9 ^ 2 = 1000000000000000000 := by decide
                                             omega)
    obtain ⟨⟨a', c', ⟨e, -⟩, -⟩, -⟩ := hdg
    injection e with e1 e2 e3
    omega
  obtain ⟨n', f, ⟨⟨a', c', ⟨e, -⟩, hr, hfl⟩, -⟩, hv⟩ := hd
  injection e with e1 e2 e3
  subst e1 e2 e3
  clear hz1 hl1 hl2
  have HR := hid hr
  have HFL := hid hfl
  have HV := hid hv
  clear hr hfl hv
  replace HN := tW HN hn
  clear hn
  go_upto_region 4 with (fail)
  have HN0 := HN
  clear HN
  obtain ⟨BA, HN⟩ := lay1 w1 137 #[.bool false, .slice a n c]
  replace HR := hid (HR.out.new HN.out)
  have HN_ := HN0.out.trans HN.out
  clear HN HN0
  have HN := hid HN_
  clear HN_
  obtain ⟨w0, hw0⟩ : ∃ x, w1.alloc (.cells #[.bool false, .slice a n c] 137) = x := ⟨_, rfl⟩
  rw [hw0] at BA HN HR ⊢
  clear hw0
  obtain ⟨p0, p1, p2, p3, p4⟩ := BA.out.two
  go_wp2_with fail
  clear p0 p1 p2 p3 p4
  obtain ⟨hni, hn2i⟩ : (n : Int) ≤ 2 ∧ (0 : Int) ≤ (n : Int) := by omega
  have hbd : ∀ k, k ≤ n → vf B9 (fun i => f (k + i)) (n - k) ≤ z := fun k hk => by
    have h := vf_add B9 f k (n - k)
    rw [show k + (n - k) = n by omega, HV.out] at h
    have : 1 * vf B9 (fun i => f (k + i)) (n - k) ≤ B9 ^ k * vf B9 (fun i => f (k + i)) (n - k) := Nat.mul_le_mul_right _ (Nat.pow_pos (by decide))
    omega
  have HBD := hid hbd
  clear hbd
  go_loopw [5, 6] (fun so si wr => ∃ k : Nat, k ≤ n ∧ si = .int .i64 ((k : Int) - 1) ∧ so = .int .i64 ((vf B9 (fun i => f (k + i)) (n - k) : Nat) : Int) ∧ Hid (New w0 wr)) (fun _ si _ => (RowKit.intOf si + 1).toNat)
  case atStart => exact ⟨n, Nat.le_refl _, rfl, by rw [Nat.sub_self, vf_zero]; rfl, hid (New.refl _)⟩
  case round =>
    obtain ⟨k, hk, rfl, rfl, HNR⟩ := hrel
    rcases Nat.eq_zero_or_pos k with h0 | h0
    · subst h0
      have e : (fun i => f (0 + i)) = f := funext fun i => by rw [Nat.zero_add]
      rw [e, Nat.sub_zero, HV.out]
      have hNF := HN.out.trans HNR.out
      have HNF := hid hNF
      clear hNF
      go_wp2_with fail
      go_ret2
      exact ⟨rfl, HNF.out⟩
    · obtain ⟨j, rfl⟩ : ∃ j, k = j + 1 := ⟨k - 1, by omega⟩
      have hji : ((j + 1 : Nat) : Int) - 1 = (j : Int) := by omega
      rw [hji]
      have hj0 : (0 : Int) ≤ (j : Int) := by omega
      have hjb : decide ((0 : Int) ≤ (j : Int)) = true := decide_eq_true hj0
      have hjn : (j : Int) < (n : Int) := by omega
      obtain ⟨b2, o2, rfl, hc⟩ := (HR.out.new HNR.out) j (by omega)
      have hf9 := HFL.out j (by omega)
      have hb1 := HBD.out j (by omega)
      have hst : vf B9 (fun i => f (j + i)) (n - j) = vf B9 (fun i => f (j + 1 + i)) (n - (j + 1)) * B9 + f j := by
        rw [show n - j = n - (j + 1) + 1 by omega, vf_head]
        have e1 : (fun i => f (j + (i + 1))) = fun i => f (j + 1 + i) := funext fun i => by rw [show j + (i + 1) = j + 1 + i by omega]
        rw [e1, Nat.add_zero, Nat.mul_comm]
        omega
      obtain ⟨o, ho⟩ : ∃ o, vf B9 (fun i => f (j + 1 + i)) (n - (j + 1)) = o := ⟨_, rfl⟩
      obtain ⟨d, hd⟩ : ∃ d, f j = d := ⟨_, rfl⟩
      rw [ho, hd] at hst
      rw [hd] at hc hf9
      rw [ho]
      have hob : o < 1000000000 := by
        have h1 := HZZ.out
        rw [hst] at hb1
        unfold B9 at hb1
        omega
      obtain ⟨p, hp⟩ : ∃ p, o * B9 = p := ⟨_, rfl⟩
      obtain ⟨s, hs⟩ : ∃ s, p + d = s := ⟨_, rfl⟩
      have hpi : (o : Int) * 1000000000 = (p : Int) := by unfold B9 at hp; omega
      have hsi : (p : Int) + (d : Int) = (s : Int) := by omega
      have hsv : vf B9 (fun i => f (j + i)) (n - j) = s := by rw [hst, hp, hs]
      have k1 : ¬ (9223372036 : Int) < (o : Int) := by omega
      have k2 : decide ((9223372036 : Int) < (o : Int)) = false := decide_eq_false k1
      have k3 : ¬ (o : Int) < -9223372036 := by omega
      have k4 : decide ((o : Int) < -9223372036) = false := decide_eq_false k3
      have k5 : ((o : Int) == 9223372036) = false := by first | (simp; done) | (simp; omega)
      have k6 : ((o : Int) == -9223372036) = false := by first | (simp; done) | (simp; omega)
      have k7 : (p : Int) < 1000000000000000000 := by unfold B9 at hp; omega
      have k8 : (s : Int) < 2000000000000000000 := by unfold B9 at hf9; omega
      have hBA := BA.out.new HNR.out
      clear hb1 hst ho hd hp hs hf9 hob
      have HSV := hid hsv
      have BB := hid hBA
      have K1 := hid k1
      have K2 := hid k2
      have K3 := hid k3
      have K4 := hid k4
      have K5 := hid k5
      have K6 := hid k6
      have K7 := hid k7
      have K8 := hid k8
      have HPI := hid hpi
      have HSI := hid hsi
      clear hsv hBA k1 k2 k3 k4 k5 k6 k7 k8 hpi hsi
      obtain ⟨p0, p1, p2, p3, p4⟩ := BB.out.two
      go_upto_region 11 with (fail)
      clear p0 p1 p2 p3 p4
      clear hj0 hjb hjn hc
      have k1 := K1.out
      have k2 := K2.out
      have k3 := K3.out
      have k4 := K4.out
      have k5 := K5.out
      have k6 := K6.out
      go_upto_region 13 with (fail)
      clear k1 k2 k3 k4 k5 k6
      have k7 := K7.out
      have k8 := K8.out
      have hpi := HPI.out
      have hsi := HSI.out
      go_wp2_with fail
      go_roundw
      case rel => exact ⟨j, by omega, rfl, by rw [HSV.out], HNR⟩
      case measure => simp [RowKit.intOf] <;> omega
end Go.Proofs.YtbkcjmojgglbkaaGreatDoor
