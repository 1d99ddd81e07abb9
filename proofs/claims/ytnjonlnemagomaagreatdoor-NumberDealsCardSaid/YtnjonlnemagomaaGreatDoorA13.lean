/- Part A13. -/
import Derived.Deep.DeepCutAuto
import Derived.Laws.FloatArith
import Derived.Test.YtnjonlnemagomaaGreatDoorA12
namespace Go.Proofs.YtnjonlnemagomaaGreatDoor
open Go.RowKit Big
open Go.Lib (hid)
set_option maxRecDepth 100000
set_option maxHeartbeats 8000000
theorem cutPrefix_calls (s:ByteArray)(w:World):Calls Tryz.prog 155 #[.string s,.string ⟨#[45]⟩] w fun e w'=>e=.returned (.tuple #[.string ⟨(unsigned s.data.toList).toArray⟩,.bool (s.data.toList.head?==some 45)])∧w=w':=by
 refine (Tryz.strings_CutPrefix s ⟨#[45]⟩ w).mono fun e w' ⟨h1,h2⟩=>⟨?_,h2.symm⟩;rw[h1];have e1:(⟨#[45]⟩:ByteArray).data.toList=[45]:=rfl;rw[e1]
 have e2:Lib.hasPrefix s.data.toList [45]=(s.data.toList.head?==some 45):=by
  cases s.data.toList with
  | nil=>rfl
  | cons c l=>
   show ((45==c) && true)=(some c==some 45);rw[Bool.and_true];by_cases h:c=45
   ·subst h;rfl
   ·rw[beq_eq_false_iff_ne.2 (fun x=>h x.symm),beq_eq_false_iff_ne.2 (fun x=>h (Option.some.inj x))]
 have e3:Lib.trimPrefix s.data.toList [45]=unsigned s.data.toList:=by
  unfold Lib.trimPrefix unsigned;rw[e2];by_cases h:s.data.toList.head?=some 45
  ·rw[if_pos (by rw[h];rfl),if_pos h];simp
  ·rw[if_neg (by simpa using h),if_neg h]
 rw[e2,e3]
def form1 (neg:Bool)(A:List UInt8):Bool:=isDec A && (!neg || A != [48])
def form2 (F br:Bool)(B:List UInt8):Bool:=if br then F && isDec B && B != [48] && B != [49] else F
theorem form_bool (br dA neg zA dB zB oB:Bool):(if br then (dA && (!neg || !zA)) && dB && !zB && !oB else (dA && (!neg || !zA)))=(dA && !(neg && zA) && (!br || (dB && !zB && !oB))):=by
 revert br dA neg zA dB zB oB
 decide
theorem isDec_digs {l:List UInt8}(h:isDec l=true):∀ c∈l,isDig c=true:=by
 unfold isDec at h;simp only[Bool.and_eq_true] at h;exact List.all_eq_true.1 h.1.2
theorem form_dec {A B:List UInt8}{neg F1:Bool}(h1:form1 neg A=F1)(h2:form2 F1 true B=true):(∀ c∈A,isDig c=true)∧(∀ c∈B,isDig c=true):=by
 unfold form2 at h2;rw[if_pos rfl] at h2;simp only[Bool.and_eq_true] at h2;obtain ⟨⟨⟨h3,h4⟩,_⟩,_⟩:=h2;rw[h3] at h1;unfold form1 at h1;rw[Bool.and_eq_true] at h1;exact ⟨isDec_digs h1.1,isDec_digs h4⟩
theorem gcd_bd' {x y:Nat}(hx:Bd (x:Int))(hy:Bd (y:Int)):Bd ((Int.gcd (x:Int) (y:Int):Nat):Int):=by
 rcases Nat.eq_zero_or_pos y with rfl | h
 ·simpa using hx
 ·exact gcd_bd (by omega) hy
theorem form_eq {l U A B:List UInt8}{neg br:Bool}(hU:unsigned l=U)(hn:(l.head?==some 45)=neg)(hA:upTo U=A)(hB:behind U=B)(hb:slashed U=br):form2 (form1 neg A) br B=ratForm l:=by
 unfold ratForm form2 form1;rw[hU,hn,hA,hB,hb];exact form_bool br (isDec A) neg (A==[48]) (isDec B) (B==[48]) (B==[49])
theorem check_calls (s:ByteArray)(w:World)(he:Env w)(hl:s.size≤100000):Calls Tryz.prog 75 #[.string s] w fun e w'=>e=.returned (.int .i64 (ratErr s.data.toList))∧New w w':=by
 obtain ⟨r,hr⟩:∃ r,ratErr s.data.toList=r:=⟨_,rfl⟩;rw[hr];obtain ⟨U,hU⟩:∃ U,unsigned s.data.toList=U:=⟨_,rfl⟩;obtain ⟨neg,hneg⟩:∃ b,(s.data.toList.head?==some 45)=b:=⟨_,rfl⟩;have hcp:=fun W=>cutPrefix_calls s W;rw[hU,hneg] at hcp;obtain ⟨A,hA⟩:∃ A,upTo U=A:=⟨_,rfl⟩;obtain ⟨B,hB⟩:∃ B,behind U=B:=⟨_,rfl⟩;obtain ⟨br,hbr⟩:∃ b,slashed U=b:=⟨_,rfl⟩
 have hlu:U.length≤100000:=by
  have:s.data.toList.length≤100000:=by simpa using hl
  rw[←hU];unfold unsigned;split
  ·rw[List.length_tail];omega
  ·exact this
 have hsz:(⟨U.toArray⟩:ByteArray).size≤1000000:=by simp[ByteArray.size];omega
 have hcut:=fun W (h:New w W)=>cut_calls ⟨U.toArray⟩ W (he.new h) hsz;simp only[hA,hB,hbr] at hcut
 have hAl:A.length≤100000:=by
  rw[←hA];unfold upTo;exact Nat.le_trans (List.takeWhile_sublist _).length_le hlu
 have hBl:B.length≤100000:=by
  rw[←hB];unfold behind;have h1:=(List.dropWhile_sublist (l:=U) (· != 47)).length_le;rw[List.length_tail];omega
 have hdA:∀ W,Calls Tryz.prog 157 #[.string ⟨A.toArray⟩] W fun e w'=>e=.returned (.bool (isDec A))∧New W w':=fun W=>decimal_calls ⟨A.toArray⟩ W (by simp[ByteArray.size];omega);have hdB:∀ W,Calls Tryz.prog 157 #[.string ⟨B.toArray⟩] W fun e w'=>e=.returned (.bool (isDec B))∧New W w':=fun W=>decimal_calls ⟨B.toArray⟩ W (by simp[ByteArray.size];omega);obtain ⟨F1,hF1⟩:∃ F,form1 neg A=F:=⟨_,rfl⟩;obtain ⟨F2,hF2⟩:∃ F,form2 F1 br B=F:=⟨_,rfl⟩;have HR:=hid hr;have HU:=hid hU;have HNEG:=hid hneg;have HCP:=hid hcp;have HA:=hid hA;have HB:=hid hB;have HBR:=hid hbr;have HLU:=hid hlu;have HSZ:=hid hsz;have HCUT:=hid hcut;have HAL:=hid hAl;have HBL:=hid hBl;have HDA:=hid hdA;have HDB:=hid hdB;have HF1:=hid hF1;have HF2:=hid hF2;have HE:=hid he;have HL:=hid hl;clear hr hU hneg hcp hA hB hbr hlu hsz hcut hAl hBl hdA hdB hF1 hF2 he hl;go_enter Tryz.func75,Tryz.ntmps75;go_wp2_with fail;refine (HCP.out _).mono ?_;rintro e w' ⟨rfl,rfl⟩;go_wp2_with fail;refine (HCUT.out _ (New.refl _)).mono ?_;rintro e w1 ⟨rfl,hn⟩;have HN:=hid hn;clear hn;go_upto_region 3 with (fail)
 go_cut [8] (fun f wx=>f=.bool F1∧New w wx)
 case first=>
  go_wp2_with fail;refine (HDA.out _).mono ?_;rintro e w2 ⟨rfl,hn⟩;replace HN:=hid (HN.out.trans hn);clear hn
  cases hda:isDec A with
  | false=>
   have hf:F1=false:=by rw[←HF1.out];unfold form1;rw[hda];rfl
   have HD:=hid hda;have HF:=hid hf;clear hda hf;go_wp2_with fail
   go_meet
   exact ⟨by rw[HF.out],HN.out⟩
  | true=>
   cases neg with
   | false=>
    have hf:F1=true:=by rw[←HF1.out];unfold form1;rw[hda];rfl
    have HD:=hid hda;have HF:=hid hf;clear hda hf;go_wp2_with fail
    go_meet
    exact ⟨by rw[HF.out],HN.out⟩
   | true=>
    by_cases hz:A=[48]
    ·have hf:F1=false:=by rw[←HF1.out];unfold form1;rw[hda,hz];rfl
     have HD:=hid hda;have HF:=hid hf;clear hda hf;subst hz;go_wp2_with fail
     go_meet
     exact ⟨by rw[HF.out],HN.out⟩
    ·have hz1:(A==[48])=false:=beq_eq_false_iff_ne.2 hz
     have hz2:(A != [48])=true:=by rw[bne,hz1];rfl
     have hf:F1=true:=by rw[←HF1.out];unfold form1;rw[hda,hz2];rfl
     have HD:=hid hda;have HF:=hid hf;have HZ:=hid hz;clear hda hf hz;go_wp2_with fail
     go_meet
     exact ⟨by rw[HF.out],HN.out⟩
 case rest=>
  obtain ⟨rfl,hn⟩:=hcut;clear HN;have HN:=hid hn;clear hn
  go_step
  go_upto_if 32 with (fail)
  go_cut [8] (fun f wx=>f=.bool F2∧New w wx)
  case first=>
   cases br with
   | false=>
    have hf:F2=F1:=by rw[←HF2.out];rfl
    have HF:=hid hf;clear hf;go_wp2_with fail
    go_meet
    exact ⟨by rw[HF.out],HN.out⟩
   | true=>
    cases F1 with
    | false=>
     have hf:F2=false:=by rw[←HF2.out];rfl
     have HF:=hid hf;clear hf;go_wp2_with fail
     go_meet
     exact ⟨by rw[HF.out],HN.out⟩
    | true=>
     go_wp2_with fail;refine (HDB.out _).mono ?_;rintro e w2 ⟨rfl,hn⟩;replace HN:=hid (HN.out.trans hn);clear hn
     cases hda:isDec B with
     | false=>
      have hf:F2=false:=by rw[←HF2.out];unfold form2;rw[hda];rfl
      have HD:=hid hda;have HF:=hid hf;clear hda hf;go_wp2_with fail
      go_meet
      exact ⟨by rw[HF.out],HN.out⟩
     | true=>
      by_cases hz:B=[48]
      ·have hf:F2=false:=by rw[←HF2.out];unfold form2;rw[hda,hz];rfl
       have HD:=hid hda;have HF:=hid hf;clear hda hf;subst hz;go_wp2_with fail
       go_meet
       exact ⟨by rw[HF.out],HN.out⟩
      ·by_cases hy:B=[49]
       ·have hf:F2=false:=by rw[←HF2.out];unfold form2;rw[hda,hy];rfl
        have HD:=hid hda;have HF:=hid hf;clear hda hf;clear hz;subst hy;go_wp2_with fail
        go_meet
        exact ⟨by rw[HF.out],HN.out⟩
       ·have hz1:(B==[48])=false:=beq_eq_false_iff_ne.2 hz
        have hz2:(B != [48])=true:=by rw[bne,hz1];rfl
        have hy1:(B==[49])=false:=beq_eq_false_iff_ne.2 hy
        have hy2:(B != [49])=true:=by rw[bne,hy1];rfl
        have hf:F2=true:=by rw[←HF2.out];unfold form2;rw[hda,hz2,hy2];rfl
        have HD:=hid hda;have HF:=hid hf;have HZ:=hid hz;have HY:=hid hy;clear hda hf hz hy;go_wp2_with fail
        go_meet
        exact ⟨by rw[HF.out],HN.out⟩
  case rest=>
   obtain ⟨rfl,hn⟩:=hcut;clear HN;have HN:=hid hn;clear hn
   have hform:F2=ratForm s.data.toList:=by
    rw[←HF2.out,←HF1.out];exact form_eq HU.out HNEG.out HA.out HB.out HBR.out
   have hres:=HR.out;unfold ratErr at hres;rw[←hform] at hres;have HFORM:=hid hform;clear hform
   go_step
   cases F2 with
   | false=>
    rw[if_pos rfl]at hres;have HRES:=hid hres;clear hres;by_cases h6:600 < A.length
    ·have h6i:(600:Int) < (A.length:Int):=by omega
     go_wp2_with fail;refine (nwhen_calls _ 1 _).mono ?_;rintro e w2 ⟨rfl,rfl⟩;go_wp2_with fail;refine (nwhen_calls _ 4 _).mono ?_;rintro e w2 ⟨rfl,rfl⟩;go_wp2_with fail;refine (nfirst2 1 4 _ _ 32 _ (Box.alloc _ _ _ _ rfl)).mono ?_;rintro e w2 ⟨rfl,rfl⟩;go_wp2_with fail;go_ret;exact ⟨ret_i64 HRES.out,HN.out.alloc _⟩
    ·have h6i:¬(600:Int) < (A.length:Int):=by omega
     by_cases h7:600 < B.length
     ·have h7i:(600:Int) < (B.length:Int):=by omega
      go_wp2_with fail;refine (nwhen_calls _ 1 _).mono ?_;rintro e w2 ⟨rfl,rfl⟩;go_wp2_with fail;refine (nwhen_calls _ 4 _).mono ?_;rintro e w2 ⟨rfl,rfl⟩;go_wp2_with fail;refine (nfirst2 1 4 _ _ 32 _ (Box.alloc _ _ _ _ rfl)).mono ?_;rintro e w2 ⟨rfl,rfl⟩;go_wp2_with fail;go_ret;exact ⟨ret_i64 HRES.out,HN.out.alloc _⟩
     ·have h7i:¬(600:Int) < (B.length:Int):=by omega
      go_wp2_with fail;refine (nwhen_calls _ 1 _).mono ?_;rintro e w2 ⟨rfl,rfl⟩;go_wp2_with fail;refine (nwhen_calls _ 4 _).mono ?_;rintro e w2 ⟨rfl,rfl⟩;go_wp2_with fail;refine (nfirst2 1 0 _ _ 32 _ (Box.alloc _ _ _ _ rfl)).mono ?_;rintro e w2 ⟨rfl,rfl⟩;go_wp2_with fail;go_ret;exact ⟨ret_i64 HRES.out,HN.out.alloc _⟩
   | true=>
    rw[if_neg (by decide)]at hres
    have hlar:ratLarge s.data.toList=(decide (600 < A.length) || decide (600 < B.length)):=by unfold ratLarge;rw[HU.out,HA.out,HB.out]
    rw[hlar]at hres;by_cases h6:600 < A.length
    ·have h6i:(600:Int) < (A.length:Int):=by omega
     rw[decide_eq_true h6,Bool.true_or,if_pos rfl]at hres;have HLAR:=hid hlar;have HRES:=hid hres;clear hlar hres;go_wp2_with fail;refine (nwhen_calls _ 1 _).mono ?_;rintro e w2 ⟨rfl,rfl⟩;go_wp2_with fail;refine (nwhen_calls _ 4 _).mono ?_;rintro e w2 ⟨rfl,rfl⟩;go_wp2_with fail;refine (nfirst2 0 4 _ _ 32 _ (Box.alloc _ _ _ _ rfl)).mono ?_;rintro e w2 ⟨rfl,rfl⟩;go_wp2_with fail;go_ret;exact ⟨ret_i64 HRES.out,HN.out.alloc _⟩
    ·have h6i:¬(600:Int) < (A.length:Int):=by omega
     rw[decide_eq_false h6,Bool.false_or]at hres;by_cases h7:600 < B.length
     ·have h7i:(600:Int) < (B.length:Int):=by omega
      rw[decide_eq_true h7,if_pos rfl]at hres;have HLAR:=hid hlar;have HRES:=hid hres;clear hlar hres;go_wp2_with fail;refine (nwhen_calls _ 1 _).mono ?_;rintro e w2 ⟨rfl,rfl⟩;go_wp2_with fail;refine (nwhen_calls _ 4 _).mono ?_;rintro e w2 ⟨rfl,rfl⟩;go_wp2_with fail;refine (nfirst2 0 4 _ _ 32 _ (Box.alloc _ _ _ _ rfl)).mono ?_;rintro e w2 ⟨rfl,rfl⟩;go_wp2_with fail;go_ret;exact ⟨ret_i64 HRES.out,HN.out.alloc _⟩
     ·have h7i:¬(600:Int) < (B.length:Int):=by omega
      rw[decide_eq_false h7,if_neg (by decide)]at hres;have HLAR:=hid hlar;have HRES:=hid hres;clear hlar hres
      cases br with
      | false=>
       have hr0:r=0:=by
        rw[←HRES.out];unfold ratCommon;rw[HU.out,HBR.out];rfl
       have HR0:=hid hr0;clear hr0;go_wp2_with fail;refine (nwhen_calls _ 1 _).mono ?_;rintro e w2 ⟨rfl,rfl⟩;go_wp2_with fail;refine (nwhen_calls _ 4 _).mono ?_;rintro e w2 ⟨rfl,rfl⟩;go_wp2_with fail;refine (nfirst2 0 0 _ _ 32 _ (Box.alloc _ _ _ _ rfl)).mono ?_;rintro e w2 ⟨rfl,rfl⟩;go_wp2_with fail;refine (nwhen_calls _ 1 _).mono ?_;rintro e w2 ⟨rfl,rfl⟩;go_wp2_with fail;go_ret;exact ⟨ret_i64 HR0.out.symm,HN.out.alloc _⟩
      | true=>
       obtain ⟨hA1,hB1⟩:=form_dec (HF1.out) (HF2.out);have hbA:=(dval_bd hA1).bd (by have:=HAL.out;omega);have hbB:=(dval_bd hB1).bd (by have:=HBL.out;omega)
       have hAL1:A.length≤1000000:=by have:=HAL.out;omega
       have hBL1:B.length≤1000000:=by have:=HBL.out;omega
       obtain ⟨g,hg⟩:∃ g,Int.gcd ((dval 0 A:Nat):Int) ((dval 0 B:Nat):Int)=g:=⟨_,rfl⟩
       have hbg:Bd (g:Int):=by
        rw[←hg];exact gcd_bd' hbA hbB
       have hcm:r=if (g != 1)=true then 1 else 0:=by
        rw[←HRES.out];unfold ratCommon;rw[HU.out,HBR.out,HA.out,HB.out,←hg,Bool.true_and];rfl
       have HA1:=hid hA1;have HB1:=hid hB1;have HBA:=hid hbA;have HBB:=hid hbB;have HG:=hid hg;have HBG:=hid hbg;have HCM:=hid hcm;have HAL1:=hid hAL1;have HBL1:=hid hBL1;clear hA1 hB1 hbA hbB hg hbg hcm hAL1 hBL1;go_wp2_with fail;refine (nwhen_calls _ 1 _).mono ?_;rintro e w2 ⟨rfl,rfl⟩;go_wp2_with fail;refine (nwhen_calls _ 4 _).mono ?_;rintro e w2 ⟨rfl,rfl⟩;go_wp2_with fail;refine (nfirst2 0 0 _ _ 32 _ (Box.alloc _ _ _ _ rfl)).mono ?_;rintro e w2 ⟨rfl,rfl⟩;go_wp2_with fail;replace HN:=hid (HN.out.alloc (.cells #[.int .i64 0,.int .i64 0] 32));refine (read_calls ⟨A.toArray⟩ false A _ rfl HA1.out HAL1.out).mono ?_;rintro e w3 ⟨v3,rfl,hn,hi⟩;have HI3:=hid hi;clear hi;replace HN:=hid (HN.out.trans hn);clear hn;go_wp2_with fail;refine (read_calls ⟨B.toArray⟩ false B _ rfl HB1.out HBL1.out).mono ?_;rintro e w4 ⟨v4,rfl,hn,hi⟩;have HI4:=hid hi;clear hi;replace HI3:=hid (HI3.out.new hn);replace HN:=hid (HN.out.trans hn);clear hn;go_wp2_with fail;refine (gcd_calls _ _ _ _ _ HI3.out HI4.out HBA.out HBB.out).mono ?_;rintro e w5 ⟨v5,rfl,hn,hi⟩
       have hi:IsInt w5 v5 (g:Int):=by rw[←HG.out];exact hi
       have HI5:=hid hi;clear hi;replace HN:=hid (HN.out.trans hn);clear hn;go_wp2_with fail;refine (of_calls 1 _).mono ?_;rintro e w6 ⟨rfl,hn⟩;replace HI5:=hid (HI5.out.new hn);replace HN:=hid (HN.out.trans hn);clear hn;go_wp2_with fail;refine (cmp_calls _ _ (g:Int) 1 _ HI5.out (.small rfl (by omega) (by omega)) HBG.out (.small (by omega) (by omega))).mono ?_;rintro e w7 ⟨rfl,hn⟩;replace HN:=hid (HN.out.trans hn);clear hn;by_cases hg1:g=1
       ·have hs:Int.sign ((g:Int) - 1)=0:=by rw[hg1];rfl
        have hr0:r=0:=by rw[HCM.out,hg1];rfl
        rw[hs];have HS:=hid hs;have HR0:=hid hr0;have HG1:=hid hg1;clear hs hr0 hg1;go_wp2_with fail;refine (nwhen_calls _ 1 _).mono ?_;rintro e w2 ⟨rfl,rfl⟩;go_wp2_with fail;go_ret;exact ⟨ret_i64 HR0.out.symm,HN.out⟩
       ·obtain ⟨t,ht,ht0⟩:∃ t,Int.sign ((g:Int) - 1)=t∧(t != 0)=true:=⟨_,rfl,by
         rw[bne_iff_ne];intro h;have:=Int.sign_eq_zero_iff_zero.1 h
         omega⟩
        have hr0:r=1:=by
         rw[HCM.out,if_pos (by rw[bne_iff_ne];exact hg1)]
        rw[ht];have HTT:=hid ht;have HR0:=hid hr0;have HG1:=hid hg1;clear ht hr0 hg1;go_wp2_with fail;refine (nwhen_calls _ 1 _).mono ?_;rintro e w2 ⟨rfl,rfl⟩;go_wp2_with fail;go_ret;exact ⟨ret_i64 HR0.out.symm,HN.out⟩
def isFin (b:Nat):Bool:=match Ieee.single.read b with | .number ..=>true | _=>false
theorem isFin_spec {b:Nat}(h:isFin b=true):∃ s m i,Ieee.single.read b=.number s m i:=by
 unfold isFin at h;split at h
 ·rename_i s m i hr;exact ⟨s,m,i,hr⟩
 ·cases h
theorem sub_self_fin {b:Nat}(h:isFin b=true):floatBits .sub .f32 b b=some 0:=by
 obtain ⟨s,m,i,hr⟩:=isFin_spec h;show Ieee.single.sub b b=some 0;unfold Ieee.Format.sub;rw[hr];simp only[Ieee.Datum.opposite,Ieee.Datum.sum,Option.map_some]
 have e:Ieee.signed s m (i - min i i).toNat+Ieee.signed (!s) m (i - min i i).toNat=0:=by
  unfold Ieee.signed
  cases s <;> simp <;> omega
 rw[e]
 cases s <;> rfl
theorem sub_self_nan {b:Nat}(h:isFin b=false):FloatKind.f32.format.sub b b=none:=by
 show Ieee.single.sub b b=none;unfold Ieee.Format.sub;unfold isFin at h
 cases hr:Ieee.single.read b with
 | number s m i=>rw[hr] at h;cases h
 | infinity s=>cases s <;> rfl
 | nan s f=>rfl
def nanOf (w:World)(b:Nat):Nat:=(Question.nanBits .f32 b b).cut (w.tape w.drawn (.nanBits .f32 b b))
theorem nan_run {P:Program}(t:TypeId)(b:Nat)(h:isFin b=false)(w:World):(binOp .sub t (.float .f32 b) (.float .f32 b)).run P w=.ok (.float .f32 (nanOf w b)) w.drew:=by
 simp[binOp,Op.floatArith,sub_self_nan h];rfl
theorem nan_read (w:World)(b:Nat):∃ s f,Ieee.single.read (nanOf w b)=.nan s f:=by
 unfold nanOf;generalize w.tape w.drawn (.nanBits .f32 b b)=t;show ∃ s f,Ieee.single.read ((t % 2)*2^31+0x7f800000+1+(t / 2) % (2^23 - 1))=.nan s f;obtain ⟨x,hx⟩:∃ x,(t / 2) % (2^23 - 1)=x:=⟨_,rfl⟩
 have hx1:x < 8388607:=by rw[←hx];exact Nat.mod_lt _ (by decide)
 rw[hx];unfold Ieee.Format.read
 have e1:Ieee.single.signWeight=2147483648:=by decide
 have e2:Ieee.single.binade=8388608:=by decide
 have e3:Ieee.single.infRung=2139095040:=by decide
 rw[e1,e2,e3]
 have hm:(t % 2*2^31+0x7f800000+1+x) % 2147483648=2139095041+x:=by omega
 simp only[hm];rw[if_neg (by omega),if_neg (by omega),if_neg (by omega)];exact ⟨_,_,rfl⟩
theorem nan_order (w:World)(b c:Nat):FloatKind.f32.format.order (nanOf w b) c=none:=by
 obtain ⟨s,f,h⟩:=nan_read w b;show (Ieee.single.read (nanOf w b)).order _=none;rw[h];rfl
def FinPost (w:World)(b:Bool)(e:Ending)(w':World):Prop:=e=.returned (.bool b)∧∃ n,w'=w.drewN n
theorem finite_calls (b:Nat)(w:World):Calls Tryz.prog 124 #[.float .f32 b] w (FinPost w (isFin b)):=by
 cases h:isFin b with
 | true=>
  have hrun:=fun W=>run_float_arith (P:=Tryz.prog) W .sub 62 .f32 b b 0 (sub_self_fin h)
  have ho:(FloatKind.f32.format.order 0 0==some .eq)=true:=by decide
  have H:=hid h;clear h;go_enter Tryz.func124,Tryz.ntmps124;go_wp2_with fail;go_ret;exact ⟨rfl,0,rfl⟩
 | false=>
  have hrun:=fun W=>nan_run (P:=Tryz.prog) 62 b h W;have ho:=fun W=>nan_order W b 0;have H:=hid h;clear h;go_enter Tryz.func124,Tryz.ntmps124;go_wp2_with fail;go_ret;exact ⟨rfl,1,rfl⟩
def stepQ (s:Int):Rat:=if s < 0 then ((2^(-s).toNat:Int):Rat)⁻¹ else ((2^s.toNat:Int):Rat)
theorem FB.int {k:Nat}{x:Int}(h:BdK k x)(hk:1≤k):FB k (x:Rat):=⟨by rw[Rat.num_intCast];exact h,by
 rw[Rat.den_intCast];unfold BdK
 exact Nat.lt_of_lt_of_le (by decide:(1:Int).natAbs < 2^1) (Nat.pow_le_pow_right (by omega) hk)⟩
theorem New.of_eq {w w':World}(h:w=w'):New w w':=h ▸ New.refl w
def RetNew (w:World)(r:Int)(e:Ending)(w':World):Prop:=e=.returned (.int .i64 r)∧New w w'
theorem laid1 (w:World)(t:TypeId)(cs:Array Value):∃ x,w.alloc (.cells cs t)=x∧Box x w.heap.size t cs∧New w x:=⟨_,rfl,Box.alloc w _ t cs rfl,(New.refl w).alloc _⟩
theorem Sm.of {z:Int}(lo:0≤z)(hi:z≤5000):Sm z:=⟨by omega,by omega⟩
end Go.Proofs.YtnjonlnemagomaaGreatDoor
