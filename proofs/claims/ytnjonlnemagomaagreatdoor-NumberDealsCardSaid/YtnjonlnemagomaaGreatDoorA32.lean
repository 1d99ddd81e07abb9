/- Part A32. -/
import Derived.Deep.DeepCutAuto
import Derived.Test.YtnjonlnemagomaaGreatDoorA31
namespace Go.Proofs.YtnjonlnemagomaaGreatDoor
open Go.RowKit Big
open Go.Lib (hid)
set_option maxRecDepth 100000
set_option maxHeartbeats 8000000
theorem blendf_calls (X Y:ByteArray)(x q:Rat)(hx:TxtIs X x)(hq:FB 2000 q)(P:Nat)(s t:Int)(a d:Option Addr)(l c m k:Nat)(w:World)(he:Env w)(hb:Box w P 115 #[.int .i64 s,.slice a l c,.int .i64 t,.slice d m k])(hf:IsFrac w (.agg #[.int .i64 s,.slice a l c,.int .i64 t,.slice d m k]) q):
  Calls Tryz.prog 89 #[.agg #[.string X,.string Y],.pointer (some ⟨P,0,none⟩)] w fun e w'=>e=.returned (.bool (decide (q≤x)))∧New w w':=by
 have hfx:=fun W hW=>from_calls X x W hW hx.1 (by have:=hx.2.2;omega);have hcm:=fun va vb W h1 h2=>fcmp_calls va vb x q 2000 2000 W h1 h2 (Fits.fb hx.2.1) hq (by omega);unfold SignPost at hcm;obtain ⟨r,hr⟩:∃ r,(crossed x q).sign=r:=⟨_,rfl⟩
 have hd:decide (r ≥ 0)=decide (q≤x):=by
  rw[decide_eq_decide,←hr];constructor
  ·intro h
   exact Rat.not_lt.1 fun h2=>by have:=crossed_neg.2 h2;omega
  ·intro h;rcases Int.lt_or_le (crossed x q).sign 0 with h2 | h2
   ·exact absurd (crossed_neg.1 h2) (Rat.not_lt.2 h)
   ·exact h2
 rw[hr]at hcm;obtain ⟨u,hu⟩:∃ u,decide (q≤x)=u:=⟨_,rfl⟩;rw[hu] at hd⊢;clear hx hq hr hu;have HE:=hid he;have HFX:=hid hfx;have HCM:=hid hcm;have BB:=hid hb;have HF:=hid hf;clear he hfx hcm hb hf;go_enter Tryz.func89,Tryz.ntmps89;go_upto_region 1 with (fail);obtain ⟨BA,HN⟩:=lay1 w 30 #[.string X,.string Y];replace BB:=hid (BB.out.new HN.out);replace HF:=hid (HF.out.new HN.out);obtain ⟨w0,hw0⟩:∃ u,w.alloc (.cells #[.string X,.string Y] 30)=u:=⟨_,rfl⟩;rw[hw0] at BA HN BB HF⊢;clear hw0;obtain ⟨pa0,pa1,pa2,pa3,pa4⟩:=BA.out.two;obtain ⟨⟨pb0,pb1,pb2,pb3⟩,pb4,pb5,pb6,pb7,pb8⟩:=BB.out.four;refine wp_region_T 6 (fun W=>W.cell? ⟨w.heap.size,0,none⟩=some (.string X)∧W.cell? ⟨w.heap.size,1,none⟩=some (.string Y)∧W.cell? ⟨P,0,none⟩=some (.int .i64 s)∧W.cell? ⟨P,1,none⟩=some (.slice a l c)∧W.cell? ⟨P,2,none⟩=some (.int .i64 t)∧W.cell? ⟨P,3,none⟩=some (.slice d m k)) 7 #[false,false,false,false,false,false,false] rfl (by kernel_rfl) (by kernel_rfl) ?_;refine tk 0 (by exact ⟨pa0,pa1,pb0,pb1,pb2,pb3⟩) ?_
 try simp only[PT]
 refine tk 1 (by exact ⟨pa0,pa1,pb0,pb1,pb2,pb3⟩) ?_
 try simp only[PT]
 refine tk 3 (by exact ⟨pa0,pa1,pb0,pb1,pb2,pb3⟩) ?_
 try simp only[PT]
 refine wpT_one 2 rfl (by kernel_rfl) (fun K hK=>?_);go_simp;refine (HFX.out _ (HE.out.new HN.out.drew)).mono ?_;rintro e w3 ⟨v3,rfl,hn,hf⟩;have hn:=hn.undrew;have HF3:=hid hf;clear hf;clear pa0 pa1 pa2 pa3 pa4;clear pb0 pb1 pb2 pb3 pb4 pb5 pb6 pb7 pb8;replace BA:=hid (BA.out.new hn);replace BB:=hid (BB.out.new hn);replace HF:=hid (HF.out.new hn);replace HN:=hid (HN.out.trans hn);clear hn;obtain ⟨pa0,pa1,pa2,pa3,pa4⟩:=BA.out.two;obtain ⟨⟨pb0,pb1,pb2,pb3⟩,pb4,pb5,pb6,pb7,pb8⟩:=BB.out.four;refine hK.out _ _ (fun _=>?_) ?_
 ·exact ⟨pa0,pa1,pb0,pb1,pb2,pb3⟩
 clear hK K
 try simp only[PT]
 refine wpT_one 4 rfl (by kernel_rfl) (fun K hK=>?_);go_simp;refine (HCM.out _ _ _ HF3.out HF.out).mono ?_;rintro e w4 ⟨rfl,hn⟩;clear HF3;clear pa0 pa1 pa2 pa3 pa4;clear pb0 pb1 pb2 pb3 pb4 pb5 pb6 pb7 pb8;replace BA:=hid (BA.out.new hn);replace BB:=hid (BB.out.new hn);replace HF:=hid (HF.out.new hn);replace HN:=hid (HN.out.trans hn);clear hn;obtain ⟨pa0,pa1,pa2,pa3,pa4⟩:=BA.out.two;obtain ⟨⟨pb0,pb1,pb2,pb3⟩,pb4,pb5,pb6,pb7,pb8⟩:=BB.out.four;refine hK.out _ _ (fun _=>?_) ?_
 ·exact ⟨pa0,pa1,pb0,pb1,pb2,pb3⟩
 clear hK K
 try simp only[PT]
 refine tk 5 (by exact ⟨pa0,pa1,pb0,pb1,pb2,pb3⟩) ?_
 try simp only[PT]
 refine wpT_tail rfl (by kernel_rfl) ?_;simp only[List.drop_succ_cons,List.drop_zero];clear pa0 pa1 pa2 pa3 pa4;clear pb0 pb1 pb2 pb3 pb4 pb5 pb6 pb7 pb8;go_wp2_with fail;go_ret;exact ⟨rfl,HN.out⟩
def FirstAt (n:Nat)(xs:Nat→Rat)(q:Rat)(r:Int):Prop:=(∃ i:Nat,i < n∧r=(i:Int)∧q≤xs i∧∀ j,j < i→xs j < q)∨(r= -1∧∀ j,j < n→xs j < q)
theorem indexp_calls (pts:List (ByteArray × ByteArray))(xs:Nat→Rat)(hx:∀ (k:Nat) (h:k < pts.length),TxtIs pts[k].1 (xs k))(hl:pts.length≤64)(q:Rat)(hq:FB 2000 q)(P:Nat)(s t:Int)(a d:Option Addr)(l c m k:Nat)(ar:Option Addr)(cap:Nat)(w:World)(he:Env w)(hb:Box w P 115 #[.int .i64 s,.slice a l c,.int .i64 t,.slice d m k])(hf:IsFrac w (.agg #[.int .i64 s,.slice a l c,.int .i64 t,.slice d m k]) q)(hr:RdP w ar pts):
  Calls Tryz.prog 88 #[.slice ar pts.length cap,.func (.func 89) #[] #[.pointer (some ⟨P,0,none⟩)]] w fun e w'=>∃ r,e=.returned (.int .i64 r)∧New w w'∧FirstAt pts.length xs q r:=by
 have hcl:∀ (j:Nat) (hj:j < pts.length) (W:World),New w W→Calls Tryz.prog 89 #[.agg #[.string pts[j].1,.string pts[j].2],.pointer (some ⟨P,0,none⟩)] W fun e w'=>e=.returned (.bool (decide (q≤xs j)))∧New W w':=fun j hj W hn=>
  blendf_calls _ _ (xs j) q (hx j hj) hq P s t a d l c m k W (he.new hn) (hb.new hn) (hf.new hn)
 obtain ⟨n,hn⟩:∃ n,pts.length=n:=⟨_,rfl⟩;rw[hn]
 have hni:(n:Int)≤64:=by omega
 clear hx hq he hl hb hf;have HR:=hid hr;have HCL:=hid hcl;have HNN:=hid hn;clear hr hcl hn;go_enter Tryz.func88,Tryz.ntmps88;go_wp2_with fail;go_loopw [8] (fun i wr=>∃ j:Nat,j≤n∧i=.int .i64 (j:Int)∧Hid (∀ u,u < j→xs u < q)∧Hid (New w wr)) (fun i _=>n - (intOf i).toNat)
 case atStart=>exact ⟨0,Nat.zero_le _,rfl,hid (fun u h=>by omega),hid (New.refl _)⟩
 case round=>
  obtain ⟨j,hj,rfl,HB,HN⟩:=hrel;by_cases hlt:j < n
  ·obtain ⟨b,off,rfl,h1,h2⟩:=HR.out j (by rw[HNN.out];exact hlt);have hc:=fun W hW=>HCL.out j (by rw[HNN.out];exact hlt) W hW;have h1:=HN.out.cell h1;have h2:=HN.out.cell h2;obtain ⟨X,hX⟩:∃ x,(pts[j]'(by rw[HNN.out];exact hlt)).1=x:=⟨_,rfl⟩;obtain ⟨Y,hY⟩:∃ x,(pts[j]'(by rw[HNN.out];exact hlt)).2=x:=⟨_,rfl⟩;rw[hX] at h1;rw[hY] at h2;simp only[hX,hY] at hc
   have hki:(j:Int) < n:=by omega
   clear hX hY;by_cases hle:q≤xs j
   ·rw[decide_eq_true hle] at hc;have hres:FirstAt n xs q (j:Int):=.inl ⟨j,hlt,rfl,hle,HB.out⟩;clear hle;have HC:=hid hc;have HRES:=hid hres;clear hc hres;go_wp2_with fail;refine (HC.out _ HN.out).mono ?_;rintro e w4 ⟨rfl,hn⟩;replace HN:=hid (HN.out.trans hn);clear hn;go_wp2_with fail;go_ret;exact ⟨_,rfl,HN.out,HRES.out⟩
   ·rw[decide_eq_false hle] at hc
    have hb:∀ u,u < j+1→xs u < q:=fun u hu=>by
     rcases Nat.lt_or_ge u j with h | h
     ·exact HB.out u h
     ·have:u=j:=by omega
      rw[this];exact Rat.not_le.1 hle
    clear hle;have HC:=hid hc;have HB2:=hid hb;clear hc hb;go_wp2_with fail;refine (HC.out _ HN.out).mono ?_;rintro e w4 ⟨rfl,hn⟩;clear h1 h2;replace HN:=hid (HN.out.trans hn);clear hn;go_wp2_with fail;go_roundw
    case rel=>exact ⟨j+1,by omega,by go_num,HB2,HN⟩
    case measure=>simp[intOf];omega
  ·obtain rfl:j=n:=by omega
   go_wp2_with fail;go_ret;exact ⟨_,rfl,HN.out,.inr ⟨rfl,HB.out⟩⟩
end Go.Proofs.YtnjonlnemagomaaGreatDoor
namespace Go.Proofs.YtnjonlnemagomaaGreatDoor
open Go.RowKit Big Go.Lib
set_option maxRecDepth 100000
set_option maxHeartbeats 8000000
theorem ratText_inj {p q:Rat}(h:ratText p=ratText q):p=q:=by
 have key:∀ r:Rat,upTo (unsigned (ratText r))=decDigits r.num.natAbs∧behind (unsigned (ratText r))=if r.den=1 then [] else decDigits r.den:=fun r=>by
  rw[unsigned_ratText];by_cases hd:r.den=1
  ·rw[if_pos hd,if_pos hd];exact ⟨upTo_plain _,behind_plain _⟩
  ·rw[if_neg hd,if_neg hd];exact ⟨upTo_slash _ _,behind_slash _ _⟩
 have h1:=(key p).1.symm.trans ((congrArg (fun l=>upTo (unsigned l)) h).trans (key q).1);have h2:=(key p).2.symm.trans ((congrArg (fun l=>behind (unsigned l)) h).trans (key q).2);have hn:=decDigits_inj h1;have hs:=head_ratText p;rw[h,head_ratText q] at hs;have hs2:q.num < 0 ↔ p.num < 0:=decide_eq_decide.1 hs
 have hd:p.den=q.den:=by
  by_cases d1:p.den=1
  ·by_cases d2:q.den=1
   ·rw[d1,d2]
   ·rw[if_pos d1,if_neg d2] at h2;exact absurd h2.symm (decDigits_ne_nil _)
  ·by_cases d2:q.den=1
   ·rw[if_neg d1,if_pos d2] at h2;exact absurd h2 (decDigits_ne_nil _)
   ·rw[if_neg d1,if_neg d2] at h2;exact decDigits_inj h2
 exact Rat.ext (by omega) hd
theorem TxtIs.ne {s t:ByteArray}{p q:Rat}(h:TxtIs s p)(g:TxtIs t q)(hne:p≠q):(s.toList==t.toList)=false:=by
 rw[beq_eq_false_iff_ne,ByteArray.toList_eq,ByteArray.toList_eq,h.1,g.1];exact fun e=>hne (ratText_inj e)
theorem TxtIs.same {s t:ByteArray}{q:Rat}(h:TxtIs s q)(g:TxtIs t q):(s.toList==t.toList)=true:=by
 rw[beq_iff_eq,ByteArray.toList_eq,ByteArray.toList_eq,h.1,g.1]
theorem FirstAt.eq {n:Nat}{xs:Nat→Rat}{q:Rat}{r:Int}(h:FirstAt n xs q r){i:Nat}(hi:i < n)(h1:q≤xs i)(h2:∀ j,j < i→xs j < q):r=(i:Int):=by
 rcases h with ⟨k,hk,rfl,h3,h4⟩ | ⟨-,h3⟩
 ·rcases Nat.lt_trichotomy k i with h5 | h5 | h5
  ·exact absurd (h2 k h5) (Rat.not_lt.2 h3)
  ·rw[h5]
  ·exact absurd (h4 i h5) (Rat.not_lt.2 h1)
 ·exact absurd (h3 i hi) (Rat.not_lt.2 h1)
theorem FirstAt.none {n:Nat}{xs:Nat→Rat}{q:Rat}{r:Int}(h:FirstAt n xs q r)(h2:∀ j,j < n→xs j < q):r= -1:=by
 rcases h with ⟨k,hk,rfl,h3,h4⟩ | ⟨h3, -⟩
 ·exact absurd (h2 k hk) (Rat.not_lt.2 h3)
 ·exact h3
end Go.Proofs.YtnjonlnemagomaaGreatDoor
