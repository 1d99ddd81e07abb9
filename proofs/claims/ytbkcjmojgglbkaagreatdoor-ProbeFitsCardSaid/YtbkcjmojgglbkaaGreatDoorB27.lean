/- Part B27. -/
import Derived.Laws.AppendOwn
import Derived.Test.YtbkcjmojgglbkaaGreatDoorB26
namespace Go.Proofs.YtbkcjmojgglbkaaGreatDoor
open Go.RowKit Big Go.Lib
set_option maxRecDepth 100000
set_option maxHeartbeats 8000000
theorem rdigits_calls (s:ByteArray)(w:World)(hl:s.size≤1000000):Calls Tryz.prog 143 #[.string s] w fun e w'=>e=.returned (.bool (s.data.toList.all isDig))∧w'=w:=by
 obtain ⟨b,hb⟩:∃ b,s.data.toList.all isDig=b:=⟨_,rfl⟩;rw[hb];have HB:=hid hb;clear hb;go_enter Tryz.func143,Tryz.ntmps143;go_wp2
 go_loop [3] (fun i=>∃ k:Nat,k≤s.size∧i=.int .i64 k∧Hid (∀ c∈s.data.toList.take k,isDig c=true)) (fun i=>s.size - (RowKit.intOf i).toNat)
 case atStart=>exact ⟨0,Nat.zero_le _,rfl,hid (fun c hc=>by simp at hc)⟩
 case round=>
  obtain ⟨k,hk,rfl,HD⟩:=hrel;by_cases hlt:k < s.size
  ·have hts:=take_snoc s k hlt;obtain ⟨c,hc⟩:∃ c,s[k]=c:=⟨_,rfl⟩;by_cases hdig:isDig s[k]=true
   ·have h1:=isDig_iff.1 hdig
    have h48:¬((s[k].toNat:Int) < 48):=by omega
    have h57:¬((57:Int) < (s[k].toNat:Int)):=by omega
    have hnx:∀ c∈s.data.toList.take (k+1),isDig c=true:=by
     rw[hts];intro x hx;rcases List.mem_append.1 hx with hx | hx
     ·exact HD.out x hx
     ·rw[List.mem_singleton] at hx;rw[hx];exact hdig
    clear hts hc h1 hdig;have HNX:=hid hnx;clear hnx;go_wp2;go_round
    case rel=>exact ⟨k+1,by omega,by go_num,HNX⟩
    case measure=>simp[RowKit.intOf];omega
   ·have hf:b=false:=by
     rw[←HB.out,List.all_eq_false]
     exact ⟨s[k],by
      have:s[k]=s.data.toList[k]'(by simpa using hlt):=rfl;rw[this]
      exact List.getElem_mem _,by simpa using hdig⟩
    have hnd:¬(48≤s[k].toNat∧s[k].toNat≤57):=fun h=>hdig (isDig_iff.2 h);clear hts hc hdig;have HF:=hid hf;clear hf;by_cases h48:(s[k].toNat:Int) < 48
    ·clear hnd;go_wp2;go_ret;exact ⟨by rw[HF.out];rfl,rfl⟩
    ·have h57:(57:Int) < (s[k].toNat:Int):=by omega
     clear hnd;go_wp2;go_ret;exact ⟨by rw[HF.out];rfl,rfl⟩
  ·have hf:b=true:=by
    rw[←HB.out,List.all_eq_true];have:=HD.out;rw[List.take_of_length_le (by simp;omega)] at this;exact this
   have HF:=hid hf;clear hf;go_wp2;go_ret;exact ⟨by rw[HF.out];rfl,rfl⟩
theorem rdecform_calls (s:ByteArray)(w:World)(hl:s.size≤1000000):Calls Tryz.prog 80 #[.string s] w fun e w'=>e=.returned (.bool (isDec s.data.toList))∧w'=w:=by
 have hdg:=fun W=>rdigits_calls s W hl;obtain ⟨b,hb⟩:∃ b,isDec s.data.toList=b:=⟨_,rfl⟩;rw[hb]
 have hlen:s.data.toList.length=s.size:=by simp
 by_cases h0:s.size=0
 ·have hf:b=false:=by
   rw[←hb,List.eq_nil_of_length_eq_zero (l:=s.data.toList) (by rw[hlen];exact h0)];rfl
  have h0b:((s.size:Int)==0)=true:=beq_iff_eq.2 (by omega);rw[hf];clear hb hlen hdg;go_enter Tryz.func80,Tryz.ntmps80;go_wp2_with fail;go_ret;exact ⟨rfl,rfl⟩
 have hp:0 < s.size:=by omega
 have h0b:((s.size:Int)==0)=false:=beq_eq_false_iff_ne.2 (by omega)
 have hhead:s.data.toList.head?=some (s[0]'hp):=by
  rw[List.head?_eq_getElem?,List.getElem?_eq_getElem (by rw[hlen];exact hp)];rfl
 have hne:s.data.toList.isEmpty=false:=by
  rw[List.isEmpty_eq_false_iff];intro e;rw[e] at hhead
  cases hhead
 by_cases h1:1 < s.size∧(s[0]'hp).toNat=48
 ·obtain ⟨h1,h48⟩:=h1
  have hf:b=false:=by
   rw[←hb];unfold isDec;rw[hhead,show s[0]'hp=48 from UInt8.toNat_inj.1 h48]
   have:(s.data.toList==[48])=false:=by
    rw[beq_eq_false_iff_ne];intro e;have:=congrArg List.length e;rw[hlen] at this;simp at this;omega
   rw[this];simp
  have h1i:(1:Int) < (s.size:Int):=by omega
  have h1b:decide ((1:Int) < (s.size:Int))=true:=decide_eq_true h1i
  have hci:((s[0]'hp).toNat:Int)=48:=by omega
  have hcb:(((s[0]'hp).toNat:Int)==48)=true:=beq_iff_eq.2 hci;rw[hf];clear hb hlen hdg hhead hne h48;go_enter Tryz.func80,Tryz.ntmps80;go_wp2_with fail;go_ret;exact ⟨rfl,rfl⟩
 ·have hbe:s.data.toList.all isDig=b:=by
   rw[←hb];unfold isDec;rw[hne]
   have:(s.data.toList.head? != some 48 || s.data.toList==[48])=true:=by
    rw[hhead];by_cases h48:(s[0]'hp).toNat=48
    ·have h2:s.size=1:=by
      rcases Nat.lt_or_ge 1 s.size with h | h
      ·exact absurd ⟨h,h48⟩ h1
      ·omega
     have:s.data.toList=[48]:=by
      cases hd:s.data.toList with
      | nil=>rw[hd] at hlen;simp at hlen;omega
      | cons c l=>
       rw[hd]at hlen hhead;simp only[List.head?_cons,Option.some.injEq] at hhead;simp only[List.length_cons] at hlen;have hl0:l=[]:=List.eq_nil_of_length_eq_zero (by omega);rw[hhead,hl0,show s[0]'hp=48 from UInt8.toNat_inj.1 h48]
     rw[this];simp
    ·have:(some (s[0]'hp) != some (48:UInt8))=true:=by
      simp only[bne_iff_ne,ne_eq,Option.some.injEq];intro e;exact h48 (by rw[e];rfl)
     rw[this];rfl
   rw[this];simp
  rw[hbe]at hdg;clear hb hlen hhead hne hbe;by_cases h1s:1 < s.size
  ·have hci:¬((s[0]'hp).toNat:Int)=48:=by
    intro h;exact h1 ⟨h1s,by omega⟩
   have hcb:(((s[0]'hp).toNat:Int)==48)=false:=beq_eq_false_iff_ne.2 hci
   have h1i:(1:Int) < (s.size:Int):=by omega
   have h1b:decide ((1:Int) < (s.size:Int))=true:=decide_eq_true h1i;clear h1;have HDG:=hid hdg;clear hdg;go_enter Tryz.func80,Tryz.ntmps80;go_wp2_with fail;refine (HDG.out _).mono ?_;rintro e w1 ⟨rfl,hw⟩;rw[hw];clear hw;go_wp2_with fail;go_ret;exact ⟨rfl,rfl⟩
  ·have h1i:¬(1:Int) < (s.size:Int):=by omega
   have h1b:decide ((1:Int) < (s.size:Int))=false:=decide_eq_false h1i;clear h1;have HDG:=hid hdg;clear hdg;go_enter Tryz.func80,Tryz.ntmps80;go_wp2_with fail;refine (HDG.out _).mono ?_;rintro e w1 ⟨rfl,hw⟩;rw[hw];clear hw;go_wp2_with fail;go_ret;exact ⟨rfl,rfl⟩
end Go.Proofs.YtbkcjmojgglbkaaGreatDoor
namespace Go.Proofs.YtbkcjmojgglbkaaGreatDoor
open Go.RowKit Big
open Go.Lib (hid)
set_option maxRecDepth 100000
set_option maxHeartbeats 8000000
def RGuessPost (w:World)(U g:Nat→Nat)(k:Nat)(e:Ending)(w':World):Prop:=New w w'∧∃ t:Nat,e=.returned (.int .i64 (t:Int))∧GFit B9 U g k t
theorem rguess_any (au av:Option Addr) (lu cu cv k j:Nat) (o g:Nat→Nat) (w:World) (hlu:lu≤1000000) (hj:j+(k+2) < lu) (hu:Rd w au .i64 lu o) (hv:Rd w av .i64 (k+2) g) (hol:∀ i,o i < B9) (hgl:∀ i,i < k+2→g i < B9)
  (hg0:g (k+1)≠0) (hlt:vf B9 (fun i=>o (j+1+i)) (k+2) < vf B9 g (k+2)):
  Calls Tryz.prog 190 #[.slice au lu cu,.slice av (k+2) cv,.int .i64 (j:Int)] w (RGuessPost w (fun i=>o (j+i)) g k):=by
 obtain ⟨U,hUU⟩:∃ U:Nat→Nat,U=fun i=>o (j+i):=⟨_,rfl⟩
 have hU:∀ i,i < k+3→U i < B9:=fun i _=>by rw[hUU];exact hol (j+i)
 have hlt':vf B9 (fun i=>U (1+i)) (k+2) < vf B9 g (k+2):=by rw[hUU];simpa only[←Nat.add_assoc] using hlt
 obtain ⟨n,hn⟩:∃ n,k+2=n:=⟨_,rfl⟩;obtain ⟨b1,o1,rfl,c2⟩:=hu (j+n) (by omega);obtain ⟨b1',o1',e1,c1⟩:=hu (j+n - 1) (by omega);injection e1 with e1;injection e1 with e1 e2;subst e1 e2;obtain ⟨b1',o1',e1,c0⟩:=hu (j+n - 2) (by omega);injection e1 with e1;injection e1 with e1 e2;subst e1 e2;obtain ⟨b2,o2,rfl,d1⟩:=hv (n - 1) (by omega);obtain ⟨b2',o2',e1,d0⟩:=hv (n - 2) (by omega);injection e1 with e1;injection e1 with e1 e2;subst e1 e2;have hs:=GWay.start (B:=B9) (u:=U) (by decide) hU hgl hg0;have hbd:=fun t r (h:GWay B9 U g k t r)=>h.bound hU hgl hg0 hlt';have hps:=fun t r (h:GWay B9 U g k t r)=>h.pass hgl hg0;have hls:=fun t r (h:GWay B9 U g k t r)=>h.less (by decide) hU hgl hg0 hlt'
 have u2:U (k+2)=o (j+n):=by rw[hUU,←hn]
 have u1:U (k+1)=o (j+n - 1):=by rw[hUU];show o (j+(k+1))=_;rw[show j+(k+1)=j+n - 1 by omega]
 have u0:U k=o (j+n - 2):=by rw[hUU];show o (j+k)=_;rw[show j+k=j+n - 2 by omega]
 have v1:g (k+1)=g (n - 1):=by rw[show k+1=n - 1 by omega]
 have v0:g k=g (n - 2):=by rw[show k=n - 2 by omega]
 have x2b:=hol (j+n);have x1b:=hol (j+n - 1);have x0b:=hol (j+n - 2);have y1b:=hgl (n - 1) (by omega);have y0b:=hgl (n - 2) (by omega);rw[←hUU,hn];rw[u2,u1,v1] at hs;simp only[u0,v1,v0] at hls hps;rw[v1] at hg0;have hrest:∀ t r,GWay B9 U g k t r→r < B9:=fun t r h=>h.hr;obtain ⟨x2,e2⟩:∃ x,o (j+n)=x:=⟨_,rfl⟩;obtain ⟨x1,e1⟩:∃ x,o (j+n - 1)=x:=⟨_,rfl⟩;obtain ⟨x0,e0⟩:∃ x,o (j+n - 2)=x:=⟨_,rfl⟩;obtain ⟨y1,f1⟩:∃ x,g (n - 1)=x:=⟨_,rfl⟩;obtain ⟨y0,f0⟩:∃ x,g (n - 2)=x:=⟨_,rfl⟩;rw[e2] at c2 x2b hs;rw[e1] at c1 x1b hs;rw[e0] at c0 x0b;rw[f1] at d1 y1b hs hg0;rw[f0] at d0 y0b;simp only[e0,f1,f0] at hls hps
 have hn2:2≤n:=by omega
 have hjn:j+n < lu:=by omega
 have hB:(0:Nat) < B9:=by decide
 clear hU hlt' hu hv hol hgl hlt hj hn hUU u2 u1 u0 v1 v0 e2 e1 e0 f1 f0;obtain ⟨T,hT⟩:∃ T,x2*B9+x1=T:=⟨_,rfl⟩;obtain ⟨z2,hz2⟩:∃ z,x2*B9=z:=⟨_,rfl⟩;rw[hT] at hs
 have i1:(x2:Int)*1000000000=(z2:Int):=by unfold B9 at hz2;omega
 have i2:(z2:Int)+(x1:Int)=(T:Int):=by rw[hz2] at hT;omega
 have i3:(T:Int) < 1000000000000000000:=by unfold B9 at *;omega
 have i4:(z2:Int) < 1000000000000000000:=by unfold B9 at *;omega
 obtain ⟨g1,g2,g3,g4⟩:=divd T y1;obtain ⟨t0,ht0⟩:∃ z,T / y1=z:=⟨_,rfl⟩;obtain ⟨r0,hr0⟩:∃ z,T % y1=z:=⟨_,rfl⟩;rw[ht0,hr0] at hs;rw[ht0] at g1 g2;rw[hr0] at g3 g4;have ht:=hbd _ _ hs;have hr:=hrest _ _ hs
 have b1i:(x1:Int) < 1000000000:=by unfold B9 at x1b;omega
 have b2i:(x2:Int) < 1000000000:=by unfold B9 at x2b;omega
 have b0i:(x0:Int) < 1000000000:=by unfold B9 at x0b;omega
 have y1i:(y1:Int) < 1000000000:=by unfold B9 at y1b;omega
 have y0i:(y0:Int) < 1000000000:=by unfold B9 at y0b;omega
 have t0i:(t0:Int) < 2000000000:=by unfold B9 at ht;omega
 have r0i:(r0:Int) < 1000000000:=by unfold B9 at hr;omega
 have y1n:((y1:Int)==0)=false:=by simp;omega
 have y1m:(y1:Int)≠0:=by omega
 have y1p:(0:Int) < (y1:Int):=by omega
 clear hT hz2 ht0 hr0 ht hr x2b x1b hg0;have d1':=d1;have D1:=hid d1';have HS:=hid hs;have HBD:=hid hbd;have HPS:=hid hps;have HLS:=hid hls;have HREST:=hid hrest;have C0:=hid c0;have D0:=hid d0;have X0B:=hid x0b;have Y1B:=hid y1b;have Y0B:=hid y0b;clear d1' hs hbd hps hls hrest c0 d0 x0b y1b y0b;go_enter Tryz.func190,Tryz.ntmps190;go_wp2_with fail
 go_quiet (fail)
 go_wp2_with fail
 go_quiet (fail)
 clear c2 c1 d1 i1 i2 i3 i4 g1 g2 g3 g4 b1i b2i y1n y1m y1p;go_wp2_with fail;go_loopw [9,10] (fun st sr wr=>∃ t r:Nat,st=.int .i64 (t:Int)∧sr=.int .i64 (r:Int)∧(t:Int) < 2000000000∧(r:Int) < 1000000000∧Hid (GWay B9 U g k t r)∧Hid (New w wr)) (fun st _ _=>(intOf st).toNat)
 case atStart=>exact ⟨t0,r0,rfl,rfl,t0i,r0i,HS,hid (by (repeat first | with_reducible exact New.refl _ | with_reducible refine New.drewN ?_ _))⟩
 case round=>
  clear t0i r0i HS;obtain ⟨t,r,rfl,rfl,ti,ri,HG,HN⟩:=hrel;have hc0:=HN.out.cell C0.out;have hd0:=HN.out.cell D0.out;have hd1:=HN.out.cell D1.out;by_cases h1:B9≤t
  ·have h1i:(1000000000:Int)≤(t:Int):=by unfold B9 at h1;omega
   have h1b:decide ((1000000000:Int)≤(t:Int))=true:=decide_eq_true h1i;have hl:=HLS.out t r HG.out (.inl h1);obtain ⟨l1,l2,l3⟩:=hl
   have hs1:((t:Int) - 1)=((t - 1:Nat):Int):=by omega
   obtain ⟨t9,ht9⟩:∃ x,t - 1=x:=⟨_,rfl⟩
   have hmm:t9 < t:=by omega
   rw[ht9]at hs1 l2 l3
   have t9i:(t9:Int) < 2000000000:=by omega
   obtain ⟨r9,hr9⟩:∃ x,r+y1=x:=⟨_,rfl⟩
   have hs2:(r:Int)+(y1:Int)=(r9:Int):=by omega
   have hr9b:(r9:Int) < 2000000000:=by omega
   rw[hr9]at l2 l3;clear hr9 ht9 l1 h1;by_cases h3:B9≤r9
   ·have h3i:(1000000000:Int)≤(r9:Int):=by unfold B9 at h3;omega
    have h3b:decide ((1000000000:Int)≤(r9:Int))=true:=decide_eq_true h3i;have hp:=l3 h3;clear h3 l2 l3;have HP:=hid hp;have HMM:=hid hmm;clear hp hmm;go_wp2_with fail
    repeat (go_quiet (fail);go_wp2_with fail)
    go_ret;exact ⟨by (have hN:=HN.out;repeat first | with_reducible exact hN | with_reducible refine New.drewN ?_ _),_,rfl,HP.out⟩
   ·have h3i:¬(1000000000:Int)≤(r9:Int):=by unfold B9 at h3;omega
    have h3b:decide ((1000000000:Int)≤(r9:Int))=false:=decide_eq_false h3i
    have hr9c:(r9:Int) < 1000000000:=by omega
    have hp:=l2 (by omega);clear h3 l2 l3;have HP:=hid hp;have HMM:=hid hmm;clear hp hmm;go_wp2_with fail
    repeat (go_quiet (fail);go_wp2_with fail)
    go_roundw
    case rel=>exact ⟨t9,r9,rfl,rfl,t9i,hr9c,HP,hid (by (have hN:=HN.out;repeat first | with_reducible exact hN | with_reducible refine New.drewN ?_ _))⟩
    case measure=>simp[intOf];exact HMM.out
  ·have h1i:¬(1000000000:Int)≤(t:Int):=by unfold B9 at h1;omega
   have h1b:decide ((1000000000:Int)≤(t:Int))=false:=decide_eq_false h1i;obtain ⟨a,ha⟩:∃ a,t*y0=a:=⟨_,rfl⟩;obtain ⟨b,hb⟩:∃ b,r*B9=b:=⟨_,rfl⟩;obtain ⟨c,hc⟩:∃ c,b+x0=c:=⟨_,rfl⟩
   have a1:(t:Int)*(y0:Int)=(a:Int):=by rw[←ha,Int.natCast_mul]
   have a2:(r:Int)*1000000000=(b:Int):=by unfold B9 at hb;omega
   have a3:(b:Int)+(x0:Int)=(c:Int):=by omega
   have a4:a≤B9*B9:=by rw[←ha];exact Nat.mul_le_mul (by omega) (Nat.le_of_lt Y0B.out)
   have a5:(a:Int)≤1000000000000000000:=by unfold B9 at a4;omega
   have a6:(b:Int) < 1000000000000000000:=by unfold B9 at hb;omega
   have a7:(c:Int) < 1000000001000000000:=by omega
   by_cases h2:c < a
   ·have h2i:(c:Int) < (a:Int):=by omega
    have h2b:decide ((c:Int) < (a:Int))=true:=decide_eq_true h2i;have hl:=HLS.out t r HG.out (.inr (by rw[ha,hb,hc];exact h2));clear ha hb hc a4;obtain ⟨l1,l2,l3⟩:=hl
    have hs1:((t:Int) - 1)=((t - 1:Nat):Int):=by omega
    obtain ⟨t9,ht9⟩:∃ x,t - 1=x:=⟨_,rfl⟩
    have hmm:t9 < t:=by omega
    rw[ht9]at hs1 l2 l3
    have t9i:(t9:Int) < 2000000000:=by omega
    obtain ⟨r9,hr9⟩:∃ x,r+y1=x:=⟨_,rfl⟩
    have hs2:(r:Int)+(y1:Int)=(r9:Int):=by omega
    have hr9b:(r9:Int) < 2000000000:=by omega
    rw[hr9]at l2 l3;clear hr9 ht9 l1 h1;by_cases h3:B9≤r9
    ·have h3i:(1000000000:Int)≤(r9:Int):=by unfold B9 at h3;omega
     have h3b:decide ((1000000000:Int)≤(r9:Int))=true:=decide_eq_true h3i;have hp:=l3 h3;clear h3 l2 l3;have HP:=hid hp;have HMM:=hid hmm;clear hp hmm;go_wp2_with fail
     repeat (go_quiet (fail);go_wp2_with fail)
     go_ret;exact ⟨by (have hN:=HN.out;repeat first | with_reducible exact hN | with_reducible refine New.drewN ?_ _),_,rfl,HP.out⟩
    ·have h3i:¬(1000000000:Int)≤(r9:Int):=by unfold B9 at h3;omega
     have h3b:decide ((1000000000:Int)≤(r9:Int))=false:=decide_eq_false h3i
     have hr9c:(r9:Int) < 1000000000:=by omega
     have hp:=l2 (by omega);clear h3 l2 l3;have HP:=hid hp;have HMM:=hid hmm;clear hp hmm;go_wp2_with fail
     repeat (go_quiet (fail);go_wp2_with fail)
     go_roundw
     case rel=>exact ⟨t9,r9,rfl,rfl,t9i,hr9c,HP,hid (by (have hN:=HN.out;repeat first | with_reducible exact hN | with_reducible refine New.drewN ?_ _))⟩
     case measure=>simp[intOf];exact HMM.out
   ·have h2i:¬(c:Int) < (a:Int):=by omega
    have h2b:decide ((c:Int) < (a:Int))=false:=decide_eq_false h2i;have hp:=HPS.out t r HG.out (by omega) (by rw[ha,hb,hc];omega);clear ha hb hc a4 h1;have HP:=hid hp;clear hp;go_wp2_with fail
    go_quiet (fail)
    clear hc0 hd0 hd1;go_wp2_with fail;go_ret;exact ⟨by (have hN:=HN.out;repeat first | with_reducible exact hN | with_reducible refine New.drewN ?_ _),_,rfl,HP.out⟩
def RDivsPost (w:World)(q r:Nat)(e:Ending)(w':World):Prop:=∃ vq vr,e=.returned (.tuple #[vq,vr])∧New w w'∧IsD w' vq q∧IsD w' vr r
theorem isD_nil (w:World):IsD w (.slice none 0 0) 0:=⟨0,fun _=>0,⟨⟨none,0,⟨rfl,Nat.le_refl _,Nat.zero_le _,fun _=>rfl⟩,Rd.zero _ _ _ _,fun i hi=>by omega⟩,fun h=>absurd rfl h⟩,rfl⟩
theorem dgn_one (w:World)(t:TypeId)(d:Nat)(hd:d < B9):DgN (w.alloc (.cells #[.int .i64 (d:Int)] t)) (.slice (some ⟨w.heap.size,0,none⟩) 1 1) 1 (fun _=>d):=
 ⟨_,1,⟨rfl,Nat.le_refl _,by unfold maxLen;omega,fun h=>by cases h⟩,fun i hi=>⟨w.heap.size,0,rfl,by
  obtain rfl:i=0:=by omega
  exact (Box.alloc w w.heap.size t _ rfl).cell 0⟩,fun i _=>hd⟩
theorem isD_one (w:World)(t:TypeId)(d:Nat)(hd:d < B9)(h0:d≠0):IsD (w.alloc (.cells #[.int .i64 (d:Int)] t)) (.slice (some ⟨w.heap.size,0,none⟩) 1 1) d:=
 ⟨1,fun _=>d,⟨dgn_one w t d hd,fun _=>h0⟩,by simp[vf]⟩
theorem rdivs_less (K:Nat)(va vb:Value)(x y:Nat)(w:World)(ha:IsD w va x)(hb:IsD w vb y)(hK:K≤90000)(hx:x < B9^K)(hy:y < B9^K)(hlt:x < y):
  Calls Tryz.prog 146 #[va,vb] w (RDivsPost w 0 x):=by
 have hA:=ha;obtain ⟨n,f,hf,hfv⟩:=ha;obtain ⟨m,g,hg,hgv⟩:=hb;have hn:=len_le hf.canon hfv hx;have hm:=len_le hg.canon hgv hy;have hcmp:=rcompare_calls va vb n m f g w hf hg (by omega) (by omega)
 have hc:cmpNat x y= -1:=by unfold cmpNat;rw[if_pos hlt]
 rw[hfv,hgv,hc]at hcmp;obtain ⟨⟨a,cap,⟨rfl, -⟩, -⟩, -⟩:=hf;obtain ⟨⟨a',cap',⟨rfl, -⟩, -⟩, -⟩:=hg;clear hfv hgv hn hm hx hy hK hc hlt;have HCMP:=hid hcmp;have HA:=hid hA;clear hcmp hA;go_enter Tryz.func146,Tryz.ntmps146;go_wp2_with fail;refine HCMP.out.mono ?_;rintro e w1 ⟨hn,rfl⟩;have HN:=hid hn;clear hn;go_wp2_with fail;go_ret2;exact ⟨_,_,rfl,HN.out,isD_nil _,HA.out.new HN.out⟩
theorem rdivs_one (K:Nat)(va vb:Value)(x y:Nat)(w:World)(ha:IsD w va x)(hb:IsD w vb y)(hK:K≤90000)(hx:x < B9^K)(hy:y < B9)(hy0:0 < y)(hle:y≤x):
  Calls Tryz.prog 146 #[va,vb] w (RDivsPost w (x / y) (x % y)):=by
 have hdv:=fun W (hW:New w W)=>rdivd_calls K va x y W (ha.new hW) (by omega) hx hy0 hy;obtain ⟨n,f,hf,hfv⟩:=ha;obtain ⟨m,g,hg,hgv⟩:=hb;have hn:=len_le hf.canon hfv hx;have hm:=len_le (K:=1) hg.canon hgv (by rw[Nat.pow_one];exact hy)
 have hm1:m=1:=by
  rcases Nat.eq_zero_or_pos m with h | h
  ·subst h;rw[vf_zero] at hgv;omega
  ·omega
 have hcmp:=rcompare_calls va vb n m f g w hf hg (by omega) (by omega)
 have hc:0≤cmpNat x y:=by unfold cmpNat;rw[if_neg (by omega)];split <;> omega
 rw[hfv,hgv]at hcmp;obtain ⟨c,hcc⟩:∃ c,cmpNat x y=c:=⟨_,rfl⟩;rw[hcc] at hc hcmp
 have hcn:¬c < 0:=by omega
 have hcd:decide (c < 0)=false:=decide_eq_false hcn;clear hc;subst hm1
 have hg0:g 0=y:=by rw[←hgv];simp[vf]
 obtain ⟨⟨a,cap,⟨rfl, -⟩, -⟩, -⟩:=hf;obtain ⟨⟨a',cap',⟨rfl, -⟩,hr, -⟩, -⟩:=hg;obtain ⟨b1,o1,rfl,hcell⟩:=hr 0 (by omega);rw[hg0,Nat.add_zero] at hcell;have hr9:x % y < B9:=Nat.lt_trans (Nat.mod_lt _ hy0) hy
 have hyi:(y:Int) < 1000000000:=by unfold B9 at hy;omega
 clear hfv hgv hn hm hx hK hle hr hcc hg0 hy;obtain ⟨q,hq⟩:∃ q,x / y=q:=⟨_,rfl⟩;obtain ⟨r,hr⟩:∃ q,x % y=q:=⟨_,rfl⟩;rw[hr] at hr9;simp only[hq,hr] at hdv;rw[hq,hr];clear hq hr hy0;have HCMP:=hid hcmp;have HDV:=hid hdv;have HC:=hid hcell;have HR9:=hid hr9;clear hcmp hdv hcell hr9;go_enter Tryz.func146,Tryz.ntmps146;go_wp2_with fail;refine HCMP.out.mono ?_;rintro e w1 ⟨hn,rfl⟩;have hcell:=hn.cell HC.out;have HN:=hid hn;clear hn;go_wp2_with fail;refine (HDV.out _ HN.out).mono ?_;rintro e w2 ⟨vq,rfl,hn,hq⟩;obtain ⟨a3,n3,c3,rfl⟩:=hq.shape;have hN:=HN.out.trans hn;clear HN hn hcell;have hN2:=hN.alloc (.cells #[.int .i64 (r:Int)] 3);have hq2:=hq.new ((New.refl w2).alloc (.cells #[.int .i64 (r:Int)] 3));have htr:=rtrim_calls _ 1 (fun _=>r) _ (dgn_one w2 3 r HR9.out);have HTR:=hid htr;have HN:=hid hN2;have HQ:=hid hq2;clear htr hN2 hq2;clear hN hq;go_wp2_with fail;refine HTR.out.mono ?_;rintro e w3 ⟨hw,v3,n3,rfl, -,hd,hv⟩;rw[←hw];have hdd:IsD _ v3 r:=⟨n3,_,hd,by rw[hv];simp[vf]⟩;obtain ⟨a5,n5,c5,rfl⟩:=hdd.shape;clear hw hd hv;have HDD:=hid hdd;clear hdd;go_wp2_with fail;go_ret2;exact ⟨_,_,rfl,HN.out,HQ.out,HDD.out⟩
def RowZ (w:World)(b:Nat)(t:TypeId)(n:Nat)(f:Nat→Int):Prop:=
 ∃ c:Array Value,w.heap[b]?=some (.cells c t (0,0))∧n≤c.size∧∀ i,i < n→c[i]?=some (.int .i64 (f i))
def updZ (f:Nat→Int)(k:Nat)(z:Int):Nat→Int:=fun i=>if i=k then z else f i
theorem updZ_same (f:Nat→Int)(k:Nat)(z:Int):updZ f k z k=z:=by simp[updZ]
theorem updZ_other (f:Nat→Int){k i:Nat}(z:Int)(h:i≠k):updZ f k z i=f i:=by simp[updZ,h]
section
variable {w w':World} {b:Nat} {t:TypeId} {n:Nat} {f:Nat→Int}
theorem RowZ.cell (h:RowZ w b t n f){i:Nat}(hi:i < n):w.cell? ⟨b,i,none⟩=some (.int .i64 (f i)):=by
 obtain ⟨c,hb,_,hc⟩:=h;simp[World.cell?,hb,hc i hi]
theorem RowZ.frozen (h:RowZ w b t n f)(i:Nat):w.frozen? ⟨b,i,none⟩=false:=by
 obtain ⟨c,hb,_⟩:=h;simp[World.frozen?,hb]
theorem RowZ.lt (h:RowZ w b t n f):b < w.heap.size:=by
 obtain ⟨c,hb,_⟩:=h;rcases Nat.lt_or_ge b w.heap.size with h1 | h1
 ·exact h1
 ·rw[Array.getElem?_eq_none h1] at hb;cases hb
theorem RowZ.of_block (h:RowZ w b t n f)(e:w'.heap[b]?=w.heap[b]?):RowZ w' b t n f:=by
 obtain ⟨c,hb,h1⟩:=h;exact ⟨c,by rw[e,hb],h1⟩
theorem RowZ.new (h:RowZ w b t n f)(hn:New w w'):RowZ w' b t n f:=h.of_block (Below.block hn b h.lt)
theorem RowZ.drewN (h:RowZ w b t n f)(m:Nat):RowZ (w.drewN m) b t n f:=h
theorem RowZ.set (h:RowZ w b t n f)(i:Nat)(z:Int):RowZ (w.setCell ⟨b,i,none⟩ (.int .i64 z)) b t n (updZ f i z):=by
 obtain ⟨c,hb,hs,hc⟩:=h;refine ⟨c.setIfInBounds i (.int .i64 z),?_,by simpa using hs,fun j hj=>?_⟩
 ·simp[World.setCell,Array.getElem?_modify,hb]
 ·rw[Array.getElem?_setIfInBounds];unfold updZ;by_cases e:i=j
  ·subst e;rw[if_pos rfl,if_pos (by omega),if_pos rfl]
  ·rw[if_neg e,if_neg (fun h=>e h.symm)];exact hc j hj
theorem RowZ.other (h:RowZ w b t n f){p:Addr}(hp:b≠p.block)(u:Value):RowZ (w.setCell p u) b t n f:=by
 obtain ⟨c,hb,h1⟩:=h;refine ⟨c,?_,h1⟩;simp[World.setCell,Array.getElem?_modify,hb,Ne.symm hp]
theorem RowZ.congr (h:RowZ w b t n f){g:Nat→Int}(e:∀ i,i < n→f i=g i):RowZ w b t n g:=by
 obtain ⟨c,hb,hs,hc⟩:=h;exact ⟨c,hb,hs,fun i hi=>by rw[hc i hi,e i hi]⟩
theorem RowZ.le (h:RowZ w b t n f){m:Nat}(hm:m≤n):RowZ w b t m f:=by
 obtain ⟨c,hb,hs,hc⟩:=h;exact ⟨c,hb,by omega,fun i hi=>hc i (by omega)⟩
theorem RowZ.rd {o:Nat→Nat}(h:RowZ w b t n fun i=>(o i:Int)):Rd w (some ⟨b,0,none⟩) .i64 n o:=fun i hi=>⟨b,0,rfl,by
 have:=h.cell hi
 simpa using this⟩
theorem Row.z {o:Nat→Nat}(h:Row w b t .i64 n o):RowZ w b t n fun i=>(o i:Int):=by
 obtain ⟨c,hb,hs,hc⟩:=h;exact ⟨c,hb,by omega,hc⟩
theorem RowZ.of_own {base:Nat}{v:Value}{xs:List Value}{o:Nat→Nat}(h:w.ownsRow base t 1 v n xs)(h0:0 < n)(hx:∀ i,i < n→xs[i]?=some (.int .i64 (o i:Int))):
  ∃ g cap,v=.slice (some ⟨g,0,none⟩) n cap∧base≤g∧n≤cap∧cap≤maxLen∧RowZ w g t n fun i=>(o i:Int):=by
 rcases h.2 with ⟨_,h1⟩ | ⟨g,cap,cur,e,hb,hc,h2,h3,h4,h5⟩
 ·omega
 ·refine ⟨g,cap,e,hb,h2,h3,cur,hc,by omega,fun i hi=>?_⟩;have:=hx i hi;rw[←h5,Nat.mul_one,List.getElem?_take_of_lt hi] at this;simpa using this
end
theorem updZ_cast (o:Nat→Nat)(k v:Nat):updZ (fun i=>(o i:Int)) k (v:Int)=fun i=>((upd o k v i:Nat):Int):=by
 funext i;unfold updZ upd;split <;> rfl
section
variable {B m k mq j A V t c n2:Nat} {gv o p qf:Nat→Nat}
theorem step_fit (D:Dv B m k mq (j+1) A V gv o qf) (hn2:k+2=n2) (fit:GFit B (fun a=>o (j+a)) gv k t) (hV:vf B gv n2=V) (hVW:V≤B^(k+2)) (hm:m+1=mq+(k+2)) (hj:j < mq) (hp:∀ i,p i < B)
  (hout:∀ a,(a < j∨j+n2≤a)→p a=o a) (hval:vf B (fun a=>p (j+a)) n2+t*vf B gv n2=vf B (fun a=>o (j+a)) n2+c*B^n2) (hc:c≤o (j+n2)):
  Dv B m k mq j A V gv (upd p (j+n2) (o (j+n2) - c)) (upd qf j t):=by
 subst hn2;have h1:=msubB_last (B:=B) (p:=p) (u:=fun a=>o (j+a)) (j:=j) (n:=k+2) (c:=c) (d:=o (j+(k+2)) - c) (b':=0) (t:=t) (V:=V) (by rw[←hV];exact hval) (by show _=o (j+(k+2))+B*0;omega);rw[Nat.zero_mul,Nat.add_zero] at h1;have hge:=fit.ge;rw[hV] at hge;refine D.step hm hj hVW fit.hh (fun i=>?_) (fun i hi=>?_) h1 (msub_ok h1 hge)
 ·unfold upd;split
  ·exact Nat.lt_of_le_of_lt (Nat.sub_le _ _) (D.ol _)
  ·exact hp i
 ·rw[upd_other _ _ (by omega)];exact hout i (by omega)
theorem step_pos (_hB:0 < B)(hp:∀ i,p i < B)(hval:vf B (fun a=>p (j+a)) n2+t*vf B gv n2=vf B (fun a=>o (j+a)) n2+c*B^n2)(hc:0 < c):0 < t:=by
 rcases Nat.eq_zero_or_pos t with h | h
 ·exfalso;subst h;have h1:vf B (fun a=>p (j+a)) n2 < B^n2:=vf_lt fun i _=>hp _;have h2:=Nat.mul_le_mul_right (B^n2) hc;rw[Nat.succ_eq_add_one,Nat.zero_add,Nat.one_mul] at h2;omega
 ·exact h
theorem rstep_back {p2:Nat→Nat} {cc:Nat} (D:Dv B m k mq (j+1) A V gv o qf) (hB:0 < B) (hn2:k+2=n2) (fit:GFit B (fun a=>o (j+a)) gv k t) (hV:vf B gv n2=V) (hVW:V≤B^(k+2)) (hm:m+1=mq+(k+2)) (hj:j < mq)
  (hp:∀ i,p i < B) (hp2:∀ i,p2 i < B) (hout:∀ a,(a < j∨j+n2≤a)→p a=o a) (hout2:∀ a,(a < j∨j+n2≤a)→p2 a=p a)
  (hval:vf B (fun a=>p (j+a)) n2+t*vf B gv n2=vf B (fun a=>o (j+a)) n2+c*B^n2) (hc:o (j+n2) < c)
  (hval2:vf B (fun a=>p2 (j+a)) n2+cc*B^n2=vf B (fun a=>p (j+a)) n2+vf B gv n2) (hcc:cc≤1):
  c=o (j+n2)+cc∧Dv B m k mq j A V gv (upd p2 (j+n2) 0) (upd qf j (t - 1)):=by
 subst hn2;have hP:=vf_lt (B:=B) (f:=fun a=>p (j+a)) (n:=k+2) fun i _=>hp _;have hP2:=vf_lt (B:=B) (f:=fun a=>p2 (j+a)) (n:=k+2) fun i _=>hp2 _;have hle:=fit.le;rw[hV] at hle hval hval2;obtain ⟨h1,h2,h3,h4⟩:=back_done (P:=B^(k+2)) (U:=vf B (fun a=>o (j+a)) (k+3)) (e:=c - o (j+(k+2))) (un:=o (j+(k+2))) hval (vf_succ _ _ _) (by omega) (by omega) hval2 hP hP2 hVW hcc hle;refine ⟨by omega,?_⟩
 have e1:vf B (fun x=>upd p2 (j+(k+2)) 0 (j+x)) (k+3)=vf B (fun a=>p2 (j+a)) (k+2):=by
  rw[vf_succ,upd_same,Nat.zero_mul,Nat.add_zero];exact vf_congr fun x hx=>upd_other _ _ (by omega)
 refine D.step hm hj hVW (Nat.lt_of_le_of_lt (Nat.sub_le _ _) fit.hh) (fun i=>?_) (fun i hi=>?_) (by rw[e1];exact h3) (by rw[e1];exact h4)
 ·unfold upd;split
  ·exact hB
  ·exact hp2 i
 ·rw[upd_other _ _ (by omega),hout2 i (by omega)];exact hout i (by omega)
end
end Go.Proofs.YtbkcjmojgglbkaaGreatDoor
