/- Part B20. -/
import Derived.Lib.IndexBytes
import Derived.Test.YtnjonlnemagomaaGreatDoorB19
namespace Go.Proofs.YtnjonlnemagomaaGreatDoor
open Go.RowKit Big Go.Lib
set_option maxRecDepth 100000
set_option maxHeartbeats 8000000
theorem y7w {t:List UInt8}{k D:Nat}{o:Nat->Nat}(h9:9 < t.length)(ht:∀ c∈t,y0z c=true)(h:vf B9 o k+dval 0 t*B9^k=D):
  dval 0 (t.drop (t.length - 9)) < B9/\vf B9 (upd o k (dval 0 (t.drop (t.length - 9)))) (k+1)+dval 0 (t.take (t.length - 9))*B9^(k+1)=D:=by
 have hl:(t.drop (t.length - 9)).length=9:=by rw[List.length_drop];omega
 have h1:=y4g (l:=t.drop (t.length - 9)) fun c hc=>ht c (List.mem_of_mem_drop hc);rw[hl] at h1
 have h2:dval 0 t=dval 0 (t.take (t.length - 9))*10^9+dval 0 (t.drop (t.length - 9)):=by
  conv=>lhs;rw[<-List.take_append_drop (t.length - 9) t]
  rw[y4f,ygg,hl]
 refine ⟨h1,?_⟩;rw[y03,upd_same,y0o (Nat.le_refl _),Nat.pow_succ,<-h,h2];generalize B9^k=P;generalize dval 0 (t.take (t.length - 9))=a;generalize dval 0 (t.drop (t.length - 9))=b;show vf B9 o k+b*P+a*(P*1000000000)=vf B9 o k+(a*1000000000+b)*P;rw[Nat.add_mul,Nat.mul_right_comm a,Nat.mul_assoc a];omega
theorem y4a (s:ByteArray)(d:List UInt8)(w:World)(hs:s.data.toList=d)(hd:∀ c∈d,y0z c=true)(hl:d.length<=100000):
  Calls Tryz.prog 170 #[.string s] w (RetZ w (sgnd false (dval 0 d))):=by
 obtain ⟨i0,hi0,hz0,hz1,hz2⟩:=info_parts y3b;obtain ⟨D,hD⟩:∃ D,dval 0 d=D:=⟨_,rfl⟩;rw[hD];subst hs
 have hsz0:s.size<=100000:=by simpa using hl
 have hv0:vf B9 (fun _=>0) 0+dval 0 s.data.toList*B9^0=D:=by rw[y14,Nat.pow_zero,Nat.mul_one,Nat.zero_add];exact hD
 have hs0:Hid (∀ c∈s.data.toList,y0z c=true):=hid hd;by_cases h0:0 < s.size
 ·have hc1:=y2h.1 (hd (s[0]'h0) (by
   have:s[0]'h0=s.data.toList[0]'(by simpa using h0):=rfl;rw[this]
   exact List.getElem_mem _))
  have hc:¬((s[0]'h0).toNat:Int)=45:=by omega
  have hcb:(((s[0]'h0).toNat:Int)==45)=false:=beq_eq_false_iff_ne.2 hc;clear hc1 hd hl hD;have HV0:=hid hv0;have HS0:=hid hs0;clear hv0 hs0;go_enter Tryz.func170,Tryz.ntmps170;go_wp2_with fail;obtain ⟨BP,HN⟩:=lay1 w 124 #[.bool false,.slice none 0 0];obtain ⟨w0,hw0⟩:∃ x,w.alloc (.cells #[.bool false,.slice none 0 0] 124)=x:=⟨_,rfl⟩;rw[hw0] at HN BP⊢;clear hw0;have HN0:=HN;clear HN;go_loopw [0,4] (fun ss v wr=>∃ (tb:ByteArray) (k:Nat) (o:Nat->Nat),ss=.string tb/\k+tb.size<=100000/\Hid (∀ c∈tb.data.toList,y0z c=true)/\Hid (wr.ownsRow w0.heap.size 3 1 v k (ds o k))/\Hid (New w0 wr)/\Hid (∀ j,o j < B9)/\Hid (vf B9 o k+dval 0 tb.data.toList*B9^k=D)) (fun ss _ _=>lenS ss)
  case atStart=>exact ⟨s,0,fun _=>0,rfl,by omega,HS0.out,hid (World.ownsRow_nil _ _ _ _),hid (New.refl _),hid (fun _=>Nat.zero_lt_succ _),HV0⟩
  case round=>
   clear HS0;obtain ⟨tb,k,o,rfl,hsz,HT,HO,HN,HB,HV⟩:=hrel
   have htl:tb.data.toList.length=tb.size:=by simp
   by_cases h9:9 < tb.size
   ·have hst:=y7w (o:=o) (k:=k) (D:=D) (by rw[htl];exact h9) HT.out HV.out;rw[htl] at hst;have e1:(tb.extract (tb.size - 9) tb.size).data.toList=tb.data.toList.drop (tb.size - 9):=Lib.extract_to_end _ _
    have e2:(tb.extract 0 (tb.size - 9)).data.toList=tb.data.toList.take (tb.size - 9):=by rw[Lib.extract_data];rfl
    have hx:∀ c∈tb.data.toList.drop (tb.size - 9),y0z c=true:=fun c hc=>HT.out c (List.mem_of_mem_drop hc);have hva:=fun W=>y37 (tb.extract (tb.size - 9) tb.size) _ W e1 hx (by rw[List.length_drop,htl];omega);obtain ⟨x,hxx⟩:∃ x,dval 0 (tb.data.toList.drop (tb.size - 9))=x:=⟨_,rfl⟩;simp only[hxx] at hva hst;obtain ⟨hx9,hst⟩:=hst;have ht2:∀ c∈(tb.extract 0 (tb.size - 9)).data.toList,y0z c=true:=fun c hc=>HT.out c (by rw[e2] at hc;exact List.mem_of_mem_take hc);rw[<-e2] at hst;have hdn:=y6j (k:=k) HB.out hx9
    have hx9i:(x:Int) < 1000000000:=by unfold B9 at hx9;omega
    have h9i:(9:Int) < (tb.size:Int):=by omega
    have hk63:k+1<=maxLen:=by unfold maxLen;omega
    have hk47:(k+1)*8<=140737488355328:=by omega
    have hs2:k+1+(tb.extract 0 (tb.size - 9)).size<=100000:=by simp;omega
    have hs3:(tb.extract 0 (tb.size - 9)).size < tb.size:=by simp;omega
    clear hx9 hxx e1 e2 hx htl;have HVA:=hid hva;have HST:=hid hst;have HT2:=hid ht2;have HDN:=hid hdn;have HK63:=hid hk63;have HK47:=hid hk47;have HS2:=hid hs2;have HS3:=hid hs3;clear hva hst ht2 hdn hk63 hk47 hs2 hs3;go_wp2_with fail;refine (HVA.out _).mono ?_;rintro e w1 ⟨rfl,hw1⟩;rw[hw1];clear hw1;go_wp2_with (at_builtin;refine wpList_append_own _ rfl _ _ 24 rfl w0.heap.size 3 i0 (.int .i64 0) 1 8 Tryz.underlying24 hi0 hz0 hz1 hz2 rfl (by decide) _ _ _ rfl (HO.out.alloc _) ⟨wr.heap.size,0,none⟩ 1 1 [.int .i64 (x:Int)] rfl rfl (y3i _ _ _) (y4m _) HK63.out HK47.out (by have:=HN.out.size;rw[<-size_alloc];omega) ?_);intro v' w9 hown' hgrow _;have hN1:=y11 HN.out HO.out hgrow;rw[<-y4b] at hown';clear hgrow;have HN1:=hid hN1;have HO1:=hid hown';clear hN1 hown';go_wp2_with fail;go_roundw
    case rel=>exact ⟨_,k+1,upd o k x,rfl,HS2.out,HT2,HO1,HN1,HDN,HST⟩
    case measure=>exact HS3.out
   ·have h9i:¬(9:Int) < (tb.size:Int):=by omega
    have hva:=fun W=>y37 tb _ W rfl HT.out (by rw[htl];omega);obtain ⟨x,hxx⟩:∃ x,dval 0 tb.data.toList=x:=⟨_,rfl⟩
    have hx9:x < B9:=by
     have h1:=y4g HT.out;rw[hxx,htl] at h1;have h2:=Nat.pow_le_pow_right (n:=10) (by omega) (show tb.size<=9 by omega);unfold B9;omega
    have hv:=HV.out;simp only[hxx] at hva hv
    have hvv:vf B9 (upd o k x) (k+1)=D:=by rw[y03,upd_same,y0o (Nat.le_refl _),hv]
    have hdn:=y6j (k:=k) HB.out hx9
    have hk63:k+1<=maxLen:=by unfold maxLen;omega
    have hk47:(k+1)*8<=140737488355328:=by omega
    clear hx9 hxx hv htl;have HVA:=hid hva;have HVV:=hid hvv;have HDN:=hid hdn;have HK63:=hid hk63;have HK47:=hid hk47;clear hva hvv hdn hk63 hk47;go_wp2_with fail;refine (HVA.out _).mono ?_;rintro e w1 ⟨rfl,hw1⟩;rw[hw1];clear hw1;go_wp2_with (at_builtin;refine wpList_append_own _ rfl _ _ 24 rfl w0.heap.size 3 i0 (.int .i64 0) 1 8 Tryz.underlying24 hi0 hz0 hz1 hz2 rfl (by decide) _ _ _ rfl (HO.out.alloc _) ⟨wr.heap.size,0,none⟩ 1 1 [.int .i64 (x:Int)] rfl rfl (y3i _ _ _) (y4m _) HK63.out HK47.out (by have:=HN.out.size;rw[<-size_alloc];omega) ?_);intro v' w9 hown' hgrow _;have hN1:=y11 HN.out HO.out hgrow;rw[<-y4b] at hown';have hdg:=y7p hown' fun i _=>HDN.out i;have hsg:=y1l false _ D _ ⟨_,_,hdg,HVV.out⟩;clear hgrow hdg hown';replace BP:=bW BP hN1;have HN_:=HN0.out.trans hN1;clear HN HN0 hN1;have HN:=hid HN_;have HSG:=hid hsg;clear HN_ hsg;go_wp2_with fail;refine HSG.out.mono ?_;rintro e w2 ⟨v2,rfl,hn,hz⟩;obtain ⟨b9,a9,l9,c9,rfl⟩:=hz.shape;have HZ:=hid hz;clear hz;replace BP:=bW BP hn;replace HN:=tW HN hn;clear hn;obtain ⟨p0,p1,p2,p3,p4⟩:=BP.out.two;go_wp2_with fail;refine bodyPost_ret (v:=.agg #[.bool b9,.slice a9 l9 c9]) (by simp[results,Tryz.results170,go_sem,p0,p1]) rfl ?_;exact y8j HN.out BP.out (by omega) HZ.out
 ·have hz:s.size=0:=by omega
  clear hd hl hD;have HV0:=hid hv0;have HS0:=hid hs0;clear hv0 hs0;go_enter Tryz.func170,Tryz.ntmps170;go_wp2_with fail;obtain ⟨BP,HN⟩:=lay1 w 124 #[.bool false,.slice none 0 0];obtain ⟨w0,hw0⟩:∃ x,w.alloc (.cells #[.bool false,.slice none 0 0] 124)=x:=⟨_,rfl⟩;rw[hw0] at HN BP⊢;clear hw0;have HN0:=HN;clear HN;go_loopw [0,4] (fun ss v wr=>∃ (tb:ByteArray) (k:Nat) (o:Nat->Nat),ss=.string tb/\k+tb.size<=100000/\Hid (∀ c∈tb.data.toList,y0z c=true)/\Hid (wr.ownsRow w0.heap.size 3 1 v k (ds o k))/\Hid (New w0 wr)/\Hid (∀ j,o j < B9)/\Hid (vf B9 o k+dval 0 tb.data.toList*B9^k=D)) (fun ss _ _=>lenS ss)
  case atStart=>exact ⟨s,0,fun _=>0,rfl,by omega,HS0.out,hid (World.ownsRow_nil _ _ _ _),hid (New.refl _),hid (fun _=>Nat.zero_lt_succ _),HV0⟩
  case round=>
   clear HS0;obtain ⟨tb,k,o,rfl,hsz,HT,HO,HN,HB,HV⟩:=hrel
   have htl:tb.data.toList.length=tb.size:=by simp
   by_cases h9:9 < tb.size
   ·have hst:=y7w (o:=o) (k:=k) (D:=D) (by rw[htl];exact h9) HT.out HV.out;rw[htl] at hst;have e1:(tb.extract (tb.size - 9) tb.size).data.toList=tb.data.toList.drop (tb.size - 9):=Lib.extract_to_end _ _
    have e2:(tb.extract 0 (tb.size - 9)).data.toList=tb.data.toList.take (tb.size - 9):=by rw[Lib.extract_data];rfl
    have hx:∀ c∈tb.data.toList.drop (tb.size - 9),y0z c=true:=fun c hc=>HT.out c (List.mem_of_mem_drop hc);have hva:=fun W=>y37 (tb.extract (tb.size - 9) tb.size) _ W e1 hx (by rw[List.length_drop,htl];omega);obtain ⟨x,hxx⟩:∃ x,dval 0 (tb.data.toList.drop (tb.size - 9))=x:=⟨_,rfl⟩;simp only[hxx] at hva hst;obtain ⟨hx9,hst⟩:=hst;have ht2:∀ c∈(tb.extract 0 (tb.size - 9)).data.toList,y0z c=true:=fun c hc=>HT.out c (by rw[e2] at hc;exact List.mem_of_mem_take hc);rw[<-e2] at hst;have hdn:=y6j (k:=k) HB.out hx9
    have hx9i:(x:Int) < 1000000000:=by unfold B9 at hx9;omega
    have h9i:(9:Int) < (tb.size:Int):=by omega
    have hk63:k+1<=maxLen:=by unfold maxLen;omega
    have hk47:(k+1)*8<=140737488355328:=by omega
    have hs2:k+1+(tb.extract 0 (tb.size - 9)).size<=100000:=by simp;omega
    have hs3:(tb.extract 0 (tb.size - 9)).size < tb.size:=by simp;omega
    clear hx9 hxx e1 e2 hx htl;have HVA:=hid hva;have HST:=hid hst;have HT2:=hid ht2;have HDN:=hid hdn;have HK63:=hid hk63;have HK47:=hid hk47;have HS2:=hid hs2;have HS3:=hid hs3;clear hva hst ht2 hdn hk63 hk47 hs2 hs3;go_wp2_with fail;refine (HVA.out _).mono ?_;rintro e w1 ⟨rfl,hw1⟩;rw[hw1];clear hw1;go_wp2_with (at_builtin;refine wpList_append_own _ rfl _ _ 24 rfl w0.heap.size 3 i0 (.int .i64 0) 1 8 Tryz.underlying24 hi0 hz0 hz1 hz2 rfl (by decide) _ _ _ rfl (HO.out.alloc _) ⟨wr.heap.size,0,none⟩ 1 1 [.int .i64 (x:Int)] rfl rfl (y3i _ _ _) (y4m _) HK63.out HK47.out (by have:=HN.out.size;rw[<-size_alloc];omega) ?_);intro v' w9 hown' hgrow _;have hN1:=y11 HN.out HO.out hgrow;rw[<-y4b] at hown';clear hgrow;have HN1:=hid hN1;have HO1:=hid hown';clear hN1 hown';go_wp2_with fail;go_roundw
    case rel=>exact ⟨_,k+1,upd o k x,rfl,HS2.out,HT2,HO1,HN1,HDN,HST⟩
    case measure=>exact HS3.out
   ·have h9i:¬(9:Int) < (tb.size:Int):=by omega
    have hva:=fun W=>y37 tb _ W rfl HT.out (by rw[htl];omega);obtain ⟨x,hxx⟩:∃ x,dval 0 tb.data.toList=x:=⟨_,rfl⟩
    have hx9:x < B9:=by
     have h1:=y4g HT.out;rw[hxx,htl] at h1;have h2:=Nat.pow_le_pow_right (n:=10) (by omega) (show tb.size<=9 by omega);unfold B9;omega
    have hv:=HV.out;simp only[hxx] at hva hv
    have hvv:vf B9 (upd o k x) (k+1)=D:=by rw[y03,upd_same,y0o (Nat.le_refl _),hv]
    have hdn:=y6j (k:=k) HB.out hx9
    have hk63:k+1<=maxLen:=by unfold maxLen;omega
    have hk47:(k+1)*8<=140737488355328:=by omega
    clear hx9 hxx hv htl;have HVA:=hid hva;have HVV:=hid hvv;have HDN:=hid hdn;have HK63:=hid hk63;have HK47:=hid hk47;clear hva hvv hdn hk63 hk47;go_wp2_with fail;refine (HVA.out _).mono ?_;rintro e w1 ⟨rfl,hw1⟩;rw[hw1];clear hw1;go_wp2_with (at_builtin;refine wpList_append_own _ rfl _ _ 24 rfl w0.heap.size 3 i0 (.int .i64 0) 1 8 Tryz.underlying24 hi0 hz0 hz1 hz2 rfl (by decide) _ _ _ rfl (HO.out.alloc _) ⟨wr.heap.size,0,none⟩ 1 1 [.int .i64 (x:Int)] rfl rfl (y3i _ _ _) (y4m _) HK63.out HK47.out (by have:=HN.out.size;rw[<-size_alloc];omega) ?_);intro v' w9 hown' hgrow _;have hN1:=y11 HN.out HO.out hgrow;rw[<-y4b] at hown';have hdg:=y7p hown' fun i _=>HDN.out i;have hsg:=y1l false _ D _ ⟨_,_,hdg,HVV.out⟩;clear hgrow hdg hown';replace BP:=bW BP hN1;have HN_:=HN0.out.trans hN1;clear HN HN0 hN1;have HN:=hid HN_;have HSG:=hid hsg;clear HN_ hsg;go_wp2_with fail;refine HSG.out.mono ?_;rintro e w2 ⟨v2,rfl,hn,hz⟩;obtain ⟨b9,a9,l9,c9,rfl⟩:=hz.shape;have HZ:=hid hz;clear hz;replace BP:=bW BP hn;replace HN:=tW HN hn;clear hn;obtain ⟨p0,p1,p2,p3,p4⟩:=BP.out.two;go_wp2_with fail;refine bodyPost_ret (v:=.agg #[.bool b9,.slice a9 l9 c9]) (by simp[results,Tryz.results170,go_sem,p0,p1]) rfl ?_;exact y8j HN.out BP.out (by omega) HZ.out
theorem yhj (s:ByteArray)(d:List UInt8)(w:World)(hs:s.data.toList=45::d)(hd:∀ c∈d,y0z c=true)(hl:d.length<=100000):
  Calls Tryz.prog 170 #[.string s] w (RetZ w (sgnd true (dval 0 d))):=by
 obtain ⟨i0,hi0,hz0,hz1,hz2⟩:=info_parts y3b;obtain ⟨D,hD⟩:∃ D,dval 0 d=D:=⟨_,rfl⟩;rw[hD]
 have hln:s.data.toList.length=s.size:=by simp
 rw[hs]at hln
 have hsz0:s.size<=100001:=by rw[List.length_cons] at hln;omega
 have h0:0 < s.size:=by rw[List.length_cons] at hln;omega
 have hx1:(s.extract 1 s.size).data.toList=d:=by rw[Lib.extract_to_end,hs];rfl
 have hxs:(s.extract 1 s.size).size=s.size - 1:=by simp
 have hc:((s[0]'h0).toNat:Int)=45:=by
  have:s[0]'h0=s.data.toList[0]'(by simpa using h0):=rfl;rw[this]
  have:s.data.toList[0]?=some 45:=by rw[hs];rfl
  rw[List.getElem?_eq_getElem (by simpa using h0)]at this;rw[Option.some.inj this];rfl
 have hcb:(((s[0]'h0).toNat:Int)==45)=true:=beq_iff_eq.2 hc
 have hv0:vf B9 (fun _=>0) 0+dval 0 (s.extract 1 s.size).data.toList*B9^0=D:=by rw[y14,Nat.pow_zero,Nat.mul_one,Nat.zero_add,hx1];exact hD
 have hs0:Hid (∀ c∈(s.extract 1 s.size).data.toList,y0z c=true):=hid (by rw[hx1];exact hd)
 have hsz1:0+(s.extract 1 s.size).size<=100000:=by rw[hxs];omega
 clear hd hl hD hs hln hx1 hxs;have HV0:=hid hv0;have HS0:=hid hs0;have HSZ1:=hid hsz1;clear hv0 hs0 hsz1;go_enter Tryz.func170,Tryz.ntmps170;go_wp2_with fail;obtain ⟨BP,HN⟩:=lay1 w 124 #[.bool false,.slice none 0 0];obtain ⟨w0,hw0⟩:∃ x,w.alloc (.cells #[.bool false,.slice none 0 0] 124)=x:=⟨_,rfl⟩;rw[hw0] at HN BP⊢;clear hw0;have HN0:=HN;clear HN;go_loopw [0,4] (fun ss v wr=>∃ (tb:ByteArray) (k:Nat) (o:Nat->Nat),ss=.string tb/\k+tb.size<=100000/\Hid (∀ c∈tb.data.toList,y0z c=true)/\Hid (wr.ownsRow w0.heap.size 3 1 v k (ds o k))/\Hid (New w0 wr)/\Hid (∀ j,o j < B9)/\Hid (vf B9 o k+dval 0 tb.data.toList*B9^k=D)) (fun ss _ _=>lenS ss)
 case atStart=>exact ⟨_,0,fun _=>0,rfl,HSZ1.out,HS0.out,hid (World.ownsRow_nil _ _ _ _),hid (New.refl _),hid (fun _=>Nat.zero_lt_succ _),HV0⟩
 case round=>
  clear HS0;obtain ⟨tb,k,o,rfl,hsz,HT,HO,HN,HB,HV⟩:=hrel
  have htl:tb.data.toList.length=tb.size:=by simp
  by_cases h9:9 < tb.size
  ·have hst:=y7w (o:=o) (k:=k) (D:=D) (by rw[htl];exact h9) HT.out HV.out;rw[htl] at hst;have e1:(tb.extract (tb.size - 9) tb.size).data.toList=tb.data.toList.drop (tb.size - 9):=Lib.extract_to_end _ _
   have e2:(tb.extract 0 (tb.size - 9)).data.toList=tb.data.toList.take (tb.size - 9):=by rw[Lib.extract_data];rfl
   have hx:∀ c∈tb.data.toList.drop (tb.size - 9),y0z c=true:=fun c hc=>HT.out c (List.mem_of_mem_drop hc);have hva:=fun W=>y37 (tb.extract (tb.size - 9) tb.size) _ W e1 hx (by rw[List.length_drop,htl];omega);obtain ⟨x,hxx⟩:∃ x,dval 0 (tb.data.toList.drop (tb.size - 9))=x:=⟨_,rfl⟩;simp only[hxx] at hva hst;obtain ⟨hx9,hst⟩:=hst;have ht2:∀ c∈(tb.extract 0 (tb.size - 9)).data.toList,y0z c=true:=fun c hc=>HT.out c (by rw[e2] at hc;exact List.mem_of_mem_take hc);rw[<-e2] at hst;have hdn:=y6j (k:=k) HB.out hx9
   have hx9i:(x:Int) < 1000000000:=by unfold B9 at hx9;omega
   have h9i:(9:Int) < (tb.size:Int):=by omega
   have hk63:k+1<=maxLen:=by unfold maxLen;omega
   have hk47:(k+1)*8<=140737488355328:=by omega
   have hs2:k+1+(tb.extract 0 (tb.size - 9)).size<=100000:=by simp;omega
   have hs3:(tb.extract 0 (tb.size - 9)).size < tb.size:=by simp;omega
   clear hx9 hxx e1 e2 hx htl;have HVA:=hid hva;have HST:=hid hst;have HT2:=hid ht2;have HDN:=hid hdn;have HK63:=hid hk63;have HK47:=hid hk47;have HS2:=hid hs2;have HS3:=hid hs3;clear hva hst ht2 hdn hk63 hk47 hs2 hs3;go_wp2_with fail;refine (HVA.out _).mono ?_;rintro e w1 ⟨rfl,hw1⟩;rw[hw1];clear hw1;go_wp2_with (at_builtin;refine wpList_append_own _ rfl _ _ 24 rfl w0.heap.size 3 i0 (.int .i64 0) 1 8 Tryz.underlying24 hi0 hz0 hz1 hz2 rfl (by decide) _ _ _ rfl (HO.out.alloc _) ⟨wr.heap.size,0,none⟩ 1 1 [.int .i64 (x:Int)] rfl rfl (y3i _ _ _) (y4m _) HK63.out HK47.out (by have:=HN.out.size;rw[<-size_alloc];omega) ?_);intro v' w9 hown' hgrow _;have hN1:=y11 HN.out HO.out hgrow;rw[<-y4b] at hown';clear hgrow;have HN1:=hid hN1;have HO1:=hid hown';clear hN1 hown';go_wp2_with fail;go_roundw
   case rel=>exact ⟨_,k+1,upd o k x,rfl,HS2.out,HT2,HO1,HN1,HDN,HST⟩
   case measure=>exact HS3.out
  ·have h9i:¬(9:Int) < (tb.size:Int):=by omega
   have hva:=fun W=>y37 tb _ W rfl HT.out (by rw[htl];omega);obtain ⟨x,hxx⟩:∃ x,dval 0 tb.data.toList=x:=⟨_,rfl⟩
   have hx9:x < B9:=by
    have h1:=y4g HT.out;rw[hxx,htl] at h1;have h2:=Nat.pow_le_pow_right (n:=10) (by omega) (show tb.size<=9 by omega);unfold B9;omega
   have hv:=HV.out;simp only[hxx] at hva hv
   have hvv:vf B9 (upd o k x) (k+1)=D:=by rw[y03,upd_same,y0o (Nat.le_refl _),hv]
   have hdn:=y6j (k:=k) HB.out hx9
   have hk63:k+1<=maxLen:=by unfold maxLen;omega
   have hk47:(k+1)*8<=140737488355328:=by omega
   clear hx9 hxx hv htl;have HVA:=hid hva;have HVV:=hid hvv;have HDN:=hid hdn;have HK63:=hid hk63;have HK47:=hid hk47;clear hva hvv hdn hk63 hk47;go_wp2_with fail;refine (HVA.out _).mono ?_;rintro e w1 ⟨rfl,hw1⟩;rw[hw1];clear hw1;go_wp2_with (at_builtin;refine wpList_append_own _ rfl _ _ 24 rfl w0.heap.size 3 i0 (.int .i64 0) 1 8 Tryz.underlying24 hi0 hz0 hz1 hz2 rfl (by decide) _ _ _ rfl (HO.out.alloc _) ⟨wr.heap.size,0,none⟩ 1 1 [.int .i64 (x:Int)] rfl rfl (y3i _ _ _) (y4m _) HK63.out HK47.out (by have:=HN.out.size;rw[<-size_alloc];omega) ?_);intro v' w9 hown' hgrow _;have hN1:=y11 HN.out HO.out hgrow;rw[<-y4b] at hown';have hdg:=y7p hown' fun i _=>HDN.out i;have hsg:=y1l true _ D _ ⟨_,_,hdg,HVV.out⟩;clear hgrow hdg hown';replace BP:=bW BP hN1;have HN_:=HN0.out.trans hN1;clear HN HN0 hN1;have HN:=hid HN_;have HSG:=hid hsg;clear HN_ hsg;go_wp2_with fail;refine HSG.out.mono ?_;rintro e w2 ⟨v2,rfl,hn,hz⟩;obtain ⟨b9,a9,l9,c9,rfl⟩:=hz.shape;have HZ:=hid hz;clear hz;replace BP:=bW BP hn;replace HN:=tW HN hn;clear hn;obtain ⟨p0,p1,p2,p3,p4⟩:=BP.out.two;go_wp2_with fail;refine bodyPost_ret (v:=.agg #[.bool b9,.slice a9 l9 c9]) (by simp[results,Tryz.results170,go_sem,p0,p1]) rfl ?_;exact y8j HN.out BP.out (by omega) HZ.out
theorem y9b (s:ByteArray)(z:Int)(w:World)(hs:s.data.toList=itoa z)(hl:(itoa z).length<=100000):Calls Tryz.prog 170 #[.string s] w (RetZ w z):=by
 rcases Int.lt_or_le z 0 with hz | hz
 ·obtain ⟨n,rfl⟩:∃ n:Nat,z= -(n:Int):=⟨z.natAbs,by omega⟩;rw[Big.itoa_neg (by omega)] at hs hl;have:=yhj s (decDigits n) w hs (y19 n) (by simp at hl;omega);rw[y0p] at this;exact this
 ·obtain ⟨n,rfl⟩:∃ n:Nat,z=(n:Int):=⟨z.toNat,by omega⟩;rw[Big.itoa_nonneg] at hs hl;have:=y4a s (decDigits n) w hs (y19 n) hl;rw[y0p] at this;exact this
end Go.Proofs.YtnjonlnemagomaaGreatDoor
namespace Go.Proofs.YtnjonlnemagomaaGreatDoor
open Go.RowKit Big
open Go.Lib (hid)
set_option maxRecDepth 100000
set_option maxHeartbeats 8000000
theorem ybc {s q d m k:Nat}{o:Nat->Nat}(h:s*B9^k+vf B9 o k=m)(hs:d+B9*q=s):
  q*B9^(k+1)+vf B9 (upd o k d) (k+1)=m:=by
 rw[y03,upd_same,y0o (Nat.le_refl _),Nat.pow_succ,<-h,<-hs,Nat.add_mul]
 have:q*(B9^k*B9)=B9*q*B9^k:=by rw[Nat.mul_comm (B9^k),<-Nat.mul_assoc,Nat.mul_comm q]
 omega
theorem yd7 {s m k v:Nat}(hy:0 < s)(h:s*B9^k+v=m)(hm:m<=9223372036854775808):k<=2:=by
 rcases Nat.lt_or_ge k 3 with h1 | h1
 ·omega
 ·exfalso;have h2:B9^3<=B9^k:=Nat.pow_le_pow_right (by decide) h1;have h3:1*B9^k<=s*B9^k:=Nat.mul_le_mul_right _ hy
  have h4:B9^3=1000000000000000000000000000:=by decide
  omega
theorem yhu (z:Int)(w:World)(lo: -9223372036854775808<=z)(hi:z<=9223372036854775807)(hdz:decide (z < 0)=true):
  Calls Tryz.prog 149 #[.int .i64 z] w (RetZ w z):=by
 obtain ⟨i0,hi0,hz0,hz1,hz2⟩:=info_parts y3b
 have hend:sgnd true z.natAbs=z:=by rw[<-hdz];exact yjt z
 obtain ⟨m,hm⟩:∃ m,z.natAbs=m:=⟨_,rfl⟩;rw[hm] at hend
 have hm64:m<=9223372036854775808:=by omega
 have hst0:m*B9^0+vf B9 (fun _=>0) 0=m:=by rw[y14,Nat.pow_zero,Nat.mul_one,Nat.add_zero]
 have hzm:z= -(m:Int):=by have h:=hdz;simp at h;omega
 have HEND:=hid hend;have HM64:=hid hm64;have HST0:=hid hst0;have HZM:=hid hzm;clear hend hm64 hst0 hzm;go_enter Tryz.func149,Tryz.ntmps149;go_wp2_with fail;clear hdz lo hi hm;obtain ⟨BP,HN⟩:=lay1 w 124 #[.bool false,.slice none 0 0];obtain ⟨w0,hw0⟩:∃ x,w.alloc (.cells #[.bool false,.slice none 0 0] 124)=x:=⟨_,rfl⟩;rw[hw0] at HN BP⊢;clear hw0;have HN0:=HN;clear HN;go_loopw [0,3] (fun n v wr=>∃ (s k:Nat) (o:Nat->Nat),n=.int .i64 (-(s:Int))/\s<=9223372036854775808/\Hid (wr.ownsRow w0.heap.size 3 1 v k (ds o k))/\Hid (New w0 wr)/\Hid (∀ j,o j < B9)/\Hid (s*B9^k+vf B9 o k=m)) (fun n _ _=>(intOf n).natAbs)
 case atStart=>exact ⟨m,0,fun _=>0,by rw[HZM.out],HM64.out,hid (World.ownsRow_nil _ _ _ _),hid (New.refl _),hid (fun _=>Nat.zero_lt_succ _),HST0⟩
 case round=>
  clear HST0 HZM;obtain ⟨s,k,o,rfl,hs,HO,HN,HB,HV⟩:=hrel;rcases Nat.eq_zero_or_pos s with h0 | h0
  ·subst h0;have hv:=HV.out;rw[Nat.zero_mul,Nat.zero_add] at hv;have hd:=y7p HO.out fun i _=>HB.out i;have hsg:=y1l true _ m wr ⟨k,o,hd,hv⟩;rw[HEND.out] at hsg;clear hv hd hs;replace BP:=hid (BP.out.new HN.out);have HN_:=HN0.out.trans HN.out;clear HN HN0;have HSG:=hid hsg;have HN:=hid HN_;clear hsg HN_;go_wp2_with fail;refine HSG.out.mono ?_;rintro e w2 ⟨v2,rfl,hn,hz⟩;obtain ⟨b9,a9,l9,c9,rfl⟩:=hz.shape;have HZ:=hid hz;clear hz;replace BP:=bW BP hn;replace HN:=tW HN hn;clear hn;obtain ⟨p0,p1,p2,p3,p4⟩:=BP.out.two;go_wp2_with fail;refine bodyPost_ret (v:=.agg #[.bool b9,.slice a9 l9 c9]) (by simp[results,Tryz.results149,go_sem,p0,p1]) rfl ?_;exact y8j HN.out BP.out (by omega) HZ.out
  ·have hk2:=yd7 h0 HV.out HM64.out;obtain ⟨q,r,hqr,hr9,e1,e2,e3,e4⟩:=div9 s;have hst:q*B9^(k+1)+vf B9 (upd o k r) (k+1)=m:=ybc HV.out hqr;have hdn:=y6j (k:=k) HB.out hr9
   have hmeas:q < s:=by unfold B9 at hqr;omega
   have hqs:q<=9223372036854775808:=by omega
   have hqi:(q:Int)<=10000000000:=by unfold B9 at hqr;omega
   have hri:(r:Int) < 1000000000:=by unfold B9 at hr9;omega
   have hk63:k+1<=maxLen:=by unfold maxLen;omega
   have hk47:(k+1)*8<=140737488355328:=by omega
   have h0i:(0:Int) < (s:Int):=by omega
   clear hqr hr9 hs h0;have HK63:=hid hk63;have HK47:=hid hk47;have HK2:=hid hk2;have HST:=hid hst;have HDN:=hid hdn;have HMEAS:=hid hmeas;have HQS:=hid hqs;clear hk63 hk47 hk2 hst hdn hmeas hqs
   have t1:(-(s:Int)==0)=false:=by simp;omega
   have t2:(-(s:Int) != 0)=true:=by simp;omega
   clear h0i
   have e5:Int.tdiv (-(s:Int)) 1000000000= -(q:Int):=by rw[Int.neg_tdiv,e2]
   have e6:Int.tmod (-(s:Int)) 1000000000= -(r:Int):=by rw[Int.neg_tmod,e3]
   rcases Nat.eq_zero_or_pos r with hr | hr
   ·subst hr;go_wp2_with (at_builtin;refine wpList_append_own _ rfl _ _ 24 rfl w0.heap.size 3 i0 (.int .i64 0) 1 8 Tryz.underlying24 hi0 hz0 hz1 hz2 rfl (by decide) _ _ _ rfl (HO.out.alloc _) ⟨wr.heap.size,0,none⟩ 1 1 [.int .i64 (0)] rfl rfl (y3i _ _ _) (y4m _) HK63.out HK47.out (by have:=HN.out.size;rw[<-size_alloc];omega) ?_);intro v' w9 hown' hgrow _;have hN1:=y11 HN.out HO.out hgrow
    have hown':w9.ownsRow w0.heap.size 3 1 v' (k+1) (ds (upd o k (0)) (k+1)):=by rw[y4b];exact hown'
    clear hgrow;have HN1:=hid hN1;have HO1:=hid hown';clear hN1 hown';go_wp2_with fail;go_roundw
    case rel=>exact ⟨q,k+1,upd o k (0),rfl,HQS.out,HO1,HN1,HDN,HST⟩
    case measure=>simp[intOf];exact HMEAS.out
   ·have hr0: -(r:Int) < 0:=by omega
    go_wp2_with (at_builtin;refine wpList_append_own _ rfl _ _ 24 rfl w0.heap.size 3 i0 (.int .i64 0) 1 8 Tryz.underlying24 hi0 hz0 hz1 hz2 rfl (by decide) _ _ _ rfl (HO.out.alloc _) ⟨wr.heap.size,0,none⟩ 1 1 [.int .i64 ((r:Int))] rfl rfl (y3i _ _ _) (y4m _) HK63.out HK47.out (by have:=HN.out.size;rw[<-size_alloc];omega) ?_);intro v' w9 hown' hgrow _;have hN1:=y11 HN.out HO.out hgrow
    have hown':w9.ownsRow w0.heap.size 3 1 v' (k+1) (ds (upd o k (r)) (k+1)):=by rw[y4b];exact hown'
    clear hgrow;have HN1:=hid hN1;have HO1:=hid hown';clear hN1 hown';go_wp2_with fail;go_roundw
    case rel=>exact ⟨q,k+1,upd o k (r),rfl,HQS.out,HO1,HN1,HDN,HST⟩
    case measure=>simp[intOf];exact HMEAS.out
theorem yho (z:Int)(w:World)(lo: -9223372036854775808<=z)(hi:z<=9223372036854775807)(hdz:decide (z < 0)=false):
  Calls Tryz.prog 149 #[.int .i64 z] w (RetZ w z):=by
 obtain ⟨i0,hi0,hz0,hz1,hz2⟩:=info_parts y3b
 have hend:sgnd false z.natAbs=z:=by rw[<-hdz];exact yjt z
 obtain ⟨m,hm⟩:∃ m,z.natAbs=m:=⟨_,rfl⟩;rw[hm] at hend
 have hm64:m<=9223372036854775808:=by omega
 have hst0:m*B9^0+vf B9 (fun _=>0) 0=m:=by rw[y14,Nat.pow_zero,Nat.mul_one,Nat.add_zero]
 have hzm:z=(m:Int):=by have h:=hdz;simp at h;omega
 have HEND:=hid hend;have HM64:=hid hm64;have HST0:=hid hst0;have HZM:=hid hzm;clear hend hm64 hst0 hzm;go_enter Tryz.func149,Tryz.ntmps149;go_wp2_with fail;clear hdz lo hi hm;obtain ⟨BP,HN⟩:=lay1 w 124 #[.bool false,.slice none 0 0];obtain ⟨w0,hw0⟩:∃ x,w.alloc (.cells #[.bool false,.slice none 0 0] 124)=x:=⟨_,rfl⟩;rw[hw0] at HN BP⊢;clear hw0;have HN0:=HN;clear HN;go_loopw [0,3] (fun n v wr=>∃ (s k:Nat) (o:Nat->Nat),n=.int .i64 ((s:Int))/\s<=9223372036854775808/\Hid (wr.ownsRow w0.heap.size 3 1 v k (ds o k))/\Hid (New w0 wr)/\Hid (∀ j,o j < B9)/\Hid (s*B9^k+vf B9 o k=m)) (fun n _ _=>(intOf n).natAbs)
 case atStart=>exact ⟨m,0,fun _=>0,by rw[HZM.out],HM64.out,hid (World.ownsRow_nil _ _ _ _),hid (New.refl _),hid (fun _=>Nat.zero_lt_succ _),HST0⟩
 case round=>
  clear HST0 HZM;obtain ⟨s,k,o,rfl,hs,HO,HN,HB,HV⟩:=hrel;rcases Nat.eq_zero_or_pos s with h0 | h0
  ·subst h0;have hv:=HV.out;rw[Nat.zero_mul,Nat.zero_add] at hv;have hd:=y7p HO.out fun i _=>HB.out i;have hsg:=y1l false _ m wr ⟨k,o,hd,hv⟩;rw[HEND.out] at hsg;clear hv hd hs;replace BP:=hid (BP.out.new HN.out);have HN_:=HN0.out.trans HN.out;clear HN HN0;have HSG:=hid hsg;have HN:=hid HN_;clear hsg HN_;go_wp2_with fail;refine HSG.out.mono ?_;rintro e w2 ⟨v2,rfl,hn,hz⟩;obtain ⟨b9,a9,l9,c9,rfl⟩:=hz.shape;have HZ:=hid hz;clear hz;replace BP:=bW BP hn;replace HN:=tW HN hn;clear hn;obtain ⟨p0,p1,p2,p3,p4⟩:=BP.out.two;go_wp2_with fail;refine bodyPost_ret (v:=.agg #[.bool b9,.slice a9 l9 c9]) (by simp[results,Tryz.results149,go_sem,p0,p1]) rfl ?_;exact y8j HN.out BP.out (by omega) HZ.out
  ·have hk2:=yd7 h0 HV.out HM64.out;obtain ⟨q,r,hqr,hr9,e1,e2,e3,e4⟩:=div9 s;have hst:q*B9^(k+1)+vf B9 (upd o k r) (k+1)=m:=ybc HV.out hqr;have hdn:=y6j (k:=k) HB.out hr9
   have hmeas:q < s:=by unfold B9 at hqr;omega
   have hqs:q<=9223372036854775808:=by omega
   have hqi:(q:Int)<=10000000000:=by unfold B9 at hqr;omega
   have hri:(r:Int) < 1000000000:=by unfold B9 at hr9;omega
   have hk63:k+1<=maxLen:=by unfold maxLen;omega
   have hk47:(k+1)*8<=140737488355328:=by omega
   have h0i:(0:Int) < (s:Int):=by omega
   clear hqr hr9 hs h0;have HK63:=hid hk63;have HK47:=hid hk47;have HK2:=hid hk2;have HST:=hid hst;have HDN:=hid hdn;have HMEAS:=hid hmeas;have HQS:=hid hqs;clear hk63 hk47 hk2 hst hdn hmeas hqs
   have t1:((s:Int)==0)=false:=by simp;omega
   have t2:((s:Int) != 0)=true:=by simp;omega
   clear h0i
   have hr0:¬(r:Int) < 0:=by omega
   go_wp2_with (at_builtin;refine wpList_append_own _ rfl _ _ 24 rfl w0.heap.size 3 i0 (.int .i64 0) 1 8 Tryz.underlying24 hi0 hz0 hz1 hz2 rfl (by decide) _ _ _ rfl (HO.out.alloc _) ⟨wr.heap.size,0,none⟩ 1 1 [.int .i64 ((r:Int))] rfl rfl (y3i _ _ _) (y4m _) HK63.out HK47.out (by have:=HN.out.size;rw[<-size_alloc];omega) ?_);intro v' w9 hown' hgrow _;have hN1:=y11 HN.out HO.out hgrow
   have hown':w9.ownsRow w0.heap.size 3 1 v' (k+1) (ds (upd o k (r)) (k+1)):=by rw[y4b];exact hown'
   clear hgrow;have HN1:=hid hN1;have HO1:=hid hown';clear hN1 hown';go_wp2_with fail;go_roundw
   case rel=>exact ⟨q,k+1,upd o k (r),rfl,HQS.out,HO1,HN1,HDN,HST⟩
   case measure=>simp[intOf];exact HMEAS.out
theorem ydn (z:Int)(w:World)(lo: -9223372036854775808<=z)(hi:z<=9223372036854775807):Calls Tryz.prog 149 #[.int .i64 z] w (RetZ w z):=by
 by_cases h:z < 0
 ·exact yhu z w lo hi (decide_eq_true h)
 ·exact yho z w lo hi (decide_eq_false h)
end Go.Proofs.YtnjonlnemagomaaGreatDoor
namespace Go.Proofs.YtnjonlnemagomaaGreatDoor
open Go.RowKit Big Go.Lib
set_option maxRecDepth 100000
set_option maxHeartbeats 8000000
structure RFB (k:Nat)(q:Rat):Prop where
 num:q.num.natAbs < 2^k
 den:q.den < 2^k
def rs (q:Rat):ByteArray:=bs (y02 q)
theorem y75 {n k:Nat}(h:n < 2^k):(decDigits n).length<=k+1:=by
 rw[decDigits_length,y0w (by omega)];have h1:2^k<=10^k:=Nat.pow_le_pow_left (by omega) k;have h2:10^k<=10^(k+1):=Nat.pow_le_pow_right (by omega) (by omega);omega
theorem y9t {z:Int}{k:Nat}(h:z.natAbs < 2^k):(itoa z).length<=k+2:=by
 rcases Int.lt_or_le z 0 with hz | hz
 ·obtain ⟨n,rfl⟩:∃ n:Nat,z= -(n:Int):=⟨z.natAbs,by omega⟩;rw[Big.itoa_neg (by omega),List.length_cons];have:=y75 (n:=n) (k:=k) (by simpa using h);omega
 ·obtain ⟨n,rfl⟩:∃ n:Nat,z=(n:Int):=⟨z.toNat,by omega⟩;rw[Big.itoa_nonneg];have:=y75 (n:=n) (k:=k) (by simpa using h);omega
theorem RFB.len {k:Nat}{q:Rat}(h:RFB k q):(rs q).size<=2*k+4:=by
 unfold rs;rw[y1d];have h1:=y9t h.num;have h2:=y75 h.den;unfold y02;split
 ·omega
 ·simp only[List.length_append,List.length_cons];omega
theorem y44 (z:Int):y0e (itoa z)=false:=by
 rcases Int.lt_or_le z 0 with hz | hz
 ·obtain ⟨n,rfl⟩:∃ n:Nat,z= -(n:Int):=⟨z.natAbs,by omega⟩;rw[Big.itoa_neg (by omega)];have:=y2t n;simpa[y0e] using this
 ·obtain ⟨n,rfl⟩:∃ n:Nat,z=(n:Int):=⟨z.toNat,by omega⟩;rw[Big.itoa_nonneg];exact y2t n
theorem y55 (z:Int)(r:List UInt8):upTo (itoa z ++ 47::r)=itoa z/\behind (itoa z ++ 47::r)=r:=by
 rcases Int.lt_or_le z 0 with hz | hz
 ·obtain ⟨n,rfl⟩:∃ n:Nat,z= -(n:Int):=⟨z.natAbs,by omega⟩;rw[Big.itoa_neg (by omega)];have h1:=y2r n r;have h2:=y1w n r;unfold upTo at *;unfold behind at *;rw[List.cons_append,List.takeWhile_cons,List.dropWhile_cons];rw[if_pos (by decide),if_pos (by decide),h1,h2];exact ⟨rfl,rfl⟩
 ·obtain ⟨n,rfl⟩:∃ n:Nat,z=(n:Int):=⟨z.toNat,by omega⟩;rw[Big.itoa_nonneg];exact ⟨y2r n r,y1w n r⟩
def y67 (w:World)(x y:Int)(e:Ending)(w':World):Prop:=∃ vn vd,e=.returned (.tuple #[vn,vd])/\New w w'/\IsZ w' vn x/\IsZ w' vd y
theorem yey {w w6:World} {x y:Int} {B C:Nat} {t t':TypeId} {b0 b d0 d:Bool} {a0 a e0 e:Option Addr} {l0 c0 l c m0 f0 m f:Nat} (hN:New w w6) (bp:Box w6 B t #[.bool b0,.slice a0 l0 c0]) (bq:Box w6 C t' #[.bool d0,.slice e0 m0 f0]) (hne:C≠B) (hB:w.heap.size<=B) (hC:w.heap.size<=C)
  (h1:IsZ w6 (.agg #[.bool b,.slice a l c]) x) (h2:IsZ w6 (.agg #[.bool d,.slice e m f]) y):
  y67 w x y (.returned (.tuple #[.agg #[.bool b,.slice a l c],.agg #[.bool d,.slice e m f]])) ((((w6.setCell ⟨B,0,none⟩ (.bool b)).setCell ⟨B,1,none⟩ (.slice a l c)).setCell ⟨C,0,none⟩ (.bool d)).setCell ⟨C,1,none⟩ (.slice e m f)):=by
 have bq2:Box ((w6.setCell ⟨B,0,none⟩ (.bool b)).setCell ⟨B,1,none⟩ (.slice a l c)) C t' #[.bool d0,.slice e0 m0 f0]:=(bq.other (p:=⟨B,0,none⟩) (Ne.symm hne) _).other (p:=⟨B,1,none⟩) (Ne.symm hne) _;exact ⟨_,_,rfl,(((hN.setCell hB _).setCell hB _).setCell hC _).setCell hC _,(h1.far bp.noInt _ _).far bq2.noInt _ _,(h2.far bp.noInt _ _).far bq2.noInt _ _⟩
theorem ye9 (s:ByteArray)(x:Int)(w:World)(hl:s.size<=1000000)(hs:y0e s.data.toList=false)(hp:∀ W,New w W->Calls Tryz.prog 170 #[.string s] W (RetZ W x)):
  Calls Tryz.prog 98 #[.string s] w (y67 w x 1):=by
 have hsl:=fun W=>y2i s W hl
 have e:(upTo s.data.toList).length=s.size:=by rw[(y0x hs).1];simp
 simp only[e]at hsl;have hwh:=fun W=>ydn 1 W (by omega) (by omega);clear hs e;have HSL:=hid hsl;have HP:=hid hp;have HWH:=hid hwh;clear hsl hp hwh;go_enter Tryz.func98,Tryz.ntmps98;go_wp2_with fail;obtain ⟨BP,BQ,HN⟩:=lay2 w 124 #[.bool false,.slice none 0 0] 124 #[.bool false,.slice none 0 0];refine (HSL.out _).mono ?_;rintro e w1 ⟨rfl,hw1⟩;rw[hw1];clear hw1;go_wp2_with fail;refine (HP.out _ HN.out).mono ?_;rintro e w2 ⟨v2,rfl,hn,hz8⟩;obtain ⟨b8,a8,l8,c8,rfl⟩:=hz8.shape;have HZ8:=hid hz8;clear hz8;replace BP:=bW BP hn;replace BQ:=bW BQ hn;replace HN:=tW HN hn;clear hn;go_wp2_with fail;refine (HWH.out _).mono ?_;rintro e w3 ⟨v3,rfl,hn,hz9⟩;have hz8:=HZ8.out.new hn;clear HZ8;replace BP:=bW BP hn;replace BQ:=bW BQ hn;replace HN:=tW HN hn;clear hn;obtain ⟨b9,a9,l9,c9,rfl⟩:=hz9.shape;have HZ8:=hid hz8;have HZ9:=hid hz9;clear hz8 hz9;obtain ⟨p0,p1,p2,p3,p4⟩:=BP.out.two;obtain ⟨q0,q1,q2,q3,q4⟩:=BQ.out.two;go_wp2_with fail;refine bodyPost_ret (v:=.tuple #[.agg #[.bool b8,.slice a8 l8 c8],.agg #[.bool b9,.slice a9 l9 c9]]) (by simp[results,Tryz.results98,go_sem,p0,p1,q0,q1]) rfl ?_;exact yey HN.out BP.out BQ.out (by omega) (by omega) (by omega) HZ8.out HZ9.out
theorem y61 (s:ByteArray) (x y:Int) (w:World) (hl:s.size<=1000000) (hs:y0e s.data.toList=true) (hp:∀ W s',New w W->s'.data.toList=upTo s.data.toList->Calls Tryz.prog 170 #[.string s'] W (RetZ W x))
  (hq:∀ W s',New w W->s'.data.toList=behind s.data.toList->Calls Tryz.prog 170 #[.string s'] W (RetZ W y)):
  Calls Tryz.prog 98 #[.string s] w (y67 w x y):=by
 have hsl:=fun W=>y2i s W hl;have hsp:=y1y hs;obtain ⟨k,hk⟩:∃ k,(upTo s.data.toList).length=k:=⟨_,rfl⟩
 have hlen:s.data.toList.length=s.size:=by simp
 have hks:k < s.size:=by
  have:=congrArg List.length hsp;rw[hlen,List.length_append,List.length_cons,hk] at this;omega
 have e1:(s.extract 0 k).data.toList=upTo s.data.toList:=by
  rw[Lib.extract_data];show (s.data.toList.take k)=_
  conv=>lhs;arg 2;rw[hsp]
  rw[<-hk];simp
 have e2:(s.extract (k+1) s.size).data.toList=behind s.data.toList:=by
  rw[Lib.extract_to_end]
  conv=>lhs;arg 2;rw[hsp]
  rw[<-hk];simp
 simp only[hk]at hsl;obtain ⟨k1,hk1⟩:∃ z,k+1=z:=⟨_,rfl⟩
 have hkn:k<=s.size:=by omega
 have hk1n:k1<=s.size:=by omega
 have hk1i:(k1:Int)<=(s.size:Int):=by omega
 have hk1e:(k:Int)+1=(k1:Int):=by omega
 have hsi:(s.size:Int)<=1000000:=by omega
 have hwr:IntKind.i64.wrap (k1:Int)=(k1:Int):=by rw[IntKind.wrap_i64];omega
 rw[hk1]at e2;have h1:=fun W (hW:New w W)=>hp W _ hW e1;have h2:=fun W (hW:New w W)=>hq W _ hW e2
 have hki:(k:Int) < (s.size:Int):=by omega
 have hkb:((k:Int)==(s.size:Int))=false:=by simp;omega
 clear hs hsp hk hlen e1 e2 hp hq hl hks hk1;have HSL:=hid hsl;have H1:=hid h1;have H2:=hid h2;clear hsl h1 h2;go_enter Tryz.func98,Tryz.ntmps98;go_wp2_with fail;obtain ⟨BP,BQ,HN⟩:=lay2 w 124 #[.bool false,.slice none 0 0] 124 #[.bool false,.slice none 0 0];refine (HSL.out _).mono ?_;rintro e w1 ⟨rfl,hw1⟩;rw[hw1];clear hw1;go_wp2_with fail;refine y00 9 (fun W=>True) 11 #[false,false,false,false,false,false,false,false,false,false,false] rfl (by kernel_rfl) (by kernel_rfl) ?_;refine tk 0 (by exact trivial) ?_
 try simp only[PT]
 refine tk 1 (by exact trivial) ?_
 try simp only[PT]
 refine tk 2 (by exact trivial) ?_
 try simp only[PT]
 refine tk 4 (by exact trivial) ?_
 try simp only[PT]
 refine tk 5 (by exact trivial) ?_
 try simp only[PT]
 refine tk 6 (by exact trivial) ?_
 try simp only[PT]
 refine tk 7 (by exact trivial) ?_
 try simp only[PT]
 refine tk1 3 fun K hK=>?_;go_simp;refine (H1.out _ HN.out.drew).mono ?_;rintro e w2 ⟨v2,rfl,hn,hz8⟩;have hn:=hn.undr;obtain ⟨b8,a8,l8,c8,rfl⟩:=hz8.shape;have HZ8:=hid hz8;clear hz8;replace BP:=bW BP hn;replace BQ:=bW BQ hn;replace HN:=tW HN hn;clear hn;refine hK.out _ _ (fun _=>trivial) ?_;clear hK K
 try simp only[PT]
 refine tk1 8 fun K hK=>?_;go_simp;refine (H2.out _ HN.out).mono ?_;rintro e w3 ⟨v3,rfl,hn,hz9⟩;have hz8:=HZ8.out.new hn;clear HZ8;obtain ⟨b9,a9,l9,c9,rfl⟩:=hz9.shape;replace BP:=bW BP hn;replace BQ:=bW BQ hn;replace HN:=tW HN hn;clear hn;have HZ8:=hid hz8;have HZ9:=hid hz9;clear hz8 hz9;refine hK.out _ _ (fun _=>trivial) ?_;clear hK K
 try simp only[PT]
 refine tlW ?_;obtain ⟨p0,p1,p2,p3,p4⟩:=BP.out.two;obtain ⟨q0,q1,q2,q3,q4⟩:=BQ.out.two;go_wp2_with fail;refine bodyPost_ret (v:=.tuple #[.agg #[.bool b8,.slice a8 l8 c8],.agg #[.bool b9,.slice a9 l9 c9]]) (by simp[results,Tryz.results98,go_sem,p0,p1,q0,q1]) rfl ?_;exact yey HN.out BP.out BQ.out (by omega) (by omega) (by omega) HZ8.out HZ9.out
theorem ycz (k:Nat)(q:Rat)(w:World)(hq:RFB k q)(hk:k<=40000):Calls Tryz.prog 98 #[.string (rs q)] w (y67 w q.num q.den):=by
 have hsz:=hq.len;have h1:=y9t hq.num;have h2:=y75 hq.den;have hlist:(rs q).data.toList=y02 q:=ybv _;by_cases hd:q.den=1
 ·have e:y02 q=itoa q.num:=by unfold y02;rw[if_pos hd]
  rw[hd];refine ye9 _ _ w (by omega) (by rw[hlist,e];exact y44 _) fun W _=>?_;exact y9b _ _ W (by rw[hlist,e]) (by omega)
 ·have e:y02 q=itoa q.num ++ 47::decDigits q.den:=by unfold y02;rw[if_neg hd]
  obtain ⟨e1,e2⟩:=y55 q.num (decDigits q.den);refine y61 _ _ _ w (by omega) (by rw[hlist,e];simp[y0e]) (fun W s' _ hs'=>?_) (fun W s' _ hs'=>?_)
  ·rw[hlist,e,e1] at hs';exact y9b _ _ W hs' (by omega)
  ·rw[hlist,e,e2] at hs';have:=y4a s' (decDigits q.den) W hs' (y19 _) (by omega);rw[y0p] at this;exact this
def RetS (w:World)(q:Rat)(e:Ending)(w':World):Prop:=e=.returned (.string (rs q))/\New w w'
theorem ydy {x y:Int}(hy:0 < y):(Rat.divInt x y).num=sgnd (decide (x < 0)) (x.natAbs / Nat.gcd x.natAbs y.natAbs)/\(Rat.divInt x y).den=y.natAbs / Nat.gcd x.natAbs y.natAbs:=by
 rw[Rat.num_divInt,Rat.den_divInt,if_neg (by omega),Int.sign_eq_one_of_pos hy,Int.one_mul]
 have hc:Int.gcd y x=Nat.gcd x.natAbs y.natAbs:=by rw[Int.gcd_comm];rfl
 rw[hc];refine ⟨?_,rfl⟩;have hd:((Nat.gcd x.natAbs y.natAbs:Nat):Int) ∣ (x.natAbs:Int):=Int.natCast_dvd_natCast.2 (Nat.gcd_dvd_left _ _);unfold sgnd;by_cases h:x < 0
 ·rw[if_pos (by simpa using h)];obtain ⟨n,hn⟩:∃ n:Nat,x.natAbs=n:=⟨_,rfl⟩
  have hx:x= -(n:Int):=by omega
  rw[hn]at hd⊢;rw[hx,Int.neg_ediv_of_dvd hd,Int.natCast_ediv]
 ·rw[if_neg (by simpa using h)];obtain ⟨n,hn⟩:∃ n:Nat,x.natAbs=n:=⟨_,rfl⟩
  have hx:x=(n:Int):=by omega
  rw[hn];rw[hx,Int.natCast_ediv]
theorem y3m (z:Int):y02 (z:Rat)=itoa z:=by
 unfold y02;rw[if_pos (by simp),Rat.num_intCast]
theorem y2v (q:Rat):(rs q).data.toList=y02 q:=ybv _
theorem yf5 {q:Rat}(h:0 < q.num):y02 (-q)=45::y02 q:=by
 have e1:itoa q.num=decDigits q.num.toNat:=by
  obtain ⟨n,hn⟩:∃ n:Nat,q.num=(n:Int):=⟨q.num.toNat,by omega⟩;rw[hn,Big.itoa_nonneg];rfl
 have e2:itoa (-q.num)=45::decDigits q.num.toNat:=by
  obtain ⟨n,hn⟩:∃ n:Nat,q.num=(n:Int):=⟨q.num.toNat,by omega⟩;rw[hn,Big.itoa_neg (by omega)];rfl
 unfold y02;rw[Rat.neg_num,Rat.neg_den,e1,e2];split <;> rfl
theorem ym1 {q:Rat}(h:q.num=0):q=0:=by
 have:=Rat.num_divInt_den q;rw[h,Rat.zero_divInt] at this;exact this.symm
theorem yo8:rs 0=⟨#[48]⟩:=by
 unfold rs
 have:y02 0=[48]:=by
  rw[show (0:Rat)=((0:Int):Rat) from rfl,y3m,show (0:Int)=((0:Nat):Int) from rfl,Big.itoa_nonneg,y1f]
 rw[this];rfl
theorem yfy {q:Rat}(h:0 < q.num):y02 q≠[48]:=by
 intro e;unfold y02 at e;obtain ⟨n,hn⟩:∃ n:Nat,q.num=(n:Int):=⟨q.num.toNat,by omega⟩;rw[hn,Big.itoa_nonneg] at e;split at e
 ·have:=y2s.1 e;omega
 ·have h1:=congrArg List.length e;have h2:=nDigits_pos n;rw[List.length_append,List.length_cons,decDigits_length] at h1;have h3:([48]:List UInt8).length=1:=rfl
  have h4:(decDigits q.den).length≠0:=by
   intro h;exact y0r _ (List.eq_nil_of_length_eq_zero h)
  omega
theorem ymj {q:Rat}(h:0 < q.num):∃ c l,y02 q=c::l/\y0z c=true:=by
 unfold y02;obtain ⟨n,hn⟩:∃ n:Nat,q.num=(n:Int):=⟨q.num.toNat,by omega⟩;rw[hn,Big.itoa_nonneg]
 cases hd:decDigits n with
 | nil=>exact absurd hd (y0r n)
 | cons c l=>
  have:=y19 n c (by rw[hd];simp);split
  ·exact ⟨c,l,rfl,this⟩
  ·exact ⟨c,l ++ 47::decDigits q.den,rfl,this⟩
theorem yd8 {q:Rat}(h:0 < q.num):∃ s:ByteArray,rs q=s/\(s.toList==[48])=false/\∃ h0:0 < s.size,((s[0]'h0).toNat:Int)≠45:=by
 refine ⟨_,rfl,?_,?_⟩
 ·rw[ByteArray.toList_eq,beq_eq_false_iff_ne,y2v];exact yfy h
 ·obtain ⟨c,l,e,hc⟩:=ymj h
  have hb:(rs q).data.toList[0]?=some c:=by rw[y2v,e];rfl
  obtain ⟨h0,h1⟩:=byte_at _ hb;refine ⟨h0,?_⟩;rw[h1];have:=y2h.1 hc;omega
theorem y8b {q:Rat}(h:q.num < 0):∃ s:ByteArray,rs q=s/\(s.toList==[48])=false/\s.data.toList=45::y02 (-q)/\∃ h0:0 < s.size,((s[0]'h0).toNat:Int)=45:=by
 have e:y02 q=45::y02 (-q):=by
  have:=yf5 (q:= -q) (by rw[Rat.neg_num];omega)
  rwa [Rat.neg_neg] at this
 refine ⟨_,rfl,?_,by rw[y2v,e],?_⟩
 ·rw[ByteArray.toList_eq,beq_eq_false_iff_ne,y2v,e];intro e2;injection e2 with h1 h2;exact absurd h1 (by decide)
 ·have hb:(rs q).data.toList[0]?=some 45:=by rw[y2v,e];rfl
  obtain ⟨h0,h1⟩:=byte_at _ hb;refine ⟨h0,?_⟩;rw[h1];rfl
theorem yg4 (q:Rat)(w:World):Calls Tryz.prog 35 #[.string (rs q)] w fun e w'=>e=.returned (.int .i64 q.num.sign)/\w'=w:=by
 rcases Int.lt_trichotomy q.num 0 with h | h | h
 ·rw[Int.sign_eq_neg_one_of_neg h];obtain ⟨s,hs,hb, -,h0,hc⟩:=y8b h;have hcb:(((s[0]'h0).toNat:Int)==45)=true:=beq_iff_eq.2 hc;rw[hs];clear hs h;go_enter Tryz.func35,Tryz.ntmps35;go_wp2_with fail;go_ret;exact ⟨rfl,rfl⟩
 ·rw[h,ym1 h,yo8];clear h;go_enter Tryz.func35,Tryz.ntmps35;go_wp2_with fail;go_ret;exact ⟨rfl,rfl⟩
 ·rw[Int.sign_eq_one_of_pos h];obtain ⟨s,hs,hb,h0,hc⟩:=yd8 h;have hcb:(((s[0]'h0).toNat:Int)==45)=false:=beq_eq_false_iff_ne.2 hc;rw[hs];clear hs h;go_enter Tryz.func35,Tryz.ntmps35;go_wp2_with fail;go_ret;exact ⟨rfl,rfl⟩
structure ypk (U:ByteArray)(m d:Nat):Prop where
 size:U.size<=20
 list:U.data.toList=if d=1 then decDigits m else decDigits m ++ 47::decDigits d
theorem ypk.up {U:ByteArray}{m d:Nat}(h:ypk U m d):upTo U.data.toList=decDigits m:=by
 rw[h.list];split
 ·exact y66 m
 ·exact y2r m _
end Go.Proofs.YtnjonlnemagomaaGreatDoor
