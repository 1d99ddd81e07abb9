/- Part B14. -/
import Derived.Lib.IndexBytes
import Derived.Test.YtnjonlnemagomaaGreatDoorB13
namespace Go.Proofs.YtnjonlnemagomaaGreatDoor
open Go.RowKit Big Go.Lib Tryz
set_option maxRecDepth 100000
set_option maxHeartbeats 8000000
set_option linter.all false
theorem parse_step {t:List UInt8}{k D:Nat}{o:Nat→Nat}(h9:9 < t.length)(ht:∀ c∈t,isDig c=true)(h:vf B9 o k+dval 0 t*B9^k=D):
  dval 0 (t.drop (t.length - 9)) < B9∧vf B9 (upd o k (dval 0 (t.drop (t.length - 9)))) (k+1)+dval 0 (t.take (t.length - 9))*B9^(k+1)=D:=by
 have hl:(t.drop (t.length - 9)).length=9:=by rw[List.length_drop];omega
 have h1:=dval_lt (l:=t.drop (t.length - 9)) fun c hc=>ht c (List.mem_of_mem_drop hc);rw[hl] at h1
 have h2:dval 0 t=dval 0 (t.take (t.length - 9))*10^9+dval 0 (t.drop (t.length - 9)):=by
  conv=>lhs;rw[←List.take_append_drop (t.length - 9) t]
  rw[dval_append,dval_acc,hl]
 refine ⟨h1,?_⟩;rw[vf_succ,upd_same,vf_upd_above (Nat.le_refl _),Nat.pow_succ,←h,h2];generalize B9^k=P;generalize dval 0 (t.take (t.length - 9))=a;generalize dval 0 (t.drop (t.length - 9))=b;show vf B9 o k+b*P+a*(P*1000000000)=vf B9 o k+(a*1000000000+b)*P;rw[Nat.add_mul,Nat.mul_right_comm a,Nat.mul_assoc a];omega
theorem rparse_pos (s:ByteArray)(d:List UInt8)(w:World)(hs:s.data.toList=d)(hd:∀ c∈d,isDig c=true)(hl:d.length≤100000):
  Calls prog 170 #[.string s] w (RetZ w (sgnd false (dval 0 d))):=by
 obtain ⟨i0,a3,a4,a5,a6⟩:=info_parts info_int;obtain ⟨D,hD⟩:∃ D,dval 0 d=D:=⟨_,rfl⟩;rw[hD];subst hs
 have bm:s.size≤100000:=by simpa using hl
 have a0:vf B9 (fun _=>0) 0+dval 0 s.data.toList*B9^0=D:=by rw[vf_zero,Nat.pow_zero,Nat.mul_one,Nat.zero_add];exact hD
 have ar:Hid (∀ c∈s.data.toList,isDig c=true):=hid hd;by_cases h0:0 < s.size
 ·have bk:=isDig_iff.1 (hd (s[0]'h0) (by
   have:s[0]'h0=s.data.toList[0]'(by simpa using h0):=rfl;rw[this]
   exact List.getElem_mem _))
  have hc:¬((s[0]'h0).toNat:Int)=45:=by omega
  have bn:(((s[0]'h0).toNat:Int)==45)=false:=beq_eq_false_iff_ne.2 hc;clear bk hd hl hD;have bj:=hid a0;have bh:=hid ar;clear a0 ar;go_in;go_wp2_with fail;obtain ⟨BP,HN⟩:=lay1 w 124 #[.bool false,.slice none 0 0];obtain ⟨w0,a2⟩:∃ x,w.alloc (.cells #[.bool false,.slice none 0 0] 124)=x:=⟨_,rfl⟩;rw[a2] at HN BP⊢;clear a2;have au:=HN;clear HN;go_loopw [0,4] (fun ss v wr=>∃ (tb:ByteArray) (k:Nat) (o:Nat→Nat),ss=.string tb∧k+tb.size≤100000∧Hid (∀ c∈tb.data.toList,isDig c=true)∧Hid (wr.ownsRow w0.heap.size 3 1 v k (ds o k))∧Hid (New w0 wr)∧Hid (∀ j,o j < B9)∧Hid (vf B9 o k+dval 0 tb.data.toList*B9^k=D)) (fun ss _ _=>lenS ss)
  case atStart=>exact ⟨s,0,fun _=>0,rfl,by omega,bh.out,hid (World.ownsRow_nil _ _ _ _),hid (New.refl _),hid (fun _=>Nat.zero_lt_succ _),bj⟩
  case round=>
   clear bh;obtain ⟨tb,k,o,rfl,bl,HT,HO,HN,HB,HV⟩:=hrel
   have af:tb.data.toList.length=tb.size:=by simp
   by_cases h9:9 < tb.size
   ·have ae:=parse_step (o:=o) (k:=k) (D:=D) (by rw[af];exact h9) HT.out HV.out;rw[af] at ae;have e1:(tb.extract (tb.size - 9) tb.size).data.toList=tb.data.toList.drop (tb.size - 9):=Lib.extract_to_end _ _
    have e2:(tb.extract 0 (tb.size - 9)).data.toList=tb.data.toList.take (tb.size - 9):=by rw[Lib.extract_data];rfl
    have hx:∀ c∈tb.data.toList.drop (tb.size - 9),isDig c=true:=fun c hc=>HT.out c (List.mem_of_mem_drop hc);have ag:=fun W=>rvalue_calls (tb.extract (tb.size - 9) tb.size) _ W e1 hx (by rw[List.length_drop,af];omega);obtain ⟨x,aj⟩:∃ x,dval 0 (tb.data.toList.drop (tb.size - 9))=x:=⟨_,rfl⟩;simp only[aj] at ag ae;obtain ⟨ai,ae⟩:=ae;have az:∀ c∈(tb.extract 0 (tb.size - 9)).data.toList,isDig c=true:=fun c hc=>HT.out c (by rw[e2] at hc;exact List.mem_of_mem_take hc);rw[←e2] at ae;have am:=own_b9 (k:=k) HB.out ai
    have bi:(x:Int) < 1000000000:=by unfold B9 at ai;omega
    have bg:(9:Int) < (tb.size:Int):=by omega
    have ad:k+1≤maxLen:=by unfold maxLen;omega
    have ac:(k+1)*8≤140737488355328:=by omega
    have ax:k+1+(tb.extract 0 (tb.size - 9)).size≤100000:=by simp;omega
    have ay:(tb.extract 0 (tb.size - 9)).size < tb.size:=by simp;omega
    clear ai aj e1 e2 hx af;refine zh8 ?_ ag ae az am ad ac ax ay;clear ag ae az am ad ac ax ay;intro ap bc be ao al ak ba bb;go_wp2_with fail;refine (ap _).mono ?_;rintro e w1 ⟨rfl,an⟩;rw[an];clear an;go_wp2_with (at_builtin;refine wpList_append_own _ rfl _ _ 24 rfl w0.heap.size 3 i0 (.int .i64 0) 1 8 underlying24 a3 a4 a5 a6 rfl (by decide) _ _ _ rfl (HO.alloc _) ⟨wr.heap.size,0,none⟩ 1 1 [.int .i64 (x:Int)] rfl rfl (one_c1 _ _ _) (one_c2 _) al ak (by have:=HN.out.size;rw[←size_alloc];omega) ?_);intro v' w9 aa ab _;have ah:=grown_new HN.out HO.out ab;rw[←ds_snoc] at aa;clear ab;have a7:=hid ah;have a8:=hid aa;clear ah aa;go_wp2_with fail;go_roundw
    case rel=>exact ⟨_,k+1,upd o k x,rfl,ba,be,a8,a7,ao,bc⟩
    case measure=>exact bb
   ·have bg:¬(9:Int) < (tb.size:Int):=by omega
    have ag:=fun W=>rvalue_calls tb _ W rfl HT.out (by rw[af];omega);obtain ⟨x,aj⟩:∃ x,dval 0 tb.data.toList=x:=⟨_,rfl⟩
    have ai:x < B9:=by
     have h1:=dval_lt HT.out;rw[aj,af] at h1;have h2:=Nat.pow_le_pow_right (n:=10) (by omega) (show tb.size≤9 by omega);unfold B9;omega
    have hv:=HV.out;simp only[aj] at ag hv
    have a1:vf B9 (upd o k x) (k+1)=D:=by rw[vf_succ,upd_same,vf_upd_above (Nat.le_refl _),hv]
    have am:=own_b9 (k:=k) HB.out ai
    have ad:k+1≤maxLen:=by unfold maxLen;omega
    have ac:(k+1)*8≤140737488355328:=by omega
    clear ai aj hv af;refine zh5 ?_ ag a1 am ad ac;clear ag a1 am ad ac;intro ap bf ao al ak;go_wp2_with fail;refine (ap _).mono ?_;rintro e w1 ⟨rfl,an⟩;rw[an];clear an;go_wp2_with (at_builtin;refine wpList_append_own _ rfl _ _ 24 rfl w0.heap.size 3 i0 (.int .i64 0) 1 8 underlying24 a3 a4 a5 a6 rfl (by decide) _ _ _ rfl (HO.alloc _) ⟨wr.heap.size,0,none⟩ 1 1 [.int .i64 (x:Int)] rfl rfl (one_c1 _ _ _) (one_c2 _) al ak (by have:=HN.out.size;rw[←size_alloc];omega) ?_);intro v' w9 aa ab _;have ah:=grown_new HN.out HO.out ab;rw[←ds_snoc] at aa;have aw:=own_dgn aa fun i _=>ao.out i;have aq:=rsigned_calls false _ D _ ⟨_,_,aw,bf.out⟩;clear ab aw aa;replace BP:=bW BP ah;have av:=au.out.trans ah;clear HN au ah;have HN:=hid av;replace aq:=hid aq;clear av;go_wp2_with fail;refine aq.mono ?_;rintro e w2 ⟨v2,rfl,hn,hz⟩;obtain ⟨b9,a9,l9,c9,rfl⟩:=hz.shape;replace hz:=hid hz;obtain ⟨HN,BP⟩:=zn2 hn HN BP.new;clear hn;obtain ⟨p0,p1,p2,p3,p4⟩:=BP.out.two;go_wp2_with fail;refine bodyPost_ret (v:=.agg #[.bool b9,.slice a9 l9 c9]) (by simp[results,results170,go_sem,p0,p1]) rfl ?_;exact z_ret HN BP (by omega) hz
 ·have hz:s.size=0:=by omega
  clear hd hl hD;replace a0:=hid a0;replace ar:=hid ar;go_in;go_wp2_with fail;obtain ⟨BP,HN⟩:=lay1 w 124 #[.bool false,.slice none 0 0];obtain ⟨w0,a2⟩:∃ x,w.alloc (.cells #[.bool false,.slice none 0 0] 124)=x:=⟨_,rfl⟩;rw[a2] at HN BP⊢;clear a2;have au:=HN;clear HN;go_loopw [0,4] (fun ss v wr=>∃ (tb:ByteArray) (k:Nat) (o:Nat→Nat),ss=.string tb∧k+tb.size≤100000∧Hid (∀ c∈tb.data.toList,isDig c=true)∧Hid (wr.ownsRow w0.heap.size 3 1 v k (ds o k))∧Hid (New w0 wr)∧Hid (∀ j,o j < B9)∧Hid (vf B9 o k+dval 0 tb.data.toList*B9^k=D)) (fun ss _ _=>lenS ss)
  case atStart=>exact ⟨s,0,fun _=>0,rfl,by omega,ar.out,hid (World.ownsRow_nil _ _ _ _),hid (New.refl _),hid (fun _=>Nat.zero_lt_succ _),a0⟩
  case round=>
   clear ar;obtain ⟨tb,k,o,rfl,bl,HT,HO,HN,HB,HV⟩:=hrel
   have af:tb.data.toList.length=tb.size:=by simp
   by_cases h9:9 < tb.size
   ·have ae:=parse_step (o:=o) (k:=k) (D:=D) (by rw[af];exact h9) HT.out HV.out;rw[af] at ae;have e1:(tb.extract (tb.size - 9) tb.size).data.toList=tb.data.toList.drop (tb.size - 9):=Lib.extract_to_end _ _
    have e2:(tb.extract 0 (tb.size - 9)).data.toList=tb.data.toList.take (tb.size - 9):=by rw[Lib.extract_data];rfl
    have hx:∀ c∈tb.data.toList.drop (tb.size - 9),isDig c=true:=fun c hc=>HT.out c (List.mem_of_mem_drop hc);have ag:=fun W=>rvalue_calls (tb.extract (tb.size - 9) tb.size) _ W e1 hx (by rw[List.length_drop,af];omega);obtain ⟨x,aj⟩:∃ x,dval 0 (tb.data.toList.drop (tb.size - 9))=x:=⟨_,rfl⟩;simp only[aj] at ag ae;obtain ⟨ai,ae⟩:=ae;have az:∀ c∈(tb.extract 0 (tb.size - 9)).data.toList,isDig c=true:=fun c hc=>HT.out c (by rw[e2] at hc;exact List.mem_of_mem_take hc);rw[←e2] at ae;have am:=own_b9 (k:=k) HB.out ai
    have bi:(x:Int) < 1000000000:=by unfold B9 at ai;omega
    have bg:(9:Int) < (tb.size:Int):=by omega
    have ad:k+1≤maxLen:=by unfold maxLen;omega
    have ac:(k+1)*8≤140737488355328:=by omega
    have ax:k+1+(tb.extract 0 (tb.size - 9)).size≤100000:=by simp;omega
    have ay:(tb.extract 0 (tb.size - 9)).size < tb.size:=by simp;omega
    clear ai aj e1 e2 hx af;refine zh8 ?_ ag ae az am ad ac ax ay;clear ag ae az am ad ac ax ay;intro ap bc be ao al ak ba bb;go_wp2_with fail;refine (ap _).mono ?_;rintro e w1 ⟨rfl,an⟩;rw[an];clear an;go_wp2_with (at_builtin;refine wpList_append_own _ rfl _ _ 24 rfl w0.heap.size 3 i0 (.int .i64 0) 1 8 underlying24 a3 a4 a5 a6 rfl (by decide) _ _ _ rfl (HO.alloc _) ⟨wr.heap.size,0,none⟩ 1 1 [.int .i64 (x:Int)] rfl rfl (one_c1 _ _ _) (one_c2 _) al ak (by have:=HN.out.size;rw[←size_alloc];omega) ?_);intro v' w9 aa ab _;have ah:=grown_new HN.out HO.out ab;rw[←ds_snoc] at aa;clear ab;have a7:=hid ah;have a8:=hid aa;clear ah aa;go_wp2_with fail;go_roundw
    case rel=>exact ⟨_,k+1,upd o k x,rfl,ba,be,a8,a7,ao,bc⟩
    case measure=>exact bb
   ·have bg:¬(9:Int) < (tb.size:Int):=by omega
    have ag:=fun W=>rvalue_calls tb _ W rfl HT.out (by rw[af];omega);obtain ⟨x,aj⟩:∃ x,dval 0 tb.data.toList=x:=⟨_,rfl⟩
    have ai:x < B9:=by
     have h1:=dval_lt HT.out;rw[aj,af] at h1;have h2:=Nat.pow_le_pow_right (n:=10) (by omega) (show tb.size≤9 by omega);unfold B9;omega
    have hv:=HV.out;simp only[aj] at ag hv
    have a1:vf B9 (upd o k x) (k+1)=D:=by rw[vf_succ,upd_same,vf_upd_above (Nat.le_refl _),hv]
    have am:=own_b9 (k:=k) HB.out ai
    have ad:k+1≤maxLen:=by unfold maxLen;omega
    have ac:(k+1)*8≤140737488355328:=by omega
    clear ai aj hv af;refine zh5 ?_ ag a1 am ad ac;clear ag a1 am ad ac;intro ap bf ao al ak;go_wp2_with fail;refine (ap _).mono ?_;rintro e w1 ⟨rfl,an⟩;rw[an];clear an;go_wp2_with (at_builtin;refine wpList_append_own _ rfl _ _ 24 rfl w0.heap.size 3 i0 (.int .i64 0) 1 8 underlying24 a3 a4 a5 a6 rfl (by decide) _ _ _ rfl (HO.alloc _) ⟨wr.heap.size,0,none⟩ 1 1 [.int .i64 (x:Int)] rfl rfl (one_c1 _ _ _) (one_c2 _) al ak (by have:=HN.out.size;rw[←size_alloc];omega) ?_);intro v' w9 aa ab _;have ah:=grown_new HN.out HO.out ab;rw[←ds_snoc] at aa;have aw:=own_dgn aa fun i _=>ao.out i;have aq:=rsigned_calls false _ D _ ⟨_,_,aw,bf.out⟩;clear ab aw aa;replace BP:=bW BP ah;have av:=au.out.trans ah;clear HN au ah;have HN:=hid av;replace aq:=hid aq;clear av;go_wp2_with fail;refine aq.mono ?_;rintro e w2 ⟨v2,rfl,hn,hz⟩;obtain ⟨b9,a9,l9,c9,rfl⟩:=hz.shape;replace hz:=hid hz;obtain ⟨HN,BP⟩:=zn2 hn HN BP.new;clear hn;obtain ⟨p0,p1,p2,p3,p4⟩:=BP.out.two;go_wp2_with fail;refine bodyPost_ret (v:=.agg #[.bool b9,.slice a9 l9 c9]) (by simp[results,results170,go_sem,p0,p1]) rfl ?_;exact z_ret HN BP (by omega) hz
theorem rparse_neg (s:ByteArray)(d:List UInt8)(w:World)(hs:s.data.toList=45::d)(hd:∀ c∈d,isDig c=true)(hl:d.length≤100000):
  Calls prog 170 #[.string s] w (RetZ w (sgnd true (dval 0 d))):=by
 obtain ⟨i0,a1,bb,bc,be⟩:=info_parts info_int;obtain ⟨D,hD⟩:∃ D,dval 0 d=D:=⟨_,rfl⟩;rw[hD]
 have ao:s.data.toList.length=s.size:=by simp
 rw[hs]at ao
 have bo:s.size≤100001:=by rw[List.length_cons] at ao;omega
 have h0:0 < s.size:=by rw[List.length_cons] at ao;omega
 have av:(s.extract 1 s.size).data.toList=d:=by rw[Lib.extract_to_end,hs];rfl
 have ba:(s.extract 1 s.size).size=s.size - 1:=by simp
 have hc:((s[0]'h0).toNat:Int)=45:=by
  have:s[0]'h0=s.data.toList[0]'(by simpa using h0):=rfl;rw[this]
  have:s.data.toList[0]?=some 45:=by rw[hs];rfl
  rw[List.getElem?_eq_getElem (by simpa using h0)]at this;rw[Option.some.inj this];rfl
 have bq:(((s[0]'h0).toNat:Int)==45)=true:=beq_iff_eq.2 hc
 have a6:vf B9 (fun _=>0) 0+dval 0 (s.extract 1 s.size).data.toList*B9^0=D:=by rw[vf_zero,Nat.pow_zero,Nat.mul_one,Nat.zero_add,av];exact hD
 have a2:Hid (∀ c∈(s.extract 1 s.size).data.toList,isDig c=true):=hid (by rw[av];exact hd)
 have ap:0+(s.extract 1 s.size).size≤100000:=by rw[ba];omega
 clear hd hl hD hs ao av ba;refine zh3 ?_ a6 a2 ap;clear a6 a2 ap;intro bl ay az;go_in;go_wp2_with fail;obtain ⟨BP,HN⟩:=lay1 w 124 #[.bool false,.slice none 0 0];obtain ⟨w0,a8⟩:∃ x,w.alloc (.cells #[.bool false,.slice none 0 0] 124)=x:=⟨_,rfl⟩;rw[a8] at HN BP⊢;clear a8;have aw:=HN;clear HN;go_loopw [0,4] (fun ss v wr=>∃ (tb:ByteArray) (k:Nat) (o:Nat→Nat),ss=.string tb∧k+tb.size≤100000∧Hid (∀ c∈tb.data.toList,isDig c=true)∧Hid (wr.ownsRow w0.heap.size 3 1 v k (ds o k))∧Hid (New w0 wr)∧Hid (∀ j,o j < B9)∧Hid (vf B9 o k+dval 0 tb.data.toList*B9^k=D)) (fun ss _ _=>lenS ss)
 case atStart=>exact ⟨_,0,fun _=>0,rfl,az,ay,hid (World.ownsRow_nil _ _ _ _),hid (New.refl _),hid (fun _=>Nat.zero_lt_succ _),bl⟩
 case round=>
  clear ay;obtain ⟨tb,k,o,rfl,br,HT,HO,HN,HB,HV⟩:=hrel
  have af:tb.data.toList.length=tb.size:=by simp
  by_cases h9:9 < tb.size
  ·have ae:=parse_step (o:=o) (k:=k) (D:=D) (by rw[af];exact h9) HT.out HV.out;rw[af] at ae;have e1:(tb.extract (tb.size - 9) tb.size).data.toList=tb.data.toList.drop (tb.size - 9):=Lib.extract_to_end _ _
   have e2:(tb.extract 0 (tb.size - 9)).data.toList=tb.data.toList.take (tb.size - 9):=by rw[Lib.extract_data];rfl
   have hx:∀ c∈tb.data.toList.drop (tb.size - 9),isDig c=true:=fun c hc=>HT.out c (List.mem_of_mem_drop hc);have ag:=fun W=>rvalue_calls (tb.extract (tb.size - 9) tb.size) _ W e1 hx (by rw[List.length_drop,af];omega);obtain ⟨x,aj⟩:∃ x,dval 0 (tb.data.toList.drop (tb.size - 9))=x:=⟨_,rfl⟩;simp only[aj] at ag ae;obtain ⟨ai,ae⟩:=ae;have a5:∀ c∈(tb.extract 0 (tb.size - 9)).data.toList,isDig c=true:=fun c hc=>HT.out c (by rw[e2] at hc;exact List.mem_of_mem_take hc);rw[←e2] at ae;have am:=own_b9 (k:=k) HB.out ai
   have bp:(x:Int) < 1000000000:=by unfold B9 at ai;omega
   have bn:(9:Int) < (tb.size:Int):=by omega
   have ad:k+1≤maxLen:=by unfold maxLen;omega
   have ac:(k+1)*8≤140737488355328:=by omega
   have a3:k+1+(tb.extract 0 (tb.size - 9)).size≤100000:=by simp;omega
   have a4:(tb.extract 0 (tb.size - 9)).size < tb.size:=by simp;omega
   clear ai aj e1 e2 hx af;refine zh8 ?_ ag ae a5 am ad ac a3 a4;clear ag ae a5 am ad ac a3 a4;intro ar bj bk aq al ak bh bi;go_wp2_with fail;refine (ar _).mono ?_;rintro e w1 ⟨rfl,an⟩;rw[an];clear an;go_wp2_with (at_builtin;refine wpList_append_own _ rfl _ _ 24 rfl w0.heap.size 3 i0 (.int .i64 0) 1 8 underlying24 a1 bb bc be rfl (by decide) _ _ _ rfl (HO.alloc _) ⟨wr.heap.size,0,none⟩ 1 1 [.int .i64 (x:Int)] rfl rfl (one_c1 _ _ _) (one_c2 _) al ak (by have:=HN.out.size;rw[←size_alloc];omega) ?_);intro v' w9 aa ab _;have ah:=grown_new HN.out HO.out ab;rw[←ds_snoc] at aa;clear ab;have bf:=hid ah;have bg:=hid aa;clear ah aa;go_wp2_with fail;go_roundw
   case rel=>exact ⟨_,k+1,upd o k x,rfl,bh,bk,bg,bf,aq,bj⟩
   case measure=>exact bi
  ·have bn:¬(9:Int) < (tb.size:Int):=by omega
   have ag:=fun W=>rvalue_calls tb _ W rfl HT.out (by rw[af];omega);obtain ⟨x,aj⟩:∃ x,dval 0 tb.data.toList=x:=⟨_,rfl⟩
   have ai:x < B9:=by
    have h1:=dval_lt HT.out;rw[aj,af] at h1;have h2:=Nat.pow_le_pow_right (n:=10) (by omega) (show tb.size≤9 by omega);unfold B9;omega
   have hv:=HV.out;simp only[aj] at ag hv
   have a7:vf B9 (upd o k x) (k+1)=D:=by rw[vf_succ,upd_same,vf_upd_above (Nat.le_refl _),hv]
   have am:=own_b9 (k:=k) HB.out ai
   have ad:k+1≤maxLen:=by unfold maxLen;omega
   have ac:(k+1)*8≤140737488355328:=by omega
   clear ai aj hv af;refine zh5 ?_ ag a7 am ad ac;clear ag a7 am ad ac;intro ar bm aq al ak;go_wp2_with fail;refine (ar _).mono ?_;rintro e w1 ⟨rfl,an⟩;rw[an];clear an;go_wp2_with (at_builtin;refine wpList_append_own _ rfl _ _ 24 rfl w0.heap.size 3 i0 (.int .i64 0) 1 8 underlying24 a1 bb bc be rfl (by decide) _ _ _ rfl (HO.alloc _) ⟨wr.heap.size,0,none⟩ 1 1 [.int .i64 (x:Int)] rfl rfl (one_c1 _ _ _) (one_c2 _) al ak (by have:=HN.out.size;rw[←size_alloc];omega) ?_);intro v' w9 aa ab _;have ah:=grown_new HN.out HO.out ab;rw[←ds_snoc] at aa;have a0:=own_dgn aa fun i _=>aq.out i;have au:=rsigned_calls true _ D _ ⟨_,_,a0,bm.out⟩;clear ab a0 aa;replace BP:=bW BP ah;have ax:=aw.out.trans ah;clear HN aw ah;have HN:=hid ax;replace au:=hid au;clear ax;go_wp2_with fail;refine au.mono ?_;rintro e w2 ⟨v2,rfl,hn,hz⟩;obtain ⟨b9,a9,l9,c9,rfl⟩:=hz.shape;replace hz:=hid hz;obtain ⟨HN,BP⟩:=zn2 hn HN BP.new;clear hn;obtain ⟨p0,p1,p2,p3,p4⟩:=BP.out.two;go_wp2_with fail;refine bodyPost_ret (v:=.agg #[.bool b9,.slice a9 l9 c9]) (by simp[results,results170,go_sem,p0,p1]) rfl ?_;exact z_ret HN BP (by omega) hz
theorem rparse_itoa (s:ByteArray)(z:Int)(w:World)(hs:s.data.toList=itoa z)(hl:(itoa z).length≤100000):Calls prog 170 #[.string s] w (RetZ w z):=by
 rcases Int.lt_or_le z 0 with hz | hz
 ·obtain ⟨n,rfl⟩:∃ n:Nat,z= -(n:Int):=⟨z.natAbs,by omega⟩;rw[Big.itoa_neg (by omega)] at hs hl;have:=rparse_neg s (decDigits n) w hs (decDigits_dig n) (by simp at hl;omega);rw[dval_decDigits] at this;exact this
 ·obtain ⟨n,rfl⟩:∃ n:Nat,z=(n:Int):=⟨z.toNat,by omega⟩;rw[Big.itoa_nonneg] at hs hl;have:=rparse_pos s (decDigits n) w hs (decDigits_dig n) hl;rw[dval_decDigits] at this;exact this
end Go.Proofs.YtnjonlnemagomaaGreatDoor
namespace Go.Proofs.YtnjonlnemagomaaGreatDoor
open Go.RowKit Big Tryz
open Go.Lib (hid)
set_option maxRecDepth 100000
set_option maxHeartbeats 8000000
set_option linter.all false
theorem whole_step {s q d m k:Nat}{o:Nat→Nat}(h:s*B9^k+vf B9 o k=m)(hs:d+B9*q=s):
  q*B9^(k+1)+vf B9 (upd o k d) (k+1)=m:=by
 rw[vf_succ,upd_same,vf_upd_above (Nat.le_refl _),Nat.pow_succ,←h,←hs,Nat.add_mul]
 have:q*(B9^k*B9)=B9*q*B9^k:=by rw[Nat.mul_comm (B9^k),←Nat.mul_assoc,Nat.mul_comm q]
 omega
theorem whole_few {s m k v:Nat}(hy:0 < s)(h:s*B9^k+v=m)(hm:m≤9223372036854775808):k≤2:=by
 rcases Nat.lt_or_ge k 3 with h1 | h1
 ·omega
 ·exfalso;have h2:B9^3≤B9^k:=Nat.pow_le_pow_right (by decide) h1;have h3:1*B9^k≤s*B9^k:=Nat.mul_le_mul_right _ hy
  have h4:B9^3=1000000000000000000000000000:=by decide
  omega
theorem rwhole_neg (z:Int)(w:World)(lo: -9223372036854775808≤z)(hi:z≤9223372036854775807)(hdz:decide (z < 0)=true):
  Calls prog 149 #[.int .i64 z] w (RetZ w z):=by
 obtain ⟨i0,a1,a6,a7,a8⟩:=info_parts info_int
 have ae:sgnd true z.natAbs=z:=by rw[←hdz];exact sgnd_of z
 obtain ⟨m,hm⟩:∃ m,z.natAbs=m:=⟨_,rfl⟩;rw[hm] at ae
 have an:m≤9223372036854775808:=by omega
 have ao:m*B9^0+vf B9 (fun _=>0) 0=m:=by rw[vf_zero,Nat.pow_zero,Nat.mul_one,Nat.add_zero]
 have ba:z= -(m:Int):=by have h:=hdz;simp at h;omega
 refine zh4 ?_ ae an ao ba;clear ae an ao ba;intro au aj ak az;go_in;go_wp2_with fail;clear hdz lo hi hm;obtain ⟨BP,HN⟩:=lay1 w 124 #[.bool false,.slice none 0 0];obtain ⟨w0,a5⟩:∃ x,w.alloc (.cells #[.bool false,.slice none 0 0] 124)=x:=⟨_,rfl⟩;rw[a5] at HN BP⊢;clear a5;have av:=HN;clear HN;go_loopw [0,3] (fun n v wr=>∃ (s k:Nat) (o:Nat→Nat),n=.int .i64 (-(s:Int))∧s≤9223372036854775808∧Hid (wr.ownsRow w0.heap.size 3 1 v k (ds o k))∧Hid (New w0 wr)∧Hid (∀ j,o j < B9)∧Hid (s*B9^k+vf B9 o k=m)) (fun n _ _=>(intOf n).natAbs)
 case atStart=>exact ⟨m,0,fun _=>0,by rw[az.out],aj.out,hid (World.ownsRow_nil _ _ _ _),hid (New.refl _),hid (fun _=>Nat.zero_lt_succ _),ak⟩
 case round=>
  clear ak az;obtain ⟨s,k,o,rfl,hs,HO,HN,HB,HV⟩:=hrel;rcases Nat.eq_zero_or_pos s with h0 | h0
  ·subst h0;have hv:=HV.out;rw[Nat.zero_mul,Nat.zero_add] at hv;have hd:=own_dgn HO.out fun i _=>HB.out i;have aq:=rsigned_calls true _ m wr ⟨k,o,hd,hv⟩;rw[au.out] at aq;clear hv hd hs;replace BP:=hid (BP.new HN);have aw:=av.out.trans HN.out;clear HN av;have be:=hid aq;have HN:=hid aw;clear aq aw;go_wp2_with fail;refine be.mono ?_;rintro e w2 ⟨v2,rfl,hn,hz⟩;obtain ⟨b9,a9,l9,c9,rfl⟩:=hz.shape;replace hz:=hid hz;obtain ⟨HN,BP⟩:=zn2 hn HN BP.new;clear hn;obtain ⟨p0,p1,p2,p3,p4⟩:=BP.out.two;go_wp2_with fail;refine bodyPost_ret (v:=.agg #[.bool b9,.slice a9 l9 c9]) (by simp[results,results149,go_sem,p0,p1]) rfl ?_;exact z_ret HN BP (by omega) hz
  ·have a2:=whole_few h0 HV.out aj.out;obtain ⟨q,r,ag,ap,e1,e2,e3,e4⟩:=div9 s;have a4:q*B9^(k+1)+vf B9 (upd o k r) (k+1)=m:=whole_step HV.out ag;have a0:=own_b9 (k:=k) HB.out ap
   have af:q < s:=by unfold B9 at ag;omega
   have a3:q≤9223372036854775808:=by omega
   have bh:(q:Int)≤10000000000:=by unfold B9 at ag;omega
   have bj:(r:Int) < 1000000000:=by unfold B9 at ap;omega
   have am:k+1≤maxLen:=by unfold maxLen;omega
   have al:(k+1)*8≤140737488355328:=by omega
   have bf:(0:Int) < (s:Int):=by omega
   clear ag ap hs h0;refine zh7 ?_ am al a2 a4 a0 af a3;clear am al a2 a4 a0 af a3;intro ai ah bg ay ar ad ax
   have t1:(-(s:Int)==0)=false:=by simp;omega
   have t2:(-(s:Int) != 0)=true:=by simp;omega
   clear bf
   have e5:Int.tdiv (-(s:Int)) 1000000000= -(q:Int):=by rw[Int.neg_tdiv,e2]
   have e6:Int.tmod (-(s:Int)) 1000000000= -(r:Int):=by rw[Int.neg_tmod,e3]
   rcases Nat.eq_zero_or_pos r with hr | hr
   ·subst hr;go_wp2_with (at_builtin;refine wpList_append_own _ rfl _ _ 24 rfl w0.heap.size 3 i0 (.int .i64 0) 1 8 underlying24 a1 a6 a7 a8 rfl (by decide) _ _ _ rfl (HO.alloc _) ⟨wr.heap.size,0,none⟩ 1 1 [.int .i64 (0)] rfl rfl (one_c1 _ _ _) (one_c2 _) ai ah (by have:=HN.out.size;rw[←size_alloc];omega) ?_);intro v' w9 aa ab _;have ac:=grown_new HN.out HO.out ab
    have aa:w9.ownsRow w0.heap.size 3 1 v' (k+1) (ds (upd o k (0)) (k+1)):=by rw[ds_snoc];exact aa
    clear ab;have bb:=hid ac;have bc:=hid aa;clear ac aa;go_wp2_with fail;go_roundw
    case rel=>exact ⟨q,k+1,upd o k (0),rfl,ax,bc,bb,ar,ay⟩
    case measure=>simp[intOf];exact ad.out
   ·have bi: -(r:Int) < 0:=by omega
    go_wp2_with (at_builtin;refine wpList_append_own _ rfl _ _ 24 rfl w0.heap.size 3 i0 (.int .i64 0) 1 8 underlying24 a1 a6 a7 a8 rfl (by decide) _ _ _ rfl (HO.alloc _) ⟨wr.heap.size,0,none⟩ 1 1 [.int .i64 ((r:Int))] rfl rfl (one_c1 _ _ _) (one_c2 _) ai ah (by have:=HN.out.size;rw[←size_alloc];omega) ?_);intro v' w9 aa ab _;have ac:=grown_new HN.out HO.out ab
    have aa:w9.ownsRow w0.heap.size 3 1 v' (k+1) (ds (upd o k (r)) (k+1)):=by rw[ds_snoc];exact aa
    clear ab;replace ac:=hid ac;replace aa:=hid aa;go_wp2_with fail;go_roundw
    case rel=>exact ⟨q,k+1,upd o k (r),rfl,ax,aa,ac,ar,ay⟩
    case measure=>simp[intOf];exact ad.out
theorem rwhole_pos (z:Int)(w:World)(lo: -9223372036854775808≤z)(hi:z≤9223372036854775807)(hdz:decide (z < 0)=false):
  Calls prog 149 #[.int .i64 z] w (RetZ w z):=by
 obtain ⟨i0,a8,ba,bb,bc⟩:=info_parts info_int
 have ab:sgnd false z.natAbs=z:=by rw[←hdz];exact sgnd_of z
 obtain ⟨m,hm⟩:∃ m,z.natAbs=m:=⟨_,rfl⟩;rw[hm] at ab
 have aj:m≤9223372036854775808:=by omega
 have ak:m*B9^0+vf B9 (fun _=>0) 0=m:=by rw[vf_zero,Nat.pow_zero,Nat.mul_one,Nat.add_zero]
 have a2:z=(m:Int):=by have h:=hdz;simp at h;omega
 refine zh4 ?_ ab aj ak a2;clear ab aj ak a2;intro ap af ag aw;go_in;go_wp2_with fail;clear hdz lo hi hm;obtain ⟨BP,HN⟩:=lay1 w 124 #[.bool false,.slice none 0 0];obtain ⟨w0,a1⟩:∃ x,w.alloc (.cells #[.bool false,.slice none 0 0] 124)=x:=⟨_,rfl⟩;rw[a1] at HN BP⊢;clear a1;have au:=HN;clear HN;go_loopw [0,3] (fun n v wr=>∃ (s k:Nat) (o:Nat→Nat),n=.int .i64 ((s:Int))∧s≤9223372036854775808∧Hid (wr.ownsRow w0.heap.size 3 1 v k (ds o k))∧Hid (New w0 wr)∧Hid (∀ j,o j < B9)∧Hid (s*B9^k+vf B9 o k=m)) (fun n _ _=>(intOf n).natAbs)
 case atStart=>exact ⟨m,0,fun _=>0,by rw[aw.out],af.out,hid (World.ownsRow_nil _ _ _ _),hid (New.refl _),hid (fun _=>Nat.zero_lt_succ _),ag⟩
 case round=>
  clear ag aw;obtain ⟨s,k,o,rfl,hs,HO,HN,HB,HV⟩:=hrel;rcases Nat.eq_zero_or_pos s with h0 | h0
  ·subst h0;have hv:=HV.out;rw[Nat.zero_mul,Nat.zero_add] at hv;have hd:=own_dgn HO.out fun i _=>HB.out i;have ao:=rsigned_calls false _ m wr ⟨k,o,hd,hv⟩;rw[ap.out] at ao;clear hv hd hs;replace BP:=hid (BP.new HN);have av:=au.out.trans HN.out;clear HN au;have a5:=hid ao;have HN:=hid av;clear ao av;go_wp2_with fail;refine a5.mono ?_;rintro e w2 ⟨v2,rfl,hn,hz⟩;obtain ⟨b9,a9,l9,c9,rfl⟩:=hz.shape;replace hz:=hid hz;obtain ⟨HN,BP⟩:=zn2 hn HN BP.new;clear hn;obtain ⟨p0,p1,p2,p3,p4⟩:=BP.out.two;go_wp2_with fail;refine bodyPost_ret (v:=.agg #[.bool b9,.slice a9 l9 c9]) (by simp[results,results149,go_sem,p0,p1]) rfl ?_;exact z_ret HN BP (by omega) hz
  ·have ay:=whole_few h0 HV.out af.out;obtain ⟨q,r,ae,an,e1,e2,e3,e4⟩:=div9 s;have a0:q*B9^(k+1)+vf B9 (upd o k r) (k+1)=m:=whole_step HV.out ae;have ax:=own_b9 (k:=k) HB.out an
   have ad:q < s:=by unfold B9 at ae;omega
   have az:q≤9223372036854775808:=by omega
   have bf:(q:Int)≤10000000000:=by unfold B9 at ae;omega
   have bh:(r:Int) < 1000000000:=by unfold B9 at an;omega
   have ai:k+1≤maxLen:=by unfold maxLen;omega
   have ah:(k+1)*8≤140737488355328:=by omega
   have a7:(0:Int) < (s:Int):=by omega
   clear ae an hs h0;refine zh7 ?_ ai ah ay a0 ax ad az;clear ai ah ay a0 ax ad az;intro ar aq be a6 a3 al a4
   have t1:((s:Int)==0)=false:=by simp;omega
   have t2:((s:Int) != 0)=true:=by simp;omega
   clear a7
   have bg:¬(r:Int) < 0:=by omega
   go_wp2_with (at_builtin;refine wpList_append_own _ rfl _ _ 24 rfl w0.heap.size 3 i0 (.int .i64 0) 1 8 underlying24 a8 ba bb bc rfl (by decide) _ _ _ rfl (HO.alloc _) ⟨wr.heap.size,0,none⟩ 1 1 [.int .i64 ((r:Int))] rfl rfl (one_c1 _ _ _) (one_c2 _) ar aq (by have:=HN.out.size;rw[←size_alloc];omega) ?_);intro v' w9 aa ac _;have am:=grown_new HN.out HO.out ac
   have aa:w9.ownsRow w0.heap.size 3 1 v' (k+1) (ds (upd o k (r)) (k+1)):=by rw[ds_snoc];exact aa
   clear ac;replace am:=hid am;replace aa:=hid aa;go_wp2_with fail;go_roundw
   case rel=>exact ⟨q,k+1,upd o k (r),rfl,a4,aa,am,a3,a6⟩
   case measure=>simp[intOf];exact al.out
theorem rwhole_calls (z:Int)(w:World)(lo: -9223372036854775808≤z)(hi:z≤9223372036854775807):Calls prog 149 #[.int .i64 z] w (RetZ w z):=by
 by_cases h:z < 0
 ·exact rwhole_neg z w lo hi (decide_eq_true h)
 ·exact rwhole_pos z w lo hi (decide_eq_false h)
end Go.Proofs.YtnjonlnemagomaaGreatDoor
namespace Go.Proofs.YtnjonlnemagomaaGreatDoor
open Go.RowKit Big Go.Lib Tryz
set_option maxRecDepth 100000
set_option maxHeartbeats 8000000
set_option linter.all false
structure RFB (k:Nat)(q:Rat):Prop where
 num:q.num.natAbs < 2^k
 den:q.den < 2^k
def rs (q:Rat):ByteArray:=bs (ratText q)
theorem dec_len2 {n k:Nat}(h:n < 2^k):(decDigits n).length≤k+1:=by
 rw[decDigits_length,nDigits_le_iff (by omega)];have h1:2^k≤10^k:=Nat.pow_le_pow_left (by omega) k;have h2:10^k≤10^(k+1):=Nat.pow_le_pow_right (by omega) (by omega);omega
theorem itoa_len2 {z:Int}{k:Nat}(h:z.natAbs < 2^k):(itoa z).length≤k+2:=by
 rcases Int.lt_or_le z 0 with hz | hz
 ·obtain ⟨n,rfl⟩:∃ n:Nat,z= -(n:Int):=⟨z.natAbs,by omega⟩;rw[Big.itoa_neg (by omega),List.length_cons];have:=dec_len2 (n:=n) (k:=k) (by simpa using h);omega
 ·obtain ⟨n,rfl⟩:∃ n:Nat,z=(n:Int):=⟨z.toNat,by omega⟩;rw[Big.itoa_nonneg];have:=dec_len2 (n:=n) (k:=k) (by simpa using h);omega
theorem RFB.len {k:Nat}{q:Rat}(h:RFB k q):(rs q).size≤2*k+4:=by
 unfold rs;rw[bs_size];have h1:=itoa_len2 h.num;have h2:=dec_len2 h.den;unfold ratText;split
 ·omega
 ·simp only[List.length_append,List.length_cons];omega
theorem slashed_itoa' (z:Int):slashed (itoa z)=false:=by
 rcases Int.lt_or_le z 0 with hz | hz
 ·obtain ⟨n,rfl⟩:∃ n:Nat,z= -(n:Int):=⟨z.natAbs,by omega⟩;rw[Big.itoa_neg (by omega)];have:=slashed_plain n;simpa[slashed] using this
 ·obtain ⟨n,rfl⟩:∃ n:Nat,z=(n:Int):=⟨z.toNat,by omega⟩;rw[Big.itoa_nonneg];exact slashed_plain n
theorem parts_itoa' (z:Int)(r:List UInt8):upTo (itoa z ++ 47::r)=itoa z∧behind (itoa z ++ 47::r)=r:=by
 rcases Int.lt_or_le z 0 with hz | hz
 ·obtain ⟨n,rfl⟩:∃ n:Nat,z= -(n:Int):=⟨z.natAbs,by omega⟩;rw[Big.itoa_neg (by omega)];have h1:=upTo_slash n r;have h2:=behind_slash n r;unfold upTo at *;unfold behind at *;rw[List.cons_append,List.takeWhile_cons,List.dropWhile_cons];rw[if_pos (by decide),if_pos (by decide),h1,h2];exact ⟨rfl,rfl⟩
 ·obtain ⟨n,rfl⟩:∃ n:Nat,z=(n:Int):=⟨z.toNat,by omega⟩;rw[Big.itoa_nonneg];exact ⟨upTo_slash n r,behind_slash n r⟩
def RPartsPost (w:World)(x y:Int)(e:Ending)(w':World):Prop:=∃ vn vd,e=.returned (.tuple #[vn,vd])∧New w w'∧IsZ w' vn x∧IsZ w' vd y
theorem parts_ret {w w6:World} {x y:Int} {B C:Nat} {t t':TypeId} {b0 b d0 d:Bool} {a0 a e0 e:Option Addr} {l0 c0 l c m0 f0 m f:Nat} (hN:New w w6) (bp:Box w6 B t #[.bool b0,.slice a0 l0 c0]) (bq:Box w6 C t' #[.bool d0,.slice e0 m0 f0]) (hne:C≠B) (hB:w.heap.size≤B) (hC:w.heap.size≤C)
  (h1:IsZ w6 (.agg #[.bool b,.slice a l c]) x) (h2:IsZ w6 (.agg #[.bool d,.slice e m f]) y):
  RPartsPost w x y (.returned (.tuple #[.agg #[.bool b,.slice a l c],.agg #[.bool d,.slice e m f]])) ((((w6.setCell ⟨B,0,none⟩ (.bool b)).setCell ⟨B,1,none⟩ (.slice a l c)).setCell ⟨C,0,none⟩ (.bool d)).setCell ⟨C,1,none⟩ (.slice e m f)):=by
 have aa:Box ((w6.setCell ⟨B,0,none⟩ (.bool b)).setCell ⟨B,1,none⟩ (.slice a l c)) C t' #[.bool d0,.slice e0 m0 f0]:=(bq.other (p:=⟨B,0,none⟩) (Ne.symm hne) _).other (p:=⟨B,1,none⟩) (Ne.symm hne) _;exact ⟨_,_,rfl,(((hN.setCell hB _).setCell hB _).setCell hC _).setCell hC _,(h1.far bp.noInt _ _).far aa.noInt _ _,(h2.far bp.noInt _ _).far aa.noInt _ _⟩
theorem rparts_plain (s:ByteArray)(x:Int)(w:World)(hl:s.size≤1000000)(hs:slashed s.data.toList=false)(hp:∀ W,New w W→Calls prog 170 #[.string s] W (RetZ W x)):
  Calls prog 98 #[.string s] w (RPartsPost w x 1):=by
 have ac:=fun W=>rslash_calls s W hl
 have e:(upTo s.data.toList).length=s.size:=by rw[(split_plain hs).1];simp
 simp only[e]at ac;have af:=fun W=>rwhole_calls 1 W (by omega) (by omega);clear hs e;refine zh3 ?_ ac hp af;clear ac hp af;intro ag HP ah;go_in;go_wp2_with fail;obtain ⟨BP,BQ,HN⟩:=lay2 w 124 #[.bool false,.slice none 0 0] 124 #[.bool false,.slice none 0 0];refine (ag _).mono ?_;rintro e w1 ⟨rfl,ae⟩;rw[ae];clear ae;go_wp2_with fail;refine zO (HP _ HN) fun w2 b8 a8 l8 c8 hn aa=>?_;have ad:=hid aa;clear aa;obtain ⟨HN,BP,BQ⟩:=zn3 hn HN BP.new BQ.new;clear hn;go_wp2_with fail;refine zN (ah _) fun w3 v3 hn ab=>?_;have aa:=ad.out.new hn;clear ad;obtain ⟨HN,BP,BQ⟩:=zn3 hn HN BP.new BQ.new;clear hn;obtain ⟨b9,a9,l9,c9,rfl⟩:=ab.shape;replace aa:=hid aa;replace ab:=hid ab;obtain ⟨p0,p1,p2,p3,p4⟩:=BP.out.two;obtain ⟨q0,q1,q2,q3,q4⟩:=BQ.out.two;go_wp2_with fail;refine bodyPost_ret (v:=.tuple #[.agg #[.bool b8,.slice a8 l8 c8],.agg #[.bool b9,.slice a9 l9 c9]]) (by simp[results,results98,go_sem,p0,p1,q0,q1]) rfl ?_;exact parts_ret HN BP BQ (by omega) (by omega) (by omega) aa ab
theorem rparts_slash (s:ByteArray) (x y:Int) (w:World) (hl:s.size≤1000000) (hs:slashed s.data.toList=true) (hp:∀ W s',New w W→s'.data.toList=upTo s.data.toList→Calls prog 170 #[.string s'] W (RetZ W x))
  (hq:∀ W s',New w W→s'.data.toList=behind s.data.toList→Calls prog 170 #[.string s'] W (RetZ W y)):
  Calls prog 98 #[.string s] w (RPartsPost w x y):=by
 have ae:=fun W=>rslash_calls s W hl;have ab:=split_slash hs;obtain ⟨k,hk⟩:∃ k,(upTo s.data.toList).length=k:=⟨_,rfl⟩
 have ad:s.data.toList.length=s.size:=by simp
 have aj:k < s.size:=by
  have:=congrArg List.length ab;rw[ad,List.length_append,List.length_cons,hk] at this;omega
 have e1:(s.extract 0 k).data.toList=upTo s.data.toList:=by
  rw[Lib.extract_data];show (s.data.toList.take k)=_
  conv=>lhs;arg 2;rw[ab]
  rw[←hk];simp
 have e2:(s.extract (k+1) s.size).data.toList=behind s.data.toList:=by
  rw[Lib.extract_to_end]
  conv=>lhs;arg 2;rw[ab]
  rw[←hk];simp
 simp only[hk]at ae;obtain ⟨k1,ag⟩:∃ z,k+1=z:=⟨_,rfl⟩
 have ap:k≤s.size:=by omega
 have am:k1≤s.size:=by omega
 have al:(k1:Int)≤(s.size:Int):=by omega
 have ak:(k:Int)+1=(k1:Int):=by omega
 have aq:(s.size:Int)≤1000000:=by omega
 have ar:IntKind.i64.wrap (k1:Int)=(k1:Int):=by rw[IntKind.wrap_i64];omega
 rw[ag]at e2;have h1:=fun W (hW:New w W)=>hp W _ hW e1;have h2:=fun W (hW:New w W)=>hq W _ hW e2
 have ao:(k:Int) < (s.size:Int):=by omega
 have an:((k:Int)==(s.size:Int))=false:=by simp;omega
 clear hs ab hk ad e1 e2 hp hq hl aj ag;refine zh3 ?_ ae h1 h2;clear ae h1 h2;intro ai H1 H2;go_in;go_wp2_with fail;obtain ⟨BP,BQ,HN⟩:=lay2 w 124 #[.bool false,.slice none 0 0] 124 #[.bool false,.slice none 0 0];refine (ai _).mono ?_;rintro e w1 ⟨rfl,ah⟩;rw[ah];clear ah;go_wp2_with fail;refine zR 9 11 (fun W=>True) ?_;refine zT 0 trivial ?_;refine zT 1 trivial ?_;refine zT 2 trivial ?_;refine zT 4 trivial ?_;refine zT 5 trivial ?_;refine zT 6 trivial ?_;refine zT 7 trivial ?_;refine tk1 3 fun K hK=>?_;go_simp;refine zN (H1 _ HN.drew) fun w2 v2 hn aa=>?_;have hn:=hn.undr;obtain ⟨b8,a8,l8,c8,rfl⟩:=aa.shape;have af:=hid aa;clear aa;obtain ⟨HN,BP,BQ⟩:=zn3 hn HN BP.new BQ.new;clear hn;refine zK hK trivial ?_;clear hK K;refine tk1 8 fun K hK=>?_;go_simp;refine zN (H2 _ HN) fun w3 v3 hn ac=>?_;have aa:=af.out.new hn;clear af;obtain ⟨b9,a9,l9,c9,rfl⟩:=ac.shape;obtain ⟨HN,BP,BQ⟩:=zn3 hn HN BP.new BQ.new;clear hn;replace aa:=hid aa;replace ac:=hid ac;refine zK hK trivial ?_;clear hK K;refine tlW ?_;obtain ⟨p0,p1,p2,p3,p4⟩:=BP.out.two;obtain ⟨q0,q1,q2,q3,q4⟩:=BQ.out.two;go_wp2_with fail;refine bodyPost_ret (v:=.tuple #[.agg #[.bool b8,.slice a8 l8 c8],.agg #[.bool b9,.slice a9 l9 c9]]) (by simp[results,results98,go_sem,p0,p1,q0,q1]) rfl ?_;exact parts_ret HN BP BQ (by omega) (by omega) (by omega) aa ac
theorem rparts_calls (k:Nat)(q:Rat)(w:World)(hq:RFB k q)(hk:k≤40000):Calls prog 98 #[.string (rs q)] w (RPartsPost w q.num q.den):=by
 have ac:=hq.len;have h1:=itoa_len2 hq.num;have h2:=dec_len2 hq.den;have aa:(rs q).data.toList=ratText q:=bs_list _;by_cases hd:q.den=1
 ·have e:ratText q=itoa q.num:=by unfold ratText;rw[if_pos hd]
  rw[hd];refine rparts_plain _ _ w (by omega) (by rw[aa,e];exact slashed_itoa' _) fun W _=>?_;exact rparse_itoa _ _ W (by rw[aa,e]) (by omega)
 ·have e:ratText q=itoa q.num ++ 47::decDigits q.den:=by unfold ratText;rw[if_neg hd]
  obtain ⟨e1,e2⟩:=parts_itoa' q.num (decDigits q.den);refine rparts_slash _ _ _ w (by omega) (by rw[aa,e];simp[slashed]) (fun W s' _ ab=>?_) (fun W s' _ ab=>?_)
  ·rw[aa,e,e1] at ab;exact rparse_itoa _ _ W ab (by omega)
  ·rw[aa,e,e2] at ab;have:=rparse_pos s' (decDigits q.den) W ab (decDigits_dig _) (by omega);rw[dval_decDigits] at this;exact this
def RetS (w:World)(q:Rat)(e:Ending)(w':World):Prop:=e=.returned (.string (rs q))∧New w w'
theorem divInt_parts {x y:Int}(hy:0 < y):(Rat.divInt x y).num=sgnd (decide (x < 0)) (x.natAbs / Nat.gcd x.natAbs y.natAbs)∧(Rat.divInt x y).den=y.natAbs / Nat.gcd x.natAbs y.natAbs:=by
 rw[Rat.num_divInt,Rat.den_divInt,if_neg (by omega),Int.sign_eq_one_of_pos hy,Int.one_mul]
 have hc:Int.gcd y x=Nat.gcd x.natAbs y.natAbs:=by rw[Int.gcd_comm];rfl
 rw[hc];refine ⟨?_,rfl⟩;have hd:((Nat.gcd x.natAbs y.natAbs:Nat):Int) ∣ (x.natAbs:Int):=Int.natCast_dvd_natCast.2 (Nat.gcd_dvd_left _ _);unfold sgnd;by_cases h:x < 0
 ·rw[if_pos (by simpa using h)];obtain ⟨n,hn⟩:∃ n:Nat,x.natAbs=n:=⟨_,rfl⟩
  have hx:x= -(n:Int):=by omega
  rw[hn]at hd⊢;rw[hx,Int.neg_ediv_of_dvd hd,Int.natCast_ediv]
 ·rw[if_neg (by simpa using h)];obtain ⟨n,hn⟩:∃ n:Nat,x.natAbs=n:=⟨_,rfl⟩
  have hx:x=(n:Int):=by omega
  rw[hn];rw[hx,Int.natCast_ediv]
theorem itoa_size {z:Int}{K:Nat}(h:z.natAbs < B9^K):(bs (itoa z)).size≤9*K+2:=by
 rw[bs_size]
 have h1:B9^K=10^(9*K):=by rw[Nat.pow_mul]
 have aa:∀ n:Nat,n < B9^K→(decDigits n).length≤9*K+1:=fun n hn=>by
  rw[decDigits_length,nDigits_le_iff (by omega)];have:10^(9*K)≤10^(9*K+1):=Nat.pow_le_pow_right (by omega) (by omega);omega
 rcases Int.lt_or_le z 0 with hz | hz
 ·obtain ⟨n,rfl⟩:∃ n:Nat,z= -(n:Int):=⟨z.natAbs,by omega⟩;rw[Big.itoa_neg (by omega),List.length_cons];have:=aa n (by simpa using h);omega
 ·obtain ⟨n,rfl⟩:∃ n:Nat,z=(n:Int):=⟨z.toNat,by omega⟩;rw[Big.itoa_nonneg];have:=aa n (by simpa using h);omega
theorem rfraction_pos (K:Nat)(vn vd:Value)(x y:Int)(w:World)(hx:IsZ w vn x)(hy:IsZ w vd y)(hK:K≤90000)(bx:x.natAbs < B9^K)(by':y.natAbs < B9^K)(hy0:0 < y):
  Calls prog 122 #[vn,vd] w (RetS w (Rat.divInt x y)):=by
 obtain ⟨sA,a1,l1,c1,rfl⟩:=hx.shape;obtain ⟨sB,a2,l2,c2,rfl⟩:=hy.shape;obtain ⟨bw,av⟩:=hx.parts;obtain ⟨bz,aw⟩:=hy.parts;rw[decide_eq_false (by omega)] at bz;subst bz;obtain ⟨ac,ab⟩:=divInt_parts (x:=x) hy0;obtain ⟨R,hR⟩:∃ R,Rat.divInt x y=R:=⟨_,rfl⟩;rw[hR] at ac ab⊢;rw[←bw] at ac;have aj:=fun W (hW:New w W)=>rcommon_calls K _ _ _ _ W (av.new hW) (aw.new hW) hK bx by';have ak:0 < Nat.gcd x.natAbs y.natAbs:=Nat.gcd_pos_of_pos_right _ (by omega);have bp:Nat.gcd x.natAbs y.natAbs≤y.natAbs:=Nat.le_of_dvd (by omega) (Nat.gcd_dvd_right _ _);obtain ⟨g,hg⟩:∃ g,Nat.gcd x.natAbs y.natAbs=g:=⟨_,rfl⟩;simp only[hg] at aj ac ab ak bp
 have an:g < B9^K:=by omega
 have ay:=fun W (hW:New w W) vg (hvg:IsD W vg g)=>rdivs_calls K _ vg _ g W (av.new hW) hvg hK bx an ak;have az:=fun W (hW:New w W) vg (hvg:IsD W vg g)=>rdivs_calls K _ vg _ g W (aw.new hW) hvg hK by' an ak;have au:x.natAbs / g < B9^K:=Nat.lt_of_le_of_lt (Nat.div_le_self _ _) bx;have am:y.natAbs / g < B9^K:=Nat.lt_of_le_of_lt (Nat.div_le_self _ _) by';obtain ⟨P,hP⟩:∃ P,x.natAbs / g=P:=⟨_,rfl⟩;obtain ⟨Q,hQ⟩:∃ Q,y.natAbs / g=Q:=⟨_,rfl⟩;simp only[hP] at ay ac au;simp only[hQ] at az ab am;have be:=fun W v (h:IsD W v P)=>rsigned_calls sA v P W h.n;have bv:=fun W v (h:IsD W v Q)=>rsigned_calls false v Q W h.n;rw[←ac] at be
 have ba:R.num.natAbs < B9^K:=by rw[ac,sgnd_abs];exact au
 have bf:=fun W v (h:IsZ W v R.num)=>rtext_calls K v R.num W h hK ba;have bg:=fun W v (h:IsZ W v (Q:Int))=>rtext_calls K v (Q:Int) W h hK (by simpa using am);have aq:=itoa_size ba;have ar:=itoa_size (z:=(Q:Int)) (K:=K) (by simpa using am);obtain ⟨S,hS⟩:∃ S,bs (itoa R.num)=S:=⟨_,rfl⟩;obtain ⟨D,hD⟩:∃ D,bs (itoa (Q:Int))=D:=⟨_,rfl⟩;simp only[hS] at bf aq;simp only[hD] at bg ar
 have ao:¬9223372036854775807 < S.size+1:=by omega
 have ap:¬9223372036854775807 < S.size+1+D.size:=by omega
 have bq:∀ W v,IsD W v Q→∃ n f,Dg W v n f∧vf B9 f n=Q:=fun W v h=>h
 have bt:Q=1→rs R=S:=fun h=>by
  unfold rs ratText;rw[if_pos (by rw[ab,h]),hS]
 have bu:Q≠1→rs R=S ++ ⟨#[47]⟩ ++ D:=fun h=>by
  unfold rs ratText;rw[if_neg (by rw[ab];exact h),←hS,←hD,Big.itoa_nonneg,ab];have e:(⟨#[47]⟩:ByteArray)=bs [47]:=rfl;rw[e,bs_append,bs_append,List.append_assoc];rfl
 have bn:Q≠0:=by rw[←ab];exact R.den_nz
 clear hx hy av aw bx by' hR hg bp hP hQ hS hD aq ar au am ba ac ab bq hK bw hy0;refine zh12 ?_ aj ay az be bv bf bg bt bu bn ao ap;intro bh b0 b1 b3 bl b5 bm b2 bk b7 bi bj;replace ak:=hid ak;replace an:=hid an;clear aj ay az be bv bf bg bt bu bn ao ap;go_in;go_upto_region 1 with (fail);obtain ⟨BA,BB,HN⟩:=lay2 w 124 #[.bool sA,.slice a1 l1 c1] 124 #[.bool false,.slice a2 l2 c2];have pa:=BA.out.two;have pb:=BB.out.two;go_wp2_with fail;refine zN (bh _ HN) fun w1 v1 hn a3=>?_;obtain ⟨a5,l5,c5,rfl⟩:=a3.shape;have ag:=hid a3;clear a3;clear pa pb;obtain ⟨HN,BA,BB⟩:=zn3 hn HN BA.new BB.new;clear hn;have pa:=BA.out.two;have pb:=BB.out.two;go_wp2_with fail;refine (b0 _ HN _ ag).mono ?_;rintro e w2 ⟨vp,vr,rfl,hn,bb,ae⟩;obtain ⟨a6,l6,c6,rfl⟩:=bb.shape;obtain ⟨a7,l7,c7,rfl⟩:=ae.shape;clear ae;have al:=hid bb;clear bb;clear pa pb;obtain ⟨HN,BA,BB,ag⟩:=zn4 hn HN BA.new BB.new ag.new;clear hn;have pa:=BA.out.two;have pb:=BB.out.two;go_wp2_with fail;refine (b1 _ HN _ ag).mono ?_;rintro e w3 ⟨vq,cb,rfl,hn,bc,ae⟩;obtain ⟨a8,l8,c8,rfl⟩:=bc.shape;obtain ⟨a9,l9,c9,rfl⟩:=ae.shape;clear ae ag;have aa:=hid bc;clear bc;clear pa pb;obtain ⟨HN,BA,BB,al⟩:=zn4 hn HN BA.new BB.new al.new;clear hn;have pa:=BA.out.two;have pb:=BB.out.two;go_wp2_with fail;refine zO (b3 _ _ al) fun w4 b4 a4 l4 c4 hn hz=>?_;clear al BB;have HZ:=hid hz;clear hz;clear pa pb;obtain ⟨HN,aa⟩:=zn2 hn HN aa.new;clear hn;go_wp2_with fail;refine zM (b5 _ _ HZ) fun w5 hn=>?_;clear HZ BA;obtain ⟨HN,aa⟩:=zn2 hn HN aa.new;clear hn;obtain ⟨n,f,ax,ad⟩:=aa.out;have br:=ax.1.lt;have ah:=ax.canon;obtain ⟨⟨a0,c0,⟨e0, -⟩,ae, -⟩, -⟩:=ax;injection e0 with e1 e2 e3;subst e1 e2 e3;by_cases hl1:l8=1
 ·subst hl1;obtain ⟨b8,o8,rfl,ai⟩:=ae 0 (by omega)
  have bo:f 0=Q:=by rw[←ad];simp[vf]
  rw[bo,Nat.add_zero]at ai;clear br ah ae ad bo;by_cases af:Q=1
  ·have hr:=b2.out af;have HR:=hid hr;clear hr;subst af;go_wp2_with fail;go_ret;exact ⟨by rw[HR.out];rfl,HN.out⟩
  ·have b9:((Q:Int)==1)=false:=by simp;omega
   have hr:=bk.out af;have ao:=bi.out;have ap:=bj.out;clear af;replace hr:=hid hr;go_wp2_with fail;refine zO (bl _ _ aa) fun w6 b6 a6 l6 c6 hn hz=>?_;clear ai;replace hz:=hid hz;obtain ⟨HN,aa⟩:=zn2 hn HN aa.new;clear hn;go_wp2_with fail;refine zM (bm _ _ hz) fun w7 hn=>?_;obtain ⟨HN,aa⟩:=zn2 hn HN aa.new;clear hn;go_wp2_with fail;go_ret;exact ⟨by rw[hr.out];rfl,HN.out⟩
 ·have ca:((l8:Int)==1)=false:=by simp;omega
  have af:Q≠1:=by
   intro h;rw[h] at ad;have h1:=len_le (K:=1) ah ad (by decide)
   have:l8=0:=by omega
   rw[this,vf_zero]at ad;omega
  have hr:=bk.out af;have ao:=bi.out;have ap:=bj.out;clear af br ah ae ad hl1;replace hr:=hid hr;go_wp2_with fail;refine zO (bl _ _ aa) fun w6 b6 a6 l6 c6 hn hz=>?_;replace hz:=hid hz;obtain ⟨HN,aa⟩:=zn2 hn HN aa.new;clear hn;go_wp2_with fail;refine zM (bm _ _ hz) fun w7 hn=>?_;obtain ⟨HN,aa⟩:=zn2 hn HN aa.new;clear hn;go_wp2_with fail;go_ret;exact ⟨by rw[hr.out];rfl,HN.out⟩
theorem ratText_int (z:Int):ratText (z:Rat)=itoa z:=by
 unfold ratText;rw[if_pos (by simp),Rat.num_intCast]
theorem rs_list (q:Rat):(rs q).data.toList=ratText q:=bs_list _
theorem ratText_neg {q:Rat}(h:0 < q.num):ratText (-q)=45::ratText q:=by
 have e1:itoa q.num=decDigits q.num.toNat:=by
  obtain ⟨n,hn⟩:∃ n:Nat,q.num=(n:Int):=⟨q.num.toNat,by omega⟩;rw[hn,Big.itoa_nonneg];rfl
 have e2:itoa (-q.num)=45::decDigits q.num.toNat:=by
  obtain ⟨n,hn⟩:∃ n:Nat,q.num=(n:Int):=⟨q.num.toNat,by omega⟩;rw[hn,Big.itoa_neg (by omega)];rfl
 unfold ratText;rw[Rat.neg_num,Rat.neg_den,e1,e2];split <;> rfl
theorem rat_zero {q:Rat}(h:q.num=0):q=0:=by
 have:=Rat.num_divInt_den q;rw[h,Rat.zero_divInt] at this;exact this.symm
theorem rs_zero:rs 0=⟨#[48]⟩:=by
 unfold rs
 have:ratText 0=[48]:=by
  rw[show (0:Rat)=((0:Int):Rat) from rfl,ratText_int,show (0:Int)=((0:Nat):Int) from rfl,Big.itoa_nonneg,decDigits_zero]
 rw[this];rfl
theorem dec_ne_zero {q:Rat}(h:0 < q.num):ratText q≠[48]:=by
 intro e;unfold ratText at e;obtain ⟨n,hn⟩:∃ n:Nat,q.num=(n:Int):=⟨q.num.toNat,by omega⟩;rw[hn,Big.itoa_nonneg] at e;split at e
 ·have:=decDigits_eq_zero.1 e;omega
 ·have h1:=congrArg List.length e;have h2:=nDigits_pos n;rw[List.length_append,List.length_cons,decDigits_length] at h1;have h3:([48]:List UInt8).length=1:=rfl
  have h4:(decDigits q.den).length≠0:=by
   intro h;exact decDigits_ne_nil _ (List.eq_nil_of_length_eq_zero h)
  omega
theorem head_pos {q:Rat}(h:0 < q.num):∃ c l,ratText q=c::l∧isDig c=true:=by
 unfold ratText;obtain ⟨n,hn⟩:∃ n:Nat,q.num=(n:Int):=⟨q.num.toNat,by omega⟩;rw[hn,Big.itoa_nonneg]
 cases hd:decDigits n with
 | nil=>exact absurd hd (decDigits_ne_nil n)
 | cons c l=>
  have:=decDigits_dig n c (by rw[hd];simp);split
  ·exact ⟨c,l,rfl,this⟩
  ·exact ⟨c,l ++ 47::decDigits q.den,rfl,this⟩
theorem rs_facts_pos {q:Rat}(h:0 < q.num):∃ s:ByteArray,rs q=s∧(s.toList==[48])=false∧∃ h0:0 < s.size,((s[0]'h0).toNat:Int)≠45:=by
 refine ⟨_,rfl,?_,?_⟩
 ·rw[ByteArray.toList_eq,beq_eq_false_iff_ne,rs_list];exact dec_ne_zero h
 ·obtain ⟨c,l,e,hc⟩:=head_pos h
  have hb:(rs q).data.toList[0]?=some c:=by rw[rs_list,e];rfl
  obtain ⟨h0,h1⟩:=byte_at _ hb;refine ⟨h0,?_⟩;rw[h1];have:=isDig_iff.1 hc;omega
theorem rs_facts_neg {q:Rat}(h:q.num < 0):∃ s:ByteArray,rs q=s∧(s.toList==[48])=false∧s.data.toList=45::ratText (-q)∧∃ h0:0 < s.size,((s[0]'h0).toNat:Int)=45:=by
 have e:ratText q=45::ratText (-q):=by
  have:=ratText_neg (q:= -q) (by rw[Rat.neg_num];omega)
  rwa [Rat.neg_neg] at this
 refine ⟨_,rfl,?_,by rw[rs_list,e],?_⟩
 ·rw[ByteArray.toList_eq,beq_eq_false_iff_ne,rs_list,e];intro e2;injection e2 with h1 h2;exact absurd h1 (by decide)
 ·have hb:(rs q).data.toList[0]?=some 45:=by rw[rs_list,e];rfl
  obtain ⟨h0,h1⟩:=byte_at _ hb;refine ⟨h0,?_⟩;rw[h1];rfl
theorem rsign_calls (q:Rat)(w:World):Calls prog 35 #[.string (rs q)] w fun e w'=>e=.returned (.int .i64 q.num.sign)∧w'=w:=by
 rcases Int.lt_trichotomy q.num 0 with h | h | h
 ·rw[Int.sign_eq_neg_one_of_neg h];obtain ⟨s,hs,hb, -,h0,hc⟩:=rs_facts_neg h;have aa:(((s[0]'h0).toNat:Int)==45)=true:=beq_iff_eq.2 hc;rw[hs];clear hs h;go_in;go_wp2_with fail;go_ret;exact ⟨rfl,rfl⟩
 ·rw[h,rat_zero h,rs_zero];clear h;go_in;go_wp2_with fail;go_ret;exact ⟨rfl,rfl⟩
 ·rw[Int.sign_eq_one_of_pos h];obtain ⟨s,hs,hb,h0,hc⟩:=rs_facts_pos h;have aa:(((s[0]'h0).toNat:Int)==45)=false:=beq_eq_false_iff_ne.2 hc;rw[hs];clear hs h;go_in;go_wp2_with fail;go_ret;exact ⟨rfl,rfl⟩
theorem rneg_calls (q:Rat)(w:World)(hl:(rs q).size≤1000000):Calls prog 42 #[.string (rs q)] w (RetS w (-q)):=by
 have aa:=fun W=>rsign_calls q W;rcases Int.lt_trichotomy q.num 0 with h | h | h
 ·rw[Int.sign_eq_neg_one_of_neg h] at aa;obtain ⟨s,hs, -,ad,h0, -⟩:=rs_facts_neg h
  have hr:rs (-q)=s.extract 1 s.size:=by
   apply ByteArray.ext;apply Array.toList_inj.1;rw[rs_list,Lib.extract_to_end,ad];rfl
  have h1:(1:Int)≤(s.size:Int):=by omega
  rw[hs]at aa⊢;clear hs h ad hl h0;have ac:=hid aa;have HR:=hid hr;clear aa hr;go_in;go_wp2_with fail;refine (ac _).mono ?_;rintro e w1 ⟨rfl,ab⟩;rw[ab];clear ab;go_wp2_with fail;go_ret;exact ⟨by rw[HR.out];rfl,New.refl _⟩
 ·rw[h] at aa;have hq:=rat_zero h;subst hq
  have hr:rs (-0)=rs 0:=by rw[Rat.neg_zero]
  obtain ⟨s,hs⟩:∃ s,rs 0=s:=⟨_,rfl⟩;rw[hs] at aa hr⊢;clear hs h hl;have ac:=hid aa;have HR:=hid hr;clear aa hr;go_in;go_wp2_with fail;refine (ac _).mono ?_;rintro e w1 ⟨rfl,ab⟩;rw[ab];clear ab;go_wp2_with fail;refine (ac _).mono ?_;rintro e w1 ⟨rfl,ab⟩;rw[ab];clear ab;go_wp2_with fail;go_ret;exact ⟨by rw[HR.out];rfl,New.refl _⟩
 ·rw[Int.sign_eq_one_of_pos h] at aa
  have hr:rs (-q)=⟨#[45]⟩ ++ rs q:=by
   unfold rs;rw[ratText_neg h];have e:(⟨#[45]⟩:ByteArray)=bs [45]:=rfl;rw[e,bs_append];rfl
  obtain ⟨s,hs⟩:∃ s,rs q=s:=⟨_,rfl⟩;rw[hs] at aa hr hl⊢
  have ae:¬9223372036854775807 < 1+s.size:=by omega
  clear hs h hl;replace aa:=hid aa;replace hr:=hid hr;go_in;go_wp2_with fail;refine (aa _).mono ?_;rintro e w1 ⟨rfl,ab⟩;rw[ab];clear ab;go_wp2_with fail;refine (aa _).mono ?_;rintro e w1 ⟨rfl,ab⟩;rw[ab];clear ab;go_wp2_with fail;go_ret;exact ⟨by rw[hr.out];rfl,New.refl _⟩
def QuickPost (w:World)(q:Rat)(e:Ending)(w':World):Prop:=w'=w∧
 (e=.returned (.tuple #[.int .i64 0,.int .i64 0,.bool false])∨(q.num.natAbs < 1000000000∧q.den < 1000000000∧e=.returned (.tuple #[.int .i64 q.num,.int .i64 (q.den:Int),.bool true])))
structure UText (U:ByteArray)(m d:Nat):Prop where
 size:U.size≤20
 list:U.data.toList=if d=1 then decDigits m else decDigits m ++ 47::decDigits d
theorem UText.up {U:ByteArray}{m d:Nat}(h:UText U m d):upTo U.data.toList=decDigits m:=by
 rw[h.list];split
 ·exact upTo_plain m
 ·exact upTo_slash m _
theorem small_of_len {n k:Nat}(h:(decDigits n).length≤k)(hk:0 < k):n < 10^k:=by
 rw[decDigits_length,nDigits_le_iff hk]at h;exact h
structure Lt9 (m:Nat):Prop where
 lt:m < 1000000000
theorem rquick_long (q:Rat)(w:World)(hl:20 < (rs q).size)(hh:(rs q).size≤1000000):Calls prog 121 #[.string (rs q)] w (QuickPost w q):=by
 obtain ⟨s,hs⟩:∃ s,rs q=s:=⟨_,rfl⟩;rw[hs] at hl hh⊢
 have h1:(20:Int) < (s.size:Int):=by omega
 have aa:decide ((20:Int) < (s.size:Int))=true:=decide_eq_true h1;clear hs hl;go_in;go_wp2_with fail;go_ret3;exact ⟨rfl,.inl rfl⟩
theorem rquick_pos (q:Rat)(w:World)(hl:(rs q).size≤20)(hq:0≤q.num):Calls prog 121 #[.string (rs q)] w (QuickPost w q):=by
 obtain ⟨m,hm⟩:∃ m:Nat,q.num=(m:Int):=⟨q.num.toNat,by omega⟩;obtain ⟨d,hd⟩:∃ d,q.den=d:=⟨_,rfl⟩;obtain ⟨U,hs⟩:∃ s,rs q=s:=⟨_,rfl⟩
 have al:U.data.toList=if d=1 then decDigits m else decDigits m ++ 47::decDigits d:=by
  rw[←hs,rs_list];unfold ratText;rw[hm,hd,Big.itoa_nonneg]
 rw[hs]at hl⊢;have hU:UText U m d:=⟨hl,al⟩;have ab:m < 1000000000→d < 1000000000→QuickPost w q (.returned (.tuple #[.int .i64 (m:Int),.int .i64 (d:Int),.bool true])) w:=fun h1 h2=>⟨rfl,.inr ⟨by omega,by omega,by rw[hm,hd]⟩⟩
 have bo:∃ c,U.data.toList[0]?=some c∧isDig c=true:=by
  rw[al]
  cases hdd:decDigits m with
  | nil=>exact absurd hdd (decDigits_ne_nil m)
  | cons c l=>
   have:=decDigits_dig m c (by rw[hdd];simp);split
   ·exact ⟨c,rfl,this⟩
   ·exact ⟨c,rfl,this⟩
 obtain ⟨c,bc,be⟩:=bo;obtain ⟨h0,bf⟩:=byte_at U bc;have bn:=isDig_iff.1 be
 have hc:¬((U[0]'h0).toNat:Int)=45:=by rw[bf];omega
 have br:(((U[0]'h0).toNat:Int)==45)=false:=beq_eq_false_iff_ne.2 hc;clear hs al hq bc be bf bn hm hd;have ae:=fun W=>rslash_calls U W (by have:=hU.size;omega);rw[hU.up] at ae;obtain ⟨k,hk⟩:∃ k,(decDigits m).length=k:=⟨_,rfl⟩;simp only[hk] at ae
 have ac:U.data.toList.length=U.size:=by simp
 have az:0 < k:=by
  rw[←hk,decDigits_length];exact nDigits_pos m
 have ax:k≤U.size:=by
  rw[←ac,hU.list];split
  ·omega
  ·rw[List.length_append];omega
 have am:=hU.size;obtain ⟨z,hz⟩:∃ z,U.size - k=z:=⟨_,rfl⟩
 have bk:(U.size:Int) - (k:Int)=(z:Int):=by omega
 have bu:(z:Int)≤20:=by omega
 have bt:(k:Int)≤20:=by omega
 have bq:(U.size:Int)≤20:=by omega
 by_cases h9:9 < k
 ·have av:(9:Int) < (k:Int):=by omega
  have a7:decide ((9:Int) < (k:Int))=true:=decide_eq_true av;clear hk ac az ax hz h9 am;refine zh3 ?_ ae hU ab;clear ae hU ab;intro ak HU a8
  (go_in;go_wp2_with fail)
  refine (ak _).mono ?_;rintro e w1 ⟨rfl,aa⟩;rw[aa];clear aa;go_wp2_with fail;go_ret3;exact ⟨rfl,.inl rfl⟩
 have av:¬(9:Int) < (k:Int):=by omega
 have a7:decide ((9:Int) < (k:Int))=false:=decide_eq_false av;by_cases h10:10 < z
 ·have ah:(10:Int) < (z:Int):=by omega
  have au:decide ((10:Int) < (z:Int))=true:=decide_eq_true ah;clear hk ac az ax hz h9 am h10;refine zh3 ?_ ae hU ab;clear ae hU ab;intro ak HU a8
  (go_in;go_wp2_with fail)
  refine (ak _).mono ?_;rintro e w1 ⟨rfl,aa⟩;rw[aa];clear aa;go_wp2_with fail;go_ret3;exact ⟨rfl,.inl rfl⟩
 have ah:¬(10:Int) < (z:Int):=by omega
 have au:decide ((10:Int) < (z:Int))=false:=decide_eq_false ah;have ay:m < 1000000000:=small_of_len (k:=9) (by omega) (by omega)
 have e1:(U.extract 0 k).data.toList=decDigits m:=by
  rw[Lib.extract_data];show U.data.toList.take k=_;rw[hU.list];split
  ·rw[←hk];simp
  ·rw[←hk];simp
 have aq:=fun W=>rvalue_calls (U.extract 0 k) _ W e1 (decDigits_dig m) (by omega);rw[dval_decDigits] at aq;obtain ⟨S1,ag⟩:∃ S,U.extract 0 k=S:=⟨_,rfl⟩;simp only[ag] at aq;have a1:Lt9 m:=⟨ay⟩;have aj:k≤U.size:=ax;by_cases hd1:d=1
 ·have bp:k=U.size:=by
   have:=hU.list;rw[if_pos hd1] at this;rw[←ac,this,hk]
  have ad:¬(k:Int) < (U.size:Int):=by omega
  have ai:decide ((k:Int) < (U.size:Int))=false:=decide_eq_false ad;have af:=ab ay (by omega);rw[hd1] at af;clear hk ac az ax hz h9 am h10 e1 bp ab ay;refine zh8 ?_ ae hU af aq ag aj ad ai;clear ae hU af aq ag aj ad ai;intro ak HU ar a6 a5 a4 a2 a3
  (go_in;go_wp2_with fail)
  refine (ak _).mono ?_;rintro e w1 ⟨rfl,aa⟩;rw[aa];clear aa;have ag:=a5.out;have aj:=a4.out;go_wp2_with fail;refine (a6 _).mono ?_;rintro e w1 ⟨rfl,aa⟩;rw[aa];clear aa ag aj a7 av au ah bk;have ad:=a2.out;have ai:=a3.out;go_upto_region 13 with (fail);clear ad ai
  have bj:(m:Int) < 1000000000:=by have:=a1.lt;omega
  go_wp2_with fail;go_ret3;exact ar
 ·have hul:=hU.list;rw[if_neg hd1] at hul;have bi:=congrArg List.length hul;rw[ac,List.length_append,List.length_cons,hk] at bi;have bg:d < 1000000000:=small_of_len (k:=9) (by omega) (by omega);obtain ⟨k1,bh⟩:∃ z,k+1=z:=⟨_,rfl⟩
  have e2:(U.extract k1 U.size).data.toList=decDigits d:=by
   rw[Lib.extract_to_end,hul,←bh,←hk];simp
  have a0:=fun W=>rvalue_calls (U.extract k1 U.size) _ W e2 (decDigits_dig d) (by omega);rw[dval_decDigits] at a0;obtain ⟨S2,aw⟩:∃ S,U.extract k1 U.size=S:=⟨_,rfl⟩;simp only[aw] at a0
  have ad:(k:Int) < (U.size:Int):=by omega
  have ai:decide ((k:Int) < (U.size:Int))=true:=decide_eq_true ad
  have an:(k:Int)+1=(k1:Int):=by omega
  have ao:(k1:Int)≤(U.size:Int):=by omega
  have ap:k1≤U.size:=by omega
  have af:=ab ay bg;clear hk ac az ax hz h9 am h10 e1 e2 hul bi bg bh ab ay;refine zh12 ?_ ae hU af aq a0 ag aj ad ai aw an ao;intro ak HU ar a6 bm a5 a4 a2 a3 bl a9 ba;have bb:=hid ap;clear ae hU af aq a0 ag aj ad ai aw an ao ap
  (go_in;go_wp2_with fail)
  refine (ak _).mono ?_;rintro e w1 ⟨rfl,aa⟩;rw[aa];clear aa;have ag:=a5.out;have aj:=a4.out;go_wp2_with fail;refine (a6 _).mono ?_;rintro e w1 ⟨rfl,aa⟩;rw[aa];clear aa ag aj a7 av au ah bk;have ad:=a2.out;have ai:=a3.out;have an:=a9.out;have ao:=ba.out;have ap:=bb.out;have aw:=bl.out;go_wp2_with fail;refine (bm _).mono ?_;rintro e w1 ⟨rfl,aa⟩;rw[aa];clear aa aw ap ao an
  have bj:(m:Int) < 1000000000:=by have:=a1.lt;omega
  go_wp2_with fail;go_ret3;exact ar
theorem rquick_neg (q:Rat)(w:World)(hl:(rs q).size≤20)(hq:q.num < 0):Calls prog 121 #[.string (rs q)] w (QuickPost w q):=by
 obtain ⟨m,hm⟩:∃ m:Nat,q.num= -(m:Int):=⟨q.num.natAbs,by omega⟩;obtain ⟨d,hd⟩:∃ d,q.den=d:=⟨_,rfl⟩;obtain ⟨s,hs, -,bg,h0,hc⟩:=rs_facts_neg hq;rw[hs] at hl⊢;have br:(((s[0]'h0).toNat:Int)==45)=true:=beq_iff_eq.2 hc
 have al:(s.extract 1 s.size).data.toList=if d=1 then decDigits m else decDigits m ++ 47::decDigits d:=by
  rw[Lib.extract_to_end,bg];show ratText (-q)=_;unfold ratText;rw[Rat.neg_num,Rat.neg_den,hm,hd,Int.neg_neg,Big.itoa_nonneg]
 have a8:(s.extract 1 s.size).size≤20:=by simp;omega
 obtain ⟨U,bm⟩:∃ U,s.extract 1 s.size=U:=⟨_,rfl⟩;rw[bm] at al a8;have hU:UText U m d:=⟨a8,al⟩;have ab:m < 1000000000→d < 1000000000→QuickPost w q (.returned (.tuple #[.int .i64 (-(m:Int)),.int .i64 (d:Int),.bool true])) w:=fun h1 h2=>⟨rfl,.inr ⟨by omega,by omega,by rw[hm,hd]⟩⟩
 have bp:(1:Int)≤(s.size:Int):=by omega
 have bo:(s.size:Int)≤20:=by omega
 clear hs al hq hm hd hl bg a8;have ae:=fun W=>rslash_calls U W (by have:=hU.size;omega);rw[hU.up] at ae;obtain ⟨k,hk⟩:∃ k,(decDigits m).length=k:=⟨_,rfl⟩;simp only[hk] at ae
 have ac:U.data.toList.length=U.size:=by simp
 have az:0 < k:=by
  rw[←hk,decDigits_length];exact nDigits_pos m
 have ax:k≤U.size:=by
  rw[←ac,hU.list];split
  ·omega
  ·rw[List.length_append];omega
 have am:=hU.size;obtain ⟨z,hz⟩:∃ z,U.size - k=z:=⟨_,rfl⟩
 have bj:(U.size:Int) - (k:Int)=(z:Int):=by omega
 have bu:(z:Int)≤20:=by omega
 have bt:(k:Int)≤20:=by omega
 have bq:(U.size:Int)≤20:=by omega
 by_cases h9:9 < k
 ·have av:(9:Int) < (k:Int):=by omega
  have a7:decide ((9:Int) < (k:Int))=true:=decide_eq_true av;clear hk ac az ax hz h9 am;refine zh3 ?_ ae hU ab;clear ae hU ab;intro ak HU a9
  (go_in;go_wp2_with fail)
  refine (ak _).mono ?_;rintro e w1 ⟨rfl,aa⟩;rw[aa];clear aa;go_wp2_with fail;go_ret3;exact ⟨rfl,.inl rfl⟩
 have av:¬(9:Int) < (k:Int):=by omega
 have a7:decide ((9:Int) < (k:Int))=false:=decide_eq_false av;by_cases h10:10 < z
 ·have ah:(10:Int) < (z:Int):=by omega
  have au:decide ((10:Int) < (z:Int))=true:=decide_eq_true ah;clear hk ac az ax hz h9 am h10;refine zh3 ?_ ae hU ab;clear ae hU ab;intro ak HU a9
  (go_in;go_wp2_with fail)
  refine (ak _).mono ?_;rintro e w1 ⟨rfl,aa⟩;rw[aa];clear aa;go_wp2_with fail;go_ret3;exact ⟨rfl,.inl rfl⟩
 have ah:¬(10:Int) < (z:Int):=by omega
 have au:decide ((10:Int) < (z:Int))=false:=decide_eq_false ah;have ay:m < 1000000000:=small_of_len (k:=9) (by omega) (by omega)
 have e1:(U.extract 0 k).data.toList=decDigits m:=by
  rw[Lib.extract_data];show U.data.toList.take k=_;rw[hU.list];split
  ·rw[←hk];simp
  ·rw[←hk];simp
 have aq:=fun W=>rvalue_calls (U.extract 0 k) _ W e1 (decDigits_dig m) (by omega);rw[dval_decDigits] at aq;obtain ⟨S1,ag⟩:∃ S,U.extract 0 k=S:=⟨_,rfl⟩;simp only[ag] at aq;have a1:Lt9 m:=⟨ay⟩;have aj:k≤U.size:=ax;by_cases hd1:d=1
 ·have bn:k=U.size:=by
   have:=hU.list;rw[if_pos hd1] at this;rw[←ac,this,hk]
  have ad:¬(k:Int) < (U.size:Int):=by omega
  have ai:decide ((k:Int) < (U.size:Int))=false:=decide_eq_false ad;have af:=ab ay (by omega);rw[hd1] at af;clear hk ac az ax hz h9 am h10 e1 bn ab ay;refine zh8 ?_ ae hU af aq ag aj ad ai;clear ae hU af aq ag aj ad ai;intro ak HU ar a6 a5 a4 a2 a3
  (go_in;go_wp2_with fail)
  refine (ak _).mono ?_;rintro e w1 ⟨rfl,aa⟩;rw[aa];clear aa;have ag:=a5.out;have aj:=a4.out;go_wp2_with fail;refine (a6 _).mono ?_;rintro e w1 ⟨rfl,aa⟩;rw[aa];clear aa ag aj a7 av au ah bj;have ad:=a2.out;have ai:=a3.out;go_upto_region 13 with (fail);clear ad ai
  have bi:(m:Int) < 1000000000:=by have:=a1.lt;omega
  go_wp2_with fail;go_ret3;exact ar
 ·have hul:=hU.list;rw[if_neg hd1] at hul;have bh:=congrArg List.length hul;rw[ac,List.length_append,List.length_cons,hk] at bh;have be:d < 1000000000:=small_of_len (k:=9) (by omega) (by omega);obtain ⟨k1,bf⟩:∃ z,k+1=z:=⟨_,rfl⟩
  have e2:(U.extract k1 U.size).data.toList=decDigits d:=by
   rw[Lib.extract_to_end,hul,←bf,←hk];simp
  have a0:=fun W=>rvalue_calls (U.extract k1 U.size) _ W e2 (decDigits_dig d) (by omega);rw[dval_decDigits] at a0;obtain ⟨S2,aw⟩:∃ S,U.extract k1 U.size=S:=⟨_,rfl⟩;simp only[aw] at a0
  have ad:(k:Int) < (U.size:Int):=by omega
  have ai:decide ((k:Int) < (U.size:Int))=true:=decide_eq_true ad
  have an:(k:Int)+1=(k1:Int):=by omega
  have ao:(k1:Int)≤(U.size:Int):=by omega
  have ap:k1≤U.size:=by omega
  have af:=ab ay be;clear hk ac az ax hz h9 am h10 e1 e2 hul bh be bf ab ay;refine zh12 ?_ ae hU af aq a0 ag aj ad ai aw an ao;intro ak HU ar a6 bl a5 a4 a2 a3 bk ba bb;have bc:=hid ap;clear ae hU af aq a0 ag aj ad ai aw an ao ap
  (go_in;go_wp2_with fail)
  refine (ak _).mono ?_;rintro e w1 ⟨rfl,aa⟩;rw[aa];clear aa;have ag:=a5.out;have aj:=a4.out;go_wp2_with fail;refine (a6 _).mono ?_;rintro e w1 ⟨rfl,aa⟩;rw[aa];clear aa ag aj a7 av au ah bj;have ad:=a2.out;have ai:=a3.out;have an:=ba.out;have ao:=bb.out;have ap:=bc.out;have aw:=bk.out;go_wp2_with fail;refine (bl _).mono ?_;rintro e w1 ⟨rfl,aa⟩;rw[aa];clear aa aw ap ao an
  have bi:(m:Int) < 1000000000:=by have:=a1.lt;omega
  go_wp2_with fail;go_ret3;exact ar
theorem rquick_calls (k:Nat)(q:Rat)(w:World)(hq:RFB k q)(hk:k≤40000):Calls prog 121 #[.string (rs q)] w (QuickPost w q):=by
 have aa:=hq.len;rcases Nat.lt_or_ge 20 (rs q).size with h | h
 ·exact rquick_long q w h (by omega)
 ·rcases Int.lt_or_le q.num 0 with h1 | h1
  ·exact rquick_neg q w h h1
  ·exact rquick_pos q w h h1
theorem of_parts {x:Int}{m d:Nat}(hm:x.natAbs=m)(hd:0 < d):(Rat.divInt x d).num=sgnd (decide (x < 0)) (m / Nat.gcd m d)∧(Rat.divInt x d).den=d / Nat.gcd m d:=by
 have:=divInt_parts (x:=x) (y:=(d:Int)) (by omega);rw[hm] at this;exact this
theorem sgnd_pos {m k:Nat}:sgnd (decide ((m:Int) < 0)) k=(k:Int):=by
 unfold sgnd;rw[if_neg (by simp)]
theorem sgnd_neg' {m k:Nat}(h:0 < m):sgnd (decide (-(m:Int) < 0)) k= -(k:Int):=by
 unfold sgnd;rw[if_pos (by simp;omega)]
theorem neg_facts {m P g:Nat}(hm:0 < m)(hP:0 < P)(p2:Int.tdiv (m:Int) (g:Int)=(P:Int)): -(P:Int) < 0∧max (-(m:Int)) (m:Int)=(m:Int)∧max (-(m:Int)) (0 - -(m:Int))=(m:Int)∧¬(m:Int)≤ -(m:Int)∧Int.tdiv (-(m:Int)) (g:Int)= -(P:Int)∧max (-(P:Int)) (P:Int)=(P:Int)∧decide (-(P:Int) < 0)=true∧¬(P:Int)≤ -(P:Int):=by
 refine ⟨by omega,by omega,by omega,by omega,by rw[Int.neg_tdiv,p2],by omega,decide_eq_true (by omega),by omega⟩
theorem ofr_two (A B:List UInt8):bs (A ++ 47::B)=bs A ++ ⟨#[47]⟩ ++ bs B:=by
 have e:(⟨#[47]⟩:ByteArray)=bs [47]:=rfl;rw[e,bs_append,bs_append,List.append_assoc];rfl
theorem dec64 {n:Nat}(h:n≤4000000000000000000):(decDigits n).length≤64:=by
 have h1:(2:Nat)^63=9223372036854775808:=by decide
 exact dec_len2 (n:=n) (k:=63) (by omega)
theorem rof_pos (m d:Nat)(w:World)(hm:m≤4000000000000000000)(hd:0 < d)(hd2:d≤4000000000000000000):Calls prog 73 #[.int .i64 ((m:Int)),.int .i64 (d:Int)] w (RetS w (Rat.divInt ((m:Int)) d)):=by
 obtain ⟨ab,aa⟩:=of_parts (x:=(m:Int)) (m:=m) (d:=d) (by omega) hd;obtain ⟨R,hR⟩:∃ R,Rat.divInt ((m:Int)) d=R:=⟨_,rfl⟩;rw[hR] at ab aa⊢;have ar:=fun W=>rgcd_calls m d W (by omega) (by omega);have aw:0 < Nat.gcd m d:=Nat.gcd_pos_of_pos_right _ hd;obtain ⟨g,hg⟩:∃ g,Nat.gcd m d=g:=⟨_,rfl⟩
 have ba:g≤d:=by rw[←hg];exact Nat.le_of_dvd hd (Nat.gcd_dvd_right _ _)
 simp only[hg]at ar ab aa aw;obtain ⟨p1,p2, -, -⟩:=divd m g;obtain ⟨q1,q2, -, -⟩:=divd d g;have a7:m / g≤m:=Nat.div_le_self _ _;have a8:d / g≤d:=Nat.div_le_self _ _;obtain ⟨P,hP⟩:∃ P,m / g=P:=⟨_,rfl⟩;obtain ⟨Q,hQ⟩:∃ Q,d / g=Q:=⟨_,rfl⟩;rw[hP] at p1 p2 a7 ab;rw[hQ] at q1 q2 a8 aa
 have bh:0 < Q:=by rw[←hQ];exact Nat.div_pos ba aw
 have ap:=fun W=>rdecimal_one P W (by omega);have aq:=fun W=>rdecimal_one Q W (by omega);have bb:=dec64 (n:=P) (by omega);have bc:=dec64 (n:=Q) (by omega);obtain ⟨S,hS⟩:∃ S,bs (decDigits P)=S:=⟨_,rfl⟩;obtain ⟨D,hD⟩:∃ D,bs (decDigits Q)=D:=⟨_,rfl⟩
 have bi:S.size≤64:=by rw[←hS,bs_size];exact bb
 have bg:D.size≤64:=by rw[←hD,bs_size];exact bc
 simp only[hS]at ap;simp only[hD] at aq
 have am:¬(P:Int) < 0:=(by omega);have bj:max (m:Int) (-(m:Int))=(m:Int):=(by omega);have bt:max (P:Int) (-(P:Int))=(P:Int):=(by omega)
 have ai:Q=1→rs R=S:=fun h=>by
  unfold rs ratText;rw[if_pos (by rw[aa,h]),ab];rw[sgnd_pos,Big.itoa_nonneg,hS]
 have aj:Q≠1→rs R=S ++ ⟨#[47]⟩ ++ D:=fun h=>by
  unfold rs ratText;rw[if_neg (by rw[aa];exact h),ab,aa];rw[sgnd_pos,Big.itoa_nonneg,ofr_two,hS,hD]
 have ag:(0:Int) < (g:Int):=by omega
 have af:((g:Int)==0)=false:=by simp;omega
 have ah:(g:Int)≠0:=by omega
 have bq:(0:Int) < (d:Int):=by omega
 have a9:¬(d:Int) < 0:=by omega
 have ax:decide ((d:Int) < 0)=false:=decide_eq_false a9
 have k1:¬((m:Int)) < -4000000000000000000:=by omega
 have k2:¬4000000000000000000 < ((m:Int)):=by omega
 have k3:¬(d:Int) < -4000000000000000000:=by omega
 have k4:¬4000000000000000000 < (d:Int):=by omega
 have bk:=decide_eq_false k1;have bl:=decide_eq_false k2;have bm:=decide_eq_false k3;have bn:=decide_eq_false k4
 have ac:¬9223372036854775807 < S.size:=by omega
 have ad:¬9223372036854775807 < S.size+1:=by omega
 have ae:¬9223372036854775807 < S.size+1+D.size:=by omega
 have ak:(P:Int)≤4000000000000000000:=by omega
 have al:(Q:Int)≤4000000000000000000:=by omega
 have br:(m:Int)≤4000000000000000000:=by omega
 by_cases hQ1:Q=1
 ·have hr:=ai hQ1;clear ab aa hR aw hg ba hP hQ a7 a8 bb bc hS hD bi bg ai aj hm hd hd2 bh;refine zh12 ?_ ar ap aq hr p1 p2 q1 q2 ag af ah ac;intro a0 ay be HR P1 P2 a5 a6 a1 az a2 HA;refine zh5 ?_ ad ae ak al am;clear ar ap aq hr p1 p2 q1 q2 ag af ah ac ad ae ak al am;intro HB HC an a3 a4;subst hQ1;go_in;go_wp2_with fail;refine zM (a0 _) fun w1 hn=>?_;clear bj k1 k2 k3 k4 bk bl bm bn a9 ax;have HN:=hid hn;clear hn;have p1:=P1.out;have p2:=P2.out;have q1:=a5.out;have q2:=a6.out;have ag:=a1.out;have af:=az.out;have ah:=a2.out;have ak:=an.out;have al:=a3.out;have am:=a4.out;go_wp2_with fail
  go_quiet (fail)
  replace HN:=hid (HN.drewN nq);obtain ⟨w9,au⟩:∃ x,w1.drewN nq=x:=⟨_,rfl⟩;rw[au] at HN⊢;clear au p1 p2 q1 q2 ag af ah;have bp:=an.out;go_wp2_with fail;refine zM (ay _) fun w2 hn=>?_;replace HN:=tW HN hn;clear hn;have hA:=HA.out;go_wp2_with fail;go_ret;exact ⟨by rw[HR.out];rfl,HN.out⟩
 ·have hr:=aj hQ1
  have av:(1:Int) < (Q:Int):=by omega
  have ao:decide ((1:Int) < (Q:Int))=true:=decide_eq_true av;clear ab aa hR aw hg ba hP hQ a7 a8 bb bc hS hD bi bg ai aj hm hd hd2 bh hQ1;refine zh12 ?_ ar ap aq hr p1 p2 q1 q2 ag af ah ac;intro a0 ay be HR P1 P2 a5 a6 a1 az a2 HA;refine zh7 ?_ ad ae ak al av ao am;clear ar ap aq hr p1 p2 q1 q2 ag af ah ac ad ae ak al av ao am;intro HB HC an a3 bo bf a4;go_in;go_wp2_with fail;refine zM (a0 _) fun w1 hn=>?_;clear bj k1 k2 k3 k4 bk bl bm bn a9 ax;have HN:=hid hn;clear hn;have p1:=P1.out;have p2:=P2.out;have q1:=a5.out;have q2:=a6.out;have ag:=a1.out;have af:=az.out;have ah:=a2.out;have ak:=an.out;have al:=a3.out;have am:=a4.out;go_wp2_with fail
  go_quiet (fail)
  replace HN:=hid (HN.drewN nq);obtain ⟨w9,au⟩:∃ x,w1.drewN nq=x:=⟨_,rfl⟩;rw[au] at HN⊢;clear au p1 p2 q1 q2 ag af ah;have bp:=an.out;go_wp2_with fail;refine zM (ay _) fun w2 hn=>?_;replace HN:=tW HN hn;clear hn;have hA:=HA.out;have hB:=HB.out;have av:=bo.out;have ao:=bf.out;go_wp2_with fail;refine zM (be _) fun w3 hn=>?_;replace HN:=tW HN hn;clear hn;have hC:=HC.out;go_wp2_with fail;go_ret;exact ⟨by rw[HR.out];rfl,HN.out⟩
theorem rof_neg (m d:Nat)(w:World)(hm:m≤4000000000000000000)(hd:0 < d)(hd2:d≤4000000000000000000)(hmp:0 < m):Calls prog 73 #[.int .i64 (-(m:Int)),.int .i64 (d:Int)] w (RetS w (Rat.divInt (-(m:Int)) d)):=by
 obtain ⟨ab,aa⟩:=of_parts (x:= -(m:Int)) (m:=m) (d:=d) (by omega) hd;obtain ⟨R,hR⟩:∃ R,Rat.divInt (-(m:Int)) d=R:=⟨_,rfl⟩;rw[hR] at ab aa⊢;have ay:=fun W=>rgcd_calls m d W (by omega) (by omega);have ax:0 < Nat.gcd m d:=Nat.gcd_pos_of_pos_right _ hd;obtain ⟨g,hg⟩:∃ g,Nat.gcd m d=g:=⟨_,rfl⟩
 have bj:g≤d:=by rw[←hg];exact Nat.le_of_dvd hd (Nat.gcd_dvd_right _ _)
 simp only[hg]at ay ab aa ax;obtain ⟨p1,p2, -, -⟩:=divd m g;obtain ⟨q1,q2, -, -⟩:=divd d g;have bg:m / g≤m:=Nat.div_le_self _ _;have bh:d / g≤d:=Nat.div_le_self _ _;obtain ⟨P,hP⟩:∃ P,m / g=P:=⟨_,rfl⟩;obtain ⟨Q,hQ⟩:∃ Q,d / g=Q:=⟨_,rfl⟩;rw[hP] at p1 p2 bg ab;rw[hQ] at q1 q2 bh aa
 have bp:0 < Q:=by rw[←hQ];exact Nat.div_pos bj ax
 have av:=fun W=>rdecimal_one P W (by omega);have aw:=fun W=>rdecimal_one Q W (by omega);have bk:=dec64 (n:=P) (by omega);have bl:=dec64 (n:=Q) (by omega);obtain ⟨S,hS⟩:∃ S,bs (decDigits P)=S:=⟨_,rfl⟩;obtain ⟨D,hD⟩:∃ D,bs (decDigits Q)=D:=⟨_,rfl⟩
 have bq:S.size≤64:=by rw[←hS,bs_size];exact bk
 have bo:D.size≤64:=by rw[←hD,bs_size];exact bl
 simp only[hS]at av;simp only[hD] at aw;obtain ⟨am,b1,b2,b3,an,ao,ap,aq⟩:=neg_facts (P:=P) (m:=m) (g:=g) hmp (by rw[←hP];exact Nat.div_pos (by rw[←hg];exact Nat.le_of_dvd hmp (Nat.gcd_dvd_left _ _)) ax) p2
 have ai:Q=1→rs R=⟨#[45]⟩ ++ S:=fun h=>by
  unfold rs ratText;rw[if_pos (by rw[aa,h]),ab];rw[sgnd_neg' hmp,Big.itoa_neg (by omega),←hS];exact (bs_append [45] _).symm
 have aj:Q≠1→rs R=⟨#[45]⟩ ++ S ++ ⟨#[47]⟩ ++ D:=fun h=>by
  unfold rs ratText;rw[if_neg (by rw[aa];exact h),ab,aa];rw[sgnd_neg' hmp,Big.itoa_neg (by omega),ofr_two,←hS,←hD,show bs (45::decDigits P)=⟨#[45]⟩ ++ bs (decDigits P) from (bs_append [45] _).symm]
 have ag:(0:Int) < (g:Int):=by omega
 have af:((g:Int)==0)=false:=by simp;omega
 have ah:(g:Int)≠0:=by omega
 have bz:(0:Int) < (d:Int):=by omega
 have bi:¬(d:Int) < 0:=by omega
 have a1:decide ((d:Int) < 0)=false:=decide_eq_false bi
 have k1:¬(-(m:Int)) < -4000000000000000000:=by omega
 have k2:¬4000000000000000000 < (-(m:Int)):=by omega
 have k3:¬(d:Int) < -4000000000000000000:=by omega
 have k4:¬4000000000000000000 < (d:Int):=by omega
 have br:=decide_eq_false k1;have bt:=decide_eq_false k2;have bu:=decide_eq_false k3;have bv:=decide_eq_false k4
 have ac:¬9223372036854775807 < 1+S.size:=by omega
 have ad:¬9223372036854775807 < 1+S.size+1:=by omega
 have ae:¬9223372036854775807 < 1+S.size+1+D.size:=by omega
 have ak:(P:Int)≤4000000000000000000:=by omega
 have al:(Q:Int)≤4000000000000000000:=by omega
 have b0:(m:Int)≤4000000000000000000:=by omega
 by_cases hQ1:Q=1
 ·have hr:=ai hQ1;clear ab aa hR ax hg bj hP hQ bg bh bk bl hS hD bq bo ai aj hm hd hd2 bp hmp;refine zh12 ?_ ay av aw hr p1 p2 q1 q2 ag af ah ac;intro a4 a2 bm HR P1 P2 be bf a5 a3 a6 HA;refine zh9 ?_ ad ae ak al am an ao ap aq;clear ay av aw hr p1 p2 q1 q2 ag af ah ac ad ae ak al am an ao ap aq;intro HB HC ar a7 a8 a9 ba bb bc;subst hQ1;go_in;go_wp2_with fail;refine zM (a4 _) fun w1 hn=>?_;clear  k1 k2 k3 k4 br bt bu bv bi a1;have HN:=hid hn;clear hn;have p1:=P1.out;have p2:=P2.out;have q1:=be.out;have q2:=bf.out;have ag:=a5.out;have af:=a3.out;have ah:=a6.out;have ak:=ar.out;have al:=a7.out
  (have am:=a8.out;have an:=a9.out;have ao:=ba.out;have ap:=bb.out;have aq:=bc.out)
  go_wp2_with fail
  go_quiet (fail)
  replace HN:=hid (HN.drewN nq);obtain ⟨w9,az⟩:∃ x,w1.drewN nq=x:=⟨_,rfl⟩;rw[az] at HN⊢;clear az p1 p2 q1 q2 ag af ah;have bx:=ar.out;go_wp2_with fail;refine zM (a2 _) fun w2 hn=>?_;replace HN:=tW HN hn;clear hn;have hA:=HA.out;go_wp2_with fail;go_ret;exact ⟨by rw[HR.out];rfl,HN.out⟩
 ·have hr:=aj hQ1
  have a0:(1:Int) < (Q:Int):=by omega
  have au:decide ((1:Int) < (Q:Int))=true:=decide_eq_true a0;clear ab aa hR ax hg bj hP hQ bg bh bk bl hS hD bq bo ai aj hm hd hd2 bp hQ1 hmp;refine zh12 ?_ ay av aw hr p1 p2 q1 q2 ag af ah ac;intro a4 a2 bm HR P1 P2 be bf a5 a3 a6 HA;refine zh11 ?_ ad ae ak al a0 au am an ao ap aq;clear ay av aw hr p1 p2 q1 q2 ag af ah ac ad ae ak al a0 au am an ao ap aq;intro HB HC ar a7 bw bn a8 a9 ba bb bc;go_in;go_wp2_with fail;refine zM (a4 _) fun w1 hn=>?_;clear  k1 k2 k3 k4 br bt bu bv bi a1;have HN:=hid hn;clear hn;have p1:=P1.out;have p2:=P2.out;have q1:=be.out;have q2:=bf.out;have ag:=a5.out;have af:=a3.out;have ah:=a6.out;have ak:=ar.out;have al:=a7.out
  (have am:=a8.out;have an:=a9.out;have ao:=ba.out;have ap:=bb.out;have aq:=bc.out)
  go_wp2_with fail
  go_quiet (fail)
  replace HN:=hid (HN.drewN nq);obtain ⟨w9,az⟩:∃ x,w1.drewN nq=x:=⟨_,rfl⟩;rw[az] at HN⊢;clear az p1 p2 q1 q2 ag af ah;have bx:=ar.out;go_wp2_with fail;refine zM (a2 _) fun w2 hn=>?_;replace HN:=tW HN hn;clear hn;have hA:=HA.out;have hB:=HB.out;have a0:=bw.out;have au:=bn.out;go_wp2_with fail;refine zM (bm _) fun w3 hn=>?_;replace HN:=tW HN hn;clear hn;have hC:=HC.out;go_wp2_with fail;go_ret;exact ⟨by rw[HR.out];rfl,HN.out⟩
theorem rof_calls (x:Int)(d:Nat)(w:World)(lo: -4000000000000000000≤x)(hi:x≤4000000000000000000)(hd:0 < d)(hd2:d≤4000000000000000000):Calls prog 73 #[.int .i64 x,.int .i64 (d:Int)] w (RetS w (Rat.divInt x d)):=by
 rcases Int.lt_or_le x 0 with h | h
 ·obtain ⟨m,rfl⟩:∃ m:Nat,x= -(m:Int):=⟨x.natAbs,by omega⟩;exact rof_neg m d w (by omega) hd hd2 (by omega)
 ·obtain ⟨m,rfl⟩:∃ m:Nat,x=(m:Int):=⟨x.toNat,by omega⟩;exact rof_pos m d w (by omega) hd hd2
theorem sgnd_mul (x y:Int):sgnd (decide (x < 0) != decide (y < 0)) (x.natAbs*y.natAbs)=x*y:=by
 rw[←Int.natAbs_mul];unfold sgnd;rcases Int.lt_or_le x 0 with h1 | h1 <;> rcases Int.lt_or_le y 0 with h2 | h2
 ·have:=Int.mul_pos_of_neg_of_neg h1 h2;rw[decide_eq_true h1,decide_eq_true h2];simp;omega
 ·have:=Int.mul_nonpos_of_nonpos_of_nonneg (Int.le_of_lt h1) h2;rw[decide_eq_true h1,decide_eq_false (Int.not_lt.2 (by omega))];simp;omega
 ·have:=Int.mul_nonpos_of_nonneg_of_nonpos h1 (Int.le_of_lt h2);rw[decide_eq_false (Int.not_lt.2 (by omega)),decide_eq_true h2];simp;omega
 ·have:=Int.mul_nonneg h1 h2;rw[decide_eq_false (Int.not_lt.2 (by omega)),decide_eq_false (Int.not_lt.2 (by omega))];simp;omega
theorem rtimes_calls (K:Nat)(va vb:Value)(x y:Int)(w:World)(ha:IsZ w va x)(hb:IsZ w vb y)(hK:K≤100000)(hx:x.natAbs < B9^K)(hy:y.natAbs < B9^K):
  Calls prog 123 #[va,vb] w (RetZ w (x*y)):=by
 obtain ⟨sA,a1,l1,c1,rfl⟩:=ha.shape;obtain ⟨sB,a2,l2,c2,rfl⟩:=hb.shape;obtain ⟨aa,ac⟩:=ha.parts;obtain ⟨ab,ad⟩:=hb.parts;have hm:=fun W (hW:New w W)=>(rmul_calls K _ _ _ _ W (ac.new hW) (ad.new hW) hK hx hy).mono fun e w' h=>RetD.n h;have e:=sgnd_mul x y;rw[←aa,←ab] at e;clear ha hb ac ad aa ab hx hy hK;have HM:=hid hm;have HE:=hid e;clear hm e;go_in;go_wp2_with fail;obtain ⟨BA,BB,BP,HN⟩:=lay3 w 124 #[.bool sA,.slice a1 l1 c1] 124 #[.bool sB,.slice a2 l2 c2] 124 #[.bool false,.slice none 0 0];have pa:=BA.out.two;have pb:=BB.out.two;clear pa;clear pb;refine zR 11 12 (fun W=>zC W w.heap.size (.bool sA) (.slice a1 l1 c1)∧zC W (w.heap.size+1) (.bool sB) (.slice a2 l2 c2)) ?_;refine zT 0 ⟨cW2 BA,cW2 BB⟩ ?_;refine zT 1 ⟨cW2 BA,cW2 BB⟩ ?_;refine zT 2 ⟨cW2 BA,cW2 BB⟩ ?_;refine zT 3 ⟨cW2 BA,cW2 BB⟩ ?_;refine zT 4 ⟨cW2 BA,cW2 BB⟩ ?_;refine zT 5 ⟨cW2 BA,cW2 BB⟩ ?_;refine zT 6 ⟨cW2 BA,cW2 BB⟩ ?_;refine zT 7 ⟨cW2 BA,cW2 BB⟩ ?_;refine zT 8 ⟨cW2 BA,cW2 BB⟩ ?_;refine tk1 9 fun K hK=>?_;go_simp;refine zN (HM _ HN.drew) fun w8 v8 hn hi=>?_;have hn:=hn.undr;obtain ⟨a8,l8,c8,rfl⟩:=hi.shape;replace hi:=hid hi;obtain ⟨HN,BA,BB,BP⟩:=zn4 hn HN BA.new BB.new BP.new;clear hn;refine zK hK ⟨cW2 BA,cW2 BB⟩ ?_;clear hK K;refine tk1 10 fun K hK=>?_;go_simp;refine zN (rsigned_calls _ _ _ _ hi) fun w9 v9 hn hz=>?_
 replace hz:IsZ w9 v9 (x*y):=by first | (rw[HE.out] at hz;exact hz) | (have e:=HE.out;unfold bne at e;rw[e] at hz;exact hz)
 obtain ⟨b9,a9,l9,c9,rfl⟩:=hz.shape;replace hz:=hid hz;obtain ⟨HN,BA,BB,BP⟩:=zn4 hn HN BA.new BB.new BP.new;clear hn;refine zK hK ⟨cW2 BA,cW2 BB⟩ ?_;clear hK K;refine tlW ?_;obtain ⟨ae,af,ag,ah,ai⟩:=BA.out.two;obtain ⟨aj,ak,al,am,an⟩:=BB.out.two;obtain ⟨p0,p1,p2,p3,p4⟩:=BP.out.two;go_wp2_with fail;refine bodyPost_ret (v:=.agg #[.bool b9,.slice a9 l9 c9]) (by simp[results,results123,go_sem,p0,p1]) rfl ?_;exact z_ret HN BP (by omega) hz
end Go.Proofs.YtnjonlnemagomaaGreatDoor
