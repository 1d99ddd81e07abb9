/- Part A26. -/
import Derived.Laws.FloatArith
import Derived.Test.YtnjonlnemagomaaGreatDoorA25
namespace Go.Proofs.YtnjonlnemagomaaGreatDoor
open Go.RowKit Big
open Go.Lib (hid)
set_option maxRecDepth 100000
set_option maxHeartbeats 8000000
structure IRow (base:Nat)(w:World)(v:Value)(l:List Int):Prop where
 own:w.ownsRow base 3 1 v l.length (ints l)
 no:RowNo w v
def ApartR (v v':Value):Prop:=∀ g,v.ownBlock=some g→v'.ownBlock≠some g
theorem ApartR.symm {v v':Value}(h:ApartR v v'):ApartR v' v:=fun g h1 h2=>h g h2 h1
theorem IRow.nil (base:Nat)(w:World):IRow base w (.slice none 0 0) []:=⟨World.ownsRow_nil _ _ _ _,fun g hg=>by simp[Value.ownBlock] at hg⟩
theorem IRow.new {base:Nat}{w w':World}{v:Value}{l:List Int}(h:IRow base w v l)(hn:New w w'):IRow base w' v l:=⟨own_newS h.own hn,h.no.new hn⟩
theorem IRow.lt {base:Nat}{w:World}{v:Value}{l:List Int}(h:IRow base w v l){g:Nat}(hg:v.ownBlock=some g):base≤g∧g < w.heap.size:=h.own.lt g hg
theorem IRow.keep {base:Nat}{w w':World}{v:Value}{l:List Int}{r:Option Nat}(h:IRow base w v l)(hg:w.grownBy w' r)(hne:∀ g,v.ownBlock=some g→r≠some g):IRow base w' v l:=by
 refine ⟨⟨h.own.1,?_⟩,fun g e=>?_⟩
 ·rcases h.own.2 with h2 | ⟨g,cap,cur,h1,h2,h3,h4⟩
  ·exact .inl h2
  ·refine .inr ⟨g,cap,cur,h1,h2,?_,h4⟩
   have e:v.ownBlock=some g:=by rw[h1];rfl
   rw[hg.block g (h.lt e).2 (Ne.symm (hne g e)),h3]
 ·have h2:=h.no g e;refine ⟨Nat.lt_of_lt_of_le h2.1 hg.size,fun o x=>?_⟩;have:w'.cell? ⟨g,o,none⟩=w.cell? ⟨g,o,none⟩:=World.cell?_of_block (hg.block g h2.1 (Ne.symm (hne g e)));rw[this];exact h2.2 o x
theorem notU_i64 (z:Int):∀ u∈[Value.int .i64 z],NotU u:=by
 intro u hu;simp at hu;rw[hu];exact .i64 _
theorem notU_zero:∀ u∈(Value.int .i64 0).cells,NotU u:=by
 intro u hu;simp[Value.cells] at hu;rw[hu];exact .i64 _
theorem IRow.push {base:Nat}{w':World}{v':Value}{l:List Int}{z:Int}(ho:w'.ownsRow base 3 1 v' (l.length+1) (ints l ++ [.int .i64 z]))(hno:RowNo w' v'):IRow base w' v' (l ++ [z]):=
 ⟨by
  have:ints (l ++ [z])=ints l ++ [.int .i64 z]:=by simp[ints]
  rw[this,List.length_append]
  exact ho,hno⟩
theorem ApartR.push {base:Nat}{w:World}{v v' u:Value}{l:List Int}(h:ApartR v u)(hu:IRow base w u l)(hfr:∀ g,v'.ownBlock=some g→v.ownBlock=some g∨w.heap.size≤g):ApartR v' u:=fun g e1 e2=>by
 rcases hfr g e1 with h1 | h1
 ·exact h g h1 e2
 ·have:=(hu.lt e2).2;omega
structure ShQ (W:World)(p1 p2 p3 go:Nat)(tt S:Int)(a:Option Addr)(n cap:Nat)(wt q:Nat→Int):Prop where
 cap:CapIs W p1 p2 p3 tt S a n cap wt
 row:RowZ W go 3 n q
theorem share_next (q:Nat→Int)(f:Nat→Nat)(n k:Nat):∀ i,i < n→updZ (fun i=>q i+((cnt (fun p=>decide (f p=i)) k:Nat):Int)) (f k) (q (f k)+((cnt (fun p=>decide (f p=f k)) k:Nat):Int)+1) i=q i+((cnt (fun p=>decide (f p=i)) (k+1):Nat):Int):=by
 intro i _;unfold updZ;by_cases h:i=f k
 ·subst h;rw[if_pos rfl,cnt_yes (by simp)];omega
 ·rw[if_neg h,cnt_no (by simpa using fun e=>h e.symm)]
theorem nshares_calls (tn n cap:Nat)(wt:Nat→Int)(a:Option Addr)(w:World)(hT:tn≤999999999)(hn0:0 < n)(hn:n≤19)(hw:∀ i,i < n→0≤wt i∧wt i≤999999999)(hS:0 < sumTo wt n)(hE:weightsErr ((List.range n).map wt)=0)(hr:RdL w a (ints ((List.range n).map wt))):
  Calls Tryz.prog 22 #[.int .i64 (tn:Int),.slice a n cap] w (ListPost w n (share tn wt n) 0):=by
 obtain ⟨i0,hi,hz0,hz1,hz2⟩:=info_parts info_int;have hwi:=fun W=>nwithin_calls (tn:Int) 0 999999999 W;rw[show outside (tn:Int) 0 999999999=false by unfold outside;simp;omega] at hwi;simp only[Bool.false_eq_true,if_false] at hwi;have hcw:=fun W (h:RdL W a (ints ((List.range n).map wt)))=>checkWeights_calls a cap ((List.range n).map wt) W (by simp;omega) h;rw[hE] at hcw;rw[show ((List.range n).map wt).length=n by simp] at hcw;obtain ⟨tt,htt⟩:∃ t:Int,(tn:Int)=t:=⟨_,rfl⟩
 have ht0:0≤tt:=by omega
 have ht1:tt≤999999999:=by omega
 rw[htt]at hwi⊢
 have hni:(n:Int)≤19:=by omega
 clear htt hE;have HWI:=hid hwi;have HCW:=hid hcw;have HR:=hid hr;clear hwi hcw hr;go_enter Tryz.func22,Tryz.ntmps22;go_upto_region 1 with (fail);obtain ⟨B1,B2,HN⟩:=lay2 w 3 #[.int .i64 tt] 24 #[.slice a n cap];obtain ⟨w0,hw0⟩:∃ u,(w.alloc (.cells #[.int .i64 tt] 3)).alloc (.cells #[.slice a n cap] 24)=u:=⟨_,rfl⟩;rw[hw0] at B1 B2 HN⊢;clear hw0;obtain ⟨pa0,pa1,pa2⟩:=B1.out.one;obtain ⟨pb0,pb1,pb2⟩:=B2.out.one;refine wp_region_T 6 (fun W=>W.cell? ⟨w.heap.size,0,none⟩=some (.int .i64 tt)∧W.cell? ⟨w.heap.size+1,0,none⟩=some (.slice a n cap)) 7 #[false,false,false,false,false,false,false] rfl (by kernel_rfl) (by kernel_rfl) ?_;refine tk 0 (by exact ⟨pa0,pb0⟩) ?_
 try simp only[PT]
 refine tk 2 (by exact ⟨pa0,pb0⟩) ?_
 try simp only[PT]
 refine wpT_one 1 rfl (by kernel_rfl) (fun K hK=>?_);go_simp;refine (HWI.out _).mono ?_;rintro e w1 ⟨rfl,hw⟩;have hn:=((New.refl w0).drew).trans (.of_eq hw);clear hw;clear pa0 pa1 pa2 pb0 pb1 pb2;replace B1:=hid (B1.out.new hn);replace B2:=hid (B2.out.new hn);replace HN:=hid (HN.out.trans hn);clear hn;obtain ⟨pa0,pa1,pa2⟩:=B1.out.one;obtain ⟨pb0,pb1,pb2⟩:=B2.out.one;refine hK.out _ _ (fun _=>?_) ?_
 ·exact ⟨pa0,pb0⟩
 clear hK K
 try simp only[PT]
 refine wpT_one 3 rfl (by kernel_rfl) (fun K hK=>?_);go_simp;refine (HCW.out _ (HR.out.new HN.out)).mono ?_;rintro e w2 ⟨rfl,hn⟩;clear pa0 pa1 pa2 pb0 pb1 pb2;replace B1:=hid (B1.out.new hn);replace B2:=hid (B2.out.new hn);replace HN:=hid (HN.out.trans hn);clear hn;obtain ⟨pa0,pa1,pa2⟩:=B1.out.one;obtain ⟨pb0,pb1,pb2⟩:=B2.out.one;refine hK.out _ _ (fun _=>?_) ?_
 ·exact ⟨pa0,pb0⟩
 clear hK K
 try simp only[PT]
 refine wpT_one 4 rfl (by kernel_rfl) (fun K hK=>?_);go_simp;clear pa0 pa1 pa2 pb0 pb1 pb2;have HN0:=HN;clear HN;obtain ⟨BG,HN⟩:=lay1 w2 32 #[.int .i64 0,.int .i64 0];replace B1:=hid (B1.out.new HN.out);replace B2:=hid (B2.out.new HN.out);have HN_:=HN0.out.trans HN.out;clear HN HN0;have HN:=hid HN_;clear HN_;obtain ⟨pa0,pa1,pa2⟩:=B1.out.one;obtain ⟨pb0,pb1,pb2⟩:=B2.out.one;refine hK.out _ _ (fun _=>?_) ?_
 ·exact ⟨pa0,pb0⟩
 clear hK K
 try simp only[PT]
 refine wpT_one 5 rfl (by kernel_rfl) (fun K hK=>?_);go_simp;refine (nfirst2_new 0 0 _ _ 32 _ BG.out).mono ?_;rintro e w3 ⟨rfl,hn⟩;clear BG;clear pa0 pa1 pa2 pb0 pb1 pb2;replace B1:=hid (B1.out.new hn);replace B2:=hid (B2.out.new hn);replace HN:=hid (HN.out.trans hn);clear hn;obtain ⟨pa0,pa1,pa2⟩:=B1.out.one;obtain ⟨pb0,pb1,pb2⟩:=B2.out.one;refine hK.out _ _ (fun _=>?_) ?_
 ·exact ⟨pa0,pb0⟩
 clear hK K
 try simp only[]
 refine wpT_tail rfl (by kernel_rfl) ?_;simp only[List.drop_succ_cons,List.drop_zero];clear pa0 pa1 pa2 pb0 pb1 pb2;have lo1:=B2.out.lt;go_upto_region 5 with (fail);have HN0:=HN;clear HN;obtain ⟨B3,HN⟩:=lay1 w3 3 #[.int .i64 0];replace B1:=hid (B1.out.new HN.out);replace B2:=hid (B2.out.new HN.out);have HN_:=HN0.out.trans HN.out;clear HN HN0;have HN:=hid HN_;clear HN_;have lo2:=B3.out.lt;obtain ⟨w4,hw4⟩:∃ u,w3.alloc (.cells #[.int .i64 0] 3)=u:=⟨_,rfl⟩;rw[hw4] at B1 B2 B3 HN⊢;clear hw4;have hlo2:w3.heap.size < w4.heap.size:=B3.out.lt;obtain ⟨pb0,pb1,pb2⟩:=B2.out.one;go_wp2_with fail;clear pb0 pb1 pb2;have HN0:=HN;have B10:=B1;have B20:=B2;have B30:=B3;clear HN B1 B2 B3
 have hlo3:w.heap.size≤w3.heap.size:=by omega
 go_loopw [28] (fun i wr=>∃ k:Nat,k≤n∧i=.int .i64 (k:Int)∧Hid (New w wr)∧Hid (Box wr w.heap.size 3 #[.int .i64 tt])∧Hid (Box wr (w.heap.size+1) 24 #[.slice a n cap])∧Hid (Box wr w3.heap.size 3 #[.int .i64 (sumTo wt k)])) (fun i _=>n - (intOf i).toNat)
 case atStart=>exact ⟨0,Nat.zero_le _,rfl,HN0,B10,B20,B30⟩
 case round=>
  clear HN0 B10 B20 B30;obtain ⟨k,hk,rfl,HN,B1,B2,B3⟩:=hrel;by_cases hlt:k < n
  ·obtain ⟨b,off,rfl,hc⟩:=HR.out.int k (by simpa using hlt)
   have ew:((List.range n).map wt)[k]'(by simpa using hlt)=wt k:=by simp
   rw[ew]at hc;have hc:=HN.out.cell hc;have hx:=hw k hlt;have hs0:=sumTo_nonneg (n:=k) (g:=wt) (fun i hi'=>(hw i (by omega)).1);have hs1:=sumTo_bd (n:=k) (g:=wt) (fun i hi'=>(hw i (by omega)).2)
   have hki:(k:Int) < n:=by omega
   obtain ⟨x,hxx⟩:∃ x,wt k=x:=⟨_,rfl⟩;obtain ⟨s,hss⟩:∃ x,sumTo wt k=x:=⟨_,rfl⟩
   have hnx:sumTo wt (k+1)=s+x:=by rw[←hss,←hxx];rfl
   rw[hxx]at hc hx;rw[hss] at hs0 hs1 B3
   have hs2:s≤18999999981:=by omega
   clear ew hxx hss hs1;have HNX:=hid hnx;clear hnx;obtain ⟨pb0,pb1,pb2⟩:=B2.out.one;obtain ⟨pc0,pc1,pc2⟩:=B3.out.one;go_wp2_with fail;clear pb0 pb1 pb2 pc0 pc1 pc2;have hn1:=HN.out.setCell (p:=⟨w3.heap.size,0,none⟩) hlo3 (.int .i64 (s+x));have h1:=B1.out.other (p:=⟨w3.heap.size,0,none⟩) (by show w3.heap.size≠w.heap.size;omega) (.int .i64 (s+x));have h2:=B2.out.other (p:=⟨w3.heap.size,0,none⟩) (by show w3.heap.size≠w.heap.size+1;omega) (.int .i64 (s+x))
   have h3:Box (wr.setCell ⟨w3.heap.size,0,none⟩ (.int .i64 (s+x))) w3.heap.size 3 #[.int .i64 (sumTo wt (k+1))]:=by
    rw[HNX.out];exact B3.out.set 0 _
   clear HN B1 B2 B3;have HN:=hid hn1;have B1:=hid h1;have B2:=hid h2;have B3:=hid h3;clear hn1 h1 h2 h3;go_roundw
   case rel=>exact ⟨k+1,by omega,by go_num,HN,B1,B2,B3⟩
   case measure=>simp[intOf];omega
  ·obtain rfl:k=n:=by omega
   obtain ⟨wl,hwl⟩:∃ x,x=wr:=⟨_,rfl⟩;rw[←hwl] at HN B1 B2 B3⊢;clear hwl hlt hk;have hlo4:w3.heap.size < wl.heap.size:=B3.out.lt;have lb:=left_bounds (T:=tt) hn0 hS;have hSb:=sumTo_bd (n:=k) (g:=wt) (fun i hi'=>(hw i (by omega)).2);obtain ⟨S,hSS⟩:∃ S,sumTo wt k=S:=⟨_,rfl⟩;obtain ⟨q,hq⟩:∃ q:Nat→Int,(fun i=>tt*wt i / S)=q:=⟨_,rfl⟩;have hqi:∀ i,tt*wt i / S=q i:=fun i=>congrFun hq i;obtain ⟨L,hL⟩:∃ L,leftOver tt wt k=L:=⟨_,rfl⟩
   have hLq:L=tt - sumTo q k:=by rw[←hL];unfold leftOver;rw[hSS,hq]
   rw[hL]at lb;rw[hSS] at lb hS hSb B3
   have hS1:S≤1000000000000:=by omega
   have hsh:∀ i,i < k→share tt wt k i=q i+(if (rank (fun j=>tt*wt j % S) k i:Int) < L then 1 else 0):=fun i _=>by
    unfold share;rw[hSS,hL,hqi]
   have hq0:∀ i,i < k→0≤q i:=fun i hi'=>by
    rw[←hqi];exact Int.ediv_nonneg (Int.mul_nonneg ht0 (hw i hi').1) (by omega)
   have hrb:∀ i,i≤k→0≤tt - sumTo q i∧tt - sumTo q i≤999999999:=fun i hi'=>by
    have h1:=sumTo_le hq0 hi';have h2:=sumTo_nonneg (n:=i) (g:=q) (fun j hj=>hq0 j (by omega));omega
   have hsq:=fun i=>prod_bd ht0 ht1 (w:=wt i);obtain ⟨lb1,lb2, -⟩:=lb;clear hSS hq hL hSb;have HQI:=hid hqi;have HLQ:=hid hLq;have HSH:=hid hsh;have HRB:=hid hrb;have HWT:=hid hw;clear hqi hLq hsh hrb hw;obtain ⟨pa0,pa1,pa2⟩:=B1.out.one;obtain ⟨pb0,pb1,pb2⟩:=B2.out.one;go_wp2_with fail;clear pa0 pa1 pa2 pb0 pb1 pb2;have HNl:=HN;have B10:=B1;have B20:=B2;have B30:=B3;clear HN B1 B2 B3;go_loopw [10,11,12,39] (fun r v u i wr=>∃ (m:Nat) (R:Int),m≤k∧i=.int .i64 (m:Int)∧r=.int .i64 R∧Hid (R=tt - sumTo q m)∧Hid (IRow wl.heap.size wr v ((List.range m).map q))∧Hid (IRow wl.heap.size wr u (idxs m))∧Hid (ApartR v u)∧Hid (New wl wr)∧Hid (Box wr w.heap.size 3 #[.int .i64 tt])∧Hid (Box wr (w.heap.size+1) 24 #[.slice a k cap])∧Hid (Box wr w3.heap.size 3 #[.int .i64 S])) (fun _ _ _ i _=>k - (intOf i).toNat)
   case atStart=>exact ⟨0,tt,Nat.zero_le _,rfl,rfl,hid (by show tt=tt - 0;omega),hid (IRow.nil _ _),hid (IRow.nil _ _),hid (fun g hg=>by simp[Value.ownBlock] at hg),hid (New.refl _),B10,B20,B30⟩
   case round=>
    clear B10 B20 B30;obtain ⟨m,R,hm,rfl,rfl,HR9,HO,HU,HAP,HN,B1,B2,B3⟩:=hrel;by_cases hlt:m < k
    ·obtain ⟨b,off,rfl,hc⟩:=HR.out.int m (by simpa using hlt)
     have ew:((List.range k).map wt)[m]'(by simpa using hlt)=wt m:=by simp
     rw[ew]at hc;have hc:=HN.out.cell (HNl.out.cell hc);have hx:=HWT.out m hlt
     have hmi:(m:Int) < k:=by omega
     have hpb:=hsq m hx.1 hx.2;have hqm:=HQI.out m;obtain ⟨x,hxx⟩:∃ x,wt m=x:=⟨_,rfl⟩;obtain ⟨Q,hQQ⟩:∃ x,q m=x:=⟨_,rfl⟩;rw[hxx] at hc hx hpb hqm;rw[hQQ] at hqm;obtain ⟨P,hP⟩:∃ P,tt*x=P:=⟨_,rfl⟩;rw[hP] at hpb hqm
     have htd:Int.tdiv P S=Q:=by rw[Int.tdiv_eq_ediv_of_nonneg hpb.1];exact hqm
     have hrm:=HRB.out m hm;have hrm1:=HRB.out (m+1) hlt
     have hsm:sumTo q (m+1)=sumTo q m+Q:=by rw[←hQQ];rfl
     have hR9:=HR9.out
     have hR0:0≤R - Q∧R - Q≤999999999:=by omega
     have hR1:R - Q=tt - sumTo q (m+1):=by omega
     have hRb:0≤R∧R≤999999999:=by omega
     have hQ1: -1000000000≤Q∧Q≤1000000000:=by omega
     have hSn:(S==0)=false:=beq_false_of_ne (by omega)
     have hl1:((List.range m).map q).length=m:=by simp
     have hl2:(idxs m).length=m:=idxs_len m
     have hk9:m≤19:=by omega
     obtain ⟨hpb0,hpb1⟩:=hpb;clear hrm hrm1 hsm hR9 ew hqm;have HR1:=hid hR1;have HQQ:=hid hQQ;have HL1:=hid hl1;have HL2:=hid hl2;have HK9:=hid hk9;clear hR1 hQQ hl1 hl2 hk9;obtain ⟨pa0,pa1,pa2⟩:=B1.out.one;obtain ⟨pc0,pc1,pc2⟩:=B3.out.one;go_wp2_with (at_builtin;refine wpList_append_noDig rfl _ _ 24 rfl wl.heap.size 3 i0 (.int .i64 0) 1 8 Tryz.underlying24 hi hz0 hz1 hz2 rfl (by decide) _ _ _ rfl (HO.out.own.alloc _) ⟨wr.heap.size,0,none⟩ 1 1 [.int .i64 Q] rfl rfl (one_c1 _ _ _) (one_c2 _) (by have:=HL1.out;have:=HK9.out;unfold maxLen;omega) (by have:=HL1.out;have:=HK9.out;omega) (by have:=HN.out.size;rw[←size_alloc];omega) notU_zero (notU_i64 _) (HO.out.no.new ((New.refl _).alloc _)) ?_);intro v5 w5 hown' hgrow hno' hfresh;clear pa0 pa1 pa2 pc0 pc1 pc2;have hA:=fun o=>(New.refl wr).alloc o;have hN5:=grown_new HN.out HO.out.own hgrow
     have hO5:IRow wl.heap.size w5 v5 ((List.range (m+1)).map q):=by
      rw[map_succ,HQQ.out];exact IRow.push (by simpa using hown') hno'
     have hU5:=(HU.out.new (hA _)).keep hgrow (fun g e e2=>HAP.out g e2 e);have hAP5:=ApartR.push HAP.out HU.out (fun g e=>(hfresh g e).imp id Nat.le_of_succ_le);have h1:=(B1.out.new (hA _)).grown hgrow (fun e=>own_neS HO.out.own (show w.heap.size < wl.heap.size by omega) e.symm);have h2:=(B2.out.new (hA _)).grown hgrow (fun e=>own_neS HO.out.own (show w.heap.size+1 < wl.heap.size by omega) e.symm);have h3:=(B3.out.new (hA _)).grown hgrow (fun e=>own_neS HO.out.own (show w3.heap.size < wl.heap.size by omega) e.symm);clear hown' hgrow hno' hfresh hA HN HO HU HAP B1 B2 B3 hc;have HN:=hid hN5;have HO:=hid hO5;have HU:=hid hU5;have HAP:=hid hAP5;have B1:=hid h1;have B2:=hid h2;have B3:=hid h3;clear hN5 hO5 hU5 hAP5 h1 h2 h3;go_wp2_with (at_builtin;refine wpList_append_noDig rfl _ _ 24 rfl wl.heap.size 3 i0 (.int .i64 0) 1 8 Tryz.underlying24 hi hz0 hz1 hz2 rfl (by decide) _ _ _ rfl (HU.out.own.alloc _) ⟨w5.heap.size,0,none⟩ 1 1 [.int .i64 (m:Int)] rfl rfl (one_c1 _ _ _) (one_c2 _) (by have:=HL2.out;have:=HK9.out;unfold maxLen;omega) (by have:=HL2.out;have:=HK9.out;omega) (by have:=HN.out.size;rw[←size_alloc];omega) notU_zero (notU_i64 _) (HU.out.no.new ((New.refl _).alloc _)) ?_);intro v6 w6 hown' hgrow hno' hfresh;have hA:=fun o=>(New.refl w5).alloc o;have hN6:=grown_new HN.out HU.out.own hgrow
     have hU6:IRow wl.heap.size w6 v6 (idxs (m+1)):=by
      rw[idxs_succ];exact IRow.push (by simpa using hown') hno'
     have hO6:=(HO.out.new (hA _)).keep hgrow (fun g e e2=>HAP.out g e e2);have hAP6:=(ApartR.push HAP.out.symm HO.out (fun g e=>(hfresh g e).imp id Nat.le_of_succ_le)).symm;have h1:=(B1.out.new (hA _)).grown hgrow (fun e=>own_neS HU.out.own (show w.heap.size < wl.heap.size by omega) e.symm);have h2:=(B2.out.new (hA _)).grown hgrow (fun e=>own_neS HU.out.own (show w.heap.size+1 < wl.heap.size by omega) e.symm);have h3:=(B3.out.new (hA _)).grown hgrow (fun e=>own_neS HU.out.own (show w3.heap.size < wl.heap.size by omega) e.symm);clear hown' hgrow hno' hfresh hA HN HO HU HAP B1 B2 B3;have hw6:=hO6.own;rw[show ((List.range (m+1)).map q).length=m+1 by simp] at hw6;obtain ⟨go,co,rfl,hgo,hco1,hco2,hrow⟩:=RowZ.of_ownZ hw6 (by omega) (f:=q) (fun i hi=>ints_at q hi);have hc:=hrow.cell (i:=m) (by omega);rw[HQQ.out] at hc;clear hw6 hrow;have HN:=hid hN6;have HO:=hid hO6;have HU:=hid hU6;have HAP:=hid hAP6;have B1:=hid h1;have B2:=hid h2;have B3:=hid h3;clear hN6 hO6 hU6 hAP6 h1 h2 h3;go_wp2_with fail;go_roundw
     case rel=>exact ⟨m+1,R - Q,by omega,by go_num,by go_num,HR1,HO,HU,HAP,HN,B1,B2,B3⟩
     case measure=>simp[intOf];omega
    ·obtain rfl:m=k:=by omega
     have hw6:=HO.out.own;rw[show ((List.range m).map q).length=m by simp] at hw6;obtain ⟨go,co,rfl,hgo,hco1,hco2,hrow⟩:=RowZ.of_ownZ hw6 hn0 (f:=q) (fun i hi=>ints_at q hi);have hw7:=HU.out.own;rw[idxs_len] at hw7;obtain ⟨g,cg,rfl,hgg,hcg1,hcg2,hrowg⟩:=RowZ.of_ownZ hw7 hn0 (f:=fun i=>(i:Int)) (fun i hi=>ints_at _ hi);have hgne:go≠g:=fun e=>HAP.out go rfl (by rw[e];rfl);have hcap:CapIs wr w.heap.size (w.heap.size+1) w3.heap.size tt S a m cap wt:=⟨B1.out.cell 0,B2.out.cell 0,B3.out.cell 0,HR.out.new (HNl.out.trans HN.out)⟩
     have hab:∀ b o,a=some ⟨b,o,none⟩→b < w.heap.size:=fun b o e=>by
      obtain ⟨b0,o0,e0,hc0⟩:=HR.out.int 0 (by simpa using hn0);rw[e0] at e;injection e with e;injection e with e1 e2;subst e1;rcases Nat.lt_or_ge b0 w.heap.size with h | h
      ·exact h
      ·simp[World.cell?,Array.getElem?_eq_none h] at hc0
     have hCmp:CmpOk (fun j=>tt*wt j % S) m g w.heap.size (w.heap.size+1) w3.heap.size (fun W=>ShQ W w.heap.size (w.heap.size+1) w3.heap.size go tt S a m cap wt q):=
      ⟨fun W W' h hn=>⟨h.cap.new hn,h.row.new hn⟩,fun W i z h=>⟨h.cap.set (by omega) (by omega) (by omega) (fun b o e=>by have:=hab b o e;omega) i _,h.row.other (p:=⟨g,i,none⟩) hgne _⟩,
       fun i j W hi hj h=>shcmp_calls i j m cap _ _ _ tt S a wt W h.cap hi hj ⟨ht0,ht1⟩ HWT.out ⟨hS,hS1⟩⟩
     have hso:=stable_calls m cg g _ _ _ _ _ hCmp hn0 hn wl wr HN.out hgg hrowg ⟨hcap,hrow⟩;unfold SortPost at hso
     have hRL:R=L:=by rw[HLQ.out];exact HR9.out
     obtain ⟨ρ,hρ⟩:∃ ρ:Nat,R=(ρ:Int):=⟨R.toNat,by omega⟩
     have hρm:ρ < m:=by omega
     have hρc:(ρ:Int)≤cg:=by omega
     have hρL:(ρ:Int)=L:=by omega
     have hnw:=HNl.out
     have hqb:∀ i,i < m→0≤q i∧q i≤999999998000000001:=fun i hi'=>by
      have h1:=prod_bd ht0 ht1 (HWT.out i hi').1 (HWT.out i hi').2;have h2:=HQI.out i;have h3:=Int.ediv_le_self (a:=tt*wt i) S h1.1;exact ⟨hq0 i hi',by omega⟩
     rw[hρ]at *;clear hCmp hcap hab hrow hrowg hw6 hw7 HO HU HAP HR9 B1 B2 B3 HN HR hRL HNl HRB HQI HLQ HCW HWI hsq hq0;have HSO:=hid hso;have HGO:=hid hgo;have HGG:=hid hgg;have HC1:=hid hco1;have HGN:=hid hgne;have HNW:=hid hnw;have HRL:=hid hρL;have HQB:=hid hqb;clear hso hgo hgg hco1 hgne hnw hρL hqb;go_wp2_with fail;refine HSO.out.mono ?_;rintro e w7 ⟨rfl,hn7,hQ,f,hf,hrf⟩;have hr0:RowZ w7 go 3 m fun i=>q i+((cnt (fun p=>decide (f p=i)) 0:Nat):Int):=hQ.row.congr (fun i _=>by show q i=q i+((0:Nat):Int);omega);clear hQ HSO;have HN:=hid hn7;have HF:=hid hf;have HRF:=hid hrf;have HR0:=hid hr0;clear hn7 hf hrf hr0;go_wp2_with fail;have HN70:=HN;have HRF0:=HRF;clear HN HRF;go_loopw [70] (fun i wr=>∃ j:Nat,j≤ρ∧i=.int .i64 (j:Int)∧Hid (RowZ wr go 3 m fun i=>q i+((cnt (fun p=>decide (f p=i)) j:Nat):Int))∧Hid (RowZ wr g 3 m fun i=>((f i:Nat):Int))∧Hid (New wl wr)) (fun i _=>ρ - (intOf i).toNat)
     case atStart=>exact ⟨0,Nat.zero_le _,rfl,HR0,HRF0,HN70⟩
     case round=>
      clear HR0 HRF0 HN70;obtain ⟨j,hj,rfl,HA,HB,HN⟩:=hrel;by_cases hjl:j < ρ
      ·have hfm:=HF.out.lt (p:=j) (by omega);have c1:=HB.out.cell (i:=j) (by omega);have c2:=HA.out.cell hfm;have z2:=HA.out.frozen (f j);have hnx:=share_next q f m j;have hqb:=HQB.out (f j) hfm;have hcn:=cnt_le (fun p=>decide (f p=f j)) j;obtain ⟨v,hv⟩:∃ v,f j=v:=⟨_,rfl⟩;rw[hv] at c1 c2 z2 hfm hnx hqb hcn;obtain ⟨y,hy⟩:∃ y,q v+((cnt (fun p=>decide (f p=v)) j:Nat):Int)=y:=⟨_,rfl⟩;rw[hy] at c2
       have hy1:0≤y∧y≤999999998000001000:=by omega
       rw[hy]at hnx
       have hji:(j:Int) < ρ:=by omega
       have hvi:(v:Int) < m:=by omega
       clear hqb hcn hy;have HNX:=hid hnx;clear hnx;go_wp2_with fail;have hA:=(HA.out.set v (y+1)).congr HNX.out;have hB:=HB.out.other (p:=⟨go,v,none⟩) (Ne.symm HGN.out) (.int .i64 (y+1));have hN:=HN.out.setCell (p:=⟨go,v,none⟩) HGO.out (.int .i64 (y+1));clear HA HB HN c1 c2 z2;have HA:=hid hA;have HB:=hid hB;have HN:=hid hN;clear hA hB hN;go_roundw
       case rel=>exact ⟨j+1,by omega,by go_num,HA,HB,HN⟩
       case measure=>simp[intOf];omega
      ·obtain rfl:j=ρ:=by omega
       go_wp2_with fail;go_ret2;refine ⟨_,co,rfl,HNW.out.trans HN.out,HC1.out,?_⟩;refine (HA.out.congr fun i hi'=>?_).rdl;have h1:=HF.out.first (i:=i) (t:=j) hi' (by omega);rw[HSH.out i hi',h1,←HRL.out];by_cases hlt2:rank (fun j=>tt*wt j % S) m i < j
       ·rw[if_pos hlt2,if_pos (by omega)];rfl
       ·rw[if_neg hlt2,if_neg (by omega)];rfl
end Go.Proofs.YtnjonlnemagomaaGreatDoor
namespace Go.Proofs.YtnjonlnemagomaaGreatDoor.Flo
set_option maxRecDepth 100000
set_option maxHeartbeats 8000000
open Ieee
theorem gap_eq (a:Nat):1 <<< a=2^a:=by rw[Nat.shiftLeft_eq,Nat.one_mul]
theorem cut_scale (neg:Bool){m:Nat}(d k:Nat)(hm:m≠0):Toward.even.cut neg (m*2^k) (d+k)=Toward.even.cut neg m d:=by
 unfold Toward.cut;simp only;rw[log2_mul_pow hm,gap_eq,gap_eq]
 have e:min (d+k) (m.log2+k+2)=min d (m.log2+2)+k:=by omega
 rw[e];generalize min d (m.log2+2)=g;have hk:=Nat.two_pow_pos k;rw[Nat.pow_add,Nat.mul_div_mul_right _ _ hk,Nat.mul_mod_mul_right];congr 2
 have e1:decide (2^g*2^k < 2*(m % 2^g*2^k))=decide (2^g < 2*(m % 2^g)):=by
  rw[←Nat.mul_assoc];exact decide_eq_decide.2 (Nat.mul_lt_mul_right hk)
 have e2:(2^g*2^k==2*(m % 2^g*2^k))=(2^g==2*(m % 2^g)):=by
  rw[←Nat.mul_assoc,Bool.eq_iff_iff,beq_iff_eq,beq_iff_eq];exact Nat.mul_left_inj (by omega)
 rw[e1,e2]
theorem cut_whole (neg:Bool){m:Nat}(d k:Nat)(hm:m≠0)(h:d≤k):Toward.even.cut neg (m*2^k) d=m*2^(k - d):=by
 have e:m*2^k=m*2^(k - d)*2^d:=by rw[Nat.mul_assoc,←Nat.pow_add,Nat.sub_add_cancel h]
 have h0:m*2^(k - d)≠0:=Nat.mul_ne_zero hm (Nat.ne_of_gt (Nat.two_pow_pos _));have:=cut_scale neg (m:=m*2^(k - d)) 0 d h0;rw[Nat.zero_add,cut_zero,←e] at this;exact this
theorem nearest_more (f:Format)(neg:Bool){m:Nat}{p:Int}(k:Nat)(hm:m≠0):f.nearest neg (m*2^k) (p - k)=f.nearest neg m p:=by
 unfold Format.nearest;have hmk:m*2^k≠0:=Nat.mul_ne_zero hm (Nat.ne_of_gt (Nat.two_pow_pos _));rw[if_neg hmk,if_neg hm];simp only;rw[log2_mul_pow hm]
 have e1:p - (k:Int)+((m.log2+k:Nat):Int) - f.fractionBits=p+m.log2 - f.fractionBits:=by omega
 rw[e1];generalize max (p+(m.log2:Int) - f.fractionBits) f.leastPlace=L;congr 3;rcases Int.lt_or_le p L with h | h
 ·have e2:(p - (k:Int) - L).toNat=0:=by omega
  have e3:(p - L).toNat=0:=by omega
  have e4:(L - (p - (k:Int))).toNat=(L - p).toNat+k:=by omega
  rw[e2,e3,e4,Nat.shiftLeft_zero,Nat.shiftLeft_zero,cut_scale neg _ _ hm]
 ·have e3:(L - p).toNat=0:=by omega
  rw[e3,cut_zero];rcases Int.lt_or_le (p - k) L with h2 | h2
  ·have e2:(p - (k:Int) - L).toNat=0:=by omega
   have e4:(L - (p - (k:Int))).toNat≤k:=by omega
   rw[e2,Nat.shiftLeft_zero,cut_whole neg _ _ hm e4,Nat.shiftLeft_eq];congr 2;omega
  ·have e4:(L - (p - (k:Int))).toNat=0:=by omega
   rw[e4,cut_zero,Nat.shiftLeft_eq,Nat.shiftLeft_eq,Nat.mul_assoc,←Nat.pow_add];congr 2;omega
theorem nearest_rung (neg:Bool){m r:Nat}{p:Int}(hm:m≠0)(hr:r < 2139095040)(h:m*2^(p+149).toNat=V single r*2^(-149 - p).toNat):single.nearest neg m p=single.word neg r:=by
 have hv:V single r≠0:=by
  intro h0;rw[h0,Nat.zero_mul] at h;exact absurd h (Nat.mul_ne_zero hm (Nat.ne_of_gt (Nat.two_pow_pos _)))
 have key:=nearest_V single neg (r:=r) (by rw[sinf];exact hr);rw[slp] at key;rcases Int.lt_or_le p (-149) with h2 | h2
 ·have e0:(p+149).toNat=0:=by omega
  rw[e0,Nat.pow_zero,Nat.mul_one]at h;have:=nearest_more single neg (p:= -149) (-149 - p).toNat hv;rw[←h,show (-149:Int) - ((-149 - p).toNat:Int)=p by omega,key] at this;exact this
 ·have e0:(-149 - p).toNat=0:=by omega
  rw[e0,Nat.pow_zero,Nat.mul_one]at h;have:=nearest_more single neg (p:=p) (p+149).toNat hm;rw[h,show p - ((p+149).toNat:Int)= -149 by omega,key] at this;exact this.symm
theorem sread {x:Nat}(h:x < 2139095040):∃ (m k:Nat),single.read x=.number false m (-149+(k:Int))∧m*2^k=V single x:=by
 have hr:rung single x=x:=by unfold rung;rw[ssw];omega
 have hs:sgn single x=false:=by unfold sgn;rw[ssw];simp;omega
 obtain ⟨m,k,h1,h2⟩:=read_fin single (x:=x) (by unfold Fin;rw[hr,sinf];exact h);rw[hs,slp] at h1;rw[hr] at h2;exact ⟨m,k,h1,h2⟩
theorem V_up {x:Nat}(h:8388608≤x):V single (x+8388608)=2*V single x:=by
 unfold V;rw[sbin,if_neg (by omega),if_neg (by omega)]
 have e1:(x+8388608) % 8388608=x % 8388608:=by omega
 have e2:(x+8388608) / 8388608 - 1=(x / 8388608 - 1)+1:=by omega
 rw[e1,e2,Nat.pow_succ];generalize 2^(x / 8388608 - 1)=P;generalize 8388608+x % 8388608=Q;rw[←Nat.mul_assoc];omega
theorem V_low {x:Nat}(h:x < 16777216):V single x=x:=by
 unfold V;rw[sbin];by_cases h1:x < 8388608
 ·rw[if_pos h1]
 ·rw[if_neg h1]
  have e2:x / 8388608 - 1=0:=by omega
  rw[e2,Nat.pow_zero,Nat.mul_one];omega
def dbl (x:Nat):Nat:=if x < 8388608 then 2*x else x+8388608
theorem V_dbl (x:Nat):V single (dbl x)=2*V single x:=by
 unfold dbl;by_cases h:x < 8388608
 ·rw[if_pos h,V_low (by omega),V_low (by omega)]
 ·rw[if_neg h,V_up (by omega)]
theorem one_unit:V single 1266679808=16777216*2^149:=by decide +kernel
theorem inf_lt {x:Nat}(h:V single x < 16777216*2^149):x < 1266679808:=by
 rcases Nat.lt_or_ge x 1266679808 with h1 | h1
 ·exact h1
 ·have:=V_le single h1;rw[one_unit] at this;omega
theorem zcut (neg:Bool)(m d:Nat):Toward.zero.cut neg m d=m / 2^d:=by
 unfold Toward.cut;simp only[Bool.toNat_false,Nat.add_zero];rw[gap_eq];rcases Nat.le_total d (m.log2+2) with h | h
 ·rw[Nat.min_eq_left h]
 ·rw[Nat.min_eq_right h];have h1:m < 2^(m.log2+1):=Nat.lt_log2_self;have h2:2^(m.log2+1)≤2^(m.log2+2):=Nat.pow_le_pow_right (by decide) (by omega);have h3:2^(m.log2+2)≤2^d:=Nat.pow_le_pow_right (by decide) h;rw[Nat.div_eq_of_lt (by omega),Nat.div_eq_of_lt (by omega)]
end Go.Proofs.YtnjonlnemagomaaGreatDoor.Flo
namespace Go.Proofs.YtnjonlnemagomaaGreatDoor
open Flo Go.RowKit Big
open Go.Lib (hid)
set_option maxRecDepth 100000
set_option maxHeartbeats 8000000
def absR (q:Rat):Rat:=if q < 0 then -q else q
def rndE (q:Rat):Int:=if q - (q.floor:Rat) < 1 / 2 then q.floor else if q - (q.floor:Rat)=1 / 2 then q.floor+q.floor % 2 else q.floor+1
theorem rndE_cases (q:Rat):(rndE q=q.floor∧q - (q.floor:Rat)≤1 / 2)∨(rndE q=q.floor+1∧1 / 2≤q - (q.floor:Rat)):=by
 unfold rndE;split
 ·exact .inl ⟨rfl,by grind⟩
 ·split
  ·rename_i h1 h2;rcases Int.emod_two_eq q.floor with h | h
   ·exact .inl ⟨by omega,by rw[h2];exact Rat.le_refl⟩
   ·exact .inr ⟨by omega,by rw[h2];exact Rat.le_refl⟩
  ·exact .inr ⟨rfl,by grind⟩
theorem fpow_parts (q:Rat)(n:Nat):(q^n).num=q.num^n∧(((q^n).den:Nat):Int)=(q.den:Int)^n:=by
 constructor
 ·exact Rat.num_pow q n
 ·rw[Rat.den_pow q n];push_cast;rfl
theorem fpow_calls (va:Value)(q:Rat)(n m:Nat)(w:World)(hx:IsFrac w va q)(hb:FB m q)(hk:m*n+1≤60000000)(hn:n < 9223372036854775808):Calls Tryz.prog 192 #[va,.int .i64 (n:Int)] w (FracPost w (q^n)):=by
 obtain ⟨sa,aa,la,ca,ta,ba,ma,na,rfl⟩:=hx.shape;have hp:=fun W (h:IsInt W (.agg #[.int .i64 sa,.slice aa la ca]) q.num)=>pow_calls _ _ n m W h hb.num hk hn;have hd:=fun W (h:IsInt W (.agg #[.int .i64 ta,.slice ba ma na]) (q.den:Int))=>pow_calls _ _ n m W h hb.den hk hn;obtain ⟨e1,e2⟩:=fpow_parts q n;rw[←e1] at hp;rw[←e2] at hd;obtain ⟨r,hr⟩:∃ r,q^n=r:=⟨_,rfl⟩;rw[hr] at hp hd⊢;have hpn:=hx.parts.1;have hpd:=hx.parts.2;clear hb hk e1 e2 hr hx;have HP:=hid hp;have HD:=hid hd;have HPN:=hid hpn;have HPD:=hid hpd;have HNN:=hid hn;clear hp hd hpn hpd hn;go_enter Tryz.func192,Tryz.ntmps192;go_upto_region 1 with (fail);obtain ⟨BA,BP,HN⟩:=lay2 w 115 #[.int .i64 sa,.slice aa la ca,.int .i64 ta,.slice ba ma na] 115 #[.int .i64 0,.slice none 0 0,.int .i64 0,.slice none 0 0];obtain ⟨⟨pa0,pa1,pa2,pa3⟩,pa4,pa5,pa6,pa7,pa8⟩:=BA.out.four;refine wp_region_T 9 (fun W=>W.cell? ⟨w.heap.size,0,none⟩=some (.int .i64 sa)∧W.cell? ⟨w.heap.size,1,none⟩=some (.slice aa la ca)∧W.cell? ⟨w.heap.size,2,none⟩=some (.int .i64 ta)∧W.cell? ⟨w.heap.size,3,none⟩=some (.slice ba ma na)) 10 #[false,false,false,false,false,false,false,false,false,false] rfl (by kernel_rfl) (by kernel_rfl) ?_;refine tk 0 (by exact ⟨pa0,pa1,pa2,pa3⟩) ?_
 try simp only[PT]
 refine tk 1 (by exact ⟨pa0,pa1,pa2,pa3⟩) ?_
 try simp only[PT]
 refine tk 2 (by exact ⟨pa0,pa1,pa2,pa3⟩) ?_
 try simp only[PT]
 refine tk 4 (by exact ⟨pa0,pa1,pa2,pa3⟩) ?_
 try simp only[PT]
 refine tk 5 (by exact ⟨pa0,pa1,pa2,pa3⟩) ?_
 try simp only[PT]
 refine tk 6 (by exact ⟨pa0,pa1,pa2,pa3⟩) ?_
 try simp only[PT]
 refine wpT_one 3 rfl (by kernel_rfl) (fun K hK=>?_);go_simp;refine (HP.out _ (HPN.out.new HN.out.drew)).mono ?_;rintro e w1 ⟨v1,rfl,hn,hi⟩;have hn:=hn.undrew;obtain ⟨s6,a6,l6,c6,rfl⟩:=hi.shape;have HI1:=hid hi;clear hi;clear pa0 pa1 pa2 pa3 pa4 pa5 pa6 pa7 pa8;replace BA:=hid (BA.out.new hn);replace BP:=hid (BP.out.new hn);replace HN:=hid (HN.out.trans hn);clear hn;obtain ⟨⟨pa0,pa1,pa2,pa3⟩,pa4,pa5,pa6,pa7,pa8⟩:=BA.out.four;refine hK.out _ _ (fun _=>?_) ?_
 ·exact ⟨pa0,pa1,pa2,pa3⟩
 clear hK K
 try simp only[PT]
 refine wpT_one 7 rfl (by kernel_rfl) (fun K hK=>?_);go_simp;refine (HD.out _ (HPD.out.new HN.out)).mono ?_;rintro e w2 ⟨v2,rfl,hn,hi⟩;obtain ⟨s7,a7,l7,c7,rfl⟩:=hi.shape;have HI2:=hid hi;clear hi;clear pa0 pa1 pa2 pa3 pa4 pa5 pa6 pa7 pa8;replace BA:=hid (BA.out.new hn);replace BP:=hid (BP.out.new hn);replace HI1:=hid (HI1.out.new hn);replace HN:=hid (HN.out.trans hn);clear hn;obtain ⟨⟨pa0,pa1,pa2,pa3⟩,pa4,pa5,pa6,pa7,pa8⟩:=BA.out.four;refine hK.out _ _ (fun _=>?_) ?_
 ·exact ⟨pa0,pa1,pa2,pa3⟩
 clear hK K
 try simp only[PT]
 refine tk 8 (by exact ⟨pa0,pa1,pa2,pa3⟩) ?_
 try simp only[PT]
 refine wpT_tail rfl (by kernel_rfl) ?_;simp only[List.drop_succ_cons,List.drop_zero];clear pa0 pa1 pa2 pa3 pa4 pa5 pa6 pa7 pa8;obtain ⟨⟨p0,p1,p2,p3⟩,p4,p5,p6,p7,p8⟩:=BP.out.four;go_wp2_with fail;refine bodyPost_ret (v:=.agg #[.int .i64 s6,.slice a6 l6 c6,.int .i64 s7,.slice a7 l7 c7]) (by simp[results,Tryz.results192,go_sem,p0,p1,p2,p3]) rfl ?_;exact frac_ret HN.out BP.out (by omega) HI1.out HI2.out
def twoQ (k:Int):Rat:=if k < 0 then ((2:Rat)^(-k).toNat)⁻¹ else (2:Rat)^k.toNat
theorem twoP_fb (n:Nat):FB (2*n+1) ((2:Rat)^n):=by
 have h:FB 2 (2:Rat):=⟨by unfold BdK;decide,by unfold BdK;decide⟩;obtain ⟨e1,e2⟩:=fpow_parts 2 n;exact ⟨by rw[e1];exact h.num.pow n,by rw[e2];exact h.den.pow n⟩
theorem twoP_ne (n:Nat):(2:Rat)^n≠0:=by
 intro h;have e1:=(fpow_parts 2 n).1;rw[h] at e1;have:(0:Int) < 2^n:=Int.pow_pos (by omega);have h2:(2:Rat).num=2:=rfl;rw[h2] at e1;simp at e1;omega
theorem twoQ_fb {k:Int}(lo: -4000≤k)(hi:k≤4000):FB 8001 (twoQ k):=by
 unfold twoQ;split
 ·exact ((twoP_fb _).mono (by omega)).inv (twoP_ne _)
 ·exact (twoP_fb _).mono (by omega)
theorem power_calls (k:Int)(w:World)(lo: -4000≤k)(hi:k≤4000):Calls Tryz.prog 129 #[.int .i64 k] w (FracPost w (twoQ k)):=by
 have f2:FB 2 ((2:Int):Rat):=⟨by unfold BdK;decide,by unfold BdK;decide⟩;by_cases hs:k < 0
 ·obtain ⟨n,hn,rfl⟩:∃ n:Nat,n≤4000∧k= -(n:Int):=⟨(-k).toNat,by omega,by omega⟩
  have hq:twoQ (-(n:Int))=(((2:Int):Rat)^n)⁻¹:=by
   unfold twoQ;rw[if_pos hs]
   have:(- -(n:Int)).toNat=n:=by omega
   rw[this];rfl
  have hpw:=fun va W h=>fpow_calls va ((2:Int):Rat) n 2 W h f2 (by omega) (by omega);have hb:FB 8001 (((2:Int):Rat)^n):=(twoP_fb n).mono (by omega);have h0:((2:Int):Rat)^n≠0:=twoP_ne n;have hin:=fun va W h=>inv_calls va (((2:Int):Rat)^n) 8001 W h hb (by omega) h0;rw[←hq] at hin
  have hni:(n:Int)≤4000:=by omega
  clear lo hi hb h0 f2 hn;have HPW:=hid hpw;have HIN:=hid hin;have HQ:=hid hq;clear hpw hin hq;go_enter Tryz.func129,Tryz.ntmps129;go_wp2_with fail;obtain ⟨BP,HN⟩:=lay1 w 115 #[.int .i64 0,.slice none 0 0,.int .i64 0,.slice none 0 0];refine (f_calls 2 _ (by omega) (by omega)).mono ?_;rintro e w1 ⟨v,rfl,hn,hf⟩;have HF1:=hid hf;clear hf;replace BP:=hid (BP.out.new hn);replace HN:=hid (HN.out.trans hn);clear hn;go_wp2_with fail;refine (HPW.out _ _ HF1.out).mono ?_;rintro e w2 ⟨v,rfl,hn,hf⟩;have HF2:=hid hf;clear hf;replace BP:=hid (BP.out.new hn);replace HN:=hid (HN.out.trans hn);clear hn;go_wp2_with fail;refine (HIN.out _ _ HF2.out).mono ?_;rintro e w3 ⟨v,rfl,hn,hf⟩;obtain ⟨s9,a9,l9,k9,t9,b9,m9,n9,rfl⟩:=hf.shape;have HF:=hid hf;clear hf;replace BP:=hid (BP.out.new hn);replace HN:=hid (HN.out.trans hn);clear hn;obtain ⟨⟨p0,p1,p2,p3⟩,p4,p5,p6,p7,p8⟩:=BP.out.four;go_wp2_with fail;refine bodyPost_ret (v:=.agg #[.int .i64 s9,.slice a9 l9 k9,.int .i64 t9,.slice b9 m9 n9]) (by simp[results,Tryz.results129,go_sem,p0,p1,p2,p3]) rfl ?_;exact frac_ret HN.out BP.out (by omega) HF.out.parts.1 HF.out.parts.2
 ·obtain ⟨n,hn,rfl⟩:∃ n:Nat,n≤4000∧k=(n:Int):=⟨k.toNat,by omega,by omega⟩
  have hq:twoQ (n:Int)=((2:Int):Rat)^n:=by
   unfold twoQ;rw[if_neg hs]
   have:((n:Int)).toNat=n:=by omega
   rw[this];rfl
  have hpw:=fun va W h=>fpow_calls va ((2:Int):Rat) n 2 W h f2 (by omega) (by omega);rw[←hq] at hpw
  have hni:(n:Int)≤4000:=by omega
  clear lo hi f2 hn;have HPW:=hid hpw;have HQ:=hid hq;clear hpw hq;go_enter Tryz.func129,Tryz.ntmps129;go_wp2_with fail;obtain ⟨BP,HN⟩:=lay1 w 115 #[.int .i64 0,.slice none 0 0,.int .i64 0,.slice none 0 0];refine (f_calls 2 _ (by omega) (by omega)).mono ?_;rintro e w1 ⟨v,rfl,hn,hf⟩;have HF1:=hid hf;clear hf;replace BP:=hid (BP.out.new hn);replace HN:=hid (HN.out.trans hn);clear hn;go_wp2_with fail;refine (HPW.out _ _ HF1.out).mono ?_;rintro e w2 ⟨v,rfl,hn,hf⟩;obtain ⟨s9,a9,l9,k9,t9,b9,m9,n9,rfl⟩:=hf.shape;have HF:=hid hf;clear hf;replace BP:=hid (BP.out.new hn);replace HN:=hid (HN.out.trans hn);clear hn;obtain ⟨⟨p0,p1,p2,p3⟩,p4,p5,p6,p7,p8⟩:=BP.out.four;go_wp2_with fail;refine bodyPost_ret (v:=.agg #[.int .i64 s9,.slice a9 l9 k9,.int .i64 t9,.slice b9 m9 n9]) (by simp[results,Tryz.results129,go_sem,p0,p1,p2,p3]) rfl ?_;exact frac_ret HN.out BP.out (by omega) HF.out.parts.1 HF.out.parts.2
theorem sinf_V:V Ieee.single 2139095040=2^277:=by decide +kernel
theorem V_lt_iff {r s:Nat}:V Ieee.single r < V Ieee.single s ↔ r < s:=by
 constructor
 ·intro h;rcases Nat.lt_or_ge r s with h1 | h1
  ·exact h1
  ·have:=V_le (f:=Ieee.single) h1;omega
 ·exact fun h=>V_lt (f:=Ieee.single) h
structure IsPl (x:Rat)(j:Nat):Prop where
 hi:x < ((2^(j+24):Nat):Rat)
 lo:j=0∨((2^(j+23):Nat):Rat)≤x
theorem IsPl.unique {x:Rat}{i j:Nat}(h:IsPl x i)(g:IsPl x j):i=j:=by
 have key:∀ {i j:Nat},IsPl x i→IsPl x j→i≤j:=fun {i j} h g=>by
  rcases Nat.lt_or_ge j i with h1 | h1
  ·have h2:=h.lo.resolve_left (by omega);have h3:((2^(j+24):Nat):Rat)≤((2^(i+23):Nat):Rat):=Rat.natCast_le_natCast.2 (Nat.pow_le_pow_right (by omega) (by omega));have h4:=g.hi;generalize ((2^(j+24):Nat):Rat)=a at h3 h4;generalize ((2^(i+23):Nat):Rat)=b at h2 h3;exact absurd (show x < x by grind) (by grind)
  ·exact h1
 have h1:=key h g;have h2:=key g h;omega
def sigF (x:Rat)(j:Nat):Int:=rndE (x / ((2^j:Nat):Rat))
theorem two_pos (j:Nat):(0:Rat) < ((2^j:Nat):Rat):=by
 have:=Rat.natCast_lt_natCast.2 (Nat.two_pow_pos j);simpa using this
theorem sigF_nonneg {x:Rat}(h:0≤x)(j:Nat):0≤sigF x j:=by
 unfold sigF
 have h1:0≤x / ((2^j:Nat):Rat):=by
  have h2:=two_pos j;generalize ((2^j:Nat):Rat)=D at h2⊢;rcases (Rat.le_total:0≤x / D∨x / D≤0) with h3 | h3
  ·exact h3
  ·have h4:=Rat.mul_le_mul_of_nonneg_right h3 (Rat.le_of_lt h2);rw[Rat.div_mul_cancel (by grind),Rat.zero_mul] at h4;have:x=0:=Rat.le_antisymm h4 h;rw[this,Rat.div_def,Rat.zero_mul];exact Rat.le_refl
 have h2:0≤(x / ((2^j:Nat):Rat)).floor:=Rat.le_floor_iff.2 h1;rcases rndE_cases (x / ((2^j:Nat):Rat)) with ⟨e, -⟩ | ⟨e, -⟩ <;> omega
theorem sigF_le {x:Rat}{j:Nat}(h:x < ((2^(j+24):Nat):Rat)):sigF x j≤16777216:=by
 unfold sigF
 have h1:x / ((2^j:Nat):Rat) < ((16777216:Int):Rat):=by
  rw[Rat.div_lt_iff (two_pos j),show ((16777216:Int):Rat)*((2^j:Nat):Rat)=((2^(j+24):Nat):Rat) by
   rw[Nat.pow_add,Nat.mul_comm,Rat.natCast_mul];rfl]
  exact h
 have h2:(x / ((2^j:Nat):Rat)).floor < 16777216:=Rat.floor_lt_iff.2 h1;rcases rndE_cases (x / ((2^j:Nat):Rat)) with ⟨e, -⟩ | ⟨e, -⟩ <;> omega
theorem twoQ_z (k:Int):twoQ k=(2:Rat)^k:=by
 unfold twoQ;split
 ·rename_i h
  have e:k= -(((-k).toNat:Nat):Int):=by omega
  conv=>rhs;rw[e]
  rw[Rat.zpow_neg,Rat.zpow_natCast]
 ·rename_i h
  have e:k=((k.toNat:Nat):Int):=by omega
  conv=>rhs;rw[e]
  rw[Rat.zpow_natCast]
theorem twoQ_pos (k:Int):0 < twoQ k:=by
 rw[twoQ_z];exact Rat.zpow_pos (by decide)
theorem twoQ_nat (n:Nat):twoQ (n:Int)=(2:Rat)^n:=by
 rw[twoQ_z,Rat.zpow_natCast]
theorem twoQ_add (a b:Int):twoQ (a+b)=twoQ a*twoQ b:=by
 rw[twoQ_z,twoQ_z,twoQ_z];exact Rat.zpow_add (by decide) a b
theorem le_div {a b c:Rat}(hb:0 < b):c≤a / b ↔ c*b≤a:=by
 have h:=Rat.div_lt_iff (a:=a) (c:=c) hb;constructor
 ·intro h1;exact Rat.not_lt.1 fun h2=>Rat.not_lt.2 h1 (h.2 h2)
 ·intro h1;exact Rat.not_lt.1 fun h2=>Rat.not_lt.2 h1 (h.1 h2)
theorem twoQ_le {a b:Int}(h:a≤b):twoQ a≤twoQ b:=by
 have e:b=a+((b - a).toNat:Int):=by omega
 rw[e,twoQ_add,twoQ_nat];have h1:=twoQ_pos a
 have h2:(1:Rat)≤(2:Rat)^(b - a).toNat:=by
  have h3:((1:Nat):Rat)≤((2^(b - a).toNat:Nat):Rat):=Rat.natCast_le_natCast.2 (Nat.two_pow_pos _);rw[Rat.natCast_pow] at h3;exact h3
 have h4:=Rat.mul_le_mul_of_nonneg_left h2 (Rat.le_of_lt h1);rw[Rat.mul_one] at h4;exact h4
theorem twoQ_cast (n:Nat):twoQ (n:Int)=((2^n:Nat):Rat):=by
 rw[twoQ_nat,Rat.natCast_pow];rfl
theorem absR_eq (q:Rat):absR q=((q.num.natAbs:Nat):Rat) / ((q.den:Nat):Rat):=by
 have hd:((q.den:Nat):Rat)≠0:=by
  intro h
  have:q.den=0:=by exact_mod_cast h
  exact q.den_nz this
 have e:q*((q.den:Nat):Rat)=(q.num:Rat):=by
  have h:=Rat.num_divInt_den q;rw[Rat.divInt_eq_div] at h;have h2:=Rat.div_mul_cancel (a:=(q.num:Rat)) hd;rw[←Rat.intCast_natCast] at h2⊢;rw[h] at h2;exact h2
 unfold absR;by_cases h:q < 0
 ·rw[if_pos h]
  have hn:q.num < 0:=by
   have:=mt Rat.num_nonneg.1 (Rat.not_le.2 h);omega
  have e2:((q.num.natAbs:Nat):Rat)= -(q.num:Rat):=by
   have:((q.num.natAbs:Nat):Int)= -q.num:=by omega
   rw[←Rat.intCast_natCast,this,Rat.intCast_neg]
  rw[e2,←e,Rat.div_def,Rat.neg_mul,Rat.mul_assoc,Rat.mul_inv_cancel _ hd,Rat.mul_one]
 ·rw[if_neg h];have hn:0≤q.num:=Rat.num_nonneg.2 (Rat.not_lt.1 h)
  have e2:((q.num.natAbs:Nat):Rat)=(q.num:Rat):=by
   have:((q.num.natAbs:Nat):Int)=q.num:=by omega
   rw[←Rat.intCast_natCast,this]
  rw[e2,←e,Rat.div_def,Rat.mul_assoc,Rat.mul_inv_cancel _ hd,Rat.mul_one]
theorem size_bits {N D bn bd:Nat}(hN:N < 2^bn)(hN2:2^bn≤2*N)(hD:D < 2^bd)(hD2:2^bd≤2*D):((N:Nat):Rat) / ((D:Nat):Rat) < twoQ (bn - bd+1)∧twoQ (bn - bd - 1)≤((N:Nat):Rat) / ((D:Nat):Rat):=by
 have hD0:(0:Rat) < ((D:Nat):Rat):=by
  have:0 < D:=by
   have:=Nat.two_pow_pos bd;omega
  exact_mod_cast this
 have c1:((N:Nat):Rat) < twoQ bn:=by rw[twoQ_cast];exact Rat.natCast_lt_natCast.2 hN
 have c2:twoQ bn≤2*((N:Nat):Rat):=by
  rw[twoQ_cast];have:=Rat.natCast_le_natCast.2 hN2;rw[Rat.natCast_mul] at this;exact this
 have c3:((D:Nat):Rat) < twoQ bd:=by rw[twoQ_cast];exact Rat.natCast_lt_natCast.2 hD
 have c4:twoQ bd≤2*((D:Nat):Rat):=by
  rw[twoQ_cast];have:=Rat.natCast_le_natCast.2 hD2;rw[Rat.natCast_mul] at this;exact this
 have e1:twoQ ((bn:Int) - bd+1)*twoQ bd=2*twoQ bn:=by
  rw[←twoQ_add,show (bn:Int) - bd+1+bd=1+bn by omega,twoQ_add];rfl
 have e2:2*(twoQ ((bn:Int) - bd - 1)*twoQ bd)=twoQ bn:=by
  rw[←twoQ_add,show (bn:Int) - bd - 1+bd=bn - 1 by omega]
  have:twoQ (bn:Int)=twoQ 1*twoQ (bn - 1):=by rw[←twoQ_add];congr 1;omega
  rw[this];rfl
 have p1:=twoQ_pos ((bn:Int) - bd+1);have p2:=twoQ_pos ((bn:Int) - bd - 1);constructor
 ·rw[Rat.div_lt_iff hD0];have h1:=Rat.mul_le_mul_of_nonneg_left c4 (Rat.le_of_lt p1)
  grind
 ·rw[le_div hD0];have h1:=Rat.mul_le_mul_of_nonneg_left (Rat.le_of_lt c3) (Rat.le_of_lt p2)
  grind
theorem twoQ_neg (k:Int):twoQ (-k)=(twoQ k)⁻¹:=by
 rw[twoQ_z,twoQ_z,Rat.zpow_neg]
theorem place {s:Rat}{k:Int}(hi:s < twoQ (k+24))(lo:twoQ (k+23)≤s){k':Int}(hk:k'=max k (-149)):
  IsPl (s*twoQ 149) (k'+149).toNat∧s*twoQ (-k')=s*twoQ 149 / ((2^(k'+149).toNat:Nat):Rat):=by
 have ej:(((k'+149).toNat:Nat):Int)=k'+149:=by omega
 have p:=twoQ_pos 149;refine ⟨⟨?_,?_⟩,?_⟩
 ·rw[←twoQ_cast];have h1:twoQ (k+24+149)≤twoQ (((k'+149).toNat+24:Nat):Int):=twoQ_le (by omega);have h2:=Rat.mul_lt_mul_of_pos_right hi p;rw[←twoQ_add] at h2;exact Std.lt_of_lt_of_le h2 h1
 ·rcases Int.lt_or_le k (-149) with h | h
  ·left;omega
  ·right;rw[←twoQ_cast];have h2:=Rat.mul_le_mul_of_nonneg_right lo (Rat.le_of_lt p);rw[←twoQ_add] at h2
   have e:(((k'+149).toNat+23:Nat):Int)=k+23+149:=by omega
   rw[e];exact h2
 ·rw[←twoQ_cast,ej,Rat.div_def,←twoQ_neg,Rat.mul_assoc,←twoQ_add];congr 2;omega
theorem V_inf_le {R:Nat}:Flo.V Ieee.single R < 2^277 ↔ R < 2139095040:=by
 rw[←sinf_V];exact V_lt_iff
theorem rung_big {x:Rat}{j R:Nat}(h:IsPl x j)(hR:(V Ieee.single R:Int)=sigF x j*((2^j:Nat):Int))(hj:254≤j):2139095040≤R:=by
 have h1:=h.lo.resolve_left (by omega)
 have h2:(8388608:Int)≤sigF x j:=by
  have h3:((8388608:Int):Rat)≤x / ((2^j:Nat):Rat):=by
   rw[le_div (two_pos j)]
   have e:((8388608:Int):Rat)*((2^j:Nat):Rat)=((2^(j+23):Nat):Rat):=by
    rw[Nat.pow_add,Nat.mul_comm,Rat.natCast_mul];rfl
   rw[e];exact h1
  have h4:=Rat.le_floor_iff.2 h3;unfold sigF;rcases rndE_cases (x / ((2^j:Nat):Rat)) with ⟨e, -⟩ | ⟨e, -⟩ <;> omega
 rcases Nat.lt_or_ge R 2139095040 with h3 | h3
 ·have h4:=V_inf_le.2 h3
  have h5:((2^277:Nat):Int)≤sigF x j*((2^j:Nat):Int):=by
   have a1:(2^277:Nat)≤8388608*2^j:=by
    have:(2:Nat)^254≤2^j:=Nat.pow_le_pow_right (by omega) hj
    have e:(2:Nat)^277=8388608*2^254:=by decide +kernel
    rw[e];exact Nat.mul_le_mul_left _ this
   have a2:((2^277:Nat):Int)≤((8388608*2^j:Nat):Int):=Int.ofNat_le.2 a1;rw[Int.natCast_mul] at a2;have a3:=Int.mul_le_mul_of_nonneg_right h2 (show (0:Int)≤((2^j:Nat):Int) by omega);exact Int.le_trans a2 a3
  omega
 ·exact h3
end Go.Proofs.YtnjonlnemagomaaGreatDoor
