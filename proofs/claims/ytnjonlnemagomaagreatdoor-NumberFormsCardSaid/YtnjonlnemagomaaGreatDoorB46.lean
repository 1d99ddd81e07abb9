/- Part B46. -/
import Derived.Test.YtnjonlnemagomaaGreatDoorB33
import Derived.Test.YtnjonlnemagomaaGreatDoorB38
namespace Go.Proofs.YtnjonlnemagomaaGreatDoor
open Go.RowKit Big
open Go.Lib (hid)
set_option maxRecDepth 100000
set_option maxHeartbeats 8000000
theorem y7j (a:Option Addr)(cap:Nat)(l:List Int)(w:World)(hl:l.length<=9223372036854775807)(hr:RdL w a (ints l)):Calls Tryz.prog 106 #[.slice a l.length cap] w (y1o w (y7z l)):=by
 have HN:=hid (New.refl w);unfold y7z;by_cases h0:l.length=0
 ·rw[if_pos h0];have hb1:((l.length:Int)==0)=true:=beq_iff_eq.2 (by omega);have hb2:decide ((l.length:Int) > 256)=false:=decide_eq_false (by omega)
  have h0i:(l.length:Int)=0:=by omega
  clear hr h0;go_enter Tryz.func106,Tryz.ntmps106;go_wp2_with fail;refine (y04 true 12 _).mono ?_;rintro e w' ⟨rfl,rfl⟩;go_wp2_with fail;refine (y04 false 5 _).mono ?_;rintro e w' ⟨rfl,rfl⟩;go_wp2_with fail;have HN0:=HN;clear HN;obtain ⟨BG,HN⟩:=lay1 w 32 #[.int .i64 12,.int .i64 0];have HN_:=HN0.out.trans HN.out;clear HN HN0;have HN:=hid HN_;clear HN_;refine (y15 12 0 _ _ 32 _ BG.out).mono ?_;rintro e w1 ⟨rfl,hn⟩;clear BG;replace HN:=tW HN hn;clear hn;go_wp2_with fail;go_ret;exact ⟨rfl,HN.out⟩
 ·rw[if_neg h0];by_cases h1:256 < l.length
  ·rw[if_pos h1];have hb1:((l.length:Int)==0)=false:=beq_false_of_ne (by omega);have hb2:decide ((l.length:Int) > 256)=true:=decide_eq_true (by omega)
   have h1i:(256:Int) < (l.length:Int):=by omega
   clear hr h0 h1;go_enter Tryz.func106,Tryz.ntmps106;go_wp2_with fail;refine (y04 false 12 _).mono ?_;rintro e w' ⟨rfl,rfl⟩;go_wp2_with fail;refine (y04 true 5 _).mono ?_;rintro e w' ⟨rfl,rfl⟩;go_wp2_with fail;have HN0:=HN;clear HN;obtain ⟨BG,HN⟩:=lay1 w 32 #[.int .i64 0,.int .i64 5];have HN_:=HN0.out.trans HN.out;clear HN HN0;have HN:=hid HN_;clear HN_;refine (y15 0 5 _ _ 32 _ BG.out).mono ?_;rintro e w1 ⟨rfl,hn⟩;clear BG;replace HN:=tW HN hn;clear hn;go_wp2_with fail;go_ret;exact ⟨rfl,HN.out⟩
  ·rw[if_neg h1];have hb1:((l.length:Int)==0)=false:=beq_false_of_ne (by omega);have hb2:decide ((l.length:Int) > 256)=false:=decide_eq_false (by omega)
   have hb3:¬(256:Int) < (l.length:Int):=by omega
   have hea:=fun W (h:RdL W a (ints l))=>yfu a cap l W (by omega) h;by_cases hok:okW l=true
   ·rw[if_pos hok];rw[if_pos hok] at hea
    have hmx:∀ W,RdL W a (ints l)->Calls Tryz.prog 174 #[.slice a l.length cap] W fun e w'=>e=.returned (.int .i64 (maxL 0 l))/\w'=W:=fun W h=>by
     cases l with
     | nil=>exact absurd rfl h0
     | cons x m=>
      have hx:maxL 0 (x::m)=maxL x m:=by
       have:0<=x:=by
        unfold okW at hok;rw[List.all_cons,Bool.and_eq_true] at hok;have:=hok.1;unfold outside at this;simp at this;omega
       show maxL (if x > 0 then x else 0) m=maxL x m;congr 1;split <;> omega
      rw[hx];exact yl7 a cap x m W (by simp at h1;omega) h
    obtain ⟨M,hM⟩:∃ M,maxL 0 l=M:=⟨_,rfl⟩;simp only[hM] at hmx;rw[hM];obtain ⟨R,hR⟩:∃ R:Int,(if M=0 then 6 else 0)=R:=⟨_,rfl⟩;rw[hR];clear hM hok h0 h1;have HR:=hid hr;have HEA:=hid hea;have HMX:=hid hmx;have HRR:=hid hR;clear hr hea hmx hR;go_enter Tryz.func106,Tryz.ntmps106;go_wp2_with fail;refine (y04 false 12 _).mono ?_;rintro e w' ⟨rfl,rfl⟩;go_wp2_with fail;refine (y04 false 5 _).mono ?_;rintro e w' ⟨rfl,rfl⟩;go_wp2_with fail;have HN0:=HN;clear HN;obtain ⟨BG,HN⟩:=lay1 w 32 #[.int .i64 0,.int .i64 0];have HN_:=HN0.out.trans HN.out;clear HN HN0;have HN:=hid HN_;clear HN_;refine (y15 0 0 _ _ 32 _ BG.out).mono ?_;rintro e w1 ⟨rfl,hn⟩;clear BG;replace HN:=tW HN hn;clear hn;go_wp2_with fail;refine (HEA.out _ (HR.out.new HN.out)).mono ?_;rintro e w2 ⟨rfl,hw⟩;rw[hw];clear hw;go_wp2_with fail;refine (HMX.out _ (HR.out.new HN.out)).mono ?_;rintro e w3 ⟨rfl,hw⟩;rw[hw];clear hw;by_cases hm:M=0
    ·subst hm;obtain rfl:6=R:=HRR.out;go_wp2_with fail;refine (y04 true 6 _).mono ?_;rintro e w' ⟨rfl,rfl⟩;go_wp2_with fail;go_ret;exact ⟨rfl,HN.out⟩
    ·have hmb:(M==0)=false:=beq_false_of_ne hm
     obtain rfl:0=R:=by rw[<-HRR.out,if_neg hm]
     clear hm;go_wp2_with fail;refine (y04 false 6 _).mono ?_;rintro e w' ⟨rfl,rfl⟩;go_wp2_with fail;go_ret;exact ⟨rfl,HN.out⟩
   ·rw[if_neg hok];rw[if_neg hok] at hea;clear hok h0 h1;have HR:=hid hr;have HEA:=hid hea;clear hr hea;go_enter Tryz.func106,Tryz.ntmps106;go_wp2_with fail;refine (y04 false 12 _).mono ?_;rintro e w' ⟨rfl,rfl⟩;go_wp2_with fail;refine (y04 false 5 _).mono ?_;rintro e w' ⟨rfl,rfl⟩;go_wp2_with fail;have HN0:=HN;clear HN;obtain ⟨BG,HN⟩:=lay1 w 32 #[.int .i64 0,.int .i64 0];have HN_:=HN0.out.trans HN.out;clear HN HN0;have HN:=hid HN_;clear HN_;refine (y15 0 0 _ _ 32 _ BG.out).mono ?_;rintro e w1 ⟨rfl,hn⟩;clear BG;replace HN:=tW HN hn;clear hn;go_wp2_with fail;refine (HEA.out _ (HR.out.new HN.out)).mono ?_;rintro e w2 ⟨rfl,hw⟩;rw[hw];clear hw;go_wp2_with fail;go_ret;exact ⟨rfl,HN.out⟩
structure IRow (base:Nat)(w:World)(v:Value)(l:List Int):Prop where
 own:w.ownsRow base 3 1 v l.length (ints l)
 no:y5j w v
def y70 (v v':Value):Prop:=∀ g,v.ownBlock=some g->v'.ownBlock≠some g
theorem y70.symm {v v':Value}(h:y70 v v'):y70 v' v:=fun g h1 h2=>h g h2 h1
theorem IRow.nil (base:Nat)(w:World):IRow base w (.slice none 0 0) []:=⟨World.ownsRow_nil _ _ _ _,fun g hg=>by simp[Value.ownBlock] at hg⟩
theorem IRow.new {base:Nat}{w w':World}{v:Value}{l:List Int}(h:IRow base w v l)(hn:New w w'):IRow base w' v l:=⟨yc3 h.own hn,h.no.new hn⟩
theorem IRow.lt {base:Nat}{w:World}{v:Value}{l:List Int}(h:IRow base w v l){g:Nat}(hg:v.ownBlock=some g):base<=g/\g < w.heap.size:=h.own.lt g hg
theorem IRow.keep {base:Nat}{w w':World}{v:Value}{l:List Int}{r:Option Nat}(h:IRow base w v l)(hg:w.grownBy w' r)(hne:∀ g,v.ownBlock=some g->r≠some g):IRow base w' v l:=by
 refine ⟨⟨h.own.1,?_⟩,fun g e=>?_⟩
 ·rcases h.own.2 with h2 | ⟨g,cap,cur,h1,h2,h3,h4⟩
  ·exact .inl h2
  ·refine .inr ⟨g,cap,cur,h1,h2,?_,h4⟩
   have e:v.ownBlock=some g:=by rw[h1];rfl
   rw[hg.block g (h.lt e).2 (Ne.symm (hne g e)),h3]
 ·have h2:=h.no g e;refine ⟨Nat.lt_of_lt_of_le h2.1 hg.size,fun o x=>?_⟩;have:w'.cell? ⟨g,o,none⟩=w.cell? ⟨g,o,none⟩:=World.cell?_of_block (hg.block g h2.1 (Ne.symm (hne g e)));rw[this];exact h2.2 o x
theorem ygd (z:Int):∀ u∈[Value.int .i64 z],NotU u:=by
 intro u hu;simp at hu;rw[hu];exact .i64 _
theorem ydx:∀ u∈(Value.int .i64 0).cells,NotU u:=by
 intro u hu;simp[Value.cells] at hu;rw[hu];exact .i64 _
theorem IRow.push {base:Nat}{w':World}{v':Value}{l:List Int}{z:Int}(ho:w'.ownsRow base 3 1 v' (l.length+1) (ints l ++ [.int .i64 z]))(hno:y5j w' v'):IRow base w' v' (l ++ [z]):=
 ⟨by
  have:ints (l ++ [z])=ints l ++ [.int .i64 z]:=by simp[ints]
  rw[this,List.length_append]
  exact ho,hno⟩
theorem y70.push {base:Nat}{w:World}{v v' u:Value}{l:List Int}(h:y70 v u)(hu:IRow base w u l)(hfr:∀ g,v'.ownBlock=some g->v.ownBlock=some g\/w.heap.size<=g):y70 v' u:=fun g e1 e2=>by
 rcases hfr g e1 with h1 | h1
 ·exact h g h1 e2
 ·have:=(hu.lt e2).2;omega
structure ShQ (W:World)(p1 p2 p3 go:Nat)(tt S:Int)(a:Option Addr)(n cap:Nat)(wt q:Nat->Int):Prop where
 cap:yce W p1 p2 p3 tt S a n cap wt
 row:RowZ W go 3 n q
theorem yhp (q:Nat->Int)(f:Nat->Nat)(n k:Nat):∀ i,i < n->updZ (fun i=>q i+((cnt (fun p=>decide (f p=i)) k:Nat):Int)) (f k) (q (f k)+((cnt (fun p=>decide (f p=f k)) k:Nat):Int)+1) i=q i+((cnt (fun p=>decide (f p=i)) (k+1):Nat):Int):=by
 intro i _;unfold updZ;by_cases h:i=f k
 ·subst h;rw[if_pos rfl,yck (by simp)];omega
 ·rw[if_neg h,ycs (by simpa using fun e=>h e.symm)]
theorem ybh (tn n cap:Nat)(wt:Nat->Int)(a:Option Addr)(w:World)(hT:tn<=999999999)(hn0:0 < n)(hn:n<=19)(hw:∀ i,i < n->0<=wt i/\wt i<=999999999)(hS:0 < sumTo wt n)(hE:y7z ((List.range n).map wt)=0)(hr:RdL w a (ints ((List.range n).map wt))):
  Calls Tryz.prog 22 #[.int .i64 (tn:Int),.slice a n cap] w (ygu w n (share tn wt n) 0):=by
 obtain ⟨i0,hi,hz0,hz1,hz2⟩:=info_parts y3b;have hwi:=fun W=>y3e (tn:Int) 0 999999999 W;rw[show outside (tn:Int) 0 999999999=false by unfold outside;simp;omega] at hwi;simp only[Bool.false_eq_true,if_false] at hwi;have hcw:=fun W (h:RdL W a (ints ((List.range n).map wt)))=>y7j a cap ((List.range n).map wt) W (by simp;omega) h;rw[hE] at hcw;rw[show ((List.range n).map wt).length=n by simp] at hcw;obtain ⟨tt,htt⟩:∃ t:Int,(tn:Int)=t:=⟨_,rfl⟩
 have ht0:0<=tt:=by omega
 have ht1:tt<=999999999:=by omega
 rw[htt]at hwi⊢
 have hni:(n:Int)<=19:=by omega
 clear htt hE;have HWI:=hid hwi;have HCW:=hid hcw;have HR:=hid hr;clear hwi hcw hr;go_enter Tryz.func22,Tryz.ntmps22;go_upto_region 1 with (fail);obtain ⟨B1,B2,HN⟩:=lay2 w 3 #[.int .i64 tt] 24 #[.slice a n cap];obtain ⟨w0,hw0⟩:∃ u,(w.alloc (.cells #[.int .i64 tt] 3)).alloc (.cells #[.slice a n cap] 24)=u:=⟨_,rfl⟩;rw[hw0] at B1 B2 HN⊢;clear hw0;obtain ⟨pa0,pa1,pa2⟩:=B1.out.one;obtain ⟨pb0,pb1,pb2⟩:=B2.out.one;clear pa0 pa1 pa2;clear pb0 pb1 pb2;refine y00 6 (fun W=>W.cell? ⟨w.heap.size,0,none⟩=some (.int .i64 tt)/\W.cell? ⟨w.heap.size+1,0,none⟩=some (.slice a n cap)) 7 #[false,false,false,false,false,false,false] rfl (by kernel_rfl) (by kernel_rfl) ?_;refine tk 0 (by exact ⟨cW1 B1,cW1 B2⟩) ?_
 try simp only[PT]
 refine tk 2 (by exact ⟨cW1 B1,cW1 B2⟩) ?_
 try simp only[PT]
 refine tk1 1 fun K hK=>?_;go_simp;refine (HWI.out _).mono ?_;rintro e w1 ⟨rfl,hw⟩;have hn:=((New.refl w0).drew).trans (.of_eq hw);clear hw;replace B1:=bW B1 hn;replace B2:=bW B2 hn;replace HN:=tW HN hn;clear hn;refine hK.out _ _ (fun _=>⟨cW1 B1,cW1 B2⟩) ?_;clear hK K
 try simp only[PT]
 refine tk1 3 fun K hK=>?_;go_simp;refine (HCW.out _ (HR.out.new HN.out)).mono ?_;rintro e w2 ⟨rfl,hn⟩;replace B1:=bW B1 hn;replace B2:=bW B2 hn;replace HN:=tW HN hn;clear hn;refine hK.out _ _ (fun _=>⟨cW1 B1,cW1 B2⟩) ?_;clear hK K
 try simp only[PT]
 refine tk1 4 fun K hK=>?_;go_simp;have HN0:=HN;clear HN;obtain ⟨BG,HN⟩:=lay1 w2 32 #[.int .i64 0,.int .i64 0];replace B1:=hid (B1.out.new HN.out);replace B2:=hid (B2.out.new HN.out);have HN_:=HN0.out.trans HN.out;clear HN HN0;have HN:=hid HN_;clear HN_;refine hK.out _ _ (fun _=>⟨cW1 B1,cW1 B2⟩) ?_;clear hK K
 try simp only[PT]
 refine tk1 5 fun K hK=>?_;go_simp;refine (y15 0 0 _ _ 32 _ BG.out).mono ?_;rintro e w3 ⟨rfl,hn⟩;clear BG;replace B1:=bW B1 hn;replace B2:=bW B2 hn;replace HN:=tW HN hn;clear hn;refine hK.out _ _ (fun _=>⟨cW1 B1,cW1 B2⟩) ?_;clear hK K
 try simp only[]
 refine tlW ?_;obtain ⟨pa0,pa1,pa2⟩:=B1.out.one;obtain ⟨pb0,pb1,pb2⟩:=B2.out.one;clear pa0 pa1 pa2 pb0 pb1 pb2;have lo1:=B2.out.lt;go_upto_region 5 with (fail);have HN0:=HN;clear HN;obtain ⟨B3,HN⟩:=lay1 w3 3 #[.int .i64 0];replace B1:=hid (B1.out.new HN.out);replace B2:=hid (B2.out.new HN.out);have HN_:=HN0.out.trans HN.out;clear HN HN0;have HN:=hid HN_;clear HN_;have lo2:=B3.out.lt;obtain ⟨w4,hw4⟩:∃ u,w3.alloc (.cells #[.int .i64 0] 3)=u:=⟨_,rfl⟩;rw[hw4] at B1 B2 B3 HN⊢;clear hw4;have hlo2:w3.heap.size < w4.heap.size:=B3.out.lt;obtain ⟨pb0,pb1,pb2⟩:=B2.out.one;go_wp2_with fail;clear pb0 pb1 pb2;have HN0:=HN;have B10:=B1;have B20:=B2;have B30:=B3;clear HN B1 B2 B3
 have hlo3:w.heap.size<=w3.heap.size:=by omega
 go_loopw [28] (fun i wr=>∃ k:Nat,k<=n/\i=.int .i64 (k:Int)/\Hid (New w wr)/\Hid (Box wr w.heap.size 3 #[.int .i64 tt])/\Hid (Box wr (w.heap.size+1) 24 #[.slice a n cap])/\Hid (Box wr w3.heap.size 3 #[.int .i64 (sumTo wt k)])) (fun i _=>n - (intOf i).toNat)
 case atStart=>exact ⟨0,Nat.zero_le _,rfl,HN0,B10,B20,B30⟩
 case round=>
  clear HN0 B10 B20 B30;obtain ⟨k,hk,rfl,HN,B1,B2,B3⟩:=hrel;by_cases hlt:k < n
  ·obtain ⟨b,off,rfl,hc⟩:=HR.out.int k (by simpa using hlt)
   have ew:((List.range n).map wt)[k]'(by simpa using hlt)=wt k:=by simp
   rw[ew]at hc;have hc:=HN.out.cell hc;have hx:=hw k hlt;have hs0:=y4q (n:=k) (g:=wt) (fun i hi'=>(hw i (by omega)).1);have hs1:=ybt (n:=k) (g:=wt) (fun i hi'=>(hw i (by omega)).2)
   have hki:(k:Int) < n:=by omega
   obtain ⟨x,hxx⟩:∃ x,wt k=x:=⟨_,rfl⟩;obtain ⟨s,hss⟩:∃ x,sumTo wt k=x:=⟨_,rfl⟩
   have hnx:sumTo wt (k+1)=s+x:=by rw[<-hss,<-hxx];rfl
   rw[hxx]at hc hx;rw[hss] at hs0 hs1 B3
   have hs2:s<=18999999981:=by omega
   clear ew hxx hss hs1;have HNX:=hid hnx;clear hnx;obtain ⟨pb0,pb1,pb2⟩:=B2.out.one;obtain ⟨pc0,pc1,pc2⟩:=B3.out.one;go_wp2_with fail;clear pb0 pb1 pb2 pc0 pc1 pc2;have hn1:=HN.out.setCell (p:=⟨w3.heap.size,0,none⟩) hlo3 (.int .i64 (s+x));have h1:=B1.out.other (p:=⟨w3.heap.size,0,none⟩) (by show w3.heap.size≠w.heap.size;omega) (.int .i64 (s+x));have h2:=B2.out.other (p:=⟨w3.heap.size,0,none⟩) (by show w3.heap.size≠w.heap.size+1;omega) (.int .i64 (s+x))
   have h3:Box (wr.setCell ⟨w3.heap.size,0,none⟩ (.int .i64 (s+x))) w3.heap.size 3 #[.int .i64 (sumTo wt (k+1))]:=by
    rw[HNX.out];exact B3.out.set 0 _
   clear HN B1 B2 B3;have HN:=hid hn1;have B1:=hid h1;have B2:=hid h2;have B3:=hid h3;clear hn1 h1 h2 h3;go_roundw
   case rel=>exact ⟨k+1,by omega,by go_num,HN,B1,B2,B3⟩
   case measure=>simp[intOf];omega
  ·obtain rfl:k=n:=by omega
   obtain ⟨wl,hwl⟩:∃ x,x=wr:=⟨_,rfl⟩;rw[<-hwl] at HN B1 B2 B3⊢;clear hwl hlt hk;have hlo4:w3.heap.size < wl.heap.size:=B3.out.lt;have lb:=yfs (T:=tt) hn0 hS;have hSb:=ybt (n:=k) (g:=wt) (fun i hi'=>(hw i (by omega)).2);obtain ⟨S,hSS⟩:∃ S,sumTo wt k=S:=⟨_,rfl⟩;obtain ⟨q,hq⟩:∃ q:Nat->Int,(fun i=>tt*wt i / S)=q:=⟨_,rfl⟩;have hqi:∀ i,tt*wt i / S=q i:=fun i=>congrFun hq i;obtain ⟨L,hL⟩:∃ L,y5d tt wt k=L:=⟨_,rfl⟩
   have hLq:L=tt - sumTo q k:=by rw[<-hL];unfold y5d;rw[hSS,hq]
   rw[hL]at lb;rw[hSS] at lb hS hSb B3
   have hS1:S<=1000000000000:=by omega
   have hsh:∀ i,i < k->share tt wt k i=q i+(if (rank (fun j=>tt*wt j % S) k i:Int) < L then 1 else 0):=fun i _=>by
    unfold share;rw[hSS,hL,hqi]
   have hq0:∀ i,i < k->0<=q i:=fun i hi'=>by
    rw[<-hqi];exact Int.ediv_nonneg (Int.mul_nonneg ht0 (hw i hi').1) (by omega)
   have hrb:∀ i,i<=k->0<=tt - sumTo q i/\tt - sumTo q i<=999999999:=fun i hi'=>by
    have h1:=sumTo_le hq0 hi';have h2:=y4q (n:=i) (g:=q) (fun j hj=>hq0 j (by omega));omega
   have hsq:=fun i=>ybl ht0 ht1 (w:=wt i);obtain ⟨lb1,lb2, -⟩:=lb;clear hSS hq hL hSb;have HQI:=hid hqi;have HLQ:=hid hLq;have HSH:=hid hsh;have HRB:=hid hrb;have HWT:=hid hw;clear hqi hLq hsh hrb hw;obtain ⟨pa0,pa1,pa2⟩:=B1.out.one;obtain ⟨pb0,pb1,pb2⟩:=B2.out.one;go_wp2_with fail;clear pa0 pa1 pa2 pb0 pb1 pb2;have HNl:=HN;have B10:=B1;have B20:=B2;have B30:=B3;clear HN B1 B2 B3;go_loopw [10,11,12,39] (fun r v u i wr=>∃ (m:Nat) (R:Int),m<=k/\i=.int .i64 (m:Int)/\r=.int .i64 R/\Hid (R=tt - sumTo q m)/\Hid (IRow wl.heap.size wr v ((List.range m).map q))/\Hid (IRow wl.heap.size wr u (idxs m))/\Hid (y70 v u)/\Hid (New wl wr)/\Hid (Box wr w.heap.size 3 #[.int .i64 tt])/\Hid (Box wr (w.heap.size+1) 24 #[.slice a k cap])/\Hid (Box wr w3.heap.size 3 #[.int .i64 S])) (fun _ _ _ i _=>k - (intOf i).toNat)
   case atStart=>exact ⟨0,tt,Nat.zero_le _,rfl,rfl,hid (by show tt=tt - 0;omega),hid (IRow.nil _ _),hid (IRow.nil _ _),hid (fun g hg=>by simp[Value.ownBlock] at hg),hid (New.refl _),B10,B20,B30⟩
   case round=>
    clear B10 B20 B30;obtain ⟨m,R,hm,rfl,rfl,HR9,HO,HU,HAP,HN,B1,B2,B3⟩:=hrel;by_cases hlt:m < k
    ·obtain ⟨b,off,rfl,hc⟩:=HR.out.int m (by simpa using hlt)
     have ew:((List.range k).map wt)[m]'(by simpa using hlt)=wt m:=by simp
     rw[ew]at hc;have hc:=HN.out.cell (HNl.out.cell hc);have hx:=HWT.out m hlt
     have hmi:(m:Int) < k:=by omega
     have hpb:=hsq m hx.1 hx.2;have hqm:=HQI.out m;obtain ⟨x,hxx⟩:∃ x,wt m=x:=⟨_,rfl⟩;obtain ⟨Q,hQQ⟩:∃ x,q m=x:=⟨_,rfl⟩;rw[hxx] at hc hx hpb hqm;rw[hQQ] at hqm;obtain ⟨P,hP⟩:∃ P,tt*x=P:=⟨_,rfl⟩;rw[hP] at hpb hqm
     have htd:Int.tdiv P S=Q:=by rw[Int.tdiv_eq_ediv_of_nonneg hpb.1];exact hqm
     have hrm:=HRB.out m hm;have hrm1:=HRB.out (m+1) hlt
     have hsm:sumTo q (m+1)=sumTo q m+Q:=by rw[<-hQQ];rfl
     have hR9:=HR9.out
     have hR0:0<=R - Q/\R - Q<=999999999:=by omega
     have hR1:R - Q=tt - sumTo q (m+1):=by omega
     have hRb:0<=R/\R<=999999999:=by omega
     have hQ1: -1000000000<=Q/\Q<=1000000000:=by omega
     have hSn:(S==0)=false:=beq_false_of_ne (by omega)
     have hl1:((List.range m).map q).length=m:=by simp
     have hl2:(idxs m).length=m:=y8k m
     have hk9:m<=19:=by omega
     obtain ⟨hpb0,hpb1⟩:=hpb;clear hrm hrm1 hsm hR9 ew hqm;have HR1:=hid hR1;have HQQ:=hid hQQ;have HL1:=hid hl1;have HL2:=hid hl2;have HK9:=hid hk9;clear hR1 hQQ hl1 hl2 hk9;obtain ⟨pa0,pa1,pa2⟩:=B1.out.one;obtain ⟨pc0,pc1,pc2⟩:=B3.out.one;go_wp2_with (at_builtin;refine y30 rfl _ _ 24 rfl wl.heap.size 3 i0 (.int .i64 0) 1 8 Tryz.underlying24 hi hz0 hz1 hz2 rfl (by decide) _ _ _ rfl (HO.out.own.alloc _) ⟨wr.heap.size,0,none⟩ 1 1 [.int .i64 Q] rfl rfl (y3i _ _ _) (y4m _) (by have:=HL1.out;have:=HK9.out;unfold maxLen;omega) (by have:=HL1.out;have:=HK9.out;omega) (by have:=HN.out.size;rw[<-size_alloc];omega) ydx (ygd _) (HO.out.no.new ((New.refl _).alloc _)) ?_);intro v5 w5 hown' hgrow hno' hfresh;clear pa0 pa1 pa2 pc0 pc1 pc2;have hA:=fun o=>(New.refl wr).alloc o;have hN5:=y11 HN.out HO.out.own hgrow
     have hO5:IRow wl.heap.size w5 v5 ((List.range (m+1)).map q):=by
      rw[ymd,HQQ.out];exact IRow.push (by simpa using hown') hno'
     have hU5:=(HU.out.new (hA _)).keep hgrow (fun g e e2=>HAP.out g e2 e);have hAP5:=y70.push HAP.out HU.out (fun g e=>(hfresh g e).imp id Nat.le_of_succ_le);have h1:=(B1.out.new (hA _)).grown hgrow (fun e=>y6t HO.out.own (show w.heap.size < wl.heap.size by omega) e.symm);have h2:=(B2.out.new (hA _)).grown hgrow (fun e=>y6t HO.out.own (show w.heap.size+1 < wl.heap.size by omega) e.symm);have h3:=(B3.out.new (hA _)).grown hgrow (fun e=>y6t HO.out.own (show w3.heap.size < wl.heap.size by omega) e.symm);clear hown' hgrow hno' hfresh hA HN HO HU HAP B1 B2 B3 hc;have HN:=hid hN5;have HO:=hid hO5;have HU:=hid hU5;have HAP:=hid hAP5;have B1:=hid h1;have B2:=hid h2;have B3:=hid h3;clear hN5 hO5 hU5 hAP5 h1 h2 h3;go_wp2_with (at_builtin;refine y30 rfl _ _ 24 rfl wl.heap.size 3 i0 (.int .i64 0) 1 8 Tryz.underlying24 hi hz0 hz1 hz2 rfl (by decide) _ _ _ rfl (HU.out.own.alloc _) ⟨w5.heap.size,0,none⟩ 1 1 [.int .i64 (m:Int)] rfl rfl (y3i _ _ _) (y4m _) (by have:=HL2.out;have:=HK9.out;unfold maxLen;omega) (by have:=HL2.out;have:=HK9.out;omega) (by have:=HN.out.size;rw[<-size_alloc];omega) ydx (ygd _) (HU.out.no.new ((New.refl _).alloc _)) ?_);intro v6 w6 hown' hgrow hno' hfresh;have hA:=fun o=>(New.refl w5).alloc o;have hN6:=y11 HN.out HU.out.own hgrow
     have hU6:IRow wl.heap.size w6 v6 (idxs (m+1)):=by
      rw[ydw];exact IRow.push (by simpa using hown') hno'
     have hO6:=(HO.out.new (hA _)).keep hgrow (fun g e e2=>HAP.out g e e2);have hAP6:=(y70.push HAP.out.symm HO.out (fun g e=>(hfresh g e).imp id Nat.le_of_succ_le)).symm;have h1:=(B1.out.new (hA _)).grown hgrow (fun e=>y6t HU.out.own (show w.heap.size < wl.heap.size by omega) e.symm);have h2:=(B2.out.new (hA _)).grown hgrow (fun e=>y6t HU.out.own (show w.heap.size+1 < wl.heap.size by omega) e.symm);have h3:=(B3.out.new (hA _)).grown hgrow (fun e=>y6t HU.out.own (show w3.heap.size < wl.heap.size by omega) e.symm);clear hown' hgrow hno' hfresh hA HN HO HU HAP B1 B2 B3;have hw6:=hO6.own;rw[show ((List.range (m+1)).map q).length=m+1 by simp] at hw6;obtain ⟨go,co,rfl,hgo,hco1,hco2,hrow⟩:=RowZ.of_ownZ hw6 (by omega) (f:=q) (fun i hi=>ints_at q hi);have hc:=hrow.cell (i:=m) (by omega);rw[HQQ.out] at hc;clear hw6 hrow;have HN:=hid hN6;have HO:=hid hO6;have HU:=hid hU6;have HAP:=hid hAP6;have B1:=hid h1;have B2:=hid h2;have B3:=hid h3;clear hN6 hO6 hU6 hAP6 h1 h2 h3;go_wp2_with fail;go_roundw
     case rel=>exact ⟨m+1,R - Q,by omega,by go_num,by go_num,HR1,HO,HU,HAP,HN,B1,B2,B3⟩
     case measure=>simp[intOf];omega
    ·obtain rfl:m=k:=by omega
     have hw6:=HO.out.own;rw[show ((List.range m).map q).length=m by simp] at hw6;obtain ⟨go,co,rfl,hgo,hco1,hco2,hrow⟩:=RowZ.of_ownZ hw6 hn0 (f:=q) (fun i hi=>ints_at q hi);have hw7:=HU.out.own;rw[y8k] at hw7;obtain ⟨g,cg,rfl,hgg,hcg1,hcg2,hrowg⟩:=RowZ.of_ownZ hw7 hn0 (f:=fun i=>(i:Int)) (fun i hi=>ints_at _ hi);have hgne:go≠g:=fun e=>HAP.out go rfl (by rw[e];rfl);have hcap:yce wr w.heap.size (w.heap.size+1) w3.heap.size tt S a m cap wt:=⟨B1.out.cell 0,B2.out.cell 0,B3.out.cell 0,HR.out.new (HNl.out.trans HN.out)⟩
     have hab:∀ b o,a=some ⟨b,o,none⟩->b < w.heap.size:=fun b o e=>by
      obtain ⟨b0,o0,e0,hc0⟩:=HR.out.int 0 (by simpa using hn0);rw[e0] at e;injection e with e;injection e with e1 e2;subst e1;rcases Nat.lt_or_ge b0 w.heap.size with h | h
      ·exact h
      ·simp[World.cell?,Array.getElem?_eq_none h] at hc0
     have hCmp:yn8 (fun j=>tt*wt j % S) m g w.heap.size (w.heap.size+1) w3.heap.size (fun W=>ShQ W w.heap.size (w.heap.size+1) w3.heap.size go tt S a m cap wt q):=
      ⟨fun W W' h hn=>⟨h.cap.new hn,h.row.new hn⟩,fun W i z h=>⟨h.cap.set (by omega) (by omega) (by omega) (fun b o e=>by have:=hab b o e;omega) i _,h.row.other (p:=⟨g,i,none⟩) hgne _⟩,
       fun i j W hi hj h=>yft i j m cap _ _ _ tt S a wt W h.cap hi hj ⟨ht0,ht1⟩ HWT.out ⟨hS,hS1⟩⟩
     have hso:=ye8 m cg g _ _ _ _ _ hCmp hn0 hn wl wr HN.out hgg hrowg ⟨hcap,hrow⟩;unfold y54 at hso
     have hRL:R=L:=by rw[HLQ.out];exact HR9.out
     obtain ⟨ρ,hρ⟩:∃ ρ:Nat,R=(ρ:Int):=⟨R.toNat,by omega⟩
     have hρm:ρ < m:=by omega
     have hρc:(ρ:Int)<=cg:=by omega
     have hρL:(ρ:Int)=L:=by omega
     have hnw:=HNl.out
     have hqb:∀ i,i < m->0<=q i/\q i<=999999998000000001:=fun i hi'=>by
      have h1:=ybl ht0 ht1 (HWT.out i hi').1 (HWT.out i hi').2;have h2:=HQI.out i;have h3:=Int.ediv_le_self (a:=tt*wt i) S h1.1;exact ⟨hq0 i hi',by omega⟩
     rw[hρ]at *;clear hCmp hcap hab hrow hrowg hw6 hw7 HO HU HAP HR9 B1 B2 B3 HN HR hRL HNl HRB HQI HLQ HCW HWI hsq hq0;have HSO:=hid hso;have HGO:=hid hgo;have HGG:=hid hgg;have HC1:=hid hco1;have HGN:=hid hgne;have HNW:=hid hnw;have HRL:=hid hρL;have HQB:=hid hqb;clear hso hgo hgg hco1 hgne hnw hρL hqb;go_wp2_with fail;refine HSO.out.mono ?_;rintro e w7 ⟨rfl,hn7,hQ,f,hf,hrf⟩;have hr0:RowZ w7 go 3 m fun i=>q i+((cnt (fun p=>decide (f p=i)) 0:Nat):Int):=hQ.row.congr (fun i _=>by show q i=q i+((0:Nat):Int);omega);clear hQ HSO;have HN:=hid hn7;have HF:=hid hf;have HRF:=hid hrf;have HR0:=hid hr0;clear hn7 hf hrf hr0;go_wp2_with fail;have HN70:=HN;have HRF0:=HRF;clear HN HRF;go_loopw [70] (fun i wr=>∃ j:Nat,j<=ρ/\i=.int .i64 (j:Int)/\Hid (RowZ wr go 3 m fun i=>q i+((cnt (fun p=>decide (f p=i)) j:Nat):Int))/\Hid (RowZ wr g 3 m fun i=>((f i:Nat):Int))/\Hid (New wl wr)) (fun i _=>ρ - (intOf i).toNat)
     case atStart=>exact ⟨0,Nat.zero_le _,rfl,HR0,HRF0,HN70⟩
     case round=>
      clear HR0 HRF0 HN70;obtain ⟨j,hj,rfl,HA,HB,HN⟩:=hrel;by_cases hjl:j < ρ
      ·have hfm:=HF.out.lt (p:=j) (by omega);have c1:=HB.out.cell (i:=j) (by omega);have c2:=HA.out.cell hfm;have z2:=HA.out.frozen (f j);have hnx:=yhp q f m j;have hqb:=HQB.out (f j) hfm;have hcn:=yjz (fun p=>decide (f p=f j)) j;obtain ⟨v,hv⟩:∃ v,f j=v:=⟨_,rfl⟩;rw[hv] at c1 c2 z2 hfm hnx hqb hcn;obtain ⟨y,hy⟩:∃ y,q v+((cnt (fun p=>decide (f p=v)) j:Nat):Int)=y:=⟨_,rfl⟩;rw[hy] at c2
       have hy1:0<=y/\y<=999999998000001000:=by omega
       rw[hy]at hnx
       have hji:(j:Int) < ρ:=by omega
       have hvi:(v:Int) < m:=by omega
       clear hqb hcn hy;have HNX:=hid hnx;clear hnx;go_wp2_with fail;have hA:=(HA.out.set v (y+1)).congr HNX.out;have hB:=HB.out.other (p:=⟨go,v,none⟩) (Ne.symm HGN.out) (.int .i64 (y+1));have hN:=HN.out.setCell (p:=⟨go,v,none⟩) HGO.out (.int .i64 (y+1));clear HA HB HN c1 c2 z2;have HA:=hid hA;have HB:=hid hB;have HN:=hid hN;clear hA hB hN;go_roundw
       case rel=>exact ⟨j+1,by omega,by go_num,HA,HB,HN⟩
       case measure=>simp[intOf];omega
      ·obtain rfl:j=ρ:=by omega
       go_wp2_with fail;go_ret2;refine ⟨_,co,rfl,HNW.out.trans HN.out,HC1.out,?_⟩;refine (HA.out.congr fun i hi'=>?_).rdl;have h1:=HF.out.first (i:=i) (t:=j) hi' (by omega);rw[HSH.out i hi',h1,<-HRL.out];by_cases hlt2:rank (fun j=>tt*wt j % S) m i < j
       ·rw[if_pos hlt2,if_pos (by omega)];rfl
       ·rw[if_neg hlt2,if_neg (by omega)];rfl
end Go.Proofs.YtnjonlnemagomaaGreatDoor
