/- Part B33. -/
import Derived.Test.YtnjonlnemagomaaGreatDoorB23
import Derived.Test.YtnjonlnemagomaaGreatDoorB26
namespace Go.Proofs.YtnjonlnemagomaaGreatDoor
open Go.RowKit Big Tryz
open Go.Lib (hid)
set_option maxRecDepth 100000
set_option maxHeartbeats 8000000
set_option linter.all false
theorem checkWeights_calls (a:Option Addr)(cap:Nat)(l:List Int)(w:World)(hl:l.length≤9223372036854775807)(hr:RdL w a (ints l)):Calls prog 106 #[.slice a l.length cap] w (RetNew w (weightsErr l)):=by
 have HN:=hid (New.refl w);unfold weightsErr;by_cases h0:l.length=0
 ·rw[if_pos h0];have ad:((l.length:Int)==0)=true:=beq_iff_eq.2 (by omega);have ae:decide ((l.length:Int) > 256)=false:=decide_eq_false (by omega)
  have ah:(l.length:Int)=0:=by omega
  clear hr h0;go_in;go_wp2_with fail;refine (nwhen_calls true 12 _).mono ?_;rintro e w' ⟨rfl,rfl⟩;go_wp2_with fail;refine (nwhen_calls false 5 _).mono ?_;rintro e w' ⟨rfl,rfl⟩;go_wp2_with fail;obtain ⟨BG,hn⟩:=lay1 w 32 #[.int .i64 12,.int .i64 0];replace HN:=tW HN hn;clear hn;refine zM (nfirst2_new 12 0 _ _ 32 _ BG) fun w1 hn=>?_;clear BG;replace HN:=tW HN hn;clear hn;go_wp2_with fail;go_ret;exact ⟨rfl,HN⟩
 ·rw[if_neg h0];by_cases h1:256 < l.length
  ·rw[if_pos h1];have ad:((l.length:Int)==0)=false:=beq_false_of_ne (by omega);have ae:decide ((l.length:Int) > 256)=true:=decide_eq_true (by omega)
   have ai:(256:Int) < (l.length:Int):=by omega
   clear hr h0 h1;go_in;go_wp2_with fail;refine (nwhen_calls false 12 _).mono ?_;rintro e w' ⟨rfl,rfl⟩;go_wp2_with fail;refine (nwhen_calls true 5 _).mono ?_;rintro e w' ⟨rfl,rfl⟩;go_wp2_with fail;obtain ⟨BG,hn⟩:=lay1 w 32 #[.int .i64 0,.int .i64 5];replace HN:=tW HN hn;clear hn;refine zM (nfirst2_new 0 5 _ _ 32 _ BG) fun w1 hn=>?_;clear BG;replace HN:=tW HN hn;clear hn;go_wp2_with fail;go_ret;exact ⟨rfl,HN⟩
  ·rw[if_neg h1];have ad:((l.length:Int)==0)=false:=beq_false_of_ne (by omega);have ae:decide ((l.length:Int) > 256)=false:=decide_eq_false (by omega)
   have aj:¬(256:Int) < (l.length:Int):=by omega
   have aa:=fun W (h:RdL W a (ints l))=>eachw_calls a cap l W (by omega) h;by_cases hok:okW l=true
   ·rw[if_pos hok];rw[if_pos hok] at aa
    have ab:∀ W,RdL W a (ints l)→Calls prog 174 #[.slice a l.length cap] W fun e w'=>e=.returned (.int .i64 (maxL 0 l))∧w'=W:=fun W h=>by
     cases l with
     | nil=>exact absurd rfl h0
     | cons x m=>
      have hx:maxL 0 (x::m)=maxL x m:=by
       have:0≤x:=by
        unfold okW at hok;rw[List.all_cons,Bool.and_eq_true] at hok;have:=hok.1;unfold outside at this;simp at this;omega
       show maxL (if x > 0 then x else 0) m=maxL x m;congr 1;split <;> omega
      rw[hx];exact max_calls a cap x m W (by simp at h1;omega) h
    obtain ⟨M,hM⟩:∃ M,maxL 0 l=M:=⟨_,rfl⟩;simp only[hM] at ab;rw[hM];obtain ⟨R,hR⟩:∃ R:Int,(if M=0 then 6 else 0)=R:=⟨_,rfl⟩;rw[hR];clear hM hok h0 h1;refine zh4 ?_ hr aa ab hR;clear hr aa ab hR;intro HR af ag ac;go_in;go_wp2_with fail;refine (nwhen_calls false 12 _).mono ?_;rintro e w' ⟨rfl,rfl⟩;go_wp2_with fail;refine (nwhen_calls false 5 _).mono ?_;rintro e w' ⟨rfl,rfl⟩;go_wp2_with fail;obtain ⟨BG,hn⟩:=lay1 w 32 #[.int .i64 0,.int .i64 0];replace HN:=tW HN hn;clear hn;refine zM (nfirst2_new 0 0 _ _ 32 _ BG) fun w1 hn=>?_;clear BG;replace HN:=tW HN hn;clear hn;go_wp2_with fail;refine (af _ (HR.new HN)).mono ?_;rintro e w2 ⟨rfl,hw⟩;rw[hw];clear hw;go_wp2_with fail;refine (ag _ (HR.new HN)).mono ?_;rintro e w3 ⟨rfl,hw⟩;rw[hw];clear hw;by_cases hm:M=0
    ·subst hm;obtain rfl:6=R:=ac.out;go_wp2_with fail;refine (nwhen_calls true 6 _).mono ?_;rintro e w' ⟨rfl,rfl⟩;go_wp2_with fail;go_ret;exact ⟨rfl,HN⟩
    ·have ak:(M==0)=false:=beq_false_of_ne hm
     obtain rfl:0=R:=by rw[←ac.out,if_neg hm]
     clear hm;go_wp2_with fail;refine (nwhen_calls false 6 _).mono ?_;rintro e w' ⟨rfl,rfl⟩;go_wp2_with fail;go_ret;exact ⟨rfl,HN⟩
   ·rw[if_neg hok];rw[if_neg hok] at aa;clear hok h0 h1;replace hr:=hid hr;replace aa:=hid aa;go_in;go_wp2_with fail;refine (nwhen_calls false 12 _).mono ?_;rintro e w' ⟨rfl,rfl⟩;go_wp2_with fail;refine (nwhen_calls false 5 _).mono ?_;rintro e w' ⟨rfl,rfl⟩;go_wp2_with fail;obtain ⟨BG,hn⟩:=lay1 w 32 #[.int .i64 0,.int .i64 0];replace HN:=tW HN hn;clear hn;refine zM (nfirst2_new 0 0 _ _ 32 _ BG) fun w1 hn=>?_;clear BG;replace HN:=tW HN hn;clear hn;go_wp2_with fail;refine (aa _ (hr.new HN)).mono ?_;rintro e w2 ⟨rfl,hw⟩;rw[hw];clear hw;go_wp2_with fail;go_ret;exact ⟨rfl,HN⟩
structure IRow (base:Nat)(w:World)(v:Value)(l:List Int):Prop where
 own:w.ownsRow base 3 1 v l.length (ints l)
 no:RowNo w v
def ApartR (v v':Value):Prop:=∀ g,v.ownBlock=some g→v'.ownBlock≠some g
theorem ApartR.symm {v v':Value}(h:ApartR v v'):ApartR v' v:=fun g h1 h2=>h g h2 h1
theorem IRow.nil (base:Nat)(w:World):IRow base w (.slice none 0 0) []:=⟨World.ownsRow_nil _ _ _ _,fun g hg=>by simp[Value.ownBlock] at hg⟩
theorem IRow.new {base:Nat}{w w':World}{v:Value}{l:List Int}(h:IRow base w v l)(hn:New w w'):IRow base w' v l:=⟨own_newS h.own hn,h.no.new hn⟩
theorem IRow.lt {base:Nat}{w:World}{v:Value}{l:List Int}(h:IRow base w v l){g:Nat}(hg:v.ownBlock=some g):base≤g∧g < w.heap.size:=h.own.lt g hg
theorem IRow.keep {base:Nat}{w w':World}{v:Value}{l:List Int}{r:Option Nat}(h:IRow base w v l)(hg:w.grownBy w' r)(hne:∀ g,v.ownBlock=some g→r≠some g):IRow base w' v l:=by
 refine ⟨⟨h.own.1,?_⟩,fun g e=>?_⟩
 ·rcases h.own.2 with h2 | ⟨g,aa,ab,h1,h2,h3,h4⟩
  ·exact .inl h2
  ·refine .inr ⟨g,aa,ab,h1,h2,?_,h4⟩
   have e:v.ownBlock=some g:=by rw[h1];rfl
   rw[hg.block g (h.lt e).2 (Ne.symm (hne g e)),h3]
 ·have h2:=h.no g e;refine ⟨Nat.lt_of_lt_of_le h2.1 hg.size,fun o x=>?_⟩;have:w'.cell? ⟨g,o,none⟩=w.cell? ⟨g,o,none⟩:=World.cell?_of_block (hg.block g h2.1 (Ne.symm (hne g e)));rw[this];exact h2.2 o x
theorem notU_i64 (z:Int):∀ u∈[Value.int .i64 z],NotU u:=by
 intro u hu;simp at hu;rw[hu];exact .i64 _
theorem notU_zero:∀ u∈(Value.int .i64 0).cells,NotU u:=by
 intro u hu;simp[Value.cells] at hu;rw[hu];exact .i64 _
theorem IRow.push {base:Nat}{w':World}{v':Value}{l:List Int}{z:Int}(ho:w'.ownsRow base 3 1 v' (l.length+1) (ints l ++ [.int .i64 z]))(hno:RowNo w' v'):IRow base w' v' (l ++ [z]):=
 ⟨by
  have:ints (l ++ [z])=ints l ++ [.int .i64 z]:=by simp[ints]
  rw[this,List.length_append]
  exact ho,hno⟩
theorem ApartR.push {base:Nat}{w:World}{v v' u:Value}{l:List Int}(h:ApartR v u)(hu:IRow base w u l)(hfr:∀ g,v'.ownBlock=some g→v.ownBlock=some g∨w.heap.size≤g):ApartR v' u:=fun g e1 e2=>by
 rcases hfr g e1 with h1 | h1
 ·exact h g h1 e2
 ·have:=(hu.lt e2).2;omega
structure ShQ (W:World)(p1 p2 p3 go:Nat)(tt S:Int)(a:Option Addr)(n cap:Nat)(wt q:Nat→Int):Prop where
 cap:CapIs W p1 p2 p3 tt S a n cap wt
 row:RowZ W go 3 n q
theorem share_next (q:Nat→Int)(f:Nat→Nat)(n k:Nat):∀ i,i < n→updZ (fun i=>q i+((cnt (fun p=>decide (f p=i)) k:Nat):Int)) (f k) (q (f k)+((cnt (fun p=>decide (f p=f k)) k:Nat):Int)+1) i=q i+((cnt (fun p=>decide (f p=i)) (k+1):Nat):Int):=by
 intro i _;unfold updZ;by_cases h:i=f k
 ·subst h;rw[if_pos rfl,cnt_yes (by simp)];omega
 ·rw[if_neg h,cnt_no (by simpa using fun e=>h e.symm)]
theorem nshares_calls (tn n cap:Nat)(wt:Nat→Int)(a:Option Addr)(w:World)(hT:tn≤999999999)(hn0:0 < n)(hn:n≤19)(hw:∀ i,i < n→0≤wt i∧wt i≤999999999)(hS:0 < sumTo wt n)(hE:weightsErr ((List.range n).map wt)=0)(hr:RdL w a (ints ((List.range n).map wt))):
  Calls prog 22 #[.int .i64 (tn:Int),.slice a n cap] w (ListPost w n (share tn wt n) 0):=by
 obtain ⟨i0,hi,c7,c8,c9⟩:=info_parts info_int;have az:=fun W=>nwithin_calls (tn:Int) 0 999999999 W;rw[show outside (tn:Int) 0 999999999=false by unfold outside;simp;omega] at az;simp only[Bool.false_eq_true,if_false] at az;have a6:=fun W (h:RdL W a (ints ((List.range n).map wt)))=>checkWeights_calls a cap ((List.range n).map wt) W (by simp;omega) h;rw[hE] at a6;rw[show ((List.range n).map wt).length=n by simp] at a6;obtain ⟨tt,c3⟩:∃ t:Int,(tn:Int)=t:=⟨_,rfl⟩
 have ba:0≤tt:=by omega
 have br:tt≤999999999:=by omega
 rw[c3]at az⊢
 have d8:(n:Int)≤19:=by omega
 clear c3 hE;refine zh3 ?_ az a6 hr;clear az a6 hr;intro b8 bx HR;go_in;go_upto_region 1 with (fail);obtain ⟨B1,B2,HN⟩:=lay2 w 3 #[.int .i64 tt] 24 #[.slice a n cap];obtain ⟨w0,c4⟩:∃ u,(w.alloc (.cells #[.int .i64 tt] 3)).alloc (.cells #[.slice a n cap] 24)=u:=⟨_,rfl⟩;rw[c4] at B1 B2 HN⊢;clear c4;obtain ⟨am,an,ao⟩:=B1.out.one;obtain ⟨af,ag,ah⟩:=B2.out.one;clear am an ao;clear af ag ah;refine zR 6 7 (fun W=>W.cell? ⟨w.heap.size,0,none⟩=some (.int .i64 tt)∧W.cell? ⟨w.heap.size+1,0,none⟩=some (.slice a n cap)) ?_;refine zT 0 ⟨cW1 B1,cW1 B2⟩ ?_;refine zT 2 ⟨cW1 B1,cW1 B2⟩ ?_;refine tk1 1 fun K hK=>?_;go_simp;refine (b8 _).mono ?_;rintro e w1 ⟨rfl,hw⟩;have hn:=((New.refl w0).drew).trans (.of_eq hw);clear hw;obtain ⟨HN,B1,B2⟩:=zn3 hn HN B1.new B2.new;clear hn;refine zK hK ⟨cW1 B1,cW1 B2⟩ ?_;clear hK K;refine tk1 3 fun K hK=>?_;go_simp;refine zM (bx _ (HR.new HN)) fun w2 hn=>?_;obtain ⟨HN,B1,B2⟩:=zn3 hn HN B1.new B2.new;clear hn;refine zK hK ⟨cW1 B1,cW1 B2⟩ ?_;clear hK K;refine tk1 4 fun K hK=>?_;go_simp;obtain ⟨BG,hn⟩:=lay1 w2 32 #[.int .i64 0,.int .i64 0];obtain ⟨HN,B1,B2⟩:=zn3 hn HN B1.new B2.new;clear hn;refine zK hK ⟨cW1 B1,cW1 B2⟩ ?_;clear hK K;refine tk1 5 fun K hK=>?_;go_simp;refine zM (nfirst2_new 0 0 _ _ 32 _ BG) fun w3 hn=>?_;clear BG;obtain ⟨HN,B1,B2⟩:=zn3 hn HN B1.new B2.new;clear hn;refine zK hK ⟨cW1 B1,cW1 B2⟩ ?_;clear hK K;refine tlW ?_;obtain ⟨am,an,ao⟩:=B1.out.one;obtain ⟨af,ag,ah⟩:=B2.out.one;clear am an ao af ag ah;have eh:=B2.out.lt;go_upto_region 5 with (fail);obtain ⟨B3,hn⟩:=lay1 w3 3 #[.int .i64 0];obtain ⟨HN,B1,B2⟩:=zn3 hn HN B1.new B2.new;clear hn;have ei:=B3.out.lt;obtain ⟨w4,c5⟩:∃ u,w3.alloc (.cells #[.int .i64 0] 3)=u:=⟨_,rfl⟩;rw[c5] at B1 B2 B3 HN⊢;clear c5;have dw:w3.heap.size < w4.heap.size:=B3.out.lt;obtain ⟨af,ag,ah⟩:=B2.out.one;go_wp2_with fail;clear af ag ah;have b3:=HN;have ap:=B1;have aq:=B2;have ar:=B3;clear HN B1 B2 B3
 have cq:w.heap.size≤w3.heap.size:=by omega
 go_loopw [28] (fun i wr=>∃ k:Nat,k≤n∧i=.int .i64 (k:Int)∧Hid (New w wr)∧Hid (Box wr w.heap.size 3 #[.int .i64 tt])∧Hid (Box wr (w.heap.size+1) 24 #[.slice a n cap])∧Hid (Box wr w3.heap.size 3 #[.int .i64 (sumTo wt k)])) (fun i _=>n - (intOf i).toNat)
 case atStart=>exact ⟨0,Nat.zero_le _,rfl,b3,ap,aq,ar⟩
 case round=>
  clear b3 ap aq ar;obtain ⟨k,hk,rfl,HN,B1,B2,B3⟩:=hrel;by_cases hlt:k < n
  ·obtain ⟨b,dt,rfl,hc⟩:=HR.out.int k (by simpa using hlt)
   have ew:((List.range n).map wt)[k]'(by simpa using hlt)=wt k:=by simp
   rw[ew]at hc;have hc:=HN.out.cell hc;have hx:=hw k hlt;have dq:=sumTo_nonneg (n:=k) (g:=wt) (fun i ac=>(hw i (by omega)).1);have cy:=sumTo_bd (n:=k) (g:=wt) (fun i ac=>(hw i (by omega)).2)
   have d6:(k:Int) < n:=by omega
   obtain ⟨x,a0⟩:∃ x,wt k=x:=⟨_,rfl⟩;obtain ⟨s,bq⟩:∃ x,sumTo wt k=x:=⟨_,rfl⟩
   have aj:sumTo wt (k+1)=s+x:=by rw[←bq,←a0];rfl
   rw[a0]at hc hx;rw[bq] at dq cy B3
   have d9:s≤18999999981:=by omega
   clear ew a0 bq cy;have df:=hid aj;clear aj;obtain ⟨af,ag,ah⟩:=B2.out.one;obtain ⟨bu,bv,bw⟩:=B3.out.one;go_wp2_with fail;clear af ag ah bu bv bw;have cr:=HN.out.setCell (p:=⟨w3.heap.size,0,none⟩) cq (.int .i64 (s+x));have h1:=B1.out.other (p:=⟨w3.heap.size,0,none⟩) (by show w3.heap.size≠w.heap.size;omega) (.int .i64 (s+x));have h2:=B2.out.other (p:=⟨w3.heap.size,0,none⟩) (by show w3.heap.size≠w.heap.size+1;omega) (.int .i64 (s+x))
   have h3:Box (wr.setCell ⟨w3.heap.size,0,none⟩ (.int .i64 (s+x))) w3.heap.size 3 #[.int .i64 (sumTo wt (k+1))]:=by
    rw[df.out];exact B3.set 0 _
   clear HN B1 B2 B3;refine zh4 ?_ cr h1 h2 h3;clear cr h1 h2 h3;intro HN B1 B2 B3;go_roundw
   case rel=>exact ⟨k+1,by omega,by go_num,HN,B1,B2,B3⟩
   case measure=>simp[intOf];omega
  ·obtain rfl:k=n:=by omega
   obtain ⟨wl,c6⟩:∃ x,x=wr:=⟨_,rfl⟩;rw[←c6] at HN B1 B2 B3⊢;clear c6 hlt hk;have dx:w3.heap.size < wl.heap.size:=B3.out.lt;have lb:=left_bounds (T:=tt) hn0 hS;have cf:=sumTo_bd (n:=k) (g:=wt) (fun i ac=>(hw i (by omega)).2);obtain ⟨S,a5⟩:∃ S,sumTo wt k=S:=⟨_,rfl⟩;obtain ⟨q,hq⟩:∃ q:Nat→Int,(fun i=>tt*wt i / S)=q:=⟨_,rfl⟩;have a9:∀ i,tt*wt i / S=q i:=fun i=>congrFun hq i;obtain ⟨L,hL⟩:∃ L,leftOver tt wt k=L:=⟨_,rfl⟩
   have b9:L=tt - sumTo q k:=by rw[←hL];unfold leftOver;rw[a5,hq]
   rw[hL]at lb;rw[a5] at lb hS cf B3
   have dm:S≤1000000000000:=by omega
   have cz:∀ i,i < k→share tt wt k i=q i+(if (rank (fun j=>tt*wt j % S) k i:Int) < L then 1 else 0):=fun i _=>by
    unfold share;rw[a5,hL,a9]
   have a8:∀ i,i < k→0≤q i:=fun i ac=>by
    rw[←a9];exact Int.ediv_nonneg (Int.mul_nonneg ba (hw i ac).1) (by omega)
   have cv:∀ i,i≤k→0≤tt - sumTo q i∧tt - sumTo q i≤999999999:=fun i ac=>by
    have h1:=sumTo_le a8 ac;have h2:=sumTo_nonneg (n:=i) (g:=q) (fun j hj=>a8 j (by omega));omega
   have c0:=fun i=>prod_bd ba br (w:=wt i);obtain ⟨ef,eg, -⟩:=lb;clear a5 hq hL cf;refine zh5 ?_ a9 b9 cz cv hw;clear a9 b9 cz cv hw;intro bi b2 dj bk a3;obtain ⟨am,an,ao⟩:=B1.out.one;obtain ⟨af,ag,ah⟩:=B2.out.one;go_wp2_with fail;clear am an ao af ag ah;have a2:=HN;have ap:=B1;have aq:=B2;have ar:=B3;clear HN B1 B2 B3;go_loopw [10,11,12,39] (fun r v u i wr=>∃ (m:Nat) (R:Int),m≤k∧i=.int .i64 (m:Int)∧r=.int .i64 R∧Hid (R=tt - sumTo q m)∧Hid (IRow wl.heap.size wr v ((List.range m).map q))∧Hid (IRow wl.heap.size wr u (idxs m))∧Hid (ApartR v u)∧Hid (New wl wr)∧Hid (Box wr w.heap.size 3 #[.int .i64 tt])∧Hid (Box wr (w.heap.size+1) 24 #[.slice a k cap])∧Hid (Box wr w3.heap.size 3 #[.int .i64 S])) (fun _ _ _ i _=>k - (intOf i).toNat)
   case atStart=>exact ⟨0,tt,Nat.zero_le _,rfl,rfl,hid (by show tt=tt - 0;omega),hid (IRow.nil _ _),hid (IRow.nil _ _),hid (fun g hg=>by simp[Value.ownBlock] at hg),hid (New.refl _),ap,aq,ar⟩
   case round=>
    clear ap aq ar;obtain ⟨m,R,hm,rfl,rfl,bj,HO,HU,ad,HN,B1,B2,B3⟩:=hrel;by_cases hlt:m < k
    ·obtain ⟨b,dt,rfl,hc⟩:=HR.out.int m (by simpa using hlt)
     have ew:((List.range k).map wt)[m]'(by simpa using hlt)=wt m:=by simp
     rw[ew]at hc;have hc:=HN.out.cell (a2.out.cell hc);have hx:=a3.out m hlt
     have d7:(m:Int) < k:=by omega
     have a7:=c0 m hx.1 hx.2;have ax:=bi.out m;obtain ⟨x,a0⟩:∃ x,wt m=x:=⟨_,rfl⟩;obtain ⟨Q,a4⟩:∃ x,q m=x:=⟨_,rfl⟩;rw[a0] at hc hx a7 ax;rw[a4] at ax;obtain ⟨P,hP⟩:∃ P,tt*x=P:=⟨_,rfl⟩;rw[hP] at a7 ax
     have ea:Int.tdiv P S=Q:=by rw[Int.tdiv_eq_ediv_of_nonneg a7.1];exact ax
     have dp:=bk.out m hm;have cx:=bk.out (m+1) hlt
     have dr:sumTo q (m+1)=sumTo q m+Q:=by rw[←a4];rfl
     have dk:=bj.out
     have d2:0≤R - Q∧R - Q≤999999999:=by omega
     have ce:R - Q=tt - sumTo q (m+1):=by omega
     have d3:0≤R∧R≤999999999:=by omega
     have d1: -1000000000≤Q∧Q≤1000000000:=by omega
     have d4:(S==0)=false:=beq_false_of_ne (by omega)
     have cn:((List.range m).map q).length=m:=by simp
     have cp:(idxs m).length=m:=idxs_len m
     have cm:m≤19:=by omega
     obtain ⟨dy,dz⟩:=a7;clear dp cx dr dk ew ax;refine zh5 ?_ ce a4 cn cp cm;clear ce a4 cn cp cm;intro dh b4 bz b1 a1;obtain ⟨am,an,ao⟩:=B1.out.one;obtain ⟨bu,bv,bw⟩:=B3.out.one;go_wp2_with (at_builtin;refine wpList_append_noDig rfl _ _ 24 rfl wl.heap.size 3 i0 (.int .i64 0) 1 8 underlying24 hi c7 c8 c9 rfl (by decide) _ _ _ rfl (HO.own.alloc _) ⟨wr.heap.size,0,none⟩ 1 1 [.int .i64 Q] rfl rfl (one_c1 _ _ _) (one_c2 _) (by have:=bz.out;have:=a1.out;unfold maxLen;omega) (by have:=bz.out;have:=a1.out;omega) (by have:=HN.out.size;rw[←size_alloc];omega) notU_zero (notU_i64 _) (HO.no.new ((New.refl _).alloc _)) ?_);intro v5 w5 ae aa ai ab;clear am an ao bu bv bw;have hA:=fun o=>(New.refl wr).alloc o;have ca:=grown_new HN.out HO.out.own aa
     have cd:IRow wl.heap.size w5 v5 ((List.range (m+1)).map q):=by
      rw[map_succ,b4.out];exact IRow.push (by simpa using ae) ai
     have ch:=(HU.out.new (hA _)).keep aa (fun g e e2=>ad.out g e2 e);have be:=ApartR.push ad.out HU.out (fun g e=>(ab g e).imp id Nat.le_of_succ_le);have h1:=(B1.out.new (hA _)).grown aa (fun e=>own_neS HO.out.own (show w.heap.size < wl.heap.size by omega) e.symm);have h2:=(B2.out.new (hA _)).grown aa (fun e=>own_neS HO.out.own (show w.heap.size+1 < wl.heap.size by omega) e.symm);have h3:=(B3.out.new (hA _)).grown aa (fun e=>own_neS HO.out.own (show w3.heap.size < wl.heap.size by omega) e.symm);clear ae aa ai ab hA HN HO HU ad B1 B2 B3 hc;refine zh7 ?_ ca cd ch be h1 h2 h3;clear ca cd ch be h1 h2 h3;intro HN HO HU ad B1 B2 B3;go_wp2_with (at_builtin;refine wpList_append_noDig rfl _ _ 24 rfl wl.heap.size 3 i0 (.int .i64 0) 1 8 underlying24 hi c7 c8 c9 rfl (by decide) _ _ _ rfl (HU.own.alloc _) ⟨w5.heap.size,0,none⟩ 1 1 [.int .i64 (m:Int)] rfl rfl (one_c1 _ _ _) (one_c2 _) (by have:=b1.out;have:=a1.out;unfold maxLen;omega) (by have:=b1.out;have:=a1.out;omega) (by have:=HN.out.size;rw[←size_alloc];omega) notU_zero (notU_i64 _) (HU.no.new ((New.refl _).alloc _)) ?_);intro v6 w6 ae aa ai ab;have hA:=fun o=>(New.refl w5).alloc o;have cb:=grown_new HN.out HU.out.own aa
     have ci:IRow wl.heap.size w6 v6 (idxs (m+1)):=by
      rw[idxs_succ];exact IRow.push (by simpa using ae) ai
     have bl:=(HO.out.new (hA _)).keep aa (fun g e e2=>ad.out g e e2);have bf:=(ApartR.push ad.out.symm HO.out (fun g e=>(ab g e).imp id Nat.le_of_succ_le)).symm;have h1:=(B1.out.new (hA _)).grown aa (fun e=>own_neS HU.out.own (show w.heap.size < wl.heap.size by omega) e.symm);have h2:=(B2.out.new (hA _)).grown aa (fun e=>own_neS HU.out.own (show w.heap.size+1 < wl.heap.size by omega) e.symm);have h3:=(B3.out.new (hA _)).grown aa (fun e=>own_neS HU.out.own (show w3.heap.size < wl.heap.size by omega) e.symm);clear ae aa ai ab hA HN HO HU ad B1 B2 B3;have al:=bl.own;rw[show ((List.range (m+1)).map q).length=m+1 by simp] at al;obtain ⟨go,co,rfl,bo,au,cl,ak⟩:=RowZ.of_ownZ al (by omega) (f:=q) (fun i hi=>ints_at q hi);have hc:=ak.cell (i:=m) (by omega);rw[b4.out] at hc;clear al ak;refine zh7 ?_ cb bl ci bf h1 h2 h3;clear cb bl ci bf h1 h2 h3;intro HN HO HU ad B1 B2 B3;go_wp2_with fail;go_roundw
     case rel=>exact ⟨m+1,R - Q,by omega,by go_num,by go_num,dh,HO,HU,ad,HN,B1,B2,B3⟩
     case measure=>simp[intOf];omega
    ·obtain rfl:m=k:=by omega
     have al:=HO.out.own;rw[show ((List.range m).map q).length=m by simp] at al;obtain ⟨go,co,rfl,bo,au,cl,ak⟩:=RowZ.of_ownZ al hn0 (f:=q) (fun i hi=>ints_at q hi);have bt:=HU.out.own;rw[idxs_len] at bt;obtain ⟨g,cg,rfl,bn,du,dv,ay⟩:=RowZ.of_ownZ bt hn0 (f:=fun i=>(i:Int)) (fun i hi=>ints_at _ hi);have av:go≠g:=fun e=>ad.out go rfl (by rw[e];rfl);have bh:CapIs wr w.heap.size (w.heap.size+1) w3.heap.size tt S a m cap wt:=⟨B1.out.cell 0,B2.out.cell 0,B3.out.cell 0,HR.out.new (a2.out.trans HN.out)⟩
     have cj:∀ b o,a=some ⟨b,o,none⟩→b < w.heap.size:=fun b o e=>by
      obtain ⟨b0,o0,e0,dn⟩:=HR.out.int 0 (by simpa using hn0);rw[e0] at e;injection e with e;injection e with e1 e2;subst e1;rcases Nat.lt_or_ge b0 w.heap.size with h | h
      ·exact h
      ·simp[World.cell?,Array.getElem?_eq_none h] at dn
     have bg:CmpOk (fun j=>tt*wt j % S) m g w.heap.size (w.heap.size+1) w3.heap.size (fun W=>ShQ W w.heap.size (w.heap.size+1) w3.heap.size go tt S a m cap wt q):=
      ⟨fun W W' h hn=>⟨h.cap.new hn,h.row.new hn⟩,fun W i z h=>⟨h.cap.set (by omega) (by omega) (by omega) (fun b o e=>by have:=cj b o e;omega) i _,h.row.other (p:=⟨g,i,none⟩) av _⟩,
       fun i j W hi hj h=>shcmp_calls i j m cap _ _ _ tt S a wt W h.cap hi hj ⟨ba,br⟩ a3.out ⟨hS,dm⟩⟩
     have bp:=stable_calls m cg g _ _ _ _ _ bg hn0 hn wl wr HN.out bn ay ⟨bh,ak⟩;unfold SortPost at bp
     have dl:R=L:=by rw[b2.out];exact bj.out
     obtain ⟨ρ,hρ⟩:∃ ρ:Nat,R=(ρ:Int):=⟨R.toNat,by omega⟩
     have ee:ρ < m:=by omega
     have ed:(ρ:Int)≤cg:=by omega
     have da:(ρ:Int)=L:=by omega
     have ct:=a2.out
     have aw:∀ i,i < m→0≤q i∧q i≤999999998000000001:=fun i ac=>by
      have h1:=prod_bd ba br (a3.out i ac).1 (a3.out i ac).2;have h2:=bi.out i;have h3:=Int.ediv_le_self (a:=tt*wt i) S h1.1;exact ⟨a8 i ac,by omega⟩
     rw[hρ]at *;clear bg bh cj ak ay al bt HO HU ad bj B1 B2 B3 HN HR dl a2 bk bi b2 bx b8 c0 a8;refine zh8 ?_ bp bo bn au av ct da aw;clear bp bo bn au av ct da aw;intro b7 dd d0 db dc de di dg;go_wp2_with fail;refine b7.mono ?_;rintro e w7 ⟨rfl,cs,hQ,f,hf,cw⟩;have cu:RowZ w7 go 3 m fun i=>q i+((cnt (fun p=>decide (f p=i)) 0:Nat):Int):=hQ.row.congr (fun i _=>by show q i=q i+((0:Nat):Int);omega);clear hQ b7;refine zh4 ?_ cs hf cw cu;clear cs hf cw cu;intro HN HF b6 b5;go_wp2_with fail;have bb:=HN;have bc:=b6;clear HN b6;go_loopw [70] (fun i wr=>∃ j:Nat,j≤ρ∧i=.int .i64 (j:Int)∧Hid (RowZ wr go 3 m fun i=>q i+((cnt (fun p=>decide (f p=i)) j:Nat):Int))∧Hid (RowZ wr g 3 m fun i=>((f i:Nat):Int))∧Hid (New wl wr)) (fun i _=>ρ - (intOf i).toNat)
     case atStart=>exact ⟨0,Nat.zero_le _,rfl,b5,bc,bb⟩
     case round=>
      clear b5 bc bb;obtain ⟨j,hj,rfl,HA,HB,HN⟩:=hrel;by_cases hjl:j < ρ
      ·have bm:=HF.out.lt (p:=j) (by omega);have c1:=HB.out.cell (i:=j) (by omega);have c2:=HA.out.cell bm;have z2:=HA.out.frozen (f j);have aj:=share_next q f m j;have aw:=dg.out (f j) bm;have ck:=cnt_le (fun p=>decide (f p=f j)) j;obtain ⟨v,hv⟩:∃ v,f j=v:=⟨_,rfl⟩;rw[hv] at c1 c2 z2 bm aj aw ck;obtain ⟨y,hy⟩:∃ y,q v+((cnt (fun p=>decide (f p=v)) j:Nat):Int)=y:=⟨_,rfl⟩;rw[hy] at c2
       have ec:0≤y∧y≤999999998000001000:=by omega
       rw[hy]at aj
       have d5:(j:Int) < ρ:=by omega
       have eb:(v:Int) < m:=by omega
       clear aw ck hy;replace aj:=hid aj;go_wp2_with fail;have hA:=(HA.out.set v (y+1)).congr aj.out;have hB:=HB.out.other (p:=⟨go,v,none⟩) (Ne.symm dc.out) (.int .i64 (y+1));have hN:=HN.out.setCell (p:=⟨go,v,none⟩) dd.out (.int .i64 (y+1));clear HA HB HN c1 c2 z2;refine zh3 ?_ hA hB hN;clear hA hB hN;intro HA HB HN;go_roundw
       case rel=>exact ⟨j+1,by omega,by go_num,HA,HB,HN⟩
       case measure=>simp[intOf];omega
      ·obtain rfl:j=ρ:=by omega
       go_wp2_with fail;go_ret2;refine ⟨_,co,rfl,de.trans HN,db,?_⟩;refine (HA.congr fun i ac=>?_).rdl;have h1:=HF.out.first (i:=i) (t:=j) ac (by omega);rw[dj.out i ac,h1,←di.out];by_cases hlt2:rank (fun j=>tt*wt j % S) m i < j
       ·rw[if_pos hlt2,if_pos (by omega)];rfl
       ·rw[if_neg hlt2,if_neg (by omega)];rfl
end Go.Proofs.YtnjonlnemagomaaGreatDoor
