/- Part CardRc06. -/
import Derived.Deep.DeepCutAuto
import Derived.Laws.AppendOwnNone
import Derived.Laws.FloatArith
import Derived.Test.YtbkcjmojgglbkaaGreatDoorCardRc05
namespace Go.Proofs.YtbkcjmojgglbkaaGreatDoor
open Go.RowKit Big Go.Lib
set_option maxRecDepth 100000
set_option maxHeartbeats 8000000
theorem rdl_nil (w:World)(a:Option Addr):RdL w a []:=fun i h=>by cases h
def OwnRet (w:World)(t:TypeId)(S n:Nat)(xs:List Value)(e:Ending)(w':World):Prop:=∃ v,e=.returned v∧New w w'∧w'.ownsRow w.heap.size t S v n xs
structure RecOk (b s z:Int)(g o:ByteArray)(av au:Option Addr)(kv ku n m:Nat)(vs:List ByteArray)(xs:List Nat)(w:World)(n0 E1 E2 E3:Int)(ys:List Nat)(L:List Int)(R:List (Nat × Nat)):Prop where
 sa:∀ W a c,New w W→RdL W a (strs vs)→Calls Tryz.prog 27 #[adcV b s z g o,.slice a n c] W (RowPost W 35 (flts ys) E1)
 co:∀ W a c,New w W→RdL W a (flts xs)→Calls Tryz.prog 29 #[adcV b s z g o,.slice a m c] W (RowPost W 3 (ints L) E2)
 cl:∀ W a c,New w W→RdL W a (flts xs)→Calls Tryz.prog 31 #[adcV b s z g o,.slice a m c] W (RowPostS W 95 2 R.length (pairs R) E2)
 ca:∀ W,Calls Tryz.prog 14 #[adcV b s z g o] W (RetNew W n0)
 bad:n0≠0→E1=n0∧E2=n0∧ys=[]∧L=[]∧R=[]
 cv:n0=0→∀ W,New w W→Calls Tryz.prog 32 #[.slice av n kv] W (RetNew W E1)
 rs:n0=0→E1=0→∀ W,New w W→Calls Tryz.prog 33 #[adcV b s z g o,.slice av n kv] W (OwnRet W 35 1 (flts ys).length (flts ys))
 e1:E1≠0→ys=[]
 cs:n0=0→∀ W,New w W→Calls Tryz.prog 34 #[.slice au m ku] W (RetNew W E3)
 rc:n0=0→E3=0→∀ W,New w W→Calls Tryz.prog 35 #[adcV b s z g o,.slice au m ku] W (RowPost W 3 (ints L) E2)
 rl:n0=0→E3=0→∀ W a c,RdL W a (ints L)→Calls Tryz.prog 36 #[adcV b s z g o,.slice a L.length c] W (OwnRet W 95 2 R.length (pairs R))
 e3:n0=0→E3≠0→E2=E3∧L=[]∧R=[]
 sy:∀ y∈ys,(FloatKind.f32.format.order y y != some Ordering.eq)=false
 ly:ys.length≤1000000
 lL:L.length≤1000000
 lR:R.length≤1000000
def lenB (n:Nat):Bool:=decide ((n:Int)≤64) || (decide (4096 < (n:Int)) && decide ((n:Int)≤4098))
theorem lenB_calls (n:Nat)(w:World):Calls Tryz.prog 26 #[.int .i64 (n:Int),.int .i64 64] w fun e w'=>e=.returned (.bool (lenB n))∧w'=w:=Length_calls n 64 w
theorem lenB_le {n:Nat}(h:lenB n=true):n≤4098:=by
 unfold lenB at h;rw[Bool.or_eq_true,Bool.and_eq_true,decide_eq_true_eq,decide_eq_true_eq,decide_eq_true_eq] at h;omega
theorem same_ints_self (a b:Option Addr)(cap cap':Nat)(xs:List Int)(w:World)(hl:xs.length≤1000000)(hr1:RdL w a (ints xs))(hr2:RdL w b (ints xs)):
  Calls Tryz.prog 38 #[.slice a xs.length cap,.slice b xs.length cap'] w fun e w'=>e=.returned (.bool true)∧New w w':=
 same_ints a b cap cap' xs xs w hl rfl hr1 hr2 fun k h _=>by simp
theorem same_floats_self (a b:Option Addr)(cap cap':Nat)(xs:List Nat)(w:World)(hl:xs.length≤1000000)(hr1:RdL w a (flts xs))(hr2:RdL w b (flts xs))(hs:∀ y∈xs,(FloatKind.f32.format.order y y != some Ordering.eq)=false):
  Calls Tryz.prog 37 #[.slice a xs.length cap,.slice b xs.length cap'] w fun e w'=>e=.returned (.bool true)∧New w w':=
 same_floats a b cap cap' xs xs w hl rfl hr1 hr2 fun _k h _=>hs _ (List.getElem_mem h)
theorem own_read {w:World}{base:Nat}{e:TypeId}{v:Value}{n:Nat}{xs:List Value}(h:w.ownsRow base e 1 v n xs)(_hn:xs.length=n){m:Nat}(hm:n=m):∃ a c,v=.slice a m c∧RdL w a xs:=by
 subst hm;obtain ⟨a,c,e,hr, -⟩:=own_rd h;exact ⟨a,c,e,hr⟩
theorem own_readS {w:World}{base:Nat}{e:TypeId}{v:Value}{n S:Nat}{xs:List Value}(h:w.ownsRow base e S v n xs):∃ a c,v=.slice a n c∧RdL w a xs:=by
 obtain ⟨a,c,e,hr, -⟩:=own_rdS h;exact ⟨a,c,e,hr⟩
theorem flts_len (l:List Nat):(flts l).length=l.length:=by simp[flts]
theorem ints_len (l:List Int):(ints l).length=l.length:=by simp[ints]
theorem strs_cell (l:List ByteArray):∀ u∈strs l,u.oneCell'=true:=by intro u hu;simp[strs] at hu;obtain ⟨x, -,rfl⟩:=hu;rfl
theorem flts_cell (l:List Nat):∀ u∈flts l,u.oneCell'=true:=by intro u hu;simp[flts] at hu;obtain ⟨x, -,rfl⟩:=hu;rfl
theorem records_walk (haw:AwakeOk) (b s z:Int) (g o:ByteArray) (av au:Option Addr) (cv cu n m:Nat) (vs:List ByteArray) (xs:List Nat) (w:World) (he:Env w) (hn0:vs.length=n) (hm0:xs.length=m) (t1:Bool)
  (hrv:RdL w av (strs vs)) (hru:RdL w au (flts xs)) (hzv:av=none→cv=0) (hzu:au=none→cu=0) (hnl:(n:Int)≤9223372036854775807) (hml:(m:Int)≤9223372036854775807) (hvs:∀ (k:Nat) (h:k < vs.length),(vs[k].size:Int)≤9223372036854775807)
  (hsh:∀ W,Calls Tryz.prog 9 #[adcV b s z g o] W fun e w'=>e=.returned (.bool t1)∧New W w')
  (hok:t1=true→lenB n=true→lenB m=true→(∀ (k:Nat) (h:k < vs.length),k < 64→vs[k].size≤60)→∃ (n0 E1 E2 E3:Int) (ys:List Nat) (L:List Int) (R:List (Nat × Nat)),RecOk b s z g o av au cv cu n m vs xs w n0 E1 E2 E3 ys L R):
  Calls Tryz.prog 5 #[adcV b s z g o,.slice av n cv,.slice au m cu] w fun e w'=>e=.returned (.bool true)∧New w w':=by
 have hl1:=fun W=>lenB_calls n W;have hl2:=fun W=>lenB_calls m W;obtain ⟨t2,ht2⟩:∃ t,lenB n=t:=⟨_,rfl⟩;obtain ⟨t3,ht3⟩:∃ t,lenB m=t:=⟨_,rfl⟩;have hln:=fun h=>lenB_le (n:=n) (ht2.trans h);have hlm:=fun h=>lenB_le (n:=m) (ht3.trans h);rw[ht2,ht3] at hok;simp only[ht2] at hl1;simp only[ht3] at hl2;clear ht2 ht3;have hrats:=fun W (hW:New w W) (h:n≤4098)=>rats_calls av cv (strs vs) W (by simp[strs];omega) (hrv.new hW) hzv (strs_cell vs);have hflo:=fun W (hW:New w W) (h:m≤4098)=>floats_calls au cu (flts xs) W (by simp[flts];omega) (hru.new hW) hzu (flts_cell xs)
 have ev:(strs vs).length=n:=by simp[strs,hn0]
 have eu:(flts xs).length=m:=by simp[flts,hm0]
 simp only[ev]at hrats;simp only[eu] at hflo;clear ev eu;unfold adcV at *;have HAW:=hid haw;have HE:=hid he;have HSH:=hid hsh;have HL1:=hid hl1;have HL2:=hid hl2;have HLN:=hid hln;have HLM:=hid hlm;have HOK:=hid hok;have HRATS:=hid hrats;have HFLO:=hid hflo;have HRV:=hid hrv;have HRU:=hid hru;have HNN:=hid hn0;have HMM:=hid hm0;have HZV:=hid hzv;have HZU:=hid hzu;have HVS:=hid hvs;clear haw he hsh hl1 hl2 hln hlm hok hrats hflo hrv hru hn0 hm0 hzv hzu hvs;go_enter Tryz.func5,Tryz.ntmps5;go_upto_region 1 with (fail);obtain ⟨BA,HN⟩:=lay1 w 24 #[.int .i64 b,.int .i64 s,.int .i64 z,.string g,.string o];obtain ⟨w8,hw8⟩:∃ x,w.alloc (.cells #[.int .i64 b,.int .i64 s,.int .i64 z,.string g,.string o] 24)=x:=⟨_,rfl⟩;rw[hw8] at BA HN⊢;clear hw8
 go_cut [35] (fun u wx=>u=.bool (!(t1 && t2 && t3))∧Hid (New w8 wx))
 case first=>
  obtain ⟨⟨pa0,pa1,pa2,pa3,pa4⟩,pa5⟩:=BA.out.five;go_wp2_with fail;refine (HSH.out _).mono ?_;rintro e w1 ⟨rfl,hn⟩;have HX:=hid hn;clear hn
  cases t1 with
  | false=>
   go_wp2_with fail
   go_meet
   exact ⟨rfl,HX⟩
  | true=>
   go_wp2_with fail;refine (HL1.out _).mono ?_;rintro e w2 ⟨rfl,hw⟩;rw[hw];clear hw
   cases t2 with
   | false=>
    go_wp2_with fail
    go_meet
    exact ⟨rfl,HX⟩
   | true=>
    go_wp2_with fail;refine (HL2.out _).mono ?_;rintro e w3 ⟨rfl,hw⟩;rw[hw];clear hw;go_wp2_with fail
    go_meet
    exact ⟨rfl,HX⟩
 case rest=>
  obtain ⟨rfl,HX⟩:=hcut;have hb:=BA.out.new HX.out;have hn:=HN.out.trans HX.out;clear BA HN HX;have BA:=hid hb;have HN:=hid hn;clear hb hn;obtain ⟨t,ht⟩:∃ t,(t1 && t2 && t3)=t:=⟨_,rfl⟩;rw[ht]
  cases t with
  | false=>
   go_wp2_with fail;refine (HAW.out _ (HE.out.new HN.out)).mono ?_;rintro e w99 ⟨rfl,hn⟩;replace HN:=tW HN hn;clear hn;go_wp2_with fail;go_ret;exact ⟨rfl,HN.out⟩
  | true=>
   rw[Bool.and_eq_true,Bool.and_eq_true]at ht;obtain ⟨⟨rfl,rfl⟩,rfl⟩:=ht;have hok:=HOK.out rfl rfl rfl;have hnl2:=HLN.out rfl;have hml2:=HLM.out rfl
   have hnli:(n:Int)≤4098:=by omega
   have hmli:(m:Int)≤4098:=by omega
   clear HOK HLN HLM;have HOK:=hid hok;have HNL:=hid hnl2;have HML:=hid hml2;clear hok hnl2 hml2;go_wp2_with fail;obtain ⟨w7,hw7⟩:∃ x,x=wc:=⟨_,rfl⟩;rw[←hw7] at BA HN⊢;clear hw7;go_loopw [39] (fun i wr=>∃ k:Nat,k≤n∧i=.int .i64 (k:Int)∧Hid (∀ (j:Nat) (h:j < vs.length),j < k→j < 64→vs[j].size≤60)∧wr=w7) (fun i _=>n - (RowKit.intOf i).toNat)
   case atStart=>exact ⟨0,Nat.zero_le _,rfl,hid (fun j h h1=>by omega),rfl⟩
   case round=>
    obtain ⟨k,hk,rfl,HS,rfl⟩:=hrel;by_cases hlt:k < n
    ·have hlt3:k < vs.length:=by rw[HNN.out];exact hlt
     obtain ⟨b1,off,rfl,hcell⟩:=HRV.out.str k hlt3;have hcell:=HN.out.cell hcell
     have hnx:(k < 64→vs[k].size≤60)→∀ (j:Nat) (h:j < vs.length),j < k+1→j < 64→vs[j].size≤60:=fun h0 j h h1 h2=>by
      by_cases e:j=k
      ·subst e;exact h0 h2
      ·exact HS.out j h (by omega) h2
     have hxs:=HVS.out k hlt3;obtain ⟨x,hx⟩:∃ x,vs[k]=x:=⟨_,rfl⟩;rw[hx] at hcell hnx hxs;obtain ⟨l,hl⟩:∃ l,x.size=l:=⟨_,rfl⟩;rw[hl] at hnx hxs;clear hx;by_cases h60:l≤60
     ·have hd:decide ((60:Int) < (x.size:Int))=false:=decide_eq_false (by omega);have hnx:=hnx (fun _=>h60)
      have hli:¬(60:Int) < (x.size:Int):=by omega
      have HNX:=hid hnx;have HLX:=hid hl;clear hnx hl;clear h60;go_wp2_with fail;go_roundw
      case rel=>exact ⟨k+1,by omega,by go_num,HNX,trivial⟩
      case measure=>simp[RowKit.intOf];omega
     ·have hd:decide ((60:Int) < (x.size:Int))=true:=decide_eq_true (by omega)
      have hli:(60:Int) < (x.size:Int):=by omega
      by_cases h64:k < 64
      ·have hd2:decide ((k:Int) < 64)=true:=decide_eq_true (by omega)
       have hki:(k:Int) < 64:=by omega
       clear hnx hl h60 h64;go_wp2_with fail;refine (HAW.out _ (HE.out.new HN.out)).mono ?_;rintro e w99 ⟨rfl,hn⟩;replace HN:=tW HN hn;clear hn;go_wp2_with fail;go_ret;exact ⟨rfl,HN.out⟩
      ·have hd2:decide ((k:Int) < 64)=false:=decide_eq_false (by omega)
       have hki:¬(k:Int) < 64:=by omega
       have hnx:=hnx (fun h=>absurd h h64);have HNX:=hid hnx;have HLX:=hid hl;clear hnx hl;clear h60 h64;go_wp2_with fail;go_roundw
       case rel=>exact ⟨k+1,by omega,by go_num,HNX,trivial⟩
       case measure=>simp[RowKit.intOf];omega
    ·obtain ⟨n0,E1,E2,E3,ys,L,R,hK⟩:=HOK.out (fun j h h64=>HS.out j h (by have:=HNN.out;omega) h64)
     have hkn:k=n:=by omega
     have HK:=hid hK;have HKN:=hid hkn;clear hK hkn;clear HS HOK;obtain ⟨⟨pa0,pa1,pa2,pa3,pa4⟩,pa5⟩:=BA.out.five;go_wp2_with fail;clear pa0 pa1 pa2 pa3 pa4 pa5;refine wp_region_T 8 (fun W=>W.cell? ⟨w.heap.size,0,none⟩=some (.int .i64 b)∧W.cell? ⟨w.heap.size,1,none⟩=some (.int .i64 s)∧W.cell? ⟨w.heap.size,2,none⟩=some (.int .i64 z)∧W.cell? ⟨w.heap.size,3,none⟩=some (.string g)∧W.cell? ⟨w.heap.size,4,none⟩=some (.string o)) 9 #[false,false,false,false,false,false,false,false,false] rfl (by kernel_rfl) (by kernel_rfl) ?_;refine tk 0 (by exact cW5 BA) ?_
     try simp only[PT]
     refine tk 1 (by exact cW5 BA) ?_
     try simp only[PT]
     refine tk1 2 fun K hK=>?_;go_simp;refine (HRATS.out _ HN.out.drew HNL.out).mono ?_;rintro e w2 ⟨a2,c2,rfl,hn,hr2, -, -⟩;have hn:=hn.undr;have HR2:=hid hr2;clear hr2;replace BA:=bW BA hn;replace HN:=tW HN hn;clear hn;refine hK.out _ _ (fun _=>cW5 BA) ?_;clear hK K
     try simp only[PT]
     refine tk1 3 fun K hK=>?_;go_simp;refine (HK.out.sa _ _ _ HN.out HR2.out).mono ?_;rintro e w3 ⟨v3,rfl,hn,ho⟩;obtain ⟨a3,c3,rfl,hs3⟩:=own_read ho rfl (flts_len ys);clear ho HR2;have HS3:=hid hs3;clear hs3;replace BA:=bW BA hn;replace HN:=tW HN hn;clear hn;refine hK.out _ _ (fun _=>cW5 BA) ?_;clear hK K
     try simp only[PT]
     refine tk 4 (by exact cW5 BA) ?_
     try simp only[PT]
     refine tk 5 (by exact cW5 BA) ?_
     try simp only[PT]
     refine tk 6 (by exact cW5 BA) ?_
     try simp only[PT]
     refine tk 7 (by exact cW5 BA) ?_
     try simp only[PT]
     refine tlW ?_;obtain ⟨⟨pa0,pa1,pa2,pa3,pa4⟩,pa5⟩:=BA.out.five;go_wp2_with fail;clear pa0 pa1 pa2 pa3 pa4 pa5;refine wp_region_T 8 (fun W=>W.cell? ⟨w.heap.size,0,none⟩=some (.int .i64 b)∧W.cell? ⟨w.heap.size,1,none⟩=some (.int .i64 s)∧W.cell? ⟨w.heap.size,2,none⟩=some (.int .i64 z)∧W.cell? ⟨w.heap.size,3,none⟩=some (.string g)∧W.cell? ⟨w.heap.size,4,none⟩=some (.string o)) 9 #[false,false,false,false,false,false,false,false,false] rfl (by kernel_rfl) (by kernel_rfl) ?_;refine tk 0 (by exact cW5 BA) ?_
     try simp only[PT]
     refine tk 1 (by exact cW5 BA) ?_
     try simp only[PT]
     refine tk1 2 fun K hK=>?_;go_simp;refine (HFLO.out _ HN.out.drew HML.out).mono ?_;rintro e w4 ⟨a4,c4,rfl,hn,hr4, -, -⟩;have hn:=hn.undr;have HR4:=hid hr4;clear hr4;replace BA:=bW BA hn;replace HS3:=hid (HS3.out.new hn);replace HN:=tW HN hn;clear hn;refine hK.out _ _ (fun _=>cW5 BA) ?_;clear hK K
     try simp only[PT]
     refine tk1 3 fun K hK=>?_;go_simp;refine (HK.out.co _ _ _ HN.out HR4.out).mono ?_;rintro e w5 ⟨v5,rfl,hn,ho⟩;obtain ⟨a5,c5,rfl,hs5⟩:=own_read ho rfl (ints_len L);clear ho HR4;have HS5:=hid hs5;clear hs5;replace BA:=bW BA hn;replace HS3:=hid (HS3.out.new hn);replace HN:=tW HN hn;clear hn;refine hK.out _ _ (fun _=>cW5 BA) ?_;clear hK K
     try simp only[PT]
     refine tk 4 (by exact cW5 BA) ?_
     try simp only[PT]
     refine tk 5 (by exact cW5 BA) ?_
     try simp only[PT]
     refine tk 6 (by exact cW5 BA) ?_
     try simp only[PT]
     refine tk 7 (by exact cW5 BA) ?_
     try simp only[PT]
     refine tlW ?_;obtain ⟨⟨pa0,pa1,pa2,pa3,pa4⟩,pa5⟩:=BA.out.five;go_wp2_with fail;clear pa0 pa1 pa2 pa3 pa4 pa5;refine wp_region_T 8 (fun W=>W.cell? ⟨w.heap.size,0,none⟩=some (.int .i64 b)∧W.cell? ⟨w.heap.size,1,none⟩=some (.int .i64 s)∧W.cell? ⟨w.heap.size,2,none⟩=some (.int .i64 z)∧W.cell? ⟨w.heap.size,3,none⟩=some (.string g)∧W.cell? ⟨w.heap.size,4,none⟩=some (.string o)) 9 #[false,false,false,false,false,false,false,false,false] rfl (by kernel_rfl) (by kernel_rfl) ?_;refine tk 0 (by exact cW5 BA) ?_
     try simp only[PT]
     refine tk 1 (by exact cW5 BA) ?_
     try simp only[PT]
     refine tk1 2 fun K hK=>?_;go_simp;refine (HFLO.out _ HN.out.drew HML.out).mono ?_;rintro e w6 ⟨a6,c6,rfl,hn,hr6, -, -⟩;have hn:=hn.undr;have HR6:=hid hr6;clear hr6;replace BA:=bW BA hn;replace HS3:=hid (HS3.out.new hn);replace HS5:=hid (HS5.out.new hn);replace HN:=tW HN hn;clear hn;refine hK.out _ _ (fun _=>cW5 BA) ?_;clear hK K
     try simp only[PT]
     refine tk1 3 fun K hK=>?_;go_simp;refine (HK.out.cl _ _ _ HN.out HR6.out).mono ?_;rintro e wp ⟨vp,rfl,hn,ho⟩;obtain ⟨ap,cp,rfl,hsp⟩:=own_readS ho;clear ho HR6;have HSP:=hid hsp;clear hsp;replace BA:=bW BA hn;replace HS3:=hid (HS3.out.new hn);replace HS5:=hid (HS5.out.new hn);replace HN:=tW HN hn;clear hn;refine hK.out _ _ (fun _=>cW5 BA) ?_;clear hK K
     try simp only[PT]
     refine tk 4 (by exact cW5 BA) ?_
     try simp only[PT]
     refine tk 5 (by exact cW5 BA) ?_
     try simp only[PT]
     refine tk 6 (by exact cW5 BA) ?_
     try simp only[PT]
     refine tk 7 (by exact cW5 BA) ?_
     try simp only[PT]
     refine tlW ?_;obtain ⟨⟨pa0,pa1,pa2,pa3,pa4⟩,pa5⟩:=BA.out.five;go_wp2_with fail;refine (HK.out.ca _).mono ?_;rintro e wq ⟨rfl,hn⟩;clear pa0 pa1 pa2 pa3 pa4 pa5;replace BA:=bW BA hn;replace HS3:=hid (HS3.out.new hn);replace HS5:=hid (HS5.out.new hn);replace HSP:=hid (HSP.out.new hn);replace HN:=tW HN hn;clear hn;go_upto_if 79 with (fail)
     go_cut [16,17,18,19,20] (fun one two want cods rngs wx=>one=.int .i64 E1∧two=.int .i64 E2∧∃ (x1 x2 x3:Option Addr) (y1 y2 y3:Nat),want=.slice x1 ys.length y1∧cods=.slice x2 L.length y2∧rngs=.slice x3 R.length y3∧Hid (RdL wx x1 (flts ys))∧Hid (RdL wx x2 (ints L))∧Hid (RdL wx x3 (pairs R))∧Hid (New wq wx))
     case first=>
      clear HS3 HS5 HSP;by_cases h0:n0=0
      ·subst h0;obtain ⟨⟨pa0,pa1,pa2,pa3,pa4⟩,pa5⟩:=BA.out.five;go_wp2_with fail;refine (HK.out.cv rfl _ HN.out).mono ?_;rintro e w10 ⟨rfl,hn⟩;clear pa0 pa1 pa2 pa3 pa4 pa5;have HX:=hid hn;replace BA:=bW BA hn;replace HN:=tW HN hn;clear hn;go_upto_if 83 with (fail)
       go_cut [18] (fun want wx=>∃ (x1:Option Addr) (y1:Nat),want=.slice x1 ys.length y1∧Hid (RdL wx x1 (flts ys))∧Hid (New w10 wx))
       case first=>
        by_cases h1:E1=0
        ·subst h1;obtain ⟨⟨pa0,pa1,pa2,pa3,pa4⟩,pa5⟩:=BA.out.five;go_wp2_with fail;refine (HK.out.rs rfl rfl _ HN.out).mono ?_;rintro e w11 ⟨v11,rfl,hn,ho⟩;obtain ⟨x1,y1,rfl,hr1⟩:=own_read ho rfl (flts_len ys);clear ho;clear pa0 pa1 pa2 pa3 pa4 pa5;have HR1:=hid hr1;have HN1:=hid hn;clear hr1 hn;go_wp2_with fail
         go_meet
         exact ⟨x1,y1,rfl,HR1,HN1⟩
        ·have h1b:(E1==0)=false:=beq_false_of_ne h1;have hys:=HK.out.e1 h1;clear h1;go_wp2_with fail
         go_meet
         exact ⟨none,0,by rw[hys];rfl,hid (by rw[hys];exact rdl_nil _ _),hid (New.refl _)⟩
       case rest=>
        obtain ⟨x1,y1,rfl,HR1,HN1⟩:=hcut;have hx:=HX.out.trans HN1.out;have hb:=BA.out.new HN1.out;have hn:=HN.out.trans HN1.out;clear HX BA HN HN1;have HX:=hid hx;have BA:=hid hb;have HN:=hid hn;clear hx hb hn;obtain ⟨⟨pa0,pa1,pa2,pa3,pa4⟩,pa5⟩:=BA.out.five;go_wp2_with fail;refine (HK.out.cs rfl _ HN.out).mono ?_;rintro e w12 ⟨rfl,hn⟩;clear pa0 pa1 pa2 pa3 pa4 pa5;have hx:=HX.out.trans hn;clear HX;have HX:=hid hx;clear hx;replace BA:=bW BA hn;replace HR1:=hid (HR1.out.new hn);replace HN:=tW HN hn;clear hn;by_cases h3:E3=0
        ·subst h3;obtain ⟨⟨pa0,pa1,pa2,pa3,pa4⟩,pa5⟩:=BA.out.five;go_wp2_with fail;refine (HK.out.rc rfl rfl _ HN.out).mono ?_;rintro e w13 ⟨v13,rfl,hn,ho⟩;obtain ⟨x2,y2,rfl,hr2⟩:=own_read ho rfl (ints_len L);clear ho;clear pa0 pa1 pa2 pa3 pa4 pa5;have hx:=HX.out.trans hn;clear HX;have HX:=hid hx;have HR2:=hid hr2;clear hx hr2;replace BA:=bW BA hn;replace HR1:=hid (HR1.out.new hn);replace HN:=tW HN hn;clear hn;obtain ⟨⟨pa0,pa1,pa2,pa3,pa4⟩,pa5⟩:=BA.out.five;go_wp2_with fail;refine (HK.out.rl rfl rfl _ _ _ HR2.out).mono ?_;rintro e w14 ⟨v14,rfl,hn,ho⟩;obtain ⟨x3,y3,rfl,hr3⟩:=own_readS ho;clear ho;clear pa0 pa1 pa2 pa3 pa4 pa5;have hx:=HX.out.trans hn;clear HX;have HX:=hid hx;have HR3:=hid hr3;clear hx hr3;replace HR1:=hid (HR1.out.new hn);replace HR2:=hid (HR2.out.new hn);replace HN:=tW HN hn;clear hn;go_wp2_with fail
         go_meet
         exact ⟨rfl,rfl,x1,x2,x3,y1,y2,y3,rfl,rfl,rfl,HR1,HR2,HR3,HX⟩
        ·have h3b:(E3==0)=false:=beq_false_of_ne h3;obtain ⟨rfl,hL,hR⟩:=HK.out.e3 rfl h3;clear h3;have HLL:=hid hL;have HRR:=hid hR;clear hL hR;go_wp2_with fail
         go_meet
         exact ⟨rfl,rfl,x1,none,none,y1,0,0,rfl,by rw[HLL.out];rfl,by rw[HRR.out];rfl,HR1,hid (by rw[HLL.out];exact rdl_nil _ _),hid (by rw[HRR.out];exact rdl_nil _ _),HX⟩
      ·have h0b:(n0==0)=false:=beq_false_of_ne h0;obtain ⟨h1,h2,h3,h4,h5⟩:=HK.out.bad h0;clear h0;have H1:=hid h1;have H2:=hid h2;have H3:=hid h3;have H4:=hid h4;have H5:=hid h5;clear h1 h2 h3 h4 h5;go_wp2_with fail
       go_meet
       exact ⟨by rw[H1.out],by rw[H2.out],none,none,none,0,0,0,by rw[H3.out];rfl,by rw[H4.out];rfl,by rw[H5.out];rfl,hid (by rw[H3.out];exact rdl_nil _ _),hid (by rw[H4.out];exact rdl_nil _ _),hid (by rw[H5.out];exact rdl_nil _ _),hid (New.refl _)⟩
     case rest=>
      obtain ⟨rfl,rfl,x1,x2,x3,y1,y2,y3,rfl,rfl,rfl,HR1,HR2,HR3,HX⟩:=hcut;have hn:=HX.out;replace HS3:=hid (HS3.out.new hn);replace HS5:=hid (HS5.out.new hn);replace HSP:=hid (HSP.out.new hn);replace HN:=tW HN hn;clear hn;clear HX BA;go_wp2_with fail;refine (same_floats_self _ _ _ _ _ _ HK.out.ly HS3.out HR1.out HK.out.sy).mono ?_;rintro e w20 ⟨rfl,hn⟩;clear HS3 HR1;replace HS5:=hid (HS5.out.new hn);replace HSP:=hid (HSP.out.new hn);replace HR2:=hid (HR2.out.new hn);replace HR3:=hid (HR3.out.new hn);replace HN:=tW HN hn;clear hn;go_wp2_with fail;refine (same_ints_self _ _ _ _ _ _ HK.out.lL HS5.out HR2.out).mono ?_;rintro e w21 ⟨rfl,hn⟩;clear HS5 HR2;replace HSP:=hid (HSP.out.new hn);replace HR3:=hid (HR3.out.new hn);replace HN:=tW HN hn;clear hn;go_wp2_with fail;refine (same_pairs _ _ _ _ _ _ HK.out.lR HSP.out HR3.out).mono ?_;rintro e w22 ⟨rfl,hn⟩;clear HSP HR3;replace HN:=tW HN hn;clear hn;go_wp2_with fail;refine (HAW.out _ (HE.out.new HN.out)).mono ?_;rintro e w99 ⟨rfl,hn⟩;replace HN:=tW HN hn;clear hn;go_wp2_with fail;go_ret;exact ⟨rfl,HN.out⟩
end Go.Proofs.YtbkcjmojgglbkaaGreatDoor
