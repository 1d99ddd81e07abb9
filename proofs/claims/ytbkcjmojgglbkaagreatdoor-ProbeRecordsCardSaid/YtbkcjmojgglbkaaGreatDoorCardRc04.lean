/- Part CardRc04. -/
import Derived.Deep.DeepCutAuto
import Derived.Laws.FloatArith
import Derived.Test.YtbkcjmojgglbkaaGreatDoorCardRc03
namespace Go.Proofs.YtbkcjmojgglbkaaGreatDoor
open Go.RowKit Big Go.Lib
set_option maxRecDepth 100000
set_option maxHeartbeats 8000000
theorem pairs_take (l:List (Nat × Nat)):(pairs l).length=l.length*2:=by rw[pairs_len];omega
theorem own_last {w:World}{base m a b:Nat}{e:TypeId}{v:Value}{ys:List (Nat × Nat)}(h:w.ownsRow base e 2 v (m+1) (pairs (ys ++ [(a,b)])))(hm:ys.length=m):
  ∃ g cap,v=.slice (some ⟨g,0,none⟩) (m+1) cap∧base≤g∧g < w.heap.size∧w.cell? ⟨g,m*2+1,none⟩=some (.int .i64 (b:Int))∧w.frozen? ⟨g,m*2+1,none⟩=false∧
   ∀ c:Nat,(w.setCell ⟨g,m*2+1,none⟩ (.int .i64 (c:Int))).ownsRow base e 2 v (m+1) (pairs (ys ++ [(a,c)])):=by
 obtain ⟨hl,h2⟩:=h;rcases h2 with ⟨_,h3⟩ | ⟨g,cap,cur,rfl,hb,hg,h3,h4,h5,h6⟩
 ·omega
 have hpl:(pairs ys).length=m*2:=by rw[pairs_take,hm]
 have hcur:∀ i,i < (m+1)*2→cur[i]?=(pairs (ys ++ [(a,b)]))[i]?:=fun i hi=>by
  rw[←h6,List.getElem?_take,if_pos hi];simp
 refine ⟨g,cap,rfl,hb,(Array.getElem?_eq_some_iff.1 hg).1,?_,?_,fun c=>⟨by rw[pairs_take,List.length_append,hm];rfl,.inr ⟨g,cap,cur.setIfInBounds (m*2+1) (.int .i64 (c:Int)),rfl,hb,?_,h3,h4,by simpa using h5,?_⟩⟩⟩
 ·have:w.cell? ⟨g,m*2+1,none⟩=cur[m*2+1]?:=by simp[World.cell?,hg]
  rw[this,hcur _ (by omega),pairs_snoc,List.getElem?_append_right (by omega),hpl]
  have:m*2+1 - m*2=1:=by omega
  rw[this];rfl
 ·simp[World.frozen?,hg]
 ·simp[World.setCell,Array.getElem?_modify,hg]
 ·apply List.ext_getElem?;intro i;rw[List.getElem?_take];by_cases hi:i < (m+1)*2
  ·rw[if_pos hi]
   have e1:(cur.setIfInBounds (m*2+1) (Value.int .i64 (c:Int))).toList[i]?=if m*2+1=i then some (Value.int .i64 (c:Int)) else cur[i]?:=by
    have:=Array.getElem?_setIfInBounds (xs:=cur) (i:=m*2+1) (j:=i) (a:=Value.int .i64 (c:Int));rw[Array.getElem?_toList,this];by_cases h:m*2+1=i
    ·rw[if_pos h,if_pos h,if_pos (by omega)]
    ·rw[if_neg h,if_neg h]
   rw[e1,pairs_snoc];by_cases h:m*2+1=i
   ·rw[if_pos h,←h,List.getElem?_append_right (by omega),hpl,show m*2+1 - m*2=1 by omega];rfl
   ·rw[if_neg h,hcur i hi,pairs_snoc];by_cases h7:i < m*2
    ·rw[List.getElem?_append_left (by omega),List.getElem?_append_left (by omega)]
    ·have:i=m*2:=by omega
     rw[this,List.getElem?_append_right (by omega),List.getElem?_append_right (by omega),hpl,Nat.sub_self];rfl
  ·rw[if_neg hi,List.getElem?_eq_none (by rw[pairs_take,List.length_append,hm];simp;omega)]
theorem rclipped_calls (b s z tp:Int) (g o:ByteArray) (a:Option Addr) (cap n:Nat) (cl:List Int) (w:World) (hn0:cl.length=n) (hl:n≤4096) (hr:RdL w a (ints cl))
  (htop:∀ W,Calls Tryz.prog 78 #[adcV b s z g o] W fun e w'=>e=.returned (.int .i64 tp)∧New W w'):
  Calls Tryz.prog 36 #[adcV b s z g o,.slice a n cap] w fun e w'=>∃ v,e=.returned v∧New w w'∧w'.ownsRow w.heap.size 95 2 v (clipped cl tp).length (pairs (clipped cl tp)):=by
 obtain ⟨i0,hi,hz0,hz1,hz2⟩:=info_parts info_arr2
 have hli:(n:Int)≤4096:=by omega
 obtain ⟨p,hp⟩:∃ p,isEnd cl tp=p:=⟨_,rfl⟩;obtain ⟨total,htot⟩:∃ l,clipped cl tp=l:=⟨_,rfl⟩
 have hst:ClipInv p n total 0 0 []:=by
  rw[←htot];unfold clipped;rw[hp,hn0];exact ClipInv.start
 rw[htot];clear htot;unfold adcV at *;have HTOP:=hid htop;have HR:=hid hr;have HNN:=hid hn0;have HPP:=hid hp;have HST:=hid hst;have HLL:=hid hl;clear htop hr hn0 hp hst hl;go_enter Tryz.func36,Tryz.ntmps36;go_wp2_with fail;obtain ⟨BA,HN⟩:=lay1 w 24 #[.int .i64 b,.int .i64 s,.int .i64 z,.string g,.string o];obtain ⟨w8,hw8⟩:∃ x,w.alloc (.cells #[.int .i64 b,.int .i64 s,.int .i64 z,.string g,.string o] 24)=x:=⟨_,rfl⟩;rw[hw8] at BA HN⊢;clear hw8;have HW:=HN;clear HN;go_loopw [5,6] (fun v i wr=>∃ (k f m:Nat) (ys:List (Nat × Nat)),k≤n∧i=.int .i64 (k:Int)∧Hid (ClipInv p n total k f ys)∧Hid ((clipOut k f ys).length=m∧m≤k)∧Hid (wr.ownsRow w8.heap.size 95 2 v m (pairs (clipOut k f ys)))∧Hid (New w8 wr)) (fun _ i _=>n - (RowKit.intOf i).toNat)
 case atStart=>exact ⟨0,0,0,[],Nat.zero_le _,rfl,HST,hid ⟨rfl,Nat.le_refl _⟩,hid (World.ownsRow_nil _ _ _ _),hid (New.refl _)⟩
 case round=>
  clear HST;obtain ⟨k,f,m,ys,hk,rfl,HI,HM,HO,HN⟩:=hrel;by_cases hlt:k < n
  ·have hlt3:k < cl.length:=by rw[HNN.out];exact hlt
   obtain ⟨b1,off,rfl,hcell⟩:=HR.out.int k hlt3;have hcell:=(HW.out.trans HN.out).cell hcell;obtain ⟨c,hc⟩:∃ c,cl[k]=c:=⟨_,rfl⟩;rw[hc] at hcell
   have hpt:p k=(c==0 || c==tp):=by
    rw[←HPP.out];unfold isEnd;rw[List.getElem?_eq_getElem hlt3,hc]
   clear hc;have BB:=hid (BA.out.new HN.out);obtain ⟨t,ht⟩:∃ t:Bool,p k=t:=⟨_,rfl⟩;rw[ht] at hpt;have HLT:=hid hlt;have HT:=hid ht;have HPT:=hid hpt;clear ht hpt;go_upto_if 26 with (fail)
   go_cut [26] (fun u wx=>u=.bool (!t)∧Hid (New wr wx))
   case first=>
    have HN2:=hid (New.refl wr);by_cases hc0:c=0
    ·subst hc0;have htt:=HPT.out;rw[show ((0:Int)==0 || (0:Int)==tp)=true from rfl] at htt;subst htt;obtain ⟨⟨pa0,pa1,pa2,pa3,pa4⟩,pa5⟩:=BB.out.five;refine wp_region_T 13 (fun W=>W.cell? ⟨w.heap.size,0,none⟩=some (.int .i64 b)∧W.cell? ⟨w.heap.size,1,none⟩=some (.int .i64 s)∧W.cell? ⟨w.heap.size,2,none⟩=some (.int .i64 z)∧W.cell? ⟨w.heap.size,3,none⟩=some (.string g)∧W.cell? ⟨w.heap.size,4,none⟩=some (.string o)∧W.cell? ⟨b1,off+k,none⟩=some (.int .i64 0)) 14 #[false,false,false,false,false,false,false,false,false,false,false,false,false,false] rfl (by kernel_rfl) (by kernel_rfl) ?_;refine tk 0 (by exact ⟨pa0,pa1,pa2,pa3,pa4,hcell⟩) ?_
     try simp only[List.getElem_toArray,List.getElem_cons_zero,Act.put,List.setIfInBounds_toArray,List.set_cons_zero,List.set_cons_succ]
     refine tk 1 (by exact ⟨pa0,pa1,pa2,pa3,pa4,hcell⟩) ?_
     try simp only[List.getElem_toArray,List.getElem_cons_zero,List.getElem_cons_succ,Act.put,List.setIfInBounds_toArray,List.set_cons_zero,List.set_cons_succ]
     refine tk 2 (by exact ⟨pa0,pa1,pa2,pa3,pa4,hcell⟩) ?_
     try simp only[List.getElem_toArray,List.getElem_cons_zero,List.getElem_cons_succ,Act.put,List.setIfInBounds_toArray,List.set_cons_zero,List.set_cons_succ]
     refine tk 3 (by exact ⟨pa0,pa1,pa2,pa3,pa4,hcell⟩) ?_
     try simp only[List.getElem_toArray,List.getElem_cons_zero,List.getElem_cons_succ,Act.put,List.setIfInBounds_toArray,List.set_cons_zero,List.set_cons_succ]
     refine tk 4 (by exact ⟨pa0,pa1,pa2,pa3,pa4,hcell⟩) ?_
     try simp only[List.getElem_toArray,List.getElem_cons_zero,List.getElem_cons_succ,Act.put,List.setIfInBounds_toArray,List.set_cons_zero,List.set_cons_succ]
     refine tk 5 (by exact ⟨pa0,pa1,pa2,pa3,pa4,hcell⟩) ?_
     try simp only[List.getElem_toArray,List.getElem_cons_zero,List.getElem_cons_succ,Act.put,List.setIfInBounds_toArray,List.set_cons_zero,List.set_cons_succ]
     refine wpT_take 6 rfl (by kernel_rfl) (fun _ _ _ h=>h) (by exact ⟨pa0,pa1,pa2,pa3,pa4,hcell⟩) (Or.inr ⟨by first | kernel_rfl | rfl,rfl⟩) ?_
     try simp only[List.getElem_toArray,List.getElem_cons_zero,List.getElem_cons_succ,Act.put,List.setIfInBounds_toArray,List.set_cons_zero,List.set_cons_succ]
     refine wpT_take 7 rfl (by kernel_rfl) (fun _ _ _ h=>h) (by exact ⟨pa0,pa1,pa2,pa3,pa4,hcell⟩) (Or.inr ⟨by first | kernel_rfl | rfl,rfl⟩) ?_
     try simp only[List.getElem_toArray,List.getElem_cons_zero,List.getElem_cons_succ,Act.put,List.setIfInBounds_toArray,List.set_cons_zero,List.set_cons_succ]
     refine wpT_take 8 rfl (by kernel_rfl) (fun _ _ _ h=>h) (by exact ⟨pa0,pa1,pa2,pa3,pa4,hcell⟩) (Or.inr ⟨by first | kernel_rfl | rfl,rfl⟩) ?_
     try simp only[List.getElem_toArray,List.getElem_cons_zero,List.getElem_cons_succ,Act.put,List.setIfInBounds_toArray,List.set_cons_zero,List.set_cons_succ]
     refine wpT_take 9 rfl (by kernel_rfl) (fun _ _ _ h=>h) (by exact ⟨pa0,pa1,pa2,pa3,pa4,hcell⟩) (Or.inr ⟨by first | kernel_rfl | rfl,rfl⟩) ?_
     try simp only[List.getElem_toArray,List.getElem_cons_zero,List.getElem_cons_succ,Act.put,List.setIfInBounds_toArray,List.set_cons_zero,List.set_cons_succ]
     refine wpT_take 10 rfl (by kernel_rfl) (fun _ _ _ h=>h) (by exact ⟨pa0,pa1,pa2,pa3,pa4,hcell⟩) (Or.inr ⟨by first | kernel_rfl | rfl,rfl⟩) ?_
     try simp only[List.getElem_toArray,List.getElem_cons_zero,List.getElem_cons_succ,Act.put,List.setIfInBounds_toArray,List.set_cons_zero,List.set_cons_succ]
     refine wpT_take 11 rfl (by kernel_rfl) (fun _ _ _ h=>h) (by exact ⟨pa0,pa1,pa2,pa3,pa4,hcell⟩) (Or.inr ⟨by first | kernel_rfl | rfl,rfl⟩) ?_
     try simp only[List.getElem_toArray,List.getElem_cons_zero,List.getElem_cons_succ,Act.put,List.setIfInBounds_toArray,List.set_cons_zero,List.set_cons_succ]
     refine wpT_take 12 rfl (by kernel_rfl) (fun _ _ _ h=>h) (by exact ⟨pa0,pa1,pa2,pa3,pa4,hcell⟩) (Or.inr ⟨by first | kernel_rfl | rfl,rfl⟩) ?_
     try simp only[List.getElem_toArray,List.getElem_cons_zero,List.getElem_cons_succ,Act.put,List.setIfInBounds_toArray,List.set_cons_zero,List.set_cons_succ]
     refine tlW ?_;go_wp2_with fail
     go_meet
     exact ⟨rfl,hid (New.refl wr).drew⟩
    ·have hc1:(c != 0)=true:=by simpa using hc0
     have hc2:(c==0)=false:=beq_eq_false_iff_ne.2 hc0;have htt:=HPT.out;rw[hc2,Bool.false_or] at htt;obtain ⟨q,hq⟩:∃ q,(c != tp)=q:=⟨_,rfl⟩
     have hqt:q=!t:=by rw[htt,←hq];rfl
     subst hqt;clear htt hc2;obtain ⟨⟨pa0,pa1,pa2,pa3,pa4⟩,pa5⟩:=BB.out.five;clear pa0 pa1 pa2 pa3 pa4 pa5;refine wp_region_T 13 (fun W=>(W.cell? ⟨w.heap.size,0,none⟩=some (.int .i64 b)∧W.cell? ⟨w.heap.size,1,none⟩=some (.int .i64 s)∧W.cell? ⟨w.heap.size,2,none⟩=some (.int .i64 z)∧W.cell? ⟨w.heap.size,3,none⟩=some (.string g)∧W.cell? ⟨w.heap.size,4,none⟩=some (.string o))∧W.cell? ⟨b1,off+k,none⟩=some (.int .i64 c)) 14 #[false,false,false,false,false,false,false,false,false,false,false,false,false,false] rfl (by kernel_rfl) (by kernel_rfl) ?_;refine tk 0 (by exact ⟨cW5 BB,hcell⟩) ?_
     try simp only[PT]
     refine tk 1 (by exact ⟨cW5 BB,hcell⟩) ?_
     try simp only[PT]
     refine tk 2 (by exact ⟨cW5 BB,hcell⟩) ?_
     try simp only[PT]
     refine tk 3 (by exact ⟨cW5 BB,hcell⟩) ?_
     try simp only[PT]
     refine wpT_take 4 (v:=?_) rfl (by kernel_rfl) (fun _ _ _ h=>h) (by exact ⟨cW5 BB,hcell⟩) (Or.inl ⟨by first | kernel_rfl | rfl,?_⟩) ?_;rotate_left
     ·(intro W hW;(try dsimp only at hW);(go_simp;try simp only[hc1]);try with_reducible rfl)
     try simp only[PT]
     refine tk 5 (by exact ⟨cW5 BB,hcell⟩) ?_
     try simp only[PT]
     refine tk 6 (by exact ⟨cW5 BB,hcell⟩) ?_
     try simp only[PT]
     refine tk 7 (by exact ⟨cW5 BB,hcell⟩) ?_
     try simp only[PT]
     refine tk 8 (by exact ⟨cW5 BB,hcell⟩) ?_
     try simp only[PT]
     refine tk 9 (by exact ⟨cW5 BB,hcell⟩) ?_
     try simp only[PT]
     refine tk 10 (by exact ⟨cW5 BB,hcell⟩) ?_
     try simp only[PT]
     refine tk1 11 fun K hK=>?_;go_simp;refine (HTOP.out _).mono ?_;rintro e w2 ⟨rfl,hn⟩;have hn:=hn.undr;have hcell:=hn.cell hcell;have BB:=hid (BB.out.new hn);have HN2:=hid hn;clear hn;refine hK.out _ _ (fun _=>⟨cW5 BB,hcell⟩) ?_;clear hK K
     try simp only[PT]
     refine wpT_take 12 (v:=?_) rfl (by kernel_rfl) (fun _ _ _ h=>h) (by exact ⟨cW5 BB,hcell⟩) (Or.inl ⟨by first | kernel_rfl | rfl,?_⟩) ?_;rotate_left
     ·(intro W hW;(try dsimp only at hW);(go_simp;try simp only[hq]);try with_reducible rfl)
     try simp only[PT]
     refine tlW ?_;obtain ⟨⟨pa0,pa1,pa2,pa3,pa4⟩,pa5⟩:=BB.out.five;go_wp2_with fail
     go_meet
     exact ⟨rfl,HN2⟩
   case rest=>
    obtain ⟨rfl,HX⟩:=hcut;clear hcell
    cases t with
    | false=>
     have hsk:=HI.out.skip HLT.out HT.out;have hO:=own_newS HO.out HX.out;have hN:=HN.out.trans HX.out;have hM:=HM.out;clear HO HN HM HX HI HT HPT BB;have HI:=hid hsk.1;rw[←hsk.2] at hO hM;clear hsk;have HO:=hid hO;have HN:=hid hN;have HM:=hid hM;clear hO hN hM;go_wp2_with fail;go_roundw
     case rel=>exact ⟨k+1,k+1,m,clipOut k f ys,by omega,by go_num,HI,hid ⟨HM.out.1,by have:=HM.out.2;omega⟩,HO,HN⟩
     case measure=>simp[RowKit.intOf];omega
    | true=>
     have hmo:=HI.out.more HLT.out HT.out;have hO:=own_newS HO.out HX.out;have hN:=HN.out.trans HX.out;clear HO HN HX HT HPT BB;have HO:=hid hO;have HN:=hid hN;have HMO:=hid hmo;clear hO hN hmo;by_cases hfk:f < k
     ·-- the open range grows
      have hM:=HM.out;have hO:=HO.out
      have e1:clipOut k f ys=ys ++ [(f,k)]:=by unfold clipOut;rw[if_pos hfk]
      have e2:clipOut (k+1) f ys=ys ++ [(f,k+1)]:=by unfold clipOut;rw[if_pos (by omega)]
      rw[e1]at hM hO;obtain ⟨j,hj⟩:∃ j,ys.length=j:=⟨_,rfl⟩
      have hmj:m=j+1:=by rw[←hM.1,List.length_append,hj];rfl
      subst hmj;obtain ⟨gg,cc,rfl,hgb,hgl,hcell,hfz,hset⟩:=own_last hO hj;have hO2:=hset (k+1);rw[←e2] at hO2;have hN2:=HN.out.setCell hgb (p:=⟨gg,j*2+1,none⟩) (.int .i64 ((k+1:Nat):Int))
      have hml:(clipOut (k+1) f ys).length=j+1:=by rw[e2,List.length_append,hj];rfl
      have hmk:=hM.2;clear hM hO hset e1 e2 HM HO HN HI hj;obtain ⟨k1,hk1⟩:∃ q,k+1=q:=⟨_,rfl⟩;rw[hk1] at hO2 hN2;obtain ⟨J,hJ⟩:∃ q,j+1=q:=⟨_,rfl⟩;rw[hJ] at hO2;rw[hJ]
      have hk1i:(k:Int)+1=(k1:Int):=by omega
      have hj1:(J:Int) - 1=(j:Int):=by omega
      have hjn:(j:Int)≤4096:=by have:=HLL.out;omega
      have hJ0:(0:Int) < (J:Int):=by omega
      have hjJ:(j:Int) < (J:Int):=by omega
      have hk1n:(k1:Int)≤4097:=by have:=HLL.out;omega
      have HK1:=hid hk1;have HJJ:=hid hJ;have HMK:=hid hmk;clear hJ hk1 hmk;have HO2:=hid hO2;have HN2:=hid hN2;have HML:=hid hml;have HGB:=hid hgb;clear hO2 hN2 hml hgb;go_wp2_with fail;go_roundw
      case rel=>exact ⟨k1,f,J,ys,by have:=HK1.out;have:=HLT.out;omega,rfl,by rw[←HK1.out];exact HMO,hid ⟨by rw[←HK1.out,HML.out,HJJ.out],by have:=HK1.out;have:=HJJ.out;have:=HMK.out;omega⟩,by rw[←HK1.out] at HO2⊢;exact HO2,HN2⟩
      case measure=>simp[RowKit.intOf];have:=HK1.out;have:=HLT.out;omega
     ·-- a range begins
      have hfe:f=k:=by have:=HI.out.1;omega
      have e1:clipOut k f ys=ys:=by unfold clipOut;rw[if_neg hfk,List.append_nil]
      have e2:clipOut (k+1) f ys=ys ++ [(k,k+1)]:=by unfold clipOut;rw[if_pos (by omega),hfe]
      have hlast:=HI.out.2.2.2.2;have hM:=HM.out;have hO:=HO.out;rw[e1] at hM hO;clear HM HO HI e1;obtain ⟨a1,c1,rfl,hrd, -⟩:=own_rdS hO;obtain ⟨k1,hk1⟩:∃ q,k+1=q:=⟨_,rfl⟩;rw[hk1] at e2
      have hk1i:(k:Int)+1=(k1:Int):=by omega
      have hml:=hM.1;have hmk:=hM.2;have hkl:=HLT.out;have hnl:=HLL.out
      have hk1n:(k1:Int)≤4097:=by omega
      have HK1:=hid hk1;clear hM hk1 hfk;have HO:=hid hO;have HLA:=hid hlast;have HML:=hid hml;have HMK:=hid hmk;have HE2:=hid e2;have HRD:=hid hrd;have HFE:=hid hfe;clear hO hlast hml hmk e2 hrd hfe;clear hkl hnl;go_upto_region 6 with (fail)
      go_cut [40] (fun u wx=>u=.bool false∧wx=wc)
      case first=>
       by_cases hm0:m=0
       ·subst hm0;go_wp2_with fail
        go_meet
        exact ⟨rfl,rfl⟩
       ·obtain ⟨j,hj⟩:∃ j,m=j+1:=⟨m - 1,by omega⟩
        have hjl:j < ys.length:=by rw[HML.out];omega
        obtain ⟨b2,off2,rfl, -,hcell⟩:=HRD.out.pair j hjl;have hlt2:=HLA.out _ (List.getElem_mem hjl);obtain ⟨x,hx⟩:∃ x,(ys[j]).2=x:=⟨_,rfl⟩;rw[hx] at hcell hlt2;have hfe:=HFE.out;have hne:((x:Int)==(k:Int))=false:=beq_false_of_ne (by omega)
        have hj1:(m:Int) - 1=(j:Int):=by omega
        have hjn:(j:Int)≤4096:=by have:=HLL.out;have:=HLT.out;have:=HMK.out;omega
        have hJ0:(0:Int) < (m:Int):=by omega
        have hjJ:(j:Int) < (m:Int):=by omega
        clear hx hlt2 hfe hj hm0 hjl;go_wp2_with fail
        go_meet
        exact ⟨rfl,rfl⟩
      case rest=>
       obtain ⟨rfl,rfl⟩:=hcut
       have hc2:∀ u∈[Value.int .i64 (k:Int),.int .i64 (k1:Int)],u.oneCell'=true:=by intro u hu;simp at hu;rcases hu with rfl | rfl <;> rfl
       have HC2:=hid hc2;clear hc2;go_wp2_with (at_builtin;refine wpList_append_own _ rfl _ _ 61 rfl w8.heap.size 95 i0 (.agg #[.int .i64 0,.int .i64 0]) 2 16 Tryz.underlying61 hi hz0 hz1 hz2 rfl (by decide) _ _ _ rfl (HO.out.alloc _) ⟨wc.heap.size,0,none⟩ 1 1 [.int .i64 (k:Int),.int .i64 (k1:Int)] rfl rfl (alloc_cells _ #[.int .i64 (k:Int),.int .i64 (k1:Int)] _) HC2.out (by have:=HMK.out;have:=HLT.out;have:=HLL.out;unfold maxLen;omega) (by have:=HMK.out;have:=HLT.out;have:=HLL.out;omega) (by have:=HN.out.size;rw[←size_alloc];omega) ?_);intro v' w9 hown' hgrow _;have hN1:=grown_newS HN.out HO.out hgrow
       have hO1:w9.ownsRow w8.heap.size 95 2 v' (m+1) (pairs (ys ++ [(k,k1)])):=by
        rw[pairs_snoc];simpa using hown'
       rw[←HE2.out]at hO1;clear hown' hgrow;have HN1:=hid hN1;have HO1:=hid hO1;clear hN1 hO1;go_wp2_with fail;go_roundw
       case rel=>exact ⟨k1,f,m+1,ys,by have:=HK1.out;have:=HLT.out;omega,rfl,by rw[←HK1.out];exact HMO,hid ⟨by rw[HE2.out,List.length_append,HML.out];rfl,by have:=HK1.out;have:=HMK.out;omega⟩,HO1,HN1⟩
       case measure=>simp[RowKit.intOf];have:=HK1.out;have:=HLT.out;omega
  ·have hkn:k=n:=by omega
   have htot:clipOut k f ys=total:=by
    have:=HI.out;rw[hkn] at this⊢;exact this.end_
   have hO:=HO.out;have hM:=HM.out.1;rw[htot] at hO hM;clear HO HM HI htot;have HKN:=hid hkn;have HO:=hid hO;have HM:=hid hM;clear hkn hO hM;go_wp2_with fail;go_ret;exact ⟨_,rfl,HW.out.trans HN.out,by rw[HM.out];exact World.ownsRow.mono HO.out HW.out.size⟩
theorem Codes_err (b s z:Int) (g o:ByteArray) (a:Option Addr) (cap len:Nat) (n n2 m:Int) (hm:(if n=0 then n2 else n)=m) (h0:m≠0) (w:World) (he:Env w)
  (hc:∀ W,Env W→Calls Tryz.prog 15 #[adcV b s z g o] W (RetNew W n)) (hs:∀ W,New w W→Calls Tryz.prog 95 #[.slice a len cap] W (RetNew W n2)):
  Calls Tryz.prog 29 #[adcV b s z g o,.slice a len cap] w (RowPost w 3 (ints []) m):=by
 have ht:(m != 0)=true:=by simpa using h0
 unfold adcV at *;have HC:=hid hc;have HS:=hid hs;have HE:=hid he;have H0:=hid h0;have HM:=hid hm;clear hc hs he h0 hm;go_enter Tryz.func29,Tryz.ntmps29;go_wp2_with fail;obtain ⟨BA,HN⟩:=lay1 w 32 #[.int .i64 b,.int .i64 s,.int .i64 z,.string g,.string o];refine (HC.out _ (HE.out.new HN.out)).mono ?_;rintro e w1 ⟨rfl,hn⟩;replace BA:=bW BA hn;replace HN:=tW HN hn;clear hn;go_wp2_with fail;refine (HS.out _ HN.out).mono ?_;rintro e w2 ⟨rfl,hn⟩;replace BA:=bW BA hn;replace HN:=tW HN hn;clear hn;go_wp2_with fail;have HN0:=HN;clear HN;obtain ⟨BG,HN⟩:=lay1 w2 29 #[.int .i64 n,.int .i64 n2];replace BA:=hid (BA.out.new HN.out);have HN_:=HN0.out.trans HN.out;clear HN HN0;have HN:=hid HN_;clear HN_;refine (pfirst2_new n n2 _ _ 29 _ BG.out).mono ?_;rintro e w3 ⟨rfl,hn⟩;rw[HM.out];replace BA:=bW BA hn;replace HN:=tW HN hn;clear hn;go_wp2_with fail;go_ret2;exact ⟨_,rfl,HN.out,World.ownsRow_nil _ _ _ _⟩
theorem Sampled_err (b s z:Int) (g o:ByteArray) (a:Option Addr) (cap len:Nat) (n m:Int) (hl:len≤1000000) (hm:(if n=0 then (if decide ((4096:Int) < (len:Int))=true then 5 else 0) else n)=m) (h0:m≠0) (w:World) (he:Env w)
  (hc:∀ W,Env W→Calls Tryz.prog 15 #[adcV b s z g o] W (RetNew W n)):
  Calls Tryz.prog 27 #[adcV b s z g o,.slice a len cap] w (RowPost w 35 (flts []) m):=by
 have ht:(m != 0)=true:=by simpa using h0
 have hli:(len:Int)≤1000000:=by omega
 obtain ⟨d,hd⟩:∃ d,decide ((4096:Int) < (len:Int))=d:=⟨_,rfl⟩;rw[hd] at hm;obtain ⟨n2,hn2⟩:∃ n2:Int,(if d=true then 5 else 0)=n2:=⟨_,rfl⟩;rw[hn2] at hm;unfold adcV at *;clear hl;have HC:=hid hc;have HE:=hid he;have H0:=hid h0;have HM:=hid hm;have HN2:=hid hn2;clear hc he h0 hm hn2;go_enter Tryz.func27,Tryz.ntmps27;go_wp2_with fail;obtain ⟨BA,HN⟩:=lay1 w 32 #[.int .i64 b,.int .i64 s,.int .i64 z,.string g,.string o];refine (HC.out _ (HE.out.new HN.out)).mono ?_;rintro e w1 ⟨rfl,hn⟩;replace BA:=bW BA hn;replace HN:=tW HN hn;clear hn;go_wp2_with fail;refine (pwhen_new d 5 _).mono ?_;rintro e w2 ⟨rfl,hn⟩;rw[HN2.out];replace BA:=bW BA hn;replace HN:=tW HN hn;clear hn;go_wp2_with fail;have HN0:=HN;clear HN;obtain ⟨BG,HN⟩:=lay1 w2 29 #[.int .i64 n,.int .i64 n2];replace BA:=hid (BA.out.new HN.out);have HN_:=HN0.out.trans HN.out;clear HN HN0;have HN:=hid HN_;clear HN_;refine (pfirst2_new n n2 _ _ 29 _ BG.out).mono ?_;rintro e w3 ⟨rfl,hn⟩;rw[HM.out];replace BA:=bW BA hn;replace HN:=tW HN hn;clear hn;go_wp2_with fail;go_ret2;exact ⟨_,rfl,HN.out,World.ownsRow_nil _ _ _ _⟩
theorem Clipped_err (b s z:Int) (g o:ByteArray) (a:Option Addr) (cap len:Nat) (m:Int) (h0:m≠0) (w:World)
  (hcodes:∀ W,New w W→Calls Tryz.prog 29 #[adcV b s z g o,.slice a len cap] W (RowPost W 3 (ints []) m)):
  Calls Tryz.prog 31 #[adcV b s z g o,.slice a len cap] w (RowPostS w 95 2 0 (pairs []) m):=by
 have ht:(m != 0)=true:=by simpa using h0
 unfold adcV at *;have HCODES:=hid hcodes;have H0:=hid h0;clear hcodes h0;go_enter Tryz.func31,Tryz.ntmps31;go_wp2_with fail;obtain ⟨BA,HN⟩:=lay1 w 32 #[.int .i64 b,.int .i64 s,.int .i64 z,.string g,.string o];refine (HCODES.out _ HN.out).mono ?_;rintro e w1 ⟨v,rfl,hn,ho⟩;clear ho;replace HN:=tW HN hn;clear hn;go_wp2_with fail;go_ret2;exact ⟨_,rfl,HN.out,World.ownsRow_nil _ _ _ _⟩
end Go.Proofs.YtbkcjmojgglbkaaGreatDoor
