/- Part CardDn02. -/
import Derived.Test.YtnjonlnemagomaaGreatDoorA38
import Derived.Test.YtnjonlnemagomaaGreatDoorCardDn01
namespace Go.Proofs.YtnjonlnemagomaaGreatDoor
open Go.RowKit Big
open Go.Lib (hid)
set_option maxRecDepth 100000
set_option maxHeartbeats 8000000
theorem Box.deal {w:World}{B:Nat}{t:TypeId}{x y z u:Value}(h:Box w B t #[x,y,z,u]):w.cell? ⟨B,0,none⟩=some x∧w.cell? ⟨B,1,none⟩=some y∧w.cell? ⟨B,2,none⟩=some z∧w.cell? ⟨B,3,none⟩=some u:=⟨h.cell 0,h.cell 1,h.cell 2,h.cell 3⟩
structure DealOk (T key num:Int)(n:Nat)(f:Nat→Int):Prop where
 t0:0≤T
 t1:T≤100000
 n0:0 < n
 n1:n≤12
 fw:∀ i,i < n→0≤f i∧f i≤999999999
 s:sumTo f n≠0
 m0:0≤num
 m1:num≤40
 k0:1≤key
 k1:key≤2147483398
theorem sumTo_sum (f:Nat→Int):∀ n,((List.range n).map f).sum=sumTo f n
 | 0=>rfl
 | n+1=>by rw[map_succ,List.sum_append,sumTo_sum f n];show sumTo f n+(f n+0)=sumTo f n+f n;omega
theorem sumTo_bound {g:Nat→Int}(c:Int):∀ {n:Nat},(∀ i,i < n→g i≤c)→sumTo g n≤c*n
 | 0,_=>by show (0:Int)≤c*0;rw[Int.mul_zero];exact Int.le_refl _
 | n+1,h=>by
  have h1:=sumTo_bound c (n:=n) (fun i hi=>h i (by omega));have h2:=h n (by omega);show sumTo g n+g n≤c*((n+1:Nat):Int);rw[Int.natCast_add,Int.mul_add];show _≤_+c*1;omega
theorem weights_ok {n:Nat}{f:Nat→Int}(h0:0 < n)(h1:n≤256)(hw:∀ i,i < n→0≤f i∧f i≤999999999)(hs:0 < sumTo f n):weightsErr ((List.range n).map f)=0:=by
 unfold weightsErr
 have hl:((List.range n).map f).length=n:=by simp
 rw[hl,if_neg (by omega),if_neg (by omega)]
 have ho:okW ((List.range n).map f)=true:=by
  unfold okW outside;rw[List.all_eq_true];intro x hx;obtain ⟨i,hi,rfl⟩:=List.mem_map.1 hx;have:=hw i (List.mem_range.1 hi);simp;omega
 rw[if_pos ho,if_neg];intro e
 have:=(maxL_zero (l:=(List.range n).map f) (fun y hy=>by
  obtain ⟨i,hi,rfl⟩:=List.mem_map.1 hy
  exact (hw i (List.mem_range.1 hi)).1) 0 (Int.le_refl _)).1 e
 rw[sumTo_sum]at this;omega
theorem deals_law (T key num:Int)(n cap:Nat)(f:Nat→Int)(a:Option Addr)(w:World)(he:Env w)(hr:RdL w a (ints ((List.range n).map f))):
  Calls Tryz.prog 7 #[.agg #[.int .i64 T,.slice a n cap,.int .i64 key,.int .i64 num]] w fun e w'=>e=.returned (.bool true)∧New w w':=by
 have HN:=hid (New.refl w);have HE:=hid he;have HR:=hid hr;clear he hr;go_enter Tryz.func7,Tryz.ntmps7;go_upto_region 1 with (fail);have HN0:=HN;clear HN;obtain ⟨BY,HN⟩:=lay1 w 26 #[.int .i64 T,.slice a n cap,.int .i64 key,.int .i64 num];replace HE:=hid (HE.out.new HN.out);replace HR:=hid (HR.out.new HN.out);have HN_:=HN0.out.trans HN.out;clear HN HN0;have HN:=hid HN_;clear HN_;obtain ⟨w1,hw1⟩:∃ x,w.alloc (.cells #[.int .i64 T,.slice a n cap,.int .i64 key,.int .i64 num] 26)=x:=⟨_,rfl⟩;obtain ⟨X,hX⟩:∃ x,w.heap.size=x:=⟨_,rfl⟩;rw[hw1] at BY HE HR HN⊢;rw[hX] at BY⊢;clear hw1 hX;have HM:=HN;clear HN;have HN:=hid (New.refl w1);have BY1:=BY;have HR1:=HR
 go_cut [51] (fun s wx=>∃ g:Bool,s=.bool g∧New w1 wx∧(g=false→DealOk T key num n f))
 case first=>
  go_wp2_with fail;refine (awake_calls _ HE.out).mono ?_;rintro e w2 ⟨rfl,hn⟩;replace BY:=hid (BY.out.new hn);replace HR:=hid (HR.out.new hn);replace HN:=hid (HN.out.trans hn);clear hn;obtain ⟨y0,y1,y2,y3⟩:=BY.out.deal;by_cases g1:T < 0
  ·go_wp2_with fail
   go_meet
   exact ⟨true,rfl,HN.out,fun h=>by cases h⟩
  by_cases g2:100000 < T
  ·go_wp2_with fail
   go_meet
   exact ⟨true,rfl,HN.out,fun h=>by cases h⟩
  by_cases g3:(12:Int) < (n:Int)
  ·go_wp2_with fail
   go_meet
   exact ⟨true,rfl,HN.out,fun h=>by cases h⟩
  go_wp2_with fail;refine (rcheckWeights_calls a cap n f _ (by omega) HR.out).mono ?_;rintro e w3 ⟨E,rfl,hn,hE⟩;clear y0 y1 y2 y3;replace BY:=hid (BY.out.new hn);replace HR:=hid (HR.out.new hn);replace HN:=hid (HN.out.trans hn);clear hn;obtain ⟨y0,y1,y2,y3⟩:=BY.out.deal;by_cases g4:E=0
  case neg=>
   have hb:(E != 0)=true:=by simpa using g4
   clear hE g4;go_wp2_with fail
   go_meet
   exact ⟨true,rfl,HN.out,fun h=>by cases h⟩
  subst g4;obtain ⟨q1,q2,q3⟩:=hE rfl;clear hE;have Q1:=hid q1;have Q2:=hid q2;have Q3:=hid q3;clear q1 q2 q3;by_cases g5:40 < num
  ·go_wp2_with fail
   go_meet
   exact ⟨true,rfl,HN.out,fun h=>by cases h⟩
  go_wp2_with fail;refine (rcheckDraw_calls key num _).mono ?_;by_cases g6:key < 1∨2147483398 < key∨num < 0∨256 < num
  ·rw[if_pos g6];rintro e w4 ⟨rfl,rfl⟩;clear g6;go_wp2_with fail
   go_meet
   exact ⟨true,rfl,HN.out,fun h=>by cases h⟩
  rw[if_neg g6];rintro e w4 ⟨rfl,rfl⟩;have hok:DealOk T key num n f:=⟨by omega,by omega,Q1.out,by omega,Q2.out,Q3.out,by omega,by omega,by omega,by omega⟩;clear g6;have HOK:=hid hok;clear hok;have d1:=decide_eq_false (show ¬T < 0 by omega);have d2:=decide_eq_false (show ¬100000 < T by omega);have d3:=decide_eq_false (show ¬(12:Int) < (n:Int) by omega);have d5:=decide_eq_false (show ¬40 < num by omega);go_wp2_with fail
  go_meet
  exact ⟨false,rfl,HN.out,fun _=>HOK.out⟩
 case rest=>
  clear HN BY HR;obtain ⟨g,rfl,hN,hok⟩:=hcut;obtain ⟨w5,hw5⟩:∃ x,wc=x:=⟨_,rfl⟩;rw[hw5] at hN⊢;have HN:=hid hN;clear hN hw5;have HOK:=hid hok;clear hok
  go_step
  cases g with
  | true=>
   go_wp2_with fail;refine (awake_calls _ (HE.out.new HN.out)).mono ?_;rintro e w99 ⟨rfl,hn⟩;replace HN:=hid (HN.out.trans hn);clear hn;go_wp2_with fail;go_ret;exact ⟨rfl,HM.out.trans HN.out⟩
  | false=>
   obtain ⟨t0,t1,n0,n1,hf,hs,m0,m1,k0,k1⟩:=HOK.out rfl;clear HOK;obtain ⟨tn,rfl⟩:∃ t:Nat,T=t:=⟨T.toNat,by omega⟩;obtain ⟨kn,rfl⟩:∃ t:Nat,key=t:=⟨key.toNat,by omega⟩;obtain ⟨nn,rfl⟩:∃ t:Nat,num=t:=⟨num.toNat,by omega⟩
   have hnI:(n:Int)≤12:=by omega
   have BY:=hid (BY1.out.new HN.out);obtain ⟨y0,y1,y2,y3⟩:=BY.out.deal;have HF:=hid hf;have HS:=hid hs;clear hf hs;go_wp2_with fail;go_loopw [3,56] (fun s i wr=>∃ (k:Nat),k≤n∧s=.int .i64 (sumTo f k)∧i=.int .i64 (k:Int)∧Hid (∀ j,j < k→f j≤100000)∧Hid (New w1 wr)) (fun s i _=>n - (intOf i).toNat)
   case atStart=>exact ⟨0,Nat.zero_le _,rfl,rfl,hid (fun i h=>absurd h (Nat.not_lt_zero i)),HN⟩
   case round=>
    clear y0 y1 y2 y3 BY HN;obtain ⟨k,hk,rfl,rfl,HALL,HN⟩:=hrel;have BY:=hid (BY1.out.new HN.out);have hs0:=sumTo_nonneg (fun i hi=>(HF.out i (Nat.lt_of_lt_of_le hi hk)).1);have hs1:=sumTo_bd (fun i hi=>(HF.out i (Nat.lt_of_lt_of_le hi hk)).2);obtain ⟨S,hS⟩:∃ S,sumTo f k=S:=⟨_,rfl⟩;rw[hS] at hs0 hs1⊢
    have hs2:S≤999999999*256:=by omega
    clear hs1;by_cases hlt:k < n
    ·obtain ⟨b1,off1,rfl,hc1⟩:=HR1.out.int k (by simpa using hlt);rw[show ((List.range n).map f)[k]'(by simpa using hlt)=f k by simp] at hc1;replace hc1:=HN.out.cell hc1;obtain ⟨v,hv⟩:∃ v,f k=v:=⟨_,rfl⟩;rw[hv] at hc1
     have hv0:0≤v∧v≤999999999:=by rw[←hv];exact HF.out k hlt
     obtain ⟨hv0,hv1⟩:=hv0;have HV:=hid hv;have HSS:=hid hS;clear hv hS;by_cases g1:100000 < v
     ·go_wp2_with fail;go_ret;exact ⟨rfl,HM.out.trans HN.out⟩
     ·go_wp2_with fail;go_roundw
      case rel=>
       refine ⟨k+1,by omega,?_,by go_num,hid (fun i hi=>?_),HN⟩
       ·rw[show sumTo f (k+1)=S+v by rw[←HSS.out,←HV.out];rfl]
       ·rcases Nat.lt_or_ge i k with h | h
        ·exact HALL.out i h
        ·rw[show i=k by omega,HV.out];omega
      case measure=>simp[intOf];omega
    ·obtain rfl:k=n:=by omega
     obtain ⟨y0,y1,y2,y3⟩:=BY.out.deal;have HSS:=hid hS;clear hS
     have hS0:0 < S:=by have:=HS.out;rw[HSS.out] at this;omega
     have hA:∀ i,i < k→0≤f i∧f i≤100000:=fun i hi=>⟨(HF.out i hi).1,HALL.out i hi⟩;have hE:=weights_ok n0 (by omega) HF.out (by rw[HSS.out];exact hS0);have HA:=hid hA;have HE0:=hid hE;clear hA hE;go_wp2_with fail;refine (nshares_calls tn k cap f a _ (by omega) n0 (by omega) HF.out (by rw[HSS.out];exact hS0) HE0.out (HR1.out.new HN.out)).mono ?_;rintro e w6 ⟨b2,c2,rfl,hn, -,hsh⟩;clear y0 y1 y2 y3 HE0 HF HALL;replace BY:=hid (BY.out.new hn);replace HN:=hid (HN.out.trans hn);clear hn;obtain ⟨y0,y1,y2,y3⟩:=BY.out.deal;obtain ⟨sh,hshd⟩:∃ g,share tn f k=g:=⟨_,rfl⟩;rw[hshd] at hsh;have HR2:=hid hsh;clear hsh
     have hkk:((k:Int) != (k:Int))=false:=by simp
     have hsum:=shares_sum (T:=(tn:Int)) (w:=f) (n:=k) n0 (by rw[HSS.out];exact hS0)
     have hlo:∀ i,i < k→0≤sh i∧sh i≤tn:=fun i hi=>by
      rw[←hshd];exact ⟨share_nonneg (by omega) (fun i hi=>(HA.out i hi).1) (by rw[HSS.out];exact hS0) hi,share_le (by omega) (fun i hi=>(HA.out i hi).1) (by rw[HSS.out];exact hS0) hi⟩
     have hnear:=fun i=>share_near (T:=(tn:Int)) (w:=f) (n:=k) n0 (by rw[HSS.out];exact hS0) i;have hmono:=fun (i j:Nat) (h:f j < f i)=>share_mono (T:=(tn:Int)) (w:=f) (n:=k) n0 (by omega) (by rw[HSS.out];exact hS0) h;rw[hshd] at hsum hnear hmono;rw[HSS.out] at hnear;clear hshd
     have hS1:S≤1200000:=by
      have h:=sumTo_bound 100000 (fun i hi=>(HA.out i hi).2);rw[HSS.out] at h;omega
     have W6:=HN;have HSUM:=hid hsum;have HLO:=hid hlo;have HNEAR:=hid hnear;have HMONO:=hid hmono;clear hsum hlo hnear hmono;go_wp2_with fail;go_loopw [8,89] (fun l i wr=>∃ (m:Nat),m≤k∧l=.int .i64 ((tn:Int) - sumTo sh m)∧i=.int .i64 (m:Int)∧Hid (New w6 wr)) (fun l i _=>k - (intOf i).toNat)
     case atStart=>exact ⟨0,Nat.zero_le _,by show Value.int .i64 (tn:Int)=.int .i64 ((tn:Int) - 0);rw[Int.sub_zero],rfl,hid (New.refl _)⟩
     case round=>
      clear y0 y1 y2 y3 BY HN;obtain ⟨m,hm,rfl,rfl,HN6⟩:=hrel;have HN:=hid (W6.out.trans HN6.out);have BY:=hid (BY1.out.new HN.out);have hl0:=sumTo_nonneg (fun i hi=>(HLO.out i (Nat.lt_of_lt_of_le hi hm)).1);have hl1:=sumTo_le (g:=sh) (n:=k) (fun i hi=>(HLO.out i hi).1) hm;rw[HSUM.out] at hl1;by_cases hlt:m < k
      ·obtain ⟨b1,off1,rfl,hc1⟩:=HR1.out.int m (by simpa using hlt);rw[show ((List.range k).map f)[m]'(by simpa using hlt)=f m by simp] at hc1;replace hc1:=HN.out.cell hc1;obtain ⟨b3,off3,rfl,hc3⟩:=HR2.out.int m (by simpa using hlt);rw[show ((List.range k).map sh)[m]'(by simpa using hlt)=sh m by simp] at hc3;replace hc3:=HN6.out.cell hc3;obtain ⟨y0,y1,y2,y3⟩:=BY.out.deal;obtain ⟨v,hv⟩:∃ v,f m=v:=⟨_,rfl⟩;obtain ⟨x,hx⟩:∃ x,sh m=x:=⟨_,rfl⟩;obtain ⟨L,hL⟩:∃ L,sumTo sh m=L:=⟨_,rfl⟩;have hL1:=sumTo_le (g:=sh) (n:=k) (fun i hi=>(HLO.out i hi).1) (show m+1≤k by omega);rw[show sumTo sh (m+1)=sumTo sh m+sh m from rfl,HSUM.out] at hL1;have hxb:=HLO.out m hlt;have hvb:=HA.out m hlt;have hnr:=HNEAR.out m;rw[hv] at hc1 hvb hnr;rw[hx] at hc3 hxb hnr;rw[hx] at hL1;rw[hL] at hl0 hl1 hL1⊢;obtain ⟨hx0,hx1⟩:=hxb;obtain ⟨hv0,hv1⟩:=hvb;obtain ⟨hq1,hq2⟩:=hnr;have hp0:0≤x*S:=Int.mul_nonneg hx0 (by omega);have hp1:(tn:Int)*v≤100000*100000:=Int.mul_le_mul t1 hv1 hv0 (by decide);have hp2:0≤(tn:Int)*v:=Int.mul_nonneg (by omega) hv0
       have ww1:IntKind.i64.wrap (x*S)=x*S:=by rw[IntKind.wrap_i64] <;> omega
       have ww2:IntKind.i64.wrap ((tn:Int)*v)=(tn:Int)*v:=by rw[IntKind.wrap_i64] <;> omega
       have ww3:IntKind.i64.wrap ((tn:Int)*v - S)=(tn:Int)*v - S:=by rw[IntKind.wrap_i64] <;> omega
       have ww4:IntKind.i64.wrap ((tn:Int)*v+S)=(tn:Int)*v+S:=by rw[IntKind.wrap_i64] <;> omega
       have c1:=decide_eq_false (show ¬x < 0 by omega);have c2':=decide_eq_false (show ¬(tn:Int) < x by omega);have c3:=decide_eq_false (show ¬x*S≤(tn:Int)*v - S by omega);have c4:=decide_eq_false (show ¬(tn:Int)*v+S≤x*S by omega);have HV:=hid hv;have HX:=hid hx;have HL:=hid hL;clear hv hx hL;go_wp2_with fail
       go_quiet (fail)
       have HQ6:=hid (HN6.out.drewN nq);obtain ⟨wq,hwq⟩:∃ x,wr.drewN nq=x:=⟨_,rfl⟩;rw[hwq] at HQ6⊢;clear hwq hc1 hc3 y0 y1 y2 y3;have HN0:=HN;have HN6_:=HN6;clear HN HN6 BY HN0 HN6_;have HN:=hid (W6.out.trans HQ6.out);have BY:=hid (BY1.out.new HN.out);obtain ⟨y0,y1,y2,y3⟩:=BY.out.deal;go_wp2_with fail;clear c1 c2' c3 c4 ww1 ww2 ww3 ww4 hp0 hp1 hp2 hq1 hq2;go_loopw [141] (fun j wr=>∃ (q:Nat),q≤k∧j=.int .i64 (q:Int)∧Hid (New w6 wr)) (fun j _=>k - (intOf j).toNat)
       case atStart=>exact ⟨0,Nat.zero_le _,rfl,HQ6⟩
       case round=>
        clear y0 y1 y2 y3 BY HN HQ6;obtain ⟨q,hq,rfl,HQ6⟩:=hrel;have HN:=hid (W6.out.trans HQ6.out);by_cases hqk:q < k
        ·obtain ⟨b1',off1',e1,hc1⟩:=HR1.out.int q (by simp;omega);rw[show ((List.range k).map f)[q]'(by simp;omega)=f q by simp] at hc1;simp at e1;obtain ⟨rfl,rfl⟩:=e1;obtain ⟨b3',off3',e3,hc3⟩:=HR2.out.int q (by simp;omega);rw[show ((List.range k).map sh)[q]'(by simp;omega)=sh q by simp] at hc3;simp at e3;obtain ⟨rfl,rfl⟩:=e3;obtain ⟨b4',off4',e4,hc4⟩:=HR2.out.int m (by simp;omega);rw[show ((List.range k).map sh)[m]'(by simp;omega)=sh m by simp,HX.out] at hc4;simp at e4;obtain ⟨rfl,rfl⟩:=e4;replace hc1:=HN.out.cell hc1;replace hc3:=HQ6.out.cell hc3;replace hc4:=HQ6.out.cell hc4;have hmo:=HMONO.out m q;rw[HV.out,HX.out] at hmo;obtain ⟨u,hu⟩:∃ u,f q=u:=⟨_,rfl⟩;obtain ⟨z,hz⟩:∃ z,sh q=z:=⟨_,rfl⟩;rw[hu] at hc1 hmo;rw[hz] at hc3 hmo;by_cases hg:u < v
         ·have hg1:=decide_eq_true hg;have hg2:=decide_eq_false (show ¬x < z by have:=hmo hg;omega);clear hmo hu hz;go_wp2_with fail
          go_quiet (fail)
          go_wp2_with fail;go_roundw
          case rel=>exact ⟨q+1,by omega,by go_num,hid (HQ6.out.drewN nq)⟩
          case measure=>simp[intOf];omega
         ·have hg1:=decide_eq_false hg;clear hmo hu hz;go_wp2_with fail
          go_quiet (fail)
          go_wp2_with fail;go_roundw
          case rel=>exact ⟨q+1,by omega,by go_num,hid (HQ6.out.drewN nq)⟩
          case measure=>simp[intOf];omega
        ·have hqk2:q=k:=by omega
         obtain ⟨b4',off4',e4,hc4⟩:=HR2.out.int m (by simp;omega);rw[show ((List.range k).map sh)[m]'(by simp;omega)=sh m by simp,HX.out] at hc4;simp at e4;obtain ⟨rfl,rfl⟩:=e4;replace hc4:=HQ6.out.cell hc4
         have ww:IntKind.i64.wrap ((tn:Int) - L - x)=(tn:Int) - L - x:=by rw[IntKind.wrap_i64] <;> omega
         have HQK:=hid hqk2;clear hqk2;go_wp2_with fail;go_roundw
         case rel=>
          refine ⟨m+1,by omega,?_,by go_num,HQ6⟩;rw[show sumTo sh (m+1)=L+x by rw[←HL.out,←HX.out];rfl]
          first | (go_num;done) | (congr 1;omega)
         case measure=>simp[intOf];omega
      ·obtain rfl:m=k:=by omega
       rw[HSUM.out,Int.sub_self];obtain ⟨y0,y1,y2,y3⟩:=BY.out.deal;go_wp2_with fail;refine (ndraw_calls kn nn (by omega) (by omega) (by omega) _).mono ?_;rintro e w7 ⟨b5,c5,rfl,hn, -,hdr⟩;clear y0 y1 y2 y3 hl0 hl1 HN6 HNEAR HMONO HLO HR2 W6;replace BY:=hid (BY.out.new hn);replace HN:=hid (HN.out.trans hn);clear hn;obtain ⟨y0,y1,y2,y3⟩:=BY.out.deal;obtain ⟨d,hd⟩:∃ g,drawF kn nn=g:=⟨_,rfl⟩
       have hdd:Dealt nn d:=by rw[←hd];exact drawF_dealt
       have hla:2≤nn→d (nn - 1)=((drawX kn % nn:Nat):Int):=fun h=>by rw[←hd];exact drawF_last h
       rw[hd]at hdr
       have hnn:((nn:Int) != (nn:Int))=false:=by simp
       clear hd;have HDD:=hid hdd;have HLA:=hid hla;have HDR:=hid hdr;clear hdd hla hdr;go_wp2_with fail;refine (isOrder_calls b5 c5 nn d _ (by omega) HDD.out HDR.out).mono ?_;rintro e w8 ⟨rfl,hn⟩;clear y0 y1 y2 y3;replace BY:=hid (BY.out.new hn);replace HDR:=hid (HDR.out.new hn);replace HN:=hid (HN.out.trans hn);clear hn;obtain ⟨y0,y1,y2,y3⟩:=BY.out.deal;by_cases h2:(nn:Int) < 2
       ·have g2:=decide_eq_true h2;go_wp2_with fail
        go_quiet (fail)
        go_wp2_with fail;go_ret;exact ⟨rfl,HM.out.trans (HN.out.drewN nq)⟩
       ·have g2:=decide_eq_false h2;obtain ⟨p,hp⟩:∃ p,nn - 1=p:=⟨_,rfl⟩
        have hpn:p < nn:=by omega
        have hpi:IntKind.i64.wrap ((nn:Int) - 1)=(p:Int):=by rw[IntKind.wrap_i64] <;> omega
        have hkm:IntKind.i64.wrap (40692*(kn:Int))=40692*(kn:Int):=by rw[IntKind.wrap_i64] <;> omega
        obtain ⟨x,q,hx,hxl,hq,hql,ht1,ht2⟩:=drawX_facts (show kn < 2147483399 by omega) (nn - 2);rw[show nn - 2+2=nn by omega] at hq hql;rw[show ((nn - 2:Nat):Int)+1+1=(nn:Int) by omega] at ht2;have hl:=HLA.out (by omega);rw[hx,hq,hp] at hl;obtain ⟨b6,off6,rfl,hc⟩:=HDR.out.int p (by simpa using hpn);rw[show ((List.range nn).map d)[p]'(by simpa using hpn)=d p by simp,hl] at hc;have hz:((nn:Int)==0)=false:=beq_false_of_ne (by omega)
        have hpi2:(p:Int) < (nn:Int):=by omega
        clear hl hx hq HLA HDD;have HP:=hid hp;have HXL:=hid hxl;have HQL:=hid hql;clear hp hxl hql;go_wp2_with fail
        go_quiet (fail)
        go_wp2_with fail;go_ret;exact ⟨rfl,HM.out.trans (HN.out.drewN nq)⟩
end Go.Proofs.YtnjonlnemagomaaGreatDoor
