/- Part CardDn01. -/
import Derived.Test.YtnjonlnemagomaaGreatDoorA36
namespace Go.Proofs.YtnjonlnemagomaaGreatDoor
open Go.RowKit Big
open Go.Lib (hid)
set_option maxRecDepth 100000
set_option maxHeartbeats 8000000
structure Dealt (n:Nat)(f:Nat→Int):Prop where
 lo:∀ i,i < n→0≤f i
 hi:∀ i,i < n→f i < n
 inj:∀ i j,i < n→j < n→f i=f j→i=j
theorem Dealt.swap {n:Nat}{f:Nat→Int}(h:Dealt n f){a b:Nat}(ha:a < n)(hb:b < n):Dealt n (swapF f a b):=by
 have key:∀ i,i < n→∃ k,k < n∧swapF f a b i=f k∧(i=a∧k=b∨i≠a∧i=b∧k=a∨i≠a∧i≠b∧k=i):=by
  intro i hi;by_cases h1:i=a
  ·exact ⟨b,hb,by rw[h1,swapF_a],.inl ⟨h1,rfl⟩⟩
  ·by_cases h2:i=b
   ·exact ⟨a,ha,by rw[h2,swapF_b],.inr (.inl ⟨h1,h2,rfl⟩)⟩
   ·exact ⟨i,hi,swapF_o f h1 h2,.inr (.inr ⟨h1,h2,rfl⟩)⟩
 refine ⟨fun i hi=>?_,fun i hi=>?_,fun i j hi hj e=>?_⟩
 ·obtain ⟨k,hk,e, -⟩:=key i hi;rw[e];exact h.lo k hk
 ·obtain ⟨k,hk,e, -⟩:=key i hi;rw[e];exact h.hi k hk
 ·obtain ⟨k,hk,e1,h1⟩:=key i hi;obtain ⟨l,hl,e2,h2⟩:=key j hj;rw[e1,e2] at e;have:=h.inj k l hk hl e;omega
theorem drawGo_dealt {n:Nat}:∀ (i x:Nat) (f:Nat→Int),i < n→Dealt n f→Dealt n (drawGo i x f)
 | 0,_,_,_,h=>h
 | i+1,x,f,hi,h=>drawGo_dealt i _ _ (by omega) (h.swap hi (Nat.lt_of_lt_of_le (Nat.mod_lt _ (by omega)) (by omega)))
theorem dealt_id (n:Nat):Dealt n fun i=>(i:Int):=⟨fun _ _=>by omega,fun _ _=>by omega,fun _ _ _ _ h=>by omega⟩
theorem drawF_dealt {key n:Nat}:Dealt n (drawF key n):=by
 rcases Nat.eq_zero_or_pos n with h | h
 ·subst h;exact ⟨fun _ h=>by omega,fun _ h=>by omega,fun _ _ h=>by omega⟩
 ·exact drawGo_dealt _ _ _ (by omega) (dealt_id n)
theorem drawGo_top:∀ (i x:Nat) (f:Nat→Int) {j:Nat},i < j→drawGo i x f j=f j
 | 0,_,_,_,_=>rfl
 | i+1,x,f,j,h=>by
  show drawGo i _ _ j=f j;rw[drawGo_top i _ _ (by omega),swapF_o f (by omega)];have:=Nat.mod_lt (drawX x) (show 0 < i+2 by omega);omega
theorem drawF_last {key n:Nat}(h:2≤n):drawF key n (n - 1)=((drawX key % n:Nat):Int):=by
 obtain ⟨m,rfl⟩:∃ m,n=m+2:=⟨n - 2,by omega⟩;show drawGo m _ (swapF _ (m+1) (drawX key % (m+2))) (m+1)=_;rw[drawGo_top _ _ _ (by omega),swapF_a]
theorem sum_nonneg {l:List Int}(h:∀ y∈l,0≤y):0≤l.sum:=by
 induction l with
 | nil=>simp
 | cons z l ih=>
  have h1:=ih (fun u hu=>h u (by simp[hu]));have h2:=h z (by simp);rw[List.sum_cons];omega
theorem maxL_zero {l:List Int}(h:∀ y∈l,0≤y):∀ x:Int,0≤x→(maxL x l=0 ↔ x+l.sum=0):=by
 induction l with
 | nil=>intro x hx;simp[maxL]
 | cons y l ih=>
  intro x hx;have hy:=h y (by simp);have ih:=ih (fun z hz=>h z (by simp[hz]));have hs:=sum_nonneg (l:=l) fun z hz=>h z (List.mem_cons_of_mem _ hz);show maxL (if y > x then y else x) l=0 ↔ x+(y::l).sum=0;rw[List.sum_cons];split
  ·rw[ih y hy];omega
  ·rw[ih x hx];omega
theorem rcheckDraw_calls (key n:Int)(w:World):Calls Tryz.prog 28 #[.int .i64 key,.int .i64 n] w fun e w'=>e=.returned (.int .i64 (if key < 1∨2147483398 < key∨n < 0∨256 < n then 3 else 0))∧w'=w:=by
 by_cases h1:key < 1
 ·rw[if_pos (Or.inl h1)];go_enter Tryz.func28,Tryz.ntmps28;go_wp2_with fail;go_ret;exact ⟨rfl,rfl⟩
 ·by_cases h2:2147483398 < key
  ·rw[if_pos (Or.inr (Or.inl h2))];go_enter Tryz.func28,Tryz.ntmps28;go_wp2_with fail;go_ret;exact ⟨rfl,rfl⟩
  ·by_cases h3:n < 0
   ·rw[if_pos (Or.inr (Or.inr (Or.inl h3)))];go_enter Tryz.func28,Tryz.ntmps28;go_wp2_with fail;go_ret;exact ⟨rfl,rfl⟩
   ·by_cases h4:256 < n
    ·rw[if_pos (Or.inr (Or.inr (Or.inr h4)))];go_enter Tryz.func28,Tryz.ntmps28;go_wp2_with fail;go_ret;exact ⟨rfl,rfl⟩
    ·rw[if_neg (by omega)];go_enter Tryz.func28,Tryz.ntmps28;go_wp2_with fail;go_ret;exact ⟨rfl,rfl⟩
theorem rcheckWeights_calls (a:Option Addr)(cap n:Nat)(f:Nat→Int)(w:World)(hl:n≤1000000)(hr:RdL w a (ints ((List.range n).map f))):Calls Tryz.prog 24 #[.slice a n cap] w fun e w'=>∃ E:Int,e=.returned (.int .i64 E)∧New w w'∧(E=0→0 < n∧(∀ i,i < n→0≤f i∧f i≤999999999)∧sumTo f n≠0):=by
 have hni:(n:Int)≤1000000:=by omega
 by_cases h0:(n:Int)=0
 ·have hb:((n:Int)==0)=true:=beq_iff_eq.2 h0;clear hr;go_enter Tryz.func24,Tryz.ntmps24;go_wp2_with fail;go_ret;exact ⟨12,rfl,New.refl _,fun h=>absurd h (by decide)⟩
 ·have hb:((n:Int)==0)=false:=beq_false_of_ne h0;by_cases h1:(256:Int) < n
  ·clear hr;go_enter Tryz.func24,Tryz.ntmps24;go_wp2_with fail;go_ret;exact ⟨5,rfl,New.refl _,fun h=>absurd h (by decide)⟩
  ·skip
   have HR:=hid hr;clear hr;go_enter Tryz.func24,Tryz.ntmps24;go_wp2_with fail;go_loopw [3,4] (fun s i wr=>∃ (k:Nat),k≤n∧s=.int .i64 (sumTo f k)∧i=.int .i64 (k:Int)∧Hid (∀ i,i < k→0≤f i∧f i≤999999999)∧Hid (New w wr)) (fun s i _=>n - (intOf i).toNat)
   case atStart=>exact ⟨0,Nat.zero_le _,rfl,rfl,hid (fun i h=>absurd h (Nat.not_lt_zero i)),hid (New.refl _)⟩
   case round=>
    obtain ⟨k,hk,rfl,rfl,HALL,HN⟩:=hrel;have hs0:=sumTo_nonneg (fun i hi=>(HALL.out i hi).1);have hs1:=sumTo_bd (fun i hi=>(HALL.out i hi).2);obtain ⟨S,hS⟩:∃ S,sumTo f k=S:=⟨_,rfl⟩;rw[hS] at hs0 hs1⊢
    have hs2:S≤999999999*256:=by omega
    clear hs1;by_cases hlt:k < n
    ·obtain ⟨b1,off1,rfl,hc1⟩:=HR.out.int k (by simpa using hlt);rw[show ((List.range n).map f)[k]'(by simpa using hlt)=f k by simp] at hc1;replace hc1:=HN.out.cell hc1;obtain ⟨x,hx⟩:∃ x,f k=x:=⟨_,rfl⟩;rw[hx] at hc1;by_cases g1:x < 0
     ·skip
      have HX:=hid hx;have HS:=hid hS;clear hx hS;go_wp2_with fail;go_ret;exact ⟨3,rfl,HN.out,fun h=>absurd h (by decide)⟩
     ·by_cases g2:999999999 < x
      ·skip
       have HX:=hid hx;have HS:=hid hS;clear hx hS;go_wp2_with fail;go_ret;exact ⟨3,rfl,HN.out,fun h=>absurd h (by decide)⟩
      ·skip
       have HX:=hid hx;have HS:=hid hS;clear hx hS;go_wp2_with fail;go_roundw
       case rel=>
        refine ⟨k+1,by omega,?_,by go_num,hid (fun i hi=>?_),HN⟩
        ·rw[show sumTo f (k+1)=S+x by rw[←HS.out,←HX.out];rfl]
        ·rcases Nat.lt_or_ge i k with h | h
         ·exact HALL.out i h
         ·rw[show i=k by omega,HX.out];omega
       case measure=>simp[intOf];omega
    ·have hkk:k=n:=by omega
     by_cases g:S=0
     ·have hbs:(S==0)=true:=beq_iff_eq.2 g;have HKK:=hid hkk;have HS:=hid hS;clear hkk hS;go_wp2_with fail;go_ret;exact ⟨6,rfl,HN.out,fun h=>absurd h (by decide)⟩
     ·have hbs:(S==0)=false:=beq_false_of_ne g;have HKK:=hid hkk;have HS:=hid hS;clear hkk hS;go_wp2_with fail;go_ret;refine ⟨0,rfl,HN.out,fun _=>⟨by omega,?_,?_⟩⟩
      ·rw[←HKK.out];exact HALL.out
      ·rw[←HKK.out,HS.out];exact g
theorem isOrder_calls (a:Option Addr)(cap n:Nat)(f:Nat→Int)(w:World)(hl:n≤1000000)(hd:Dealt n f)(hr:RdL w a (ints ((List.range n).map f))):Calls Tryz.prog 48 #[.slice a n cap] w fun e w'=>e=.returned (.bool true)∧New w w':=by
 have hni:(n:Int)≤1000000:=by omega
 have HR:=hid hr;have HD:=hid hd;clear hr hd;go_enter Tryz.func48,Tryz.ntmps48;go_wp2_with fail;go_loopw [3] (fun i wr=>∃ (k:Nat),k≤n∧i=.int .i64 (k:Int)∧Hid (New w wr)) (fun i _=>n - (intOf i).toNat)
 case atStart=>exact ⟨0,Nat.zero_le _,rfl,hid (New.refl _)⟩
 case round=>
  obtain ⟨k,hk,rfl,HN⟩:=hrel;by_cases hlt:k < n
  ·obtain ⟨b1,off1,rfl,hc1⟩:=HR.out.int k (by simpa using hlt);rw[show ((List.range n).map f)[k]'(by simpa using hlt)=f k by simp] at hc1;replace hc1:=HN.out.cell hc1;have hx1:=HD.out.lo k hlt;have hx2:=HD.out.hi k hlt;obtain ⟨x,hx⟩:∃ x,f k=x:=⟨_,rfl⟩;rw[hx] at hc1 hx1 hx2
   have hx3:¬x < 0:=by omega
   have hx4:¬(n:Int)≤x:=by omega
   have HX:=hid hx;clear hx;go_wp2_with fail;go_loopw [4] (fun j wr=>∃ (m:Nat),m≤k∧j=.int .i64 (m:Int)∧Hid (New w wr)) (fun j _=>k - (intOf j).toNat)
   case atStart=>exact ⟨0,Nat.zero_le _,rfl,HN⟩
   case round=>
    obtain ⟨m,hm,rfl,HM⟩:=hrel;clear hc1;by_cases hmk:m < k
    ·obtain ⟨b2,off2,e2,hc2⟩:=HR.out.int m (by simp;omega);rw[show ((List.range n).map f)[m]'(by simp;omega)=f m by simp] at hc2;simp at e2;obtain ⟨rfl,rfl⟩:=e2;obtain ⟨b3,off3,e3,hc3⟩:=HR.out.int k (by simp;omega);rw[show ((List.range n).map f)[k]'(by simp;omega)=f k by simp,HX.out] at hc3;simp at e3;obtain ⟨rfl,rfl⟩:=e3;replace hc2:=HM.out.cell hc2;replace hc3:=HM.out.cell hc3;obtain ⟨y,hy⟩:∃ y,f m=y:=⟨_,rfl⟩;rw[hy] at hc2;have hne:(y==x)=false:=beq_false_of_ne (fun e=>absurd (HD.out.inj m k (by omega) hlt (by rw[hy,HX.out,e])) (by omega));have HY:=hid hy;clear hy;go_wp2_with fail
     go_quiet (fail)
     go_wp2_with fail;go_roundw
     case rel=>exact ⟨m+1,by omega,by go_num,hid (HM.out.drewN nq)⟩
     case measure=>simp[intOf];omega
    ·have hmk2:m=k:=by omega
     have HMK:=hid hmk2;clear hmk2;go_wp2_with fail;go_roundw
     case rel=>exact ⟨k+1,by omega,by go_num,HM⟩
     case measure=>simp[intOf];omega
  ·have hkk:k=n:=by omega
   have HKK:=hid hkk;clear hkk;go_wp2_with fail;go_ret;exact ⟨rfl,HN.out⟩
theorem carry_sorted {r:Nat→Int}{n i:Nat}(hi:i < n):∀ (j:Nat) (f:Nat→Nat),Carry r n i j f→∃ g,SortedTo r n (i+1) g
 | 0,f,h=>⟨f,h.done hi (fun k e=>absurd e (by omega))⟩
 | j+1,f,h=>by
  by_cases hr:r (f j) < r i
  ·exact carry_sorted hi j _ (h.move hi hr)
  ·exact ⟨f,h.done hi (fun k e=>by obtain rfl:j=k:=(by omega);omega)⟩
theorem exists_sortedTo (r:Nat→Int)(n:Nat):∀ i,1≤i→i≤n→∃ f,SortedTo r n i f
 | 0,h,_=>absurd h (by omega)
 | i+1,_,h=>by
  rcases Nat.eq_zero_or_pos i with h0 | h0
  ·subst h0;exact ⟨_,SortedTo.start r n⟩
  ·obtain ⟨f,hf⟩:=exists_sortedTo r n i h0 (by omega);exact carry_sorted (by omega) i f (hf.carry (by omega))
theorem exists_sorted (r:Nat→Int){n:Nat}(h:0 < n):∃ f,Sorted r n f:=by
 obtain ⟨f,hf⟩:=exists_sortedTo r n n h (Nat.le_refl n);exact ⟨f,hf.all⟩
theorem cnt_mono {P Q:Nat→Bool}:∀ {n:Nat},(∀ i,i < n→P i=true→Q i=true)→cnt P n≤cnt Q n
 | 0,_=>Nat.le_refl 0
 | n+1,h=>by
  have h1:=cnt_mono (n:=n) (fun i hi=>h i (by omega));show cnt P n+(if P n=true then 1 else 0)≤cnt Q n+(if Q n=true then 1 else 0);by_cases hp:P n=true
  ·rw[if_pos hp,if_pos (h n (by omega) hp)];omega
  ·rw[if_neg hp];split <;> omega
theorem rank_mono {r:Nat→Int}{n i k:Nat}(h:before r i k=true):rank r n i≤rank r n k:=cnt_mono fun _ _ hj=>before_trans hj h
theorem rank_count {r:Nat→Int}{n L:Nat}(h0:0 < n)(h:L≤n):cnt (fun i=>decide (rank r n i < L)) n=L:=by
 obtain ⟨f,hf⟩:=exists_sorted r h0;rw[←hf.perm (fun i=>decide (rank r n i < L)),cnt_congr (Q:=fun q=>decide (q < L)),cnt_lt_id h];intro p hp;show decide (rank r n (f p) < L)=decide (p < L);rw[hf.rank hp]
theorem sum_ind {P:Nat→Bool}:∀ n,sumTo (fun i=>if P i=true then 1 else 0) n=(cnt P n:Int)
 | 0=>rfl
 | n+1=>by
  show sumTo _ n+(if P n=true then (1:Int) else 0)=((cnt P n+(if P n=true then 1 else 0):Nat):Int);rw[sum_ind n];split <;> simp
theorem sum_pos_le {g:Nat→Int}{S:Int}:∀ {n:Nat},(∀ i,i < n→0≤g i∧g i < S)→sumTo g n≤S*(cnt (fun i=>decide (0 < g i)) n:Int)
 | 0,_=>by show (0:Int)≤S*0;rw[Int.mul_zero];exact Int.le_refl _
 | n+1,h=>by
  have h1:=sum_pos_le (n:=n) (fun i hi=>h i (by omega));have h2:=h n (by omega);show sumTo g n+g n≤S*((cnt (fun i=>decide (0 < g i)) n+(if decide (0 < g n)=true then 1 else 0):Nat):Int);by_cases hp:0 < g n
  ·rw[if_pos (decide_eq_true hp),Int.natCast_add,Int.mul_add];show _≤_+S*1;rw[Int.mul_one];omega
  ·rw[if_neg (by simpa using hp),Nat.add_zero];omega
theorem sumTo_one_le {g:Nat→Int}{n i:Nat}(h:∀ j,j < n→0≤g j)(hi:i < n):g i≤sumTo g n:=by
 have h1:=sumTo_le (g:=g) (n:=n) h (k:=i+1) (by omega);have h2:=sumTo_nonneg (g:=g) (n:=i) (fun j hj=>h j (by omega));have h3:sumTo g (i+1)=sumTo g i+g i:=rfl;omega
section
variable {T:Int} {w:Nat→Int} {n:Nat}
def extra (T:Int)(w:Nat→Int)(n i:Nat):Int:=if (rank (fun j=>T*w j % sumTo w n) n i:Int) < leftOver T w n then 1 else 0
theorem share_eq (T:Int)(w:Nat→Int)(n i:Nat):share T w n i=T*w i / sumTo w n+extra T w n i:=rfl
theorem extra_bd (T:Int)(w:Nat→Int)(n i:Nat):0≤extra T w n i∧extra T w n i≤1:=by unfold extra;split <;> omega
theorem extra_pos (hn:0 < n)(hS:0 < sumTo w n){i:Nat}(h:extra T w n i=1):0 < T*w i % sumTo w n:=by
 obtain ⟨h1,h2,h3⟩:=left_bounds (T:=T) hn hS
 have hlt:(rank (fun j=>T*w j % sumTo w n) n i:Int) < leftOver T w n:=by
  unfold extra at h;by_cases g:(rank (fun j=>T*w j % sumTo w n) n i:Int) < leftOver T w n
  ·exact g
  ·rw[if_neg g] at h;omega
 rcases Int.lt_or_le 0 (T*w i % sumTo w n) with g | g
 ·exact g
 ·exfalso;have h4:=sum_pos_le (g:=fun i=>T*w i % sumTo w n) (S:=sumTo w n) (n:=n) (fun j _=>⟨Int.emod_nonneg _ (by omega),Int.emod_lt_of_pos _ hS⟩);rw[←h3] at h4;have h5:=Int.le_of_mul_le_mul_left h4 hS;have h6:cnt (fun i=>decide (0 < T*w i % sumTo w n)) n≤rank (fun j=>T*w j % sumTo w n) n i:=cnt_mono fun j _ hj=>before_iff.2 (.inl (by have:=of_decide_eq_true hj;show T*w i % sumTo w n < T*w j % sumTo w n;omega));omega
theorem shares_sum (hn:0 < n)(hS:0 < sumTo w n):sumTo (share T w n) n=T:=by
 obtain ⟨h1,h2,h3⟩:=left_bounds (T:=T) hn hS
 have e:sumTo (share T w n) n=sumTo (fun i=>T*w i / sumTo w n) n+sumTo (extra T w n) n:=by
  rw[←sumTo_add];rfl
 obtain ⟨L,hL⟩:∃ L:Nat,leftOver T w n=L:=⟨(leftOver T w n).toNat,by omega⟩
 have e2:sumTo (extra T w n) n=(L:Int):=by
  rw[sumTo_congr (h:=fun i=>if decide (rank (fun j=>T*w j % sumTo w n) n i < L)=true then 1 else 0)]
  ·rw[sum_ind,rank_count hn (by omega)]
  ·intro i _;unfold extra;rw[hL];by_cases g:rank (fun j=>T*w j % sumTo w n) n i < L
   ·rw[if_pos (by omega),if_pos (decide_eq_true g)]
   ·rw[if_neg (by omega),if_neg (by simpa using g)]
 rw[e,e2,←hL];unfold leftOver;omega
theorem share_nonneg (hT:0≤T)(hw:∀ i,i < n→0≤w i)(hS:0 < sumTo w n){i:Nat}(hi:i < n):0≤share T w n i:=by
 rw[share_eq];have:=extra_bd T w n i;have:=Int.ediv_nonneg (Int.mul_nonneg hT (hw i hi)) (by omega:0≤sumTo w n);omega
theorem share_le (hT:0≤T)(hw:∀ i,i < n→0≤w i)(hS:0 < sumTo w n){i:Nat}(hi:i < n):share T w n i≤T:=by
 have h:=sumTo_one_le (g:=share T w n) (n:=n) (fun j hj=>share_nonneg hT hw hS hj) hi
 rwa [shares_sum (by omega) hS] at h
theorem share_near (hn:0 < n)(hS:0 < sumTo w n)(i:Nat):T*w i - sumTo w n < share T w n i*sumTo w n∧share T w n i*sumTo w n < T*w i+sumTo w n:=by
 have h1:=Int.mul_ediv_add_emod (T*w i) (sumTo w n);have h2:=Int.emod_lt_of_pos (T*w i) hS;have h3:=Int.emod_nonneg (T*w i) (by omega:sumTo w n≠0);have h4:=extra_bd T w n i
 have h5:share T w n i*sumTo w n=sumTo w n*(T*w i / sumTo w n)+extra T w n i*sumTo w n:=by
  rw[share_eq,Int.add_mul,Int.mul_comm]
 rcases (by omega:extra T w n i=0∨extra T w n i=1) with g | g
 ·rw[g,Int.zero_mul] at h5;omega
 ·have h6:=extra_pos hn hS g;rw[g,Int.one_mul] at h5;omega
theorem share_mono (hn:0 < n)(hT:0≤T)(hS:0 < sumTo w n){i k:Nat}(h:w k < w i):share T w n k≤share T w n i:=by
 have hm:T*w k≤T*w i:=Int.mul_le_mul_of_nonneg_left (by omega) hT;have hq:=Int.ediv_le_ediv hS hm;have e1:=extra_bd T w n i;have e2:=extra_bd T w n k;rw[share_eq,share_eq];rcases Int.lt_or_eq_of_le hq with g | g
 ·omega
 ·have a1:=Int.mul_ediv_add_emod (T*w i) (sumTo w n);have a2:=Int.mul_ediv_add_emod (T*w k) (sumTo w n);rw[←g] at a1
  have hle:T*w k % sumTo w n≤T*w i % sumTo w n:=by omega
  suffices extra T w n k≤extra T w n i by omega
  rcases (by omega:extra T w n k=0∨extra T w n k=1) with x | x
  ·omega
  ·have hp:=extra_pos hn hS x
   have hlt:T*w k % sumTo w n < T*w i % sumTo w n:=by
    rcases Int.lt_or_eq_of_le hT with t | t
    ·have:T*w k < T*w i:=Int.mul_lt_mul_of_pos_left h t;omega
    ·rw[←t,Int.zero_mul,Int.zero_emod] at hp;omega
   have hr:=rank_mono (r:=fun j=>T*w j % sumTo w n) (n:=n) (before_iff.2 (.inl hlt))
   have hx:(rank (fun j=>T*w j % sumTo w n) n k:Int) < leftOver T w n:=by
    unfold extra at x;by_cases y:(rank (fun j=>T*w j % sumTo w n) n k:Int) < leftOver T w n
    ·exact y
    ·rw[if_neg y] at x;omega
   have hy:extra T w n i=1:=by
    unfold extra;rw[if_pos (by omega)]
   omega
end
end Go.Proofs.YtnjonlnemagomaaGreatDoor
