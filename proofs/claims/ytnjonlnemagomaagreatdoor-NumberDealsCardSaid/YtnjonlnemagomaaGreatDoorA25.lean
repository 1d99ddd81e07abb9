/- Part A25. -/
import Derived.Test.YtnjonlnemagomaaGreatDoorA24
namespace Go.Proofs.YtnjonlnemagomaaGreatDoor
open Go.RowKit Big
open Go.Lib (hid)
set_option maxRecDepth 100000
set_option maxHeartbeats 8000000
def cnt (P:Nat→Bool):Nat→Nat
 | 0=>0
 | n+1=>cnt P n+(if P n=true then 1 else 0)
theorem cnt_congr {P Q:Nat→Bool}:∀ {n:Nat},(∀ i,i < n→P i=Q i)→cnt P n=cnt Q n
 | 0,_=>rfl
 | n+1,h=>by
  show cnt P n+_=cnt Q n+_;rw[cnt_congr (fun i hi=>h i (by omega)),h n (by omega)]
theorem cnt_le (P:Nat→Bool):∀ n,cnt P n≤n
 | 0=>Nat.le_refl _
 | n+1=>by
  have:=cnt_le P n;show cnt P n+_≤n+1;split <;> omega
theorem cnt_yes {P:Nat→Bool}{n:Nat}(h:P n=true):cnt P (n+1)=cnt P n+1:=by
 show cnt P n+(if P n=true then 1 else 0)=_;rw[if_pos h]
theorem cnt_no {P:Nat→Bool}{n:Nat}(h:P n=false):cnt P (n+1)=cnt P n:=by
 show cnt P n+(if P n=true then 1 else 0)=_;rw[if_neg (by rw[h];decide)];rfl
theorem cnt_lt_id {p:Nat}:∀ {n:Nat},p≤n→cnt (fun q=>decide (q < p)) n=p
 | 0,h=>by
  have:p=0:=by omega
  subst this;rfl
 | n+1,h=>by
  rcases Nat.lt_or_ge n p with h1 | h1
  ·have e:p=n+1:=by omega
   rw[cnt_yes (decide_eq_true h1)];have h2:cnt (fun q=>decide (q < p)) n=cnt (fun q=>decide (q < n)) n:=cnt_congr fun i hi=>decide_eq_decide.2 (by omega);rw[h2,cnt_lt_id (Nat.le_refl n),e]
  ·rw[cnt_no (decide_eq_false (by omega)),cnt_lt_id h1]
theorem cnt_one {P:Nat→Bool}{p:Nat}:∀ {n:Nat},(∀ i,i < n→P i=decide (i=p))→cnt P n=if p < n then 1 else 0
 | 0,_=>rfl
 | n+1,h=>by
  have ih:=cnt_one (n:=n) (fun i hi=>h i (by omega));have hn:=h n (by omega);rcases Nat.lt_trichotomy p n with h1 | h1 | h1
  ·rw[decide_eq_false (by omega)] at hn;rw[cnt_no hn,ih,if_pos h1,if_pos (by omega)]
  ·rw[decide_eq_true h1.symm] at hn;rw[cnt_yes hn,ih,if_neg (by omega),if_pos (by omega)]
  ·rw[decide_eq_false (by omega)] at hn;rw[cnt_no hn,ih,if_neg (by omega),if_neg (by omega)]
theorem cnt_pos {P:Nat→Bool}:∀ {n:Nat},0 < cnt P n→∃ i,i < n∧P i=true
 | 0,h=>absurd h (Nat.lt_irrefl 0)
 | n+1,h=>by
  by_cases hp:P n=true
  ·exact ⟨n,by omega,hp⟩
  ·have h2:0 < cnt P n+(if P n=true then 1 else 0):=h;rw[if_neg hp] at h2;obtain ⟨i,hi,hq⟩:=cnt_pos (n:=n) h2;exact ⟨i,by omega,hq⟩
def swapF {α:Type}(f:Nat→α)(a b:Nat):Nat→α:=fun i=>if i=a then f b else if i=b then f a else f i
theorem swapF_a {α:Type}(f:Nat→α)(a b:Nat):swapF f a b a=f b:=if_pos rfl
theorem swapF_b {α:Type}(f:Nat→α)(a b:Nat):swapF f a b b=f a:=by
 unfold swapF;by_cases h:b=a
 ·rw[if_pos h,h]
 ·rw[if_neg h,if_pos rfl]
theorem swapF_o {α:Type}(f:Nat→α){a b i:Nat}(h1:i≠a)(h2:i≠b):swapF f a b i=f i:=by
 unfold swapF;rw[if_neg h1,if_neg h2]
theorem cnt_swap (P:Nat→Bool){j:Nat}:∀ {n:Nat},j+1 < n→cnt (swapF P (j+1) j) n=cnt P n
 | 0,h=>absurd h (by omega)
 | n+1,h=>by
  show cnt _ n+_=cnt P n+_;rcases Nat.lt_or_ge (j+1) n with h1 | h1
  ·rw[cnt_swap P h1,swapF_o P (by omega) (by omega)]
  ·have e:n=j+1:=by omega
   subst e;show cnt _ j+_+_=cnt P j+_+_;rw[swapF_a,swapF_b,cnt_congr (Q:=P) (n:=j) (fun i hi=>swapF_o P (by omega) (by omega))];omega
def before (r:Nat→Int)(a b:Nat):Bool:=decide (r b < r a) || (decide (r a=r b) && decide (a < b))
theorem before_iff {r:Nat→Int}{a b:Nat}:before r a b=true ↔ r b < r a∨(r a=r b∧a < b):=by simp[before]
theorem before_irr (r:Nat→Int)(a:Nat):before r a a=false:=by
 rw[←Bool.not_eq_true,before_iff];omega
theorem before_asymm {r:Nat→Int}{a b:Nat}(h:before r a b=true):before r b a=false:=by
 rw[before_iff]at h;rw[←Bool.not_eq_true,before_iff];omega
theorem before_trans {r:Nat→Int}{a b c:Nat}(h:before r a b=true)(g:before r b c=true):before r a c=true:=by
 rw[before_iff]at h g⊢;omega
def rank (r:Nat→Int)(n i:Nat):Nat:=cnt (fun j=>before r j i) n
structure Sorted (r:Nat→Int)(n:Nat)(f:Nat→Nat):Prop where
 perm:∀ P:Nat→Bool,cnt (fun q=>P (f q)) n=cnt P n
 ord:∀ p q,p < q→q < n→before r (f p) (f q)=true
theorem Sorted.rank {r:Nat→Int}{n:Nat}{f:Nat→Nat}(h:Sorted r n f){p:Nat}(hp:p < n):rank r n (f p)=p:=by
 unfold Go.Proofs.YtnjonlnemagomaaGreatDoor.rank;rw[←h.perm,cnt_congr (Q:=fun q=>decide (q < p)),cnt_lt_id (by omega)];intro q hq;rcases Nat.lt_trichotomy q p with h1 | h1 | h1
 ·rw[h.ord q p h1 hp,decide_eq_true h1]
 ·rw[h1,before_irr,decide_eq_false (by omega)]
 ·rw[before_asymm (h.ord p q h1 hq),decide_eq_false (by omega)]
theorem Sorted.at {r:Nat→Int}{n:Nat}{f:Nat→Nat}(h:Sorted r n f){i:Nat}(hi:i < n):f (Go.Proofs.YtnjonlnemagomaaGreatDoor.rank r n i)=i∧Go.Proofs.YtnjonlnemagomaaGreatDoor.rank r n i < n:=by
 have h1:=h.perm (fun q=>decide (q=i));rw[cnt_one (p:=i) (fun _ _=>rfl),if_pos hi] at h1;obtain ⟨p,hp,hq⟩:=cnt_pos (n:=n) (by rw[h1];decide)
 have h2:f p=i:=by simpa using hq
 have h3:=h.rank hp;rw[h2] at h3;rw[h3];exact ⟨h2,hp⟩
theorem Sorted.first {r:Nat→Int}{n:Nat}{f:Nat→Nat}(h:Sorted r n f){i t:Nat}(hi:i < n)(ht:t≤n):cnt (fun p=>decide (f p=i)) t=if Go.Proofs.YtnjonlnemagomaaGreatDoor.rank r n i < t then 1 else 0:=by
 refine cnt_one fun p hp=>decide_eq_decide.2 ⟨fun e=>?_,fun e=>?_⟩
 ·rw[←e,h.rank (by omega)]
 ·rw[e];exact (h.at hi).1
structure Carry (r:Nat→Int)(n i j:Nat)(f:Nat→Nat):Prop where
 perm:∀ P:Nat→Bool,cnt (fun q=>P (f q)) n=cnt P n
 ji:j≤i
 here:f j=i
 ord:∀ p q,p < q→q≤i→p≠j→q≠j→before r (f p) (f q)=true
 behind:∀ q,j < q→q≤i→before r i (f q)=true
 low:∀ q,q≤i→f q≤i
 rest:∀ q,i < q→q < n→f q=q
structure SortedTo (r:Nat→Int)(n i:Nat)(f:Nat→Nat):Prop where
 perm:∀ P:Nat→Bool,cnt (fun q=>P (f q)) n=cnt P n
 ord:∀ p q,p < q→q < i→before r (f p) (f q)=true
 low:∀ q,q < i→f q < i
 rest:∀ q,i≤q→q < n→f q=q
theorem SortedTo.start (r:Nat→Int)(n:Nat):SortedTo r n 1 (fun i=>i):=⟨fun _=>rfl,fun p q _ _=>by omega,fun q h=>h,fun _ _ _=>rfl⟩
theorem SortedTo.carry {r:Nat→Int}{n i:Nat}{f:Nat→Nat}(h:SortedTo r n i f)(hi:i < n):Carry r n i i f:=
 ⟨h.perm,Nat.le_refl _,h.rest i (Nat.le_refl _) hi,fun p q h1 h2 _ h4=>h.ord p q h1 (by omega),fun q h1 h2=>by omega,fun q h1=>by
  rcases Nat.lt_or_ge q i with h2 | h2
  ·exact Nat.le_of_lt (h.low q h2)
  ·have:q=i:=by omega
   rw[this,h.rest i (Nat.le_refl _) hi];exact Nat.le_refl _,fun q h1 h2=>h.rest q (by omega) h2⟩
theorem SortedTo.all {r:Nat→Int}{n:Nat}{f:Nat→Nat}(h:SortedTo r n n f):Sorted r n f:=⟨h.perm,h.ord⟩
theorem perm_inj {n:Nat}{f:Nat→Nat}(h:∀ P:Nat→Bool,cnt (fun q=>P (f q)) n=cnt P n){p q:Nat}(hp:p < n)(hq:q < n)(hv:f p < n)(e:f p=f q):p=q:=by
 have h1:=h (fun x=>decide (x=f p));rw[cnt_one (p:=f p) (fun _ _=>rfl),if_pos hv] at h1
 have key:∀ {m a b:Nat} {P:Nat→Bool},a < b→b < m→P a=true→P b=true→2≤cnt P m:=by
  intro m
  induction m with
  | zero=>intro a b P _ h;omega
  | succ m ih=>
   intro a b P hab hb ha hb';show 2≤cnt P m+_;rcases Nat.lt_or_ge b m with h2 | h2
   ·have:=ih hab h2 ha hb';omega
   ·have e:b=m:=by omega
    subst e;rw[if_pos hb']
    have:1≤cnt P b:=by
     have key2:∀ {m:Nat},a < m→1≤cnt P m:=by
      intro m
      induction m with
      | zero=>intro h;omega
      | succ m ih2=>
       intro h;show 1≤cnt P m+_;rcases Nat.lt_or_ge a m with h3 | h3
       ·have:=ih2 h3;omega
       ·have e:a=m:=by omega
        subst e;rw[if_pos ha];omega
     exact key2 hab
    omega
 rcases Nat.lt_trichotomy p q with h2 | h2 | h2
 ·have:=key (P:=fun x=>decide (f x=f p)) h2 hq (by simp) (by simp[e]);omega
 ·exact h2
 ·have:=key (P:=fun x=>decide (f x=f p)) h2 hp (by simp[e]) (by simp);omega
theorem Carry.move {r:Nat→Int}{n i j:Nat}{f:Nat→Nat}(h:Carry r n i (j+1) f)(hi:i < n)(hr:r (f j) < r i):Carry r n i j (swapF f (j+1) j):=by
 have hji:=h.ji;refine ⟨fun P=>?_,by omega,by rw[swapF_b];exact h.here,fun p q h1 h2 h3 h4=>?_,fun q h1 h2=>?_,fun q h1=>?_,fun q h1 h2=>?_⟩
 ·rw[←h.perm P,←cnt_swap (fun q=>P (f q)) (j:=j) (n:=n) (by omega)];refine cnt_congr fun q _=>?_;unfold swapF;split
  ·rfl
  ·split <;> rfl
 ·by_cases hp:p=j+1
  ·subst hp;rw[swapF_a,swapF_o f (by omega) (by omega)];exact h.ord j q (by omega) h2 (by omega) (by omega)
  ·by_cases hq:q=j+1
   ·subst hq;rw[swapF_a,swapF_o f hp (by omega)];exact h.ord p j (by omega) (by omega) hp (by omega)
   ·rw[swapF_o f hp h3,swapF_o f hq h4];exact h.ord p q h1 h2 hp hq
 ·by_cases hq:q=j+1
  ·subst hq;rw[swapF_a,before_iff];exact .inl hr
  ·rw[swapF_o f hq (by omega)];exact h.behind q (by omega) h2
 ·by_cases hq:q=j+1
  ·rw[hq,swapF_a];exact h.low j (by omega)
  ·by_cases hq2:q=j
   ·rw[hq2,swapF_b];exact h.low (j+1) hji
   ·rw[swapF_o f hq hq2];exact h.low q h1
 ·rw[swapF_o f (by omega) (by omega)];exact h.rest q h1 h2
theorem Carry.done {r:Nat→Int}{n i j:Nat}{f:Nat→Nat}(h:Carry r n i j f)(hi:i < n)(hr:∀ k,j=k+1→r i≤r (f k)):SortedTo r n (i+1) f:=by
 have hji:=h.ji
 have low:∀ q,q≤i→q≠j→f q < i:=fun q h1 h2=>by
  have h3:=h.low q h1;rcases Nat.lt_or_ge (f q) i with h4 | h4
  ·exact h4
  ·have e:f q=f j:=by rw[h.here];omega
   exact absurd (perm_inj h.perm (by omega) (by omega) (by omega) e) h2
 have ahead:∀ p,p < j→before r (f p) i=true:=fun p hp=>by
  obtain ⟨k,rfl⟩:∃ k,j=k+1:=⟨j - 1,by omega⟩;have h1:=hr k rfl;have h2:=low k (by omega) (by omega)
  have h3:before r (f k) i=true:=by rw[before_iff];omega
  rcases Nat.lt_or_ge p k with h4 | h4
  ·exact before_trans (h.ord p k h4 (by omega) (by omega) (by omega)) h3
  ·have:p=k:=by omega
   rw[this];exact h3
 refine ⟨h.perm,fun p q h1 h2=>?_,fun q h1=>by have:=h.low q (by omega);omega,fun q h1 h2=>h.rest q (by omega) h2⟩;by_cases hp:p=j
 ·rw[hp,h.here];exact h.behind q (by omega) (by omega)
 ·by_cases hq:q=j
  ·rw[hq,h.here];exact ahead p (by omega)
  ·exact h.ord p q h1 (by omega) hp hq
def sumTo (g:Nat→Int):Nat→Int
 | 0=>0
 | n+1=>sumTo g n+g n
theorem sumTo_congr {g h:Nat→Int}:∀ {n:Nat},(∀ i,i < n→g i=h i)→sumTo g n=sumTo h n
 | 0,_=>rfl
 | n+1,e=>by
  show sumTo g n+g n=sumTo h n+h n;rw[sumTo_congr (fun i hi=>e i (by omega)),e n (by omega)]
theorem sumTo_mul (c:Int)(g:Nat→Int):∀ n,sumTo (fun i=>c*g i) n=c*sumTo g n
 | 0=>by show (0:Int)=c*0;rw[Int.mul_zero]
 | n+1=>by
  show sumTo (fun i=>c*g i) n+c*g n=c*(sumTo g n+g n);rw[sumTo_mul c g n,Int.mul_add]
theorem sumTo_add (g h:Nat→Int):∀ n,sumTo (fun i=>g i+h i) n=sumTo g n+sumTo h n
 | 0=>rfl
 | n+1=>by
  show sumTo (fun i=>g i+h i) n+(g n+h n)=sumTo g n+g n+(sumTo h n+h n);rw[sumTo_add g h n];omega
theorem sumTo_nonneg {g:Nat→Int}:∀ {n:Nat},(∀ i,i < n→0≤g i)→0≤sumTo g n
 | 0,_=>Int.le_refl _
 | n+1,h=>by
  have:=sumTo_nonneg (n:=n) (fun i hi=>h i (by omega));have:=h n (by omega);show 0≤sumTo g n+g n;omega
theorem sumTo_lt {g:Nat→Int}{S:Int}:∀ {n:Nat},0 < n→(∀ i,i < n→g i < S)→sumTo g n < S*n
 | 0,h,_=>absurd h (by decide)
 | n+1,_,h=>by
  have h1:=h n (by omega);show sumTo g n+g n < S*((n+1:Nat):Int);rw[Int.natCast_add,Int.mul_add];show _ < S*(n:Int)+S*1;rcases Nat.eq_zero_or_pos n with h2 | h2
  ·subst h2;show (0:Int)+g 0 < S*0+S*1;omega
  ·have:=sumTo_lt h2 (fun i hi=>h i (by omega));omega
theorem sumTo_le {g:Nat→Int}{n:Nat}(h:∀ i,i < n→0≤g i):∀ {k:Nat},k≤n→sumTo g k≤sumTo g n:=by
 induction n with
 | zero=>
  intro k hk
  have:k=0:=by omega
  subst this;exact Int.le_refl _
 | succ n ih=>
  intro k hk;rcases Nat.lt_or_ge n k with h1 | h1
  ·have:k=n+1:=by omega
   subst this;exact Int.le_refl _
  ·have h2:=ih (fun i hi=>h i (by omega)) h1;have h3:=h n (by omega);show sumTo g k≤sumTo g n+g n;omega
theorem cnt_full {P:Nat→Bool}:∀ {n:Nat},cnt P n=n→∀ i,i < n→P i=true
 | 0,_,i,h=>by omega
 | n+1,h,i,hi=>by
  have hle:=cnt_le P n;by_cases hp:P n=true
  ·rw[cnt_yes hp] at h;rcases Nat.lt_or_ge i n with h1 | h1
   ·exact cnt_full (by omega) i h1
   ·have:i=n:=by omega
    rw[this];exact hp
  ·rw[cnt_no (by simpa using hp)] at h;omega
theorem Sorted.lt {r:Nat→Int}{n:Nat}{f:Nat→Nat}(h:Sorted r n f){p:Nat}(hp:p < n):f p < n:=by
 have h1:=h.perm (fun x=>decide (x < n));rw[cnt_lt_id (Nat.le_refl n)] at h1;have h2:=cnt_full h1 p hp;simpa using h2
theorem sumTo_bd {g:Nat→Int}:∀ {n:Nat},(∀ i,i < n→g i≤999999999)→sumTo g n≤999999999*n
 | 0,_=>by
  show (0:Int)≤999999999*((0:Nat):Int);omega
 | n+1,h=>by
  have h1:=sumTo_bd (n:=n) (fun i hi=>h i (by omega));have h2:=h n (by omega);show sumTo g n+g n≤999999999*((n+1:Nat):Int);omega
def leftOver (T:Int)(w:Nat→Int)(n:Nat):Int:=T - sumTo (fun i=>T*w i / sumTo w n) n
theorem left_bounds {T:Int}{w:Nat→Int}{n:Nat}(hn:0 < n)(hS:0 < sumTo w n):0≤leftOver T w n∧leftOver T w n < n∧sumTo w n*leftOver T w n=sumTo (fun i=>T*w i % sumTo w n) n:=by
 unfold leftOver;obtain ⟨S,hSd⟩:∃ S,sumTo w n=S:=⟨_,rfl⟩;rw[hSd] at hS⊢
 have h1:sumTo (fun i=>S*(T*w i / S)+T*w i % S) n=T*S:=by
  rw[sumTo_congr (h:=fun i=>T*w i) (fun i _=>Int.mul_ediv_add_emod _ _),sumTo_mul,hSd]
 rw[sumTo_add,sumTo_mul]at h1;have h2:0≤sumTo (fun i=>T*w i % S) n:=sumTo_nonneg fun i _=>Int.emod_nonneg _ (by omega);have h3:sumTo (fun i=>T*w i % S) n < S*n:=sumTo_lt hn fun i _=>Int.emod_lt_of_pos _ hS
 have h4:S*(T - sumTo (fun i=>T*w i / S) n)=sumTo (fun i=>T*w i % S) n:=by
  rw[Int.mul_sub,Int.mul_comm S T];omega
 generalize sumTo (fun i=>T*w i / S) n=Q at h1 h4⊢;generalize sumTo (fun i=>T*w i % S) n=R at h1 h2 h3 h4⊢;refine ⟨?_,?_,h4⟩
 ·rcases Int.lt_or_le (T - Q) 0 with h | h
  ·have:=Int.mul_neg_of_pos_of_neg hS h;omega
  ·exact h
 ·rw[←h4] at h3;exact Int.lt_of_mul_lt_mul_left h3 (by omega)
def share (T:Int)(w:Nat→Int)(n i:Nat):Int:=T*w i / sumTo w n+(if (Go.Proofs.YtnjonlnemagomaaGreatDoor.rank (fun j=>T*w j % sumTo w n) n i:Int) < leftOver T w n then 1 else 0)
def drawX (x:Nat):Nat:=40692*x % 2147483399
def drawGo:Nat→Nat→(Nat→Int)→Nat→Int
 | 0,_,f=>f
 | i+1,x,f=>drawGo i (drawX x) (swapF f (i+1) (drawX x % (i+2)))
def drawF (key n:Nat):Nat→Int:=drawGo (n - 1) key fun i=>(i:Int)
theorem swap_upd (f:Nat→Int)(a b:Nat):updZ (updZ f a (f b)) b (f a)=swapF f a b:=by
 funext i;unfold updZ swapF;by_cases h1:i=b
 ·by_cases h2:i=a
  ·rw[if_pos h1,if_pos h2,←h1,h2]
  ·rw[if_pos h1,if_neg h2,if_pos h1]
 ·rw[if_neg h1];by_cases h2:i=a
  ·rw[if_pos h2,if_pos h2]
  ·rw[if_neg h2,if_neg h2,if_neg h1]
theorem drawX_facts {X:Nat}(h:X < 2147483399)(m:Nat):∃ x k:Nat,drawX X=x∧x < 2147483399∧x % (m+2)=k∧k < m+2∧Int.tmod (40692*(X:Int)) 2147483399=(x:Int)∧Int.tmod (x:Int) ((m:Int)+1+1)=(k:Int):=by
 refine ⟨_,_,rfl,Nat.mod_lt _ (by omega),rfl,Nat.mod_lt _ (by omega),?_,?_⟩
 ·rw[Int.tmod_eq_emod_of_nonneg (by omega)];unfold drawX;omega
 ·rw[Int.tmod_eq_emod_of_nonneg (by omega)]
  have e:((m:Int)+1+1)=((m+2:Nat):Int):=by omega
  rw[e,←Int.natCast_emod]
theorem ndraw_calls (key n:Nat)(h1:1≤key)(h2:key≤2147483398)(h3:n≤256)(w:World):Calls Tryz.prog 27 #[.int .i64 (key:Int),.int .i64 (n:Int)] w (ListPost w n (drawF key n) 0):=by
 obtain ⟨i0,hi,hz0,hz1,hz2⟩:=info_parts info_int;obtain ⟨e1,ho1⟩:∃ e,(if outside (key:Int) 1 2147483398=true then (3:Int) else 0)=e:=⟨_,rfl⟩;obtain ⟨e2,ho2⟩:∃ e,(if outside (n:Int) 0 256=true then (3:Int) else 0)=e:=⟨_,rfl⟩
 have he:(if e1=0 then e2 else e1)=0:=by
  have a1:outside (key:Int) 1 2147483398=false:=by unfold outside;simp;omega
  have a2:outside (n:Int) 0 256=false:=by unfold outside;simp;omega
  rw[←ho1,←ho2,a1,a2];rfl
 have hni:(n:Int)≤256:=by omega
 obtain ⟨F,hF⟩:∃ F,drawF key n=F:=⟨_,rfl⟩;have hstart:0 < n→drawGo (n - 1) key (fun i=>(i:Int))=F:=fun _=>hF;rw[hF];clear hF;have HO1:=hid ho1;have HO2:=hid ho2;have HE1:=hid he;have HST:=hid hstart;clear ho1 ho2 he hstart;go_enter Tryz.func27,Tryz.ntmps27;go_wp2_with fail;refine (nwithin_calls _ 1 2147483398 _).mono ?_;rintro e w' ⟨rfl,rfl⟩;rw[HO1.out];go_wp2_with fail;refine (nwithin_calls _ 0 256 _).mono ?_;rintro e w' ⟨rfl,rfl⟩;rw[HO2.out];go_wp2_with fail;refine (nfirst2 e1 e2 _ _ 32 _ (Box.alloc _ _ _ _ rfl)).mono ?_;rintro e w1 ⟨rfl,hw⟩;rw[HE1.out];have HN:=hid (show New w w1 from ((New.refl w).alloc _).trans (.of_eq hw));clear hw;go_wp2_with fail;have HW:=HN;clear HN;go_loopw [7,22] (fun v i wr=>∃ k,k≤n∧i=.int .i64 (k:Int)∧Hid (wr.ownsRow w.heap.size 3 1 v (ints (idxs k)).length (ints (idxs k)))∧Hid (New w wr)) (fun _ i _=>n - (intOf i).toNat)
 case atStart=>exact ⟨0,Nat.zero_le _,rfl,hid (World.ownsRow_nil _ _ _ _),HW⟩
 case round=>
  obtain ⟨k,hk,rfl,HO,HN⟩:=hrel;by_cases hlt:k < n
  ·have hki:(k:Int) < n:=by omega
   have hle:(ints (idxs k)).length=k:=by unfold ints;rw[List.length_map,idxs_len]
   have hk9:k≤256:=by omega
   have HLE:=hid hle;have HK9:=hid hk9;clear hle hk9;go_wp2_with (at_builtin;refine wpList_append_own _ rfl _ _ 24 rfl w.heap.size 3 i0 (.int .i64 0) 1 8 Tryz.underlying24 hi hz0 hz1 hz2 rfl (by decide) _ _ _ rfl (HO.out.alloc _) ⟨wr.heap.size,0,none⟩ 1 1 [.int .i64 (k:Int)] rfl rfl (one_c1 _ _ _) (one_c2 _) (by have:=HLE.out;have:=HK9.out;unfold maxLen;omega) (by have:=HLE.out;have:=HK9.out;omega) (by have:=HN.out.size;rw[←size_alloc];omega) ?_);intro v' w2 hown' hgrow _;have hN1:=grown_new HN.out HO.out hgrow
   have hO1:w2.ownsRow w.heap.size 3 1 v' (ints (idxs (k+1))).length (ints (idxs (k+1))):=by
    have:ints (idxs (k+1))=ints (idxs k) ++ [.int .i64 (k:Int)]:=by rw[idxs_succ];simp[ints]
    rw[this];simpa using hown'
   clear hown' hgrow;have HN1:=hid hN1;have HO1:=hid hO1;clear hN1 hO1;go_wp2_with fail;go_roundw
   case rel=>exact ⟨k+1,by omega,by go_num,HO1,HN1⟩
   case measure=>simp[intOf];omega
  ·obtain rfl:k=n:=by omega
   have hle:(ints (idxs k)).length=k:=by unfold ints;rw[List.length_map,idxs_len]
   rw[hle]at HO;rcases Nat.eq_zero_or_pos k with h0 | h0
   ·subst h0;obtain ⟨a,cap,rfl,hr, -⟩:=own_rd HO.out;clear HO;go_wp2_with fail;go_loopw [9,10] (fun x i wx=>i=.int .i64 (-1)∧Hid (wx=wr)) (fun _ _ _=>0)
    case atStart=>exact ⟨rfl,hid rfl⟩
    case round=>
     obtain ⟨rfl,HX⟩:=hrel;rw[HX.out];go_wp2_with fail;go_ret2;exact ⟨a,cap,rfl,HN.out,Nat.zero_le _,fun i hi=>by simp[ints] at hi⟩
   ·obtain ⟨g,cap,rfl,hg,hc1,hc2,hrow⟩:=RowZ.of_ownZ HO.out h0 (f:=fun i=>(i:Int)) (fun i hi=>ints_at _ hi);have hst:=HST.out h0;have HG:=hid hg;have HC:=hid hc1;clear HO hg hc1 HST;have HROW:=hid hrow;have HST:=hid hst;clear hrow hst;go_wp2_with fail;have HNW:=HN;clear HN;go_loopw [9,10] (fun x i wx=>∃ (m X:Nat) (f:Nat→Int),m < k∧X < 2147483399∧x=.int .i64 (X:Int)∧i=.int .i64 (m:Int)∧Hid (RowZ wx g 3 k f)∧Hid (drawGo m X f=F)∧Hid (New w wx)) (fun _ i _=>(intOf i).toNat)
    case atStart=>exact ⟨k - 1,key,_,by omega,by omega,rfl,by go_num,HROW,HST,HNW⟩
    case round=>
     obtain ⟨m,X,f,hm,hX,rfl,rfl,HR,HF,HN⟩:=hrel;clear HROW HST HNW;by_cases hm0:m=0
     ·subst hm0;go_wp2_with fail;go_ret2;exact ⟨_,cap,rfl,HN.out,HC.out,by rw[←HF.out];exact HR.out.rdl⟩
     ·obtain ⟨m',rfl⟩:∃ m',m=m'+1:=⟨m - 1,by omega⟩;obtain ⟨x,q,hx,hxl,hq,hql,ht1,ht2⟩:=drawX_facts hX m';have c1:=HR.out.cell (i:=m'+1) (by omega);have c2:=HR.out.cell (i:=q) (by omega);have z1:=HR.out.frozen (m'+1);have z2:=HR.out.frozen q
      have hF2:drawGo m' x (swapF f (m'+1) q)=F:=by
       have h:=HF.out;have e:drawGo (m'+1) X f=drawGo m' (drawX X) (swapF f (m'+1) (drawX X % (m'+2))):=rfl;rw[e,hx,hq] at h;exact h
      have hqk:q < k:=by omega
      have HR2:=HR.out.set (m'+1) (f q);have c3:=HR2.cell hqk;have z3:=HR2.frozen q;obtain ⟨A,hA⟩:∃ A,f (m'+1)=A:=⟨_,rfl⟩;obtain ⟨B,hB⟩:∃ A,f q=A:=⟨_,rfl⟩;rw[hA] at c1;rw[hB] at c2 c3 z3;clear HR2;obtain ⟨D,hD⟩:∃ D,updZ f (m'+1) B q=D:=⟨_,rfl⟩;rw[hD] at c3;clear hD;have c4:((wr.setCell ⟨g,m'+1,none⟩ (.int .i64 B)).drew).cell? ⟨g,q,none⟩=some (.int .i64 D):=c3;have z4:((wr.setCell ⟨g,m'+1,none⟩ (.int .i64 B)).drew).frozen? ⟨g,q,none⟩=false:=z3
      have hXi:(X:Int) < 2147483399:=by omega
      have hxi:(x:Int) < 2147483399:=by omega
      have hqi:(q:Int) < (m':Int)+1+1:=by omega
      have hmk:m'+1 < k:=hm;rw[show (((m'+1:Nat):Int))=(m':Int)+1 by omega] at *;clear hx hq hxl hql hX hm;have HF2:=hid hF2;have HA:=hid hA;have HB:=hid hB;clear hF2 hA hB;go_upto_region 16 with (fail)
      go_region
      have hrw:=((HR.out.set (m'+1) B).set q A).drew
      have e:updZ (updZ f (m'+1) B) q A=swapF f (m'+1) q:=by
       rw[←swap_upd,HA.out,HB.out]
      rw[e]at hrw;have hN:=((HN.out.setCell (p:=⟨g,m'+1,none⟩) HG.out (.int .i64 B)).setCell (p:=⟨g,q,none⟩) HG.out (.int .i64 A)).drew;clear e HR HN c1 c2 c3 c4 z1 z2 z3 z4;have HR:=hid hrw;have HN:=hid hN;clear hrw hN;go_wp2_with fail;go_roundw
      case rel=>exact ⟨m',x,_,by omega,by omega,by go_num,by go_num,HR,HF2,HN⟩
      case measure=>simp[intOf]
structure CmpOk (r:Nat→Int)(n g p1 p2 p3:Nat)(Q:World→Prop):Prop where
 new:∀ W W',Q W→New W W'→Q W'
 set:∀ W i z,Q W→Q (W.setCell ⟨g,i,none⟩ (.int .i64 z))
 call:∀ (a b:Nat) (W:World),a < n→b < n→Q W→Calls Tryz.prog 108 #[.int .i64 (a:Int),.int .i64 (b:Int),.pointer (some ⟨p1,0,none⟩),.pointer (some ⟨p2,0,none⟩),.pointer (some ⟨p3,0,none⟩)] W fun e W'=>e=.returned (.int .i64 (r b - r a))∧New W W'
def SortPost (r:Nat→Int)(n g:Nat)(Q:World→Prop)(w0:World)(e:Ending)(w':World):Prop:=e=.returned (.tuple #[])∧New w0 w'∧Q w'∧∃ f,Sorted r n f∧RowZ w' g 3 n (fun i=>((f i:Nat):Int))
theorem cast_swap (f:Nat→Nat)(a b:Nat):(fun i=>((swapF f a b i:Nat):Int))=swapF (fun i=>((f i:Nat):Int)) a b:=by
 funext i;unfold swapF;split
 ·rfl
 ·split <;> rfl
theorem insertion_calls (n cap g p1 p2 p3:Nat)(r:Nat→Int)(Q:World→Prop)(HCmp:CmpOk r n g p1 p2 p3 Q)(hn0:0 < n)(hn:n≤1000)(w0 w:World)(hN:New w0 w)(hg:w0.heap.size≤g)(hrow:RowZ w g 3 n fun i=>(i:Int))(hq:Q w):
  Calls Tryz.prog 222 #[.slice (some ⟨g,0,none⟩) n cap,.int .i64 0,.int .i64 (n:Int),.func (.func 108) #[] #[.pointer (some ⟨p1,0,none⟩),.pointer (some ⟨p2,0,none⟩),.pointer (some ⟨p3,0,none⟩)]] w (SortPost r n g Q w0):=by
 have hni:(n:Int)≤1000:=by omega
 have hcall:=HCmp.call;unfold SortPost;have HCALL:=hid hcall;have HN0:=hid hN;have HG:=hid hg;have HROW:=hid hrow;have HQ0:=hid hq;clear hcall hN hg hrow hq;go_enter Tryz.func222,Tryz.ntmps222;go_wp2_with fail;go_loopw [8] (fun i wr=>∃ (k:Nat) (f:Nat→Nat),1≤k∧k≤n∧i=.int .i64 (k:Int)∧Hid (SortedTo r n k f)∧Hid (RowZ wr g 3 n fun i=>((f i:Nat):Int))∧Hid (New w0 wr)∧Hid (Q wr)) (fun i _=>n - (intOf i).toNat)
 case atStart=>exact ⟨1,_,Nat.le_refl _,hn0,rfl,hid (SortedTo.start r n),HROW,HN0,HQ0⟩
 case round=>
  clear HROW HN0 HQ0;obtain ⟨k,f,hk1,hk,rfl,HS,HR,HN,HQ⟩:=hrel;by_cases hlt:k < n
  ·have hki:(k:Int) < n:=by omega
   have HC0:=hid (HS.out.carry hlt);clear HS;go_wp2_with fail;have HR0:=HR;have HN0:=HN;have HQ0:=HQ;clear HR HN HQ;go_loopw [9] (fun j wx=>∃ (m:Nat) (f:Nat→Nat),m≤k∧j=.int .i64 (m:Int)∧Hid (Carry r n k m f)∧Hid (RowZ wx g 3 n fun i=>((f i:Nat):Int))∧Hid (New w0 wx)∧Hid (Q wx)) (fun j _=>(intOf j).toNat)
   case atStart=>exact ⟨k,f,Nat.le_refl _,rfl,HC0,HR0,HN0,HQ0⟩
   case round=>
    clear HC0 HR0 HN0 HQ0;obtain ⟨m,f,hm,rfl,HC,HR,HN,HQ⟩:=hrel;by_cases hm0:m=0
    ·subst hm0;have hd:=HC.out.done hlt (fun k e=>by omega);have HD:=hid hd;clear hd;go_upto_region 4 with (fail)
     go_quiet (fail)
     have hQ:=HCmp.new _ _ HQ.out ((New.refl _).drewN nq);have hR:=HR.out.drewN nq;have hN:=HN.out.drewN nq;clear HQ HR HN;have HQ:=hid hQ;have HR:=hid hR;have HN:=hid hN;clear hQ hR hN;go_wp2_with fail;go_roundw
     case rel=>exact ⟨k+1,f,by omega,by omega,by go_num,HD,HR,HN,HQ⟩
     case measure=>simp[intOf];omega
    ·obtain ⟨j,rfl⟩:∃ j,m=j+1:=⟨m - 1,by omega⟩;have c1:=HR.out.cell (i:=j+1) (by omega);have c2:=HR.out.cell (i:=j) (by omega);have hh:=HC.out.here;have hl:=HC.out.low j (by omega);rw[hh] at c1;obtain ⟨v,hv⟩:∃ v,f j=v:=⟨_,rfl⟩;rw[hv] at c2 hl
     have hvn:v < n:=by omega
     have hgt:decide (((j+1:Nat):Int) > 0)=true:=decide_eq_true (by omega)
     have hjn:(j:Int)+1 < n:=by omega
     have hj1:(0:Int)≤(j:Int)+1:=by omega
     have hwj:IntKind.i64.wrap (j:Int)=j:=by rw[IntKind.wrap_i64];omega
     have hj2:(0:Int)≤(j:Int)∧(j:Int) < n:=by omega
     have hj3:(0:Int)≤(j:Int):=by omega
     have hj4:(j:Int) < n:=by omega
     rw[show (((j+1:Nat):Int))=(j:Int)+1 by omega]at *;clear hh hl;have HV:=hid hv;clear hv;go_upto_region 4 with (fail);refine wp_region_T 16 (fun W=>W.cell? ⟨g,j+1,none⟩=some (.int .i64 (k:Int))∧W.cell? ⟨g,j,none⟩=some (.int .i64 (v:Int))) 17 #[false,false,false,false,false,false,false,false,false,false,false,false,false,false,false,false,false] rfl (by kernel_rfl) (by kernel_rfl) ?_;refine tk 0 (by exact ⟨c1,c2⟩) ?_
     try simp only[PT]
     refine tk 1 (by exact ⟨c1,c2⟩) ?_
     try simp only[PT]
     refine tk 2 (by exact ⟨c1,c2⟩) ?_
     try simp only[PT]
     refine tk 3 (by exact ⟨c1,c2⟩) ?_
     try simp only[PT]
     refine tk 4 (by exact ⟨c1,c2⟩) ?_
     try simp only[PT]
     refine tk 5 (by exact ⟨c1,c2⟩) ?_
     try simp only[PT]
     refine tk 6 (by exact ⟨c1,c2⟩) ?_
     try simp only[PT]
     refine tk 7 (by exact ⟨c1,c2⟩) ?_
     try simp only[PT]
     refine tk 8 (by exact ⟨c1,c2⟩) ?_
     try simp only[PT]
     refine tk 9 (by exact ⟨c1,c2⟩) ?_
     try simp only[PT]
     refine tk 10 (by exact ⟨c1,c2⟩) ?_
     try simp only[PT]
     refine tk 11 (by exact ⟨c1,c2⟩) ?_
     try simp only[PT]
     refine tk 12 (by exact ⟨c1,c2⟩) ?_
     try simp only[PT]
     refine tk 13 (by exact ⟨c1,c2⟩) ?_
     try simp only[PT]
     refine wpT_one 14 rfl (by kernel_rfl) (fun K hK=>?_);go_simp;refine (HCALL.out _ _ _ hlt hvn (HCmp.new _ _ HQ.out (New.refl _).drew)).mono ?_;rintro e w5 ⟨rfl,hn⟩;have hn:=hn.undrew;replace c1:=hn.cell c1;replace c2:=hn.cell c2;have hQ:=HCmp.new _ _ HQ.out hn;have hR:=HR.out.new hn;clear HQ HR;have HQ:=hid hQ;have HR:=hid hR;clear hQ hR;replace HN:=hid (HN.out.trans hn);clear hn;refine hK.out _ _ (fun _=>?_) ?_
     ·exact ⟨c1,c2⟩
     clear hK K
     try simp only[PT]
     refine tk 15 (by exact ⟨c1,c2⟩) ?_
     try simp only[PT]
     refine wpT_tail rfl (by kernel_rfl) ?_;simp only[List.drop_succ_cons,List.drop_zero];by_cases hr:r v < r k
     ·have ht:decide (r v - r k < 0)=true:=decide_eq_true (by omega);have hmv:=HC.out.move hlt (by rw[HV.out];exact hr);have hrw:=(HR.out.set (j+1) (v:Int)).set j (k:Int)
      have e:updZ (updZ (fun i=>((f i:Nat):Int)) (j+1) (v:Int)) j (k:Int)=fun i=>((swapF f (j+1) j i:Nat):Int):=by
       rw[cast_swap,←swap_upd];have e1:=HC.out.here;have e2:=HV.out;rw[e1,e2]
      rw[e]at hrw;have hQ:=HCmp.set _ j (k:Int) (HCmp.set _ (j+1) (v:Int) HQ.out);have hN:=(HN.out.setCell (p:=⟨g,j+1,none⟩) HG.out (.int .i64 (v:Int))).setCell (p:=⟨g,j,none⟩) HG.out (.int .i64 (k:Int));have z1:=HR.out.frozen (j+1);have z2:=HR.out.frozen j;clear e HC HR HQ HN hr;have HC:=hid hmv;have HR:=hid hrw;have HQ:=hid hQ;have HN:=hid hN;clear hmv hrw hQ hN;go_upto_region 6 with (fail)
      go_region
      go_wp2_with fail;go_roundw
      case rel=>exact ⟨j,swapF f (j+1) j,by omega,by go_num,HC,hid HR.out.drew,hid HN.out.drew,hid (HCmp.new _ _ HQ.out (New.refl _).drew)⟩
      case measure=>simp[intOf]
     ·have ht:decide (r v - r k < 0)=false:=decide_eq_false (by omega)
      have hd:=HC.out.done hlt (fun k' e=>by
       have:k'=j:=by omega
       subst this;rw[HV.out]
       omega)
      clear hr HC;have HD:=hid hd;clear hd;go_wp2_with fail;go_roundw
      case rel=>exact ⟨k+1,f,by omega,by omega,by go_num,HD,HR,HN,HQ⟩
      case measure=>simp[intOf];omega
  ·obtain rfl:k=n:=by omega
   go_wp2_with fail
   go_end0
   exact ⟨rfl,HN.out,HQ.out,f,HS.out.all,HR.out⟩
structure CapIs (W:World)(p1 p2 p3:Nat)(T S:Int)(a:Option Addr)(n cap:Nat)(w:Nat→Int):Prop where
 c1:W.cell? ⟨p1,0,none⟩=some (.int .i64 T)
 c2:W.cell? ⟨p2,0,none⟩=some (.slice a n cap)
 c3:W.cell? ⟨p3,0,none⟩=some (.int .i64 S)
 row:RdL W a (ints ((List.range n).map w))
theorem CapIs.new {W W':World}{p1 p2 p3:Nat}{T S:Int}{a:Option Addr}{n cap:Nat}{w:Nat→Int}(h:CapIs W p1 p2 p3 T S a n cap w)(hn:New W W'):CapIs W' p1 p2 p3 T S a n cap w:=⟨hn.cell h.c1,hn.cell h.c2,hn.cell h.c3,h.row.new hn⟩
theorem cell_other {W:World}{b g i j:Nat}{u v:Value}(h:W.cell? ⟨b,i,none⟩=some u)(hb:b≠g):(W.setCell ⟨g,j,none⟩ v).cell? ⟨b,i,none⟩=some u:=by
 simp[World.cell?,World.setCell,Array.getElem?_modify,Ne.symm hb]at h⊢;exact h
theorem CapIs.set {W:World}{p1 p2 p3:Nat}{T S:Int}{a:Option Addr}{n cap:Nat}{w:Nat→Int}(h:CapIs W p1 p2 p3 T S a n cap w){g:Nat}(h1:p1≠g)(h2:p2≠g)(h3:p3≠g)(ha:∀ b o,a=some ⟨b,o,none⟩→b≠g)(i:Nat)(v:Value):CapIs (W.setCell ⟨g,i,none⟩ v) p1 p2 p3 T S a n cap w:=
 ⟨cell_other h.c1 h1,cell_other h.c2 h2,cell_other h.c3 h3,fun k hk=>by
  obtain ⟨b,o,e,hc⟩:=h.row k hk
  exact ⟨b,o,e,cell_other hc (ha b o e)⟩⟩
theorem prod_bd {T w:Int}(t0:0≤T)(t1:T≤999999999)(w0:0≤w)(w1:w≤999999999):0≤T*w∧T*w≤999999998000000001:=by
 have h1:=Int.mul_nonneg t0 w0;have h2:=Int.mul_le_mul t1 w1 w0 (by omega:(0:Int)≤999999999);omega
theorem shcmp_calls (i j n cap p1 p2 p3:Nat)(T S:Int)(a:Option Addr)(w:Nat→Int)(W:World)(h:CapIs W p1 p2 p3 T S a n cap w)(hi:i < n)(hj:j < n)(hT:0≤T∧T≤999999999)(hw:∀ k,k < n→0≤w k∧w k≤999999999)(hS:0 < S∧S≤1000000000000):
  Calls Tryz.prog 108 #[.int .i64 (i:Int),.int .i64 (j:Int),.pointer (some ⟨p1,0,none⟩),.pointer (some ⟨p2,0,none⟩),.pointer (some ⟨p3,0,none⟩)] W fun e W'=>e=.returned (.int .i64 (T*w j % S - T*w i % S))∧New W W':=by
 obtain ⟨c1,c2,c3,hr⟩:=h;obtain ⟨b,off,rfl,di⟩:=hr i (by simpa[ints] using hi);obtain ⟨b',off',e,dj⟩:=hr j (by simpa[ints] using hj);simp only[Option.some.injEq,Addr.mk.injEq,and_true] at e;obtain ⟨rfl,rfl⟩:=e;have wi:=hw i hi;have wj:=hw j hj;have bi:=prod_bd hT.1 hT.2 wi.1 wi.2;have bj:=prod_bd hT.1 hT.2 wj.1 wj.2
 have ei:(ints ((List.range n).map w))[i]'(by simpa[ints] using hi)=.int .i64 (w i):=by simp[ints]
 have ej:(ints ((List.range n).map w))[j]'(by simpa[ints] using hj)=.int .i64 (w j):=by simp[ints]
 rw[ei]at di;rw[ej] at dj;obtain ⟨A,hA⟩:∃ A,w i=A:=⟨_,rfl⟩;obtain ⟨B,hB⟩:∃ A,w j=A:=⟨_,rfl⟩;rw[hA] at di wi bi⊢;rw[hB] at dj wj bj⊢;obtain ⟨P,hP⟩:∃ P,T*A=P:=⟨_,rfl⟩;obtain ⟨R,hR⟩:∃ P,T*B=P:=⟨_,rfl⟩;rw[hP] at bi⊢;rw[hR] at bj⊢;have m1:Int.tmod P S=P % S:=Int.tmod_eq_emod_of_nonneg bi.1;have m2:Int.tmod R S=R % S:=Int.tmod_eq_emod_of_nonneg bj.1;have n1:=Int.emod_nonneg P (show S≠0 by omega);have n2:=Int.emod_nonneg R (show S≠0 by omega);have n3:=Int.emod_lt_of_pos P hS.1;have n4:=Int.emod_lt_of_pos R hS.1;obtain ⟨p,hp⟩:∃ p,P % S=p:=⟨_,rfl⟩;obtain ⟨r,hr'⟩:∃ p,R % S=p:=⟨_,rfl⟩;rw[hp] at m1 n1 n3⊢;rw[hr'] at m2 n2 n4⊢;obtain ⟨hS0,hS1⟩:=hS;obtain ⟨bi0,bi1⟩:=bi;obtain ⟨bj0,bj1⟩:=bj
 have hii:(i:Int) < n:=by omega
 have hji:(j:Int) < n:=by omega
 clear hr ei ej hA hB hp hr' wi wj hw hT;go_enter Tryz.func108,Tryz.ntmps108;go_wp2_with fail
 go_quiet (fail)
 go_wp2_with fail;go_ret;exact ⟨rfl,(New.refl _).drewN nq⟩
theorem stableCmp_calls (n cap g p1 p2 p3:Nat)(r:Nat→Int)(Q:World→Prop)(HCmp:CmpOk r n g p1 p2 p3 Q)(hn0:0 < n)(hn:n≤19)(w0 w:World)(hN:New w0 w)(hg:w0.heap.size≤g)(hrow:RowZ w g 3 n fun i=>(i:Int))(hq:Q w):
  Calls Tryz.prog 175 #[.slice (some ⟨g,0,none⟩) n cap,.int .i64 (n:Int),.func (.func 108) #[] #[.pointer (some ⟨p1,0,none⟩),.pointer (some ⟨p2,0,none⟩),.pointer (some ⟨p3,0,none⟩)]] w (SortPost r n g Q w0):=by
 have hin:=insertion_calls n cap g p1 p2 p3 r Q HCmp hn0 (by omega) w0 w hN hg hrow hq;unfold SortPost at hin⊢
 have hni:(n:Int)≤19:=by omega
 clear HCmp hN hg hrow hq;have HIN:=hid hin;clear hin;go_enter Tryz.func175,Tryz.ntmps175;go_wp2_with fail;go_loopw [7,8] (fun a b wr=>a=.int .i64 0∧b=.int .i64 20∧Hid (wr=w)) (fun _ _ _=>0)
 case atStart=>exact ⟨rfl,rfl,hid rfl⟩
 case round=>
  obtain ⟨rfl,rfl,HW⟩:=hrel;rw[HW.out];clear HW;go_wp2_with fail;refine HIN.out.mono ?_;rintro e w1 ⟨rfl,h1⟩;have H1:=hid h1;clear h1;go_wp2_with fail;go_loopw [6,7,8] (fun c a b wr=>c=.int .i64 20∧a=.int .i64 0∧b=.int .i64 20∧Hid (wr=w1)) (fun _ _ _ _=>0)
  case atStart=>exact ⟨rfl,rfl,rfl,hid rfl⟩
  case round=>
   obtain ⟨rfl,rfl,rfl,HW⟩:=hrel;rw[HW.out];clear HW;go_wp2_with fail
   go_end0
   exact ⟨rfl,H1.out⟩
theorem stable_calls (n cap g p1 p2 p3:Nat)(r:Nat→Int)(Q:World→Prop)(HCmp:CmpOk r n g p1 p2 p3 Q)(hn0:0 < n)(hn:n≤19)(w0 w:World)(hN:New w0 w)(hg:w0.heap.size≤g)(hrow:RowZ w g 3 n fun i=>(i:Int))(hq:Q w):
  Calls Tryz.prog 107 #[.slice (some ⟨g,0,none⟩) n cap,.func (.func 108) #[] #[.pointer (some ⟨p1,0,none⟩),.pointer (some ⟨p2,0,none⟩),.pointer (some ⟨p3,0,none⟩)]] w (SortPost r n g Q w0):=by
 have hin:=stableCmp_calls n cap g p1 p2 p3 r Q HCmp hn0 hn w0 w hN hg hrow hq;unfold SortPost at hin⊢;clear HCmp hN hg hrow hq;have HIN:=hid hin;clear hin;go_enter Tryz.func107,Tryz.ntmps107;go_wp2_with fail;refine HIN.out.mono ?_;rintro e w1 ⟨rfl,h1⟩;have H1:=hid h1;clear h1;go_wp2_with fail
 go_end0
 exact ⟨rfl,H1.out⟩
def okW (l:List Int):Bool:=l.all fun x=>!outside x 0 999999999
def maxL (x:Int):List Int→Int
 | []=>x
 | y::l=>maxL (if y > x then y else x) l
def weightsErr (l:List Int):Int:=if l.length=0 then 12 else if 256 < l.length then 5 else if okW l then (if maxL 0 l=0 then 6 else 0) else 3
theorem RdL.int {w:World}{a:Option Addr}{l:List Int}(h:RdL w a (ints l))(k:Nat)(hk:k < l.length):∃ b off,a=some ⟨b,off,none⟩∧w.cell? ⟨b,off+k,none⟩=some (.int .i64 l[k]):=by
 obtain ⟨b,off,e,hc⟩:=h k (by simpa[ints] using hk);exact ⟨b,off,e,by rw[hc];simp[ints]⟩
theorem wchk_calls (i x:Int)(w:World):Calls Tryz.prog 173 #[.int .i64 i,.int .i64 x] w fun e w'=>e=.returned (.int .i64 (if outside x 0 999999999 then 3 else 0))∧w=w':=by
 obtain ⟨r,hr⟩:∃ r:Int,(if outside x 0 999999999=true then 3 else 0)=r:=⟨_,rfl⟩;have hw:=fun W=>nwithin_calls x 0 999999999 W;rw[hr] at hw⊢;clear hr;have HW:=hid hw;clear hw;go_enter Tryz.func173,Tryz.ntmps173;go_wp2_with fail;refine (HW.out _).mono ?_;rintro e w' ⟨rfl,rfl⟩;go_wp2_with fail;go_ret;exact ⟨rfl,rfl⟩
theorem okW_take {l:List Int}{k:Nat}(hk:k < l.length)(h:okW (l.take k)=true)(hx:outside l[k] 0 999999999=false):okW (l.take (k+1))=true:=by
 unfold okW at h⊢;rw[List.take_succ_eq_append_getElem hk,List.all_append,h];simp[hx]
theorem okW_false {l:List Int}{k:Nat}(hk:k < l.length)(hx:outside l[k] 0 999999999=true):okW l=false:=by
 unfold okW;rw[List.all_eq_false];exact ⟨l[k],List.getElem_mem hk,by simp[hx]⟩
theorem eachw_calls (a:Option Addr)(cap:Nat)(l:List Int)(w:World)(hl:l.length≤100000)(hr:RdL w a (ints l)):
  Calls Tryz.prog 172 #[.slice a l.length cap,.func (.func 173) #[] #[]] w fun e w'=>e=.returned (.int .i64 (if okW l then 0 else 3))∧w'=w:=by
 obtain ⟨r,hres⟩:∃ r:Int,(if okW l=true then 0 else 3)=r:=⟨_,rfl⟩;rw[hres]
 have hli:(l.length:Int)≤100000:=by omega
 have HR:=hid hr;have HRES:=hid hres;have HL:=hid hl;clear hr hres hl;go_enter Tryz.func172,Tryz.ntmps172;go_wp2_with fail;go_loopw [10] (fun i wr=>∃ k:Nat,k≤l.length∧i=.int .i64 (k:Int)∧Hid (okW (l.take k)=true)∧wr=w) (fun i _=>l.length - (intOf i).toNat)
 case atStart=>exact ⟨0,Nat.zero_le _,rfl,hid rfl,rfl⟩
 case round=>
  obtain ⟨k,hk,rfl,HK,rfl⟩:=hrel;by_cases hlt:k < l.length
  ·obtain ⟨b,off,rfl,hcell⟩:=HR.out.int k hlt;obtain ⟨x,hx⟩:∃ x,l[k]=x:=⟨_,rfl⟩;rw[hx] at hcell
   cases hfx:outside x 0 999999999 with
   | false=>
    have hd:=okW_take hlt HK.out (by rw[hx];exact hfx);have hc:=fun W=>wchk_calls k x W;rw[hfx] at hc;have HX:=hid hx;have HFX:=hid hfx;have HD:=hid hd;have HC:=hid hc;clear hx hfx hd hc;go_wp2_with fail;refine (HC.out _).mono ?_;rintro e w' ⟨rfl,rfl⟩;go_wp2_with fail;go_roundw
    case rel=>exact ⟨k+1,by omega,by go_num,HD,by first | trivial | rfl⟩
    case measure=>simp[intOf];omega
   | true=>
    have hd:=okW_false hlt (by rw[hx];exact hfx);have hc:=fun W=>wchk_calls k x W;rw[hfx] at hc;have HX:=hid hx;have HFX:=hid hfx;have HD:=hid hd;have HC:=hid hc;clear hx hfx hd hc;go_wp2_with fail;refine (HC.out _).mono ?_;rintro e w' ⟨rfl,rfl⟩;go_wp2_with fail;go_ret;exact ⟨ret_i64 (by rw[←HRES.out,HD.out];rfl),rfl⟩
  ·have hkk:k=l.length:=by omega
   have hz:r=0:=by rw[←HRES.out,if_pos];have:=HK.out;rwa [hkk,List.take_length] at this
   have HKK:=hid hkk;have HZ:=hid hz;clear hkk hz;go_wp2_with fail;go_ret;exact ⟨ret_i64 HZ.out.symm,rfl⟩
theorem maxL_snoc (l:List Int):∀ (x y:Int),maxL x (l ++ [y])=if y > maxL x l then y else maxL x l:=by
 induction l with
 | nil=>intro x y;rfl
 | cons z l ih=>intro x y;exact ih _ y
theorem max_calls (a:Option Addr)(cap:Nat)(x:Int)(l:List Int)(w:World)(hl:l.length≤100000)(hr:RdL w a (ints (x::l))):
  Calls Tryz.prog 174 #[.slice a (x::l).length cap] w fun e w'=>e=.returned (.int .i64 (maxL x l))∧w'=w:=by
 obtain ⟨r,hres⟩:∃ r,maxL x l=r:=⟨_,rfl⟩;rw[hres];obtain ⟨n,hn⟩:∃ n,(x::l).length=n:=⟨_,rfl⟩
 have hnl:n=l.length+1:=by rw[←hn];rfl
 rw[hn]
 have hli:(n:Int)≤100001:=by omega
 have hn1:(1:Int)≤n:=by omega
 obtain ⟨b,off,rfl,hc0⟩:=hr.int 0 (by simp);replace hc0:w.cell? ⟨b,off+0,none⟩=some (.int .i64 x):=hc0;simp only[Nat.add_zero] at hc0;have HR:=hid hr;have HRES:=hid hres;have HL:=hid hl;have HNN:=hid hn;have HNL:=hid hnl;clear hr hres hl hn hnl;go_enter Tryz.func174,Tryz.ntmps174;go_wp2_with fail;clear hc0;go_loopw [3,4] (fun m i wr=>∃ (k:Nat) (y:Int),k+1≤n∧m=.int .i64 y∧i=.int .i64 ((k:Int)+1)∧Hid (maxL x (l.take k)=y)∧wr=w) (fun _ i _=>n - (intOf i).toNat)
 case atStart=>exact ⟨0,x,by omega,rfl,rfl,hid rfl,rfl⟩
 case round=>
  obtain ⟨k,y,hk,rfl,rfl,HK,rfl⟩:=hrel;by_cases hlt:k+1 < n
  ·obtain ⟨b',off',e,hcell⟩:=HR.out.int (k+1) (by rw[HNN.out];exact hlt);injection e with e;injection e with e1 e2;subst e1 e2
   have hkl:k < l.length:=by have:=HNL.out;omega
   replace hcell:wr.cell? ⟨b,off+(k+1),none⟩=some (.int .i64 l[k]):=hcell;obtain ⟨z,hz⟩:∃ z,l[k]=z:=⟨_,rfl⟩;rw[hz] at hcell
   have hd:maxL x (l.take (k+1))=(if z > y then z else y):=by rw[List.take_succ_eq_append_getElem hkl,maxL_snoc,hz,HK.out]
   obtain ⟨u,hu⟩:∃ u,(if z > y then z else y)=u:=⟨_,rfl⟩;rw[hu] at hd
   have hmx:max y z=u:=by rw[←hu,Int.max_def];split <;> split <;> omega
   have hki:(k:Int)+1 < n:=by omega
   have HD:=hid hd;have HZ:=hid hz;clear hd hz;by_cases hzy:z > y
   ·have hu2:u=z:=by rw[←hu,if_pos hzy]
    subst hu2;clear hu;go_wp2_with fail;go_roundw
    case rel=>exact ⟨k+1,u,by omega,rfl,by go_num,HD,by first | trivial | rfl⟩
    case measure=>simp[intOf];omega
   ·have hu2:u=y:=by rw[←hu,if_neg hzy]
    subst hu2;clear hu;go_wp2_with fail;go_roundw
    case rel=>exact ⟨k+1,u,by omega,rfl,by go_num,HD,by first | trivial | rfl⟩
    case measure=>simp[intOf];omega
  ·have hkk:k=l.length:=by have:=HNL.out;omega
   have hz:y=r:=by rw[←HRES.out,←HK.out,hkk,List.take_length]
   have hkn:(k:Int)+1=n:=by have:=HNL.out;omega
   have HKK:=hid hkk;have HZ:=hid hz;clear hkk hz;go_wp2_with fail;go_ret;exact ⟨ret_i64 HZ.out,rfl⟩
theorem checkWeights_calls (a:Option Addr)(cap:Nat)(l:List Int)(w:World)(hl:l.length≤9223372036854775807)(hr:RdL w a (ints l)):Calls Tryz.prog 106 #[.slice a l.length cap] w (RetNew w (weightsErr l)):=by
 have HN:=hid (New.refl w);unfold weightsErr;by_cases h0:l.length=0
 ·rw[if_pos h0];have hb1:((l.length:Int)==0)=true:=beq_iff_eq.2 (by omega);have hb2:decide ((l.length:Int) > 256)=false:=decide_eq_false (by omega)
  have h0i:(l.length:Int)=0:=by omega
  clear hr h0;go_enter Tryz.func106,Tryz.ntmps106;go_wp2_with fail;refine (nwhen_calls true 12 _).mono ?_;rintro e w' ⟨rfl,rfl⟩;go_wp2_with fail;refine (nwhen_calls false 5 _).mono ?_;rintro e w' ⟨rfl,rfl⟩;go_wp2_with fail;have HN0:=HN;clear HN;obtain ⟨BG,HN⟩:=lay1 w 32 #[.int .i64 12,.int .i64 0];have HN_:=HN0.out.trans HN.out;clear HN HN0;have HN:=hid HN_;clear HN_;refine (nfirst2_new 12 0 _ _ 32 _ BG.out).mono ?_;rintro e w1 ⟨rfl,hn⟩;clear BG;replace HN:=hid (HN.out.trans hn);clear hn;go_wp2_with fail;go_ret;exact ⟨rfl,HN.out⟩
 ·rw[if_neg h0];by_cases h1:256 < l.length
  ·rw[if_pos h1];have hb1:((l.length:Int)==0)=false:=beq_false_of_ne (by omega);have hb2:decide ((l.length:Int) > 256)=true:=decide_eq_true (by omega)
   have h1i:(256:Int) < (l.length:Int):=by omega
   clear hr h0 h1;go_enter Tryz.func106,Tryz.ntmps106;go_wp2_with fail;refine (nwhen_calls false 12 _).mono ?_;rintro e w' ⟨rfl,rfl⟩;go_wp2_with fail;refine (nwhen_calls true 5 _).mono ?_;rintro e w' ⟨rfl,rfl⟩;go_wp2_with fail;have HN0:=HN;clear HN;obtain ⟨BG,HN⟩:=lay1 w 32 #[.int .i64 0,.int .i64 5];have HN_:=HN0.out.trans HN.out;clear HN HN0;have HN:=hid HN_;clear HN_;refine (nfirst2_new 0 5 _ _ 32 _ BG.out).mono ?_;rintro e w1 ⟨rfl,hn⟩;clear BG;replace HN:=hid (HN.out.trans hn);clear hn;go_wp2_with fail;go_ret;exact ⟨rfl,HN.out⟩
  ·rw[if_neg h1];have hb1:((l.length:Int)==0)=false:=beq_false_of_ne (by omega);have hb2:decide ((l.length:Int) > 256)=false:=decide_eq_false (by omega)
   have hb3:¬(256:Int) < (l.length:Int):=by omega
   have hea:=fun W (h:RdL W a (ints l))=>eachw_calls a cap l W (by omega) h;by_cases hok:okW l=true
   ·rw[if_pos hok];rw[if_pos hok] at hea
    have hmx:∀ W,RdL W a (ints l)→Calls Tryz.prog 174 #[.slice a l.length cap] W fun e w'=>e=.returned (.int .i64 (maxL 0 l))∧w'=W:=fun W h=>by
     cases l with
     | nil=>exact absurd rfl h0
     | cons x m=>
      have hx:maxL 0 (x::m)=maxL x m:=by
       have:0≤x:=by
        unfold okW at hok;rw[List.all_cons,Bool.and_eq_true] at hok;have:=hok.1;unfold outside at this;simp at this;omega
       show maxL (if x > 0 then x else 0) m=maxL x m;congr 1;split <;> omega
      rw[hx];exact max_calls a cap x m W (by simp at h1;omega) h
    obtain ⟨M,hM⟩:∃ M,maxL 0 l=M:=⟨_,rfl⟩;simp only[hM] at hmx;rw[hM];obtain ⟨R,hR⟩:∃ R:Int,(if M=0 then 6 else 0)=R:=⟨_,rfl⟩;rw[hR];clear hM hok h0 h1;have HR:=hid hr;have HEA:=hid hea;have HMX:=hid hmx;have HRR:=hid hR;clear hr hea hmx hR;go_enter Tryz.func106,Tryz.ntmps106;go_wp2_with fail;refine (nwhen_calls false 12 _).mono ?_;rintro e w' ⟨rfl,rfl⟩;go_wp2_with fail;refine (nwhen_calls false 5 _).mono ?_;rintro e w' ⟨rfl,rfl⟩;go_wp2_with fail;have HN0:=HN;clear HN;obtain ⟨BG,HN⟩:=lay1 w 32 #[.int .i64 0,.int .i64 0];have HN_:=HN0.out.trans HN.out;clear HN HN0;have HN:=hid HN_;clear HN_;refine (nfirst2_new 0 0 _ _ 32 _ BG.out).mono ?_;rintro e w1 ⟨rfl,hn⟩;clear BG;replace HN:=hid (HN.out.trans hn);clear hn;go_wp2_with fail;refine (HEA.out _ (HR.out.new HN.out)).mono ?_;rintro e w2 ⟨rfl,hw⟩;rw[hw];clear hw;go_wp2_with fail;refine (HMX.out _ (HR.out.new HN.out)).mono ?_;rintro e w3 ⟨rfl,hw⟩;rw[hw];clear hw;by_cases hm:M=0
    ·subst hm;obtain rfl:6=R:=HRR.out;go_wp2_with fail;refine (nwhen_calls true 6 _).mono ?_;rintro e w' ⟨rfl,rfl⟩;go_wp2_with fail;go_ret;exact ⟨rfl,HN.out⟩
    ·have hmb:(M==0)=false:=beq_false_of_ne hm
     obtain rfl:0=R:=by rw[←HRR.out,if_neg hm]
     clear hm;go_wp2_with fail;refine (nwhen_calls false 6 _).mono ?_;rintro e w' ⟨rfl,rfl⟩;go_wp2_with fail;go_ret;exact ⟨rfl,HN.out⟩
   ·rw[if_neg hok];rw[if_neg hok] at hea;clear hok h0 h1;have HR:=hid hr;have HEA:=hid hea;clear hr hea;go_enter Tryz.func106,Tryz.ntmps106;go_wp2_with fail;refine (nwhen_calls false 12 _).mono ?_;rintro e w' ⟨rfl,rfl⟩;go_wp2_with fail;refine (nwhen_calls false 5 _).mono ?_;rintro e w' ⟨rfl,rfl⟩;go_wp2_with fail;have HN0:=HN;clear HN;obtain ⟨BG,HN⟩:=lay1 w 32 #[.int .i64 0,.int .i64 0];have HN_:=HN0.out.trans HN.out;clear HN HN0;have HN:=hid HN_;clear HN_;refine (nfirst2_new 0 0 _ _ 32 _ BG.out).mono ?_;rintro e w1 ⟨rfl,hn⟩;clear BG;replace HN:=hid (HN.out.trans hn);clear hn;go_wp2_with fail;refine (HEA.out _ (HR.out.new HN.out)).mono ?_;rintro e w2 ⟨rfl,hw⟩;rw[hw];clear hw;go_wp2_with fail;go_ret;exact ⟨rfl,HN.out⟩
end Go.Proofs.YtnjonlnemagomaaGreatDoor
