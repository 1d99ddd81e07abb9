/- Part B19. -/
import Derived.Test.YtnjonlnemagomaaGreatDoorB01
namespace Go.Proofs.YtnjonlnemagomaaGreatDoor
open Tryz
set_option maxRecDepth 100000
set_option maxHeartbeats 8000000
set_option linter.all false
def cnt (P:Nat→Bool):Nat→Nat
 | 0=>0
 | n+1=>cnt P n+(if P n=true then 1 else 0)
theorem cnt_congr {P Q:Nat→Bool}:∀ {n:Nat},(∀ i,i < n→P i=Q i)→cnt P n=cnt Q n
 | 0,_=>rfl
 | n+1,h=>by
  show cnt P n+_=cnt Q n+_;rw[cnt_congr (fun i hi=>h i (by omega)),h n (by omega)]
theorem cnt_le (P:Nat→Bool):∀ n,cnt P n≤n
 | 0=>Nat.le_refl _
 | n+1=>by
  have:=cnt_le P n;show cnt P n+_≤n+1;split <;> omega
theorem cnt_yes {P:Nat→Bool}{n:Nat}(h:P n=true):cnt P (n+1)=cnt P n+1:=by
 show cnt P n+(if P n=true then 1 else 0)=_;rw[if_pos h]
theorem cnt_no {P:Nat→Bool}{n:Nat}(h:P n=false):cnt P (n+1)=cnt P n:=by
 show cnt P n+(if P n=true then 1 else 0)=_;rw[if_neg (by rw[h];decide)];rfl
theorem cnt_lt_id {p:Nat}:∀ {n:Nat},p≤n→cnt (fun q=>decide (q < p)) n=p
 | 0,h=>by
  have:p=0:=by omega
  subst this;rfl
 | n+1,h=>by
  rcases Nat.lt_or_ge n p with h1 | h1
  ·have e:p=n+1:=by omega
   rw[cnt_yes (decide_eq_true h1)];have h2:cnt (fun q=>decide (q < p)) n=cnt (fun q=>decide (q < n)) n:=cnt_congr fun i hi=>decide_eq_decide.2 (by omega);rw[h2,cnt_lt_id (Nat.le_refl n),e]
  ·rw[cnt_no (decide_eq_false (by omega)),cnt_lt_id h1]
theorem cnt_one {P:Nat→Bool}{p:Nat}:∀ {n:Nat},(∀ i,i < n→P i=decide (i=p))→cnt P n=if p < n then 1 else 0
 | 0,_=>rfl
 | n+1,h=>by
  have ih:=cnt_one (n:=n) (fun i hi=>h i (by omega));have hn:=h n (by omega);rcases Nat.lt_trichotomy p n with h1 | h1 | h1
  ·rw[decide_eq_false (by omega)] at hn;rw[cnt_no hn,ih,if_pos h1,if_pos (by omega)]
  ·rw[decide_eq_true h1.symm] at hn;rw[cnt_yes hn,ih,if_neg (by omega),if_pos (by omega)]
  ·rw[decide_eq_false (by omega)] at hn;rw[cnt_no hn,ih,if_neg (by omega),if_neg (by omega)]
theorem cnt_pos {P:Nat→Bool}:∀ {n:Nat},0 < cnt P n→∃ i,i < n∧P i=true
 | 0,h=>absurd h (Nat.lt_irrefl 0)
 | n+1,h=>by
  by_cases hp:P n=true
  ·exact ⟨n,by omega,hp⟩
  ·have h2:0 < cnt P n+(if P n=true then 1 else 0):=h;rw[if_neg hp] at h2;obtain ⟨i,hi,hq⟩:=cnt_pos (n:=n) h2;exact ⟨i,by omega,hq⟩
def swapF {α:Type}(f:Nat→α)(a b:Nat):Nat→α:=fun i=>if i=a then f b else if i=b then f a else f i
theorem swapF_a {α:Type}(f:Nat→α)(a b:Nat):swapF f a b a=f b:=if_pos rfl
theorem swapF_b {α:Type}(f:Nat→α)(a b:Nat):swapF f a b b=f a:=by
 unfold swapF;by_cases h:b=a
 ·rw[if_pos h,h]
 ·rw[if_neg h,if_pos rfl]
theorem swapF_o {α:Type}(f:Nat→α){a b i:Nat}(h1:i≠a)(h2:i≠b):swapF f a b i=f i:=by
 unfold swapF;rw[if_neg h1,if_neg h2]
theorem cnt_swap (P:Nat→Bool){j:Nat}:∀ {n:Nat},j+1 < n→cnt (swapF P (j+1) j) n=cnt P n
 | 0,h=>absurd h (by omega)
 | n+1,h=>by
  show cnt _ n+_=cnt P n+_;rcases Nat.lt_or_ge (j+1) n with h1 | h1
  ·rw[cnt_swap P h1,swapF_o P (by omega) (by omega)]
  ·have e:n=j+1:=by omega
   subst e;show cnt _ j+_+_=cnt P j+_+_;rw[swapF_a,swapF_b,cnt_congr (Q:=P) (n:=j) (fun i hi=>swapF_o P (by omega) (by omega))];omega
def before (r:Nat→Int)(a b:Nat):Bool:=decide (r b < r a) || (decide (r a=r b) && decide (a < b))
theorem before_iff {r:Nat→Int}{a b:Nat}:before r a b=true ↔ r b < r a∨(r a=r b∧a < b):=by simp[before]
theorem before_irr (r:Nat→Int)(a:Nat):before r a a=false:=by
 rw[←Bool.not_eq_true,before_iff];omega
theorem before_asymm {r:Nat→Int}{a b:Nat}(h:before r a b=true):before r b a=false:=by
 rw[before_iff]at h;rw[←Bool.not_eq_true,before_iff];omega
theorem before_trans {r:Nat→Int}{a b c:Nat}(h:before r a b=true)(g:before r b c=true):before r a c=true:=by
 rw[before_iff]at h g⊢;omega
def rank (r:Nat→Int)(n i:Nat):Nat:=cnt (fun j=>before r j i) n
structure Sorted (r:Nat→Int)(n:Nat)(f:Nat→Nat):Prop where
 perm:∀ P:Nat→Bool,cnt (fun q=>P (f q)) n=cnt P n
 ord:∀ p q,p < q→q < n→before r (f p) (f q)=true
theorem Sorted.rank {r:Nat→Int}{n:Nat}{f:Nat→Nat}(h:Sorted r n f){p:Nat}(hp:p < n):rank r n (f p)=p:=by
 unfold Go.Proofs.YtnjonlnemagomaaGreatDoor.rank;rw[←h.perm,cnt_congr (Q:=fun q=>decide (q < p)),cnt_lt_id (by omega)];intro q hq;rcases Nat.lt_trichotomy q p with h1 | h1 | h1
 ·rw[h.ord q p h1 hp,decide_eq_true h1]
 ·rw[h1,before_irr,decide_eq_false (by omega)]
 ·rw[before_asymm (h.ord p q h1 hq),decide_eq_false (by omega)]
theorem Sorted.at {r:Nat→Int}{n:Nat}{f:Nat→Nat}(h:Sorted r n f){i:Nat}(hi:i < n):f (Go.Proofs.YtnjonlnemagomaaGreatDoor.rank r n i)=i∧Go.Proofs.YtnjonlnemagomaaGreatDoor.rank r n i < n:=by
 have h1:=h.perm (fun q=>decide (q=i));rw[cnt_one (p:=i) (fun _ _=>rfl),if_pos hi] at h1;obtain ⟨p,hp,hq⟩:=cnt_pos (n:=n) (by rw[h1];decide)
 have h2:f p=i:=by simpa using hq
 have h3:=h.rank hp;rw[h2] at h3;rw[h3];exact ⟨h2,hp⟩
theorem Sorted.first {r:Nat→Int}{n:Nat}{f:Nat→Nat}(h:Sorted r n f){i t:Nat}(hi:i < n)(ht:t≤n):cnt (fun p=>decide (f p=i)) t=if Go.Proofs.YtnjonlnemagomaaGreatDoor.rank r n i < t then 1 else 0:=by
 refine cnt_one fun p hp=>decide_eq_decide.2 ⟨fun e=>?_,fun e=>?_⟩
 ·rw[←e,h.rank (by omega)]
 ·rw[e];exact (h.at hi).1
structure Carry (r:Nat→Int)(n i j:Nat)(f:Nat→Nat):Prop where
 perm:∀ P:Nat→Bool,cnt (fun q=>P (f q)) n=cnt P n
 ji:j≤i
 here:f j=i
 ord:∀ p q,p < q→q≤i→p≠j→q≠j→before r (f p) (f q)=true
 behind:∀ q,j < q→q≤i→before r i (f q)=true
 low:∀ q,q≤i→f q≤i
 rest:∀ q,i < q→q < n→f q=q
structure SortedTo (r:Nat→Int)(n i:Nat)(f:Nat→Nat):Prop where
 perm:∀ P:Nat→Bool,cnt (fun q=>P (f q)) n=cnt P n
 ord:∀ p q,p < q→q < i→before r (f p) (f q)=true
 low:∀ q,q < i→f q < i
 rest:∀ q,i≤q→q < n→f q=q
theorem SortedTo.start (r:Nat→Int)(n:Nat):SortedTo r n 1 (fun i=>i):=⟨fun _=>rfl,fun p q _ _=>by omega,fun q h=>h,fun _ _ _=>rfl⟩
theorem SortedTo.carry {r:Nat→Int}{n i:Nat}{f:Nat→Nat}(h:SortedTo r n i f)(hi:i < n):Carry r n i i f:=
 ⟨h.perm,Nat.le_refl _,h.rest i (Nat.le_refl _) hi,fun p q h1 h2 _ h4=>h.ord p q h1 (by omega),fun q h1 h2=>by omega,fun q h1=>by
  rcases Nat.lt_or_ge q i with h2 | h2
  ·exact Nat.le_of_lt (h.low q h2)
  ·have:q=i:=by omega
   rw[this,h.rest i (Nat.le_refl _) hi];exact Nat.le_refl _,fun q h1 h2=>h.rest q (by omega) h2⟩
theorem SortedTo.all {r:Nat→Int}{n:Nat}{f:Nat→Nat}(h:SortedTo r n n f):Sorted r n f:=⟨h.perm,h.ord⟩
theorem perm_inj {n:Nat}{f:Nat→Nat}(h:∀ P:Nat→Bool,cnt (fun q=>P (f q)) n=cnt P n){p q:Nat}(hp:p < n)(hq:q < n)(hv:f p < n)(e:f p=f q):p=q:=by
 have h1:=h (fun x=>decide (x=f p));rw[cnt_one (p:=f p) (fun _ _=>rfl),if_pos hv] at h1
 have ac:∀ {m a b:Nat} {P:Nat→Bool},a < b→b < m→P a=true→P b=true→2≤cnt P m:=by
  intro m
  induction m with
  | zero=>intro a b P _ h;omega
  | succ m ih=>
   intro a b P aa hb ha ab;show 2≤cnt P m+_;rcases Nat.lt_or_ge b m with h2 | h2
   ·have:=ih aa h2 ha ab;omega
   ·have e:b=m:=by omega
    subst e;rw[if_pos ab]
    have:1≤cnt P b:=by
     have ad:∀ {m:Nat},a < m→1≤cnt P m:=by
      intro m
      induction m with
      | zero=>intro h;omega
      | succ m ih2=>
       intro h;show 1≤cnt P m+_;rcases Nat.lt_or_ge a m with h3 | h3
       ·have:=ih2 h3;omega
       ·have e:a=m:=by omega
        subst e;rw[if_pos ha];omega
     exact ad aa
    omega
 rcases Nat.lt_trichotomy p q with h2 | h2 | h2
 ·have:=ac (P:=fun x=>decide (f x=f p)) h2 hq (by simp) (by simp[e]);omega
 ·exact h2
 ·have:=ac (P:=fun x=>decide (f x=f p)) h2 hp (by simp[e]) (by simp);omega
theorem Carry.move {r:Nat→Int}{n i j:Nat}{f:Nat→Nat}(h:Carry r n i (j+1) f)(hi:i < n)(hr:r (f j) < r i):Carry r n i j (swapF f (j+1) j):=by
 have aa:=h.ji;refine ⟨fun P=>?_,by omega,by rw[swapF_b];exact h.here,fun p q h1 h2 h3 h4=>?_,fun q h1 h2=>?_,fun q h1=>?_,fun q h1 h2=>?_⟩
 ·rw[←h.perm P,←cnt_swap (fun q=>P (f q)) (j:=j) (n:=n) (by omega)];refine cnt_congr fun q _=>?_;unfold swapF;split
  ·rfl
  ·split <;> rfl
 ·by_cases hp:p=j+1
  ·subst hp;rw[swapF_a,swapF_o f (by omega) (by omega)];exact h.ord j q (by omega) h2 (by omega) (by omega)
  ·by_cases hq:q=j+1
   ·subst hq;rw[swapF_a,swapF_o f hp (by omega)];exact h.ord p j (by omega) (by omega) hp (by omega)
   ·rw[swapF_o f hp h3,swapF_o f hq h4];exact h.ord p q h1 h2 hp hq
 ·by_cases hq:q=j+1
  ·subst hq;rw[swapF_a,before_iff];exact .inl hr
  ·rw[swapF_o f hq (by omega)];exact h.behind q (by omega) h2
 ·by_cases hq:q=j+1
  ·rw[hq,swapF_a];exact h.low j (by omega)
  ·by_cases hq2:q=j
   ·rw[hq2,swapF_b];exact h.low (j+1) aa
   ·rw[swapF_o f hq hq2];exact h.low q h1
 ·rw[swapF_o f (by omega) (by omega)];exact h.rest q h1 h2
theorem Carry.done {r:Nat→Int}{n i j:Nat}{f:Nat→Nat}(h:Carry r n i j f)(hi:i < n)(hr:∀ k,j=k+1→r i≤r (f k)):SortedTo r n (i+1) f:=by
 have ac:=h.ji
 have ab:∀ q,q≤i→q≠j→f q < i:=fun q h1 h2=>by
  have h3:=h.low q h1;rcases Nat.lt_or_ge (f q) i with h4 | h4
  ·exact h4
  ·have e:f q=f j:=by rw[h.here];omega
   exact absurd (perm_inj h.perm (by omega) (by omega) (by omega) e) h2
 have aa:∀ p,p < j→before r (f p) i=true:=fun p hp=>by
  obtain ⟨k,rfl⟩:∃ k,j=k+1:=⟨j - 1,by omega⟩;have h1:=hr k rfl;have h2:=ab k (by omega) (by omega)
  have h3:before r (f k) i=true:=by rw[before_iff];omega
  rcases Nat.lt_or_ge p k with h4 | h4
  ·exact before_trans (h.ord p k h4 (by omega) (by omega) (by omega)) h3
  ·have:p=k:=by omega
   rw[this];exact h3
 refine ⟨h.perm,fun p q h1 h2=>?_,fun q h1=>by have:=h.low q (by omega);omega,fun q h1 h2=>h.rest q (by omega) h2⟩;by_cases hp:p=j
 ·rw[hp,h.here];exact h.behind q (by omega) (by omega)
 ·by_cases hq:q=j
  ·rw[hq,h.here];exact aa p (by omega)
  ·exact h.ord p q h1 (by omega) hp hq
def sumTo (g:Nat→Int):Nat→Int
 | 0=>0
 | n+1=>sumTo g n+g n
theorem sumTo_congr {g h:Nat→Int}:∀ {n:Nat},(∀ i,i < n→g i=h i)→sumTo g n=sumTo h n
 | 0,_=>rfl
 | n+1,e=>by
  show sumTo g n+g n=sumTo h n+h n;rw[sumTo_congr (fun i hi=>e i (by omega)),e n (by omega)]
theorem sumTo_mul (c:Int)(g:Nat→Int):∀ n,sumTo (fun i=>c*g i) n=c*sumTo g n
 | 0=>by show (0:Int)=c*0;rw[Int.mul_zero]
 | n+1=>by
  show sumTo (fun i=>c*g i) n+c*g n=c*(sumTo g n+g n);rw[sumTo_mul c g n,Int.mul_add]
theorem sumTo_add (g h:Nat→Int):∀ n,sumTo (fun i=>g i+h i) n=sumTo g n+sumTo h n
 | 0=>rfl
 | n+1=>by
  show sumTo (fun i=>g i+h i) n+(g n+h n)=sumTo g n+g n+(sumTo h n+h n);rw[sumTo_add g h n];omega
theorem sumTo_nonneg {g:Nat→Int}:∀ {n:Nat},(∀ i,i < n→0≤g i)→0≤sumTo g n
 | 0,_=>Int.le_refl _
 | n+1,h=>by
  have:=sumTo_nonneg (n:=n) (fun i hi=>h i (by omega));have:=h n (by omega);show 0≤sumTo g n+g n;omega
theorem sumTo_lt {g:Nat→Int}{S:Int}:∀ {n:Nat},0 < n→(∀ i,i < n→g i < S)→sumTo g n < S*n
 | 0,h,_=>absurd h (by decide)
 | n+1,_,h=>by
  have h1:=h n (by omega);show sumTo g n+g n < S*((n+1:Nat):Int);rw[Int.natCast_add,Int.mul_add];show _ < S*(n:Int)+S*1;rcases Nat.eq_zero_or_pos n with h2 | h2
  ·subst h2;show (0:Int)+g 0 < S*0+S*1;omega
  ·have:=sumTo_lt h2 (fun i hi=>h i (by omega));omega
theorem sumTo_le {g:Nat→Int}{n:Nat}(h:∀ i,i < n→0≤g i):∀ {k:Nat},k≤n→sumTo g k≤sumTo g n:=by
 induction n with
 | zero=>
  intro k hk
  have:k=0:=by omega
  subst this;exact Int.le_refl _
 | succ n ih=>
  intro k hk;rcases Nat.lt_or_ge n k with h1 | h1
  ·have:k=n+1:=by omega
   subst this;exact Int.le_refl _
  ·have h2:=ih (fun i hi=>h i (by omega)) h1;have h3:=h n (by omega);show sumTo g k≤sumTo g n+g n;omega
theorem cnt_full {P:Nat→Bool}:∀ {n:Nat},cnt P n=n→∀ i,i < n→P i=true
 | 0,_,i,h=>by omega
 | n+1,h,i,hi=>by
  have aa:=cnt_le P n;by_cases hp:P n=true
  ·rw[cnt_yes hp] at h;rcases Nat.lt_or_ge i n with h1 | h1
   ·exact cnt_full (by omega) i h1
   ·have:i=n:=by omega
    rw[this];exact hp
  ·rw[cnt_no (by simpa using hp)] at h;omega
theorem Sorted.lt {r:Nat→Int}{n:Nat}{f:Nat→Nat}(h:Sorted r n f){p:Nat}(hp:p < n):f p < n:=by
 have h1:=h.perm (fun x=>decide (x < n));rw[cnt_lt_id (Nat.le_refl n)] at h1;have h2:=cnt_full h1 p hp;simpa using h2
theorem sumTo_bd {g:Nat→Int}:∀ {n:Nat},(∀ i,i < n→g i≤999999999)→sumTo g n≤999999999*n
 | 0,_=>by
  show (0:Int)≤999999999*((0:Nat):Int);omega
 | n+1,h=>by
  have h1:=sumTo_bd (n:=n) (fun i hi=>h i (by omega));have h2:=h n (by omega);show sumTo g n+g n≤999999999*((n+1:Nat):Int);omega
def leftOver (T:Int)(w:Nat→Int)(n:Nat):Int:=T - sumTo (fun i=>T*w i / sumTo w n) n
theorem left_bounds {T:Int}{w:Nat→Int}{n:Nat}(hn:0 < n)(hS:0 < sumTo w n):0≤leftOver T w n∧leftOver T w n < n∧sumTo w n*leftOver T w n=sumTo (fun i=>T*w i % sumTo w n) n:=by
 unfold leftOver;obtain ⟨S,aa⟩:∃ S,sumTo w n=S:=⟨_,rfl⟩;rw[aa] at hS⊢
 have h1:sumTo (fun i=>S*(T*w i / S)+T*w i % S) n=T*S:=by
  rw[sumTo_congr (h:=fun i=>T*w i) (fun i _=>Int.mul_ediv_add_emod _ _),sumTo_mul,aa]
 rw[sumTo_add,sumTo_mul]at h1;have h2:0≤sumTo (fun i=>T*w i % S) n:=sumTo_nonneg fun i _=>Int.emod_nonneg _ (by omega);have h3:sumTo (fun i=>T*w i % S) n < S*n:=sumTo_lt hn fun i _=>Int.emod_lt_of_pos _ hS
 have h4:S*(T - sumTo (fun i=>T*w i / S) n)=sumTo (fun i=>T*w i % S) n:=by
  rw[Int.mul_sub,Int.mul_comm S T];omega
 generalize sumTo (fun i=>T*w i / S) n=Q at h1 h4⊢;generalize sumTo (fun i=>T*w i % S) n=R at h1 h2 h3 h4⊢;refine ⟨?_,?_,h4⟩
 ·rcases Int.lt_or_le (T - Q) 0 with h | h
  ·have:=Int.mul_neg_of_pos_of_neg hS h;omega
  ·exact h
 ·rw[←h4] at h3;exact Int.lt_of_mul_lt_mul_left h3 (by omega)
def share (T:Int)(w:Nat→Int)(n i:Nat):Int:=T*w i / sumTo w n+(if (Go.Proofs.YtnjonlnemagomaaGreatDoor.rank (fun j=>T*w j % sumTo w n) n i:Int) < leftOver T w n then 1 else 0)
def drawX (x:Nat):Nat:=40692*x % 2147483399
def drawGo:Nat→Nat→(Nat→Int)→Nat→Int
 | 0,_,f=>f
 | i+1,x,f=>drawGo i (drawX x) (swapF f (i+1) (drawX x % (i+2)))
def drawF (key n:Nat):Nat→Int:=drawGo (n - 1) key fun i=>(i:Int)
end Go.Proofs.YtnjonlnemagomaaGreatDoor
