/- Part A01. -/
import Derived.WalkKit
import Derived.Lib.Hide
import Derived.WalkSpells
import Derived.WalkLawsBesides
import Derived.Deep.QuietTactic
import Derived.BigQuiet
import Derived.Deep.OwnRows
import Derived.Deep.Draws
import Derived.Deep.RegionWith
import Derived.OwnWalk
import Derived.Laws.AppendOwn
import Derived.Laws.AppendOwnNone
import Derived.Maps.AppendAt
import Derived.Test.YtnjonlnemagomaaGreatDoorProg
namespace Go.Proofs.YtnjonlnemagomaaGreatDoor.Big
set_option maxRecDepth 100000
set_option maxHeartbeats 8000000
def vf (B:Nat)(f:Nat→Nat):Nat→Nat
 | 0=>0
 | n+1=>vf B f n+f n*B^n
theorem vf_zero (B:Nat)(f:Nat→Nat):vf B f 0=0:=rfl
theorem vf_succ (B:Nat)(f:Nat→Nat)(n:Nat):vf B f (n+1)=vf B f n+f n*B^n:=rfl
theorem vf_congr {B:Nat}{f g:Nat→Nat}{n:Nat}(h:∀ i,i < n→f i=g i):vf B f n=vf B g n:=by
 induction n with
 | zero=>rfl
 | succ n ih=>rw[vf_succ,vf_succ,ih (fun i hi=>h i (by omega)),h n (by omega)]
theorem vf_lt {B:Nat}{f:Nat→Nat}{n:Nat}(h:∀ i,i < n→f i < B):vf B f n < B^n:=by
 induction n with
 | zero=>simp[vf]
 | succ n ih=>
  have h1:=ih (fun i hi=>h i (by omega));have h2:=h n (by omega);rw[vf_succ,Nat.pow_succ];have h3:(f n+1)*B^n≤B*B^n:=Nat.mul_le_mul_right _ h2;rw[Nat.add_mul,Nat.one_mul,Nat.mul_comm B] at h3;omega
theorem vf_add (B:Nat)(f:Nat→Nat)(m n:Nat):vf B f (m+n)=vf B f m+B^m*vf B (fun i=>f (m+i)) n:=by
 induction n with
 | zero=>simp[vf]
 | succ n ih=>
  rw[←Nat.add_assoc,vf_succ,ih,vf_succ,Nat.mul_add,Nat.pow_add]
  have:f (m+n)*(B^m*B^n)=B^m*(f (m+n)*B^n):=by
   rw[Nat.mul_left_comm]
  omega
theorem vf_head (B:Nat)(f:Nat→Nat)(n:Nat):vf B f (n+1)=f 0+B*vf B (fun i=>f (i+1)) n:=by
 have:=vf_add B f 1 n;rw[Nat.add_comm 1 n] at this;rw[this];simp[vf,Nat.add_comm]
theorem vf_zeros {B:Nat}{f:Nat→Nat}{n:Nat}(h:∀ i,i < n→f i=0):vf B f n=0:=by
 rw[vf_congr (g:=fun _=>0) h]
 induction n with
 | zero=>rfl
 | succ n ih=>rw[vf_succ,ih (fun i hi=>h i (by omega))];simp
theorem vf_pad {B:Nat}{f:Nat→Nat}{m n:Nat}(hmn:m≤n)(h:∀ i,m≤i→i < n→f i=0):vf B f n=vf B f m:=by
 obtain ⟨k,rfl⟩:=Nat.exists_eq_add_of_le hmn;rw[vf_add,vf_zeros (fun i hi=>h (m+i) (by omega) (by omega))];simp
theorem vf_ge_top {B:Nat}{f:Nat→Nat}{n:Nat}(h:f n≠0):B^n≤vf B f (n+1):=by
 rw[vf_succ];have:1*B^n≤f n*B^n:=Nat.mul_le_mul_right _ (by omega);omega
structure Canon (B:Nat)(f:Nat→Nat)(n:Nat):Prop where
 lt:∀ i,i < n→f i < B
 top:n≠0→f (n - 1)≠0
theorem Canon.ge {B:Nat}{f:Nat→Nat}{n:Nat}(h:Canon B f n)(hn:n≠0):B^(n - 1)≤vf B f n:=by
 obtain ⟨m,rfl⟩:=Nat.exists_eq_succ_of_ne_zero hn;exact vf_ge_top (by simpa using h.top hn)
theorem Canon.lt_pow {B:Nat}{f:Nat→Nat}{n:Nat}(h:Canon B f n):vf B f n < B^n:=vf_lt h.lt
theorem Canon.lt_of_len {B:Nat}{f g:Nat→Nat}{m n:Nat}(hf:Canon B f m)(hg:Canon B g n)(hB:1 < B)(h:m < n):vf B f m < vf B g n:=by
 have h1:=hf.lt_pow;have h2:=hg.ge (by omega);have h3:B^m≤B^(n - 1):=Nat.pow_le_pow_right (by omega) (by omega);omega
theorem vf_lt_of_digit {B:Nat} {f g:Nat→Nat} {n i:Nat} (hf:∀ j,j < n→f j < B) (hg:∀ j,j < n→g j < B) (hi:i < n)
  (heq:∀ j,i < j→j < n→f j=g j) (hlt:f i < g i):vf B f n < vf B g n:=by
 obtain ⟨k,rfl⟩:=Nat.exists_eq_add_of_lt hi;have e1:=vf_add B f (i+1) k;have e2:=vf_add B g (i+1) k;have e3:vf B (fun j=>f (i+1+j)) k=vf B (fun j=>g (i+1+j)) k:=vf_congr (fun j hj=>heq _ (by omega) (by omega))
 have e4:i+1+k=i+k+1:=by omega
 rw[e4]at e1 e2;rw[e1,e2,e3,vf_succ,vf_succ];have h1:vf B f i < B^i:=vf_lt (fun j hj=>hf j (by omega));have h2:(f i+1)*B^i≤g i*B^i:=Nat.mul_le_mul_right _ hlt;rw[Nat.add_mul,Nat.one_mul] at h2;omega
theorem guess_ge {U V T t q lo:Nat}(hU:U < (T+1)*lo)(hV:t*lo≤V)(hq:q*V≤U)(ht:0 < t):q≤T / t:=by
 rw[Nat.le_div_iff_mul_le ht]
 have h1:q*t*lo≤q*V:=by rw[Nat.mul_assoc];exact Nat.mul_le_mul_left _ hV
 have h2:q*t*lo < (T+1)*lo:=by omega
 have:=Nat.lt_of_mul_lt_mul_right h2;omega
theorem guess_down {U V T t q h lo:Nat}(hU:U < (T+1)*lo)(hV:t*lo≤V)(hq:q*V≤U)(hbad:T < h*t):q < h:=by
 have h1:q*t*lo≤q*V:=by rw[Nat.mul_assoc];exact Nat.mul_le_mul_left _ hV
 have h2:q*t*lo < (T+1)*lo:=by omega
 have h3:=Nat.lt_of_mul_lt_mul_right h2
 have h4:q*t < h*t:=by omega
 exact Nat.lt_of_mul_lt_mul_right h4
theorem guess_le {U V T t h lo:Nat}(hU:T*lo≤U)(hV:V < (t+1)*lo)(hok:h*t≤T)(hlo:h*lo≤V):h*V≤U+V:=by
 have h1:h*V≤h*((t+1)*lo):=Nat.mul_le_mul_left _ (Nat.le_of_lt hV)
 have h2:h*((t+1)*lo)=h*t*lo+h*lo:=by rw[←Nat.mul_assoc,Nat.mul_add,Nat.add_mul,Nat.mul_one]
 have h3:h*t*lo≤T*lo:=Nat.mul_le_mul_right _ hok;omega
def upd (f:Nat→Nat)(k v:Nat):Nat→Nat:=fun i=>if i=k then v else f i
theorem upd_same (f:Nat→Nat)(k v:Nat):upd f k v k=v:=by simp[upd]
theorem upd_other (f:Nat→Nat){k i:Nat}(v:Nat)(h:i≠k):upd f k v i=f i:=by simp[upd,h]
theorem vf_upd_above {B:Nat}{f:Nat→Nat}{k v n:Nat}(h:n≤k):vf B (upd f k v) n=vf B f n:=
 vf_congr fun i hi=>upd_other f v (by omega)
theorem vf_upd {B:Nat}{f:Nat→Nat}{k v n:Nat}(h:k < n):vf B (upd f k v) n+f k*B^k=vf B f n+v*B^k:=by
 induction n with
 | zero=>omega
 | succ n ih=>
  rw[vf_succ,vf_succ];by_cases hk:k=n
  ·subst hk;rw[vf_upd_above (Nat.le_refl _),upd_same];omega
  ·rw[upd_other f v (by omega)];have:=ih (by omega);omega
theorem carry_step {B p s o c:Nat}(h:o+B*c=s):o*p+c*(p*B)=s*p:=by
 subst h;rw[Nat.add_mul,Nat.mul_comm p B,←Nat.mul_assoc,Nat.mul_comm c B]
theorem add_step {B i:Nat}{o x y:Nat→Nat}{c c':Nat}(h:vf B o i+c*B^i=vf B x i+vf B y i)(hs:o i+B*c'=x i+y i+c):
  vf B o (i+1)+c'*B^(i+1)=vf B x (i+1)+vf B y (i+1):=by
 have:=carry_step (p:=B^i) hs;rw[vf_succ,vf_succ,vf_succ,Nat.pow_succ];rw[Nat.add_mul,Nat.add_mul] at this;omega
theorem sub_step {B i:Nat}{o x y:Nat→Nat}{c c':Nat}(h:vf B o i+vf B y i=vf B x i+c*B^i)(hs:o i+y i+c=x i+B*c'):
  vf B o (i+1)+vf B y (i+1)=vf B x (i+1)+c'*B^(i+1):=by
 have e:(o i+y i+c)*B^i=(x i+B*c')*B^i:=by rw[hs]
 rw[Nat.add_mul,Nat.add_mul,Nat.add_mul]at e;rw[vf_succ,vf_succ,vf_succ,Nat.pow_succ,Nat.mul_comm (B^i) B,←Nat.mul_assoc,Nat.mul_comm c' B];omega
theorem mul_step {B i j n:Nat} {o y:Nat→Nat} {x c lo c' T:Nat} (hj:i+j < n) (h:vf B o n+c*B^(i+j)=T+x*vf B y j*B^i)
  (hs:lo+B*c'=o (i+j)+x*y j+c):vf B (upd o (i+j) lo) n+c'*B^(i+(j+1))=T+x*vf B y (j+1)*B^i:=by
 have h1:=vf_upd (B:=B) (f:=o) (v:=lo) hj;have h2:=carry_step (p:=B^(i+j)) hs
 have e:B^(i+(j+1))=B^(i+j)*B:=by rw[←Nat.add_assoc,Nat.pow_succ]
 have h3:x*vf B y (j+1)*B^i=x*vf B y j*B^i+x*y j*B^(i+j):=by
  rw[vf_succ,Nat.mul_add,Nat.add_mul,Nat.pow_add,Nat.mul_assoc x (y j*B^j) (B^i),Nat.mul_assoc (y j),Nat.mul_comm (B^j) (B^i),←Nat.mul_assoc x]
 rw[e,h3];rw[Nat.add_mul,Nat.add_mul] at h2;omega
theorem div1_step {B i n:Nat} {q a:Nat→Nat} {d r r':Nat} (hi:i < n)
  (h:vf B (fun k=>q (i+1+k)) (n - (i+1))*d+r=vf B (fun k=>a (i+1+k)) (n - (i+1))) (hs:q i*d+r'=r*B+a i):
  vf B (fun k=>q (i+k)) (n - i)*d+r'=vf B (fun k=>a (i+k)) (n - i):=by
 have e:n - i=n - (i+1)+1:=by omega
 rw[e,vf_head,vf_head]
 have e1:(fun k=>q (i+(k+1)))=fun k=>q (i+1+k):=funext fun k=>by rw[show i+(k+1)=i+1+k by omega]
 have e2:(fun k=>a (i+(k+1)))=fun k=>a (i+1+k):=funext fun k=>by rw[show i+(k+1)=i+1+k by omega]
 rw[e1,e2,←h];simp only[Nat.add_zero];generalize vf B (fun k=>q (i+1+k)) (n - (i+1))=Q at *;rw[Nat.add_mul,Nat.mul_add,Nat.mul_assoc B Q d,Nat.mul_comm B r];omega
theorem msub_step {B i:Nat} {o u v:Nat→Nat} {t b c lo b' c':Nat} (h:vf B o i+t*vf B v i=vf B u i+(b+c)*B^i)
  (hp:lo+B*c'=t*v i+c) (hs:o i+lo+b=u i+B*b'):
  vf B o (i+1)+t*vf B v (i+1)=vf B u (i+1)+(b'+c')*B^(i+1):=by
 have h1:=carry_step (p:=B^i) hp
 have h2:(o i+lo+b)*B^i=(u i+B*b')*B^i:=by rw[hs]
 rw[Nat.add_mul,Nat.add_mul,Nat.add_mul]at h2;rw[Nat.add_mul] at h1 h
 have h3:t*vf B v (i+1)=t*vf B v i+t*v i*B^i:=by rw[vf_succ,Nat.mul_add,Nat.mul_assoc]
 have h4:(b'+c')*B^(i+1)=B*b'*B^i+c'*(B^i*B):=by
  rw[Nat.add_mul,Nat.pow_succ,Nat.mul_comm (B^i) B,←Nat.mul_assoc b',Nat.mul_comm b' B]
 rw[vf_succ B o,vf_succ B u,h3,h4];omega
theorem shl_step {B i m:Nat}{o w:Nat→Nat}{c c':Nat}(h:vf B o i+c*B^i=vf B w i*m)(hs:o i+B*c'=w i*m+c):
  vf B o (i+1)+c'*B^(i+1)=vf B w (i+1)*m:=by
 have h1:=carry_step (p:=B^i) hs;rw[Nat.add_mul] at h1
 have h2:w i*m*B^i=w i*B^i*m:=by rw[Nat.mul_assoc,Nat.mul_comm m,←Nat.mul_assoc]
 rw[vf_succ,vf_succ,Nat.add_mul,Nat.pow_succ];omega
theorem canon_trim {B:Nat}{f:Nat→Nat}{m n:Nat}(hlt:∀ i,i < m→f i < B)(hn:n≤m)(h0:∀ i,n≤i→i < m→f i=0)(hstop:n=0∨f (n - 1)≠0):
  Canon B f n∧vf B f n=vf B f m:=by
 refine ⟨⟨fun i hi=>hlt i (by omega),fun h=>?_⟩,(vf_pad hn h0).symm⟩;rcases hstop with h1 | h1
 ·exact absurd h1 h
 ·exact h1
theorem test_iff {B T2 vt v2 u2 h r:Nat}(hr:h*vt+r=T2):h*v2≤r*B+u2 ↔ h*(vt*B+v2)≤T2*B+u2:=by
 subst hr;rw[Nat.mul_add,Nat.add_mul,←Nat.mul_assoc];omega
theorem test_over {B T2 vt v2 u2 h r:Nat}(hr:h*vt+r=T2)(hB:B≤r)(hh:h < B)(hv:v2 < B):h*(vt*B+v2)≤T2*B+u2:=by
 rw[←test_iff hr];have h1:h*v2≤B*B:=Nat.mul_le_mul (Nat.le_of_lt hh) (Nat.le_of_lt hv);have h2:B*B≤r*B:=Nat.mul_le_mul_right _ hB;omega
theorem top3 (B:Nat)(u:Nat→Nat)(n:Nat):vf B u (n+3)=vf B u n+((u (n+2)*B+u (n+1))*B+u n)*B^n:=by
 rw[vf_succ,vf_succ,vf_succ,Nat.pow_succ,Nat.pow_succ]
 grind
theorem top2 (B:Nat)(v:Nat→Nat)(n:Nat):vf B v (n+2)=vf B v n+(v (n+1)*B+v n)*B^n:=by
 rw[vf_succ,vf_succ,Nat.pow_succ]
 grind
theorem top2' (B:Nat)(u:Nat→Nat)(n:Nat):vf B u (n+3)=vf B u (n+1)+(u (n+2)*B+u (n+1))*B^(n+1):=by
 rw[vf_succ,vf_succ,Nat.pow_succ,Nat.pow_succ]
 grind
theorem exists_quo {U V:Nat}(h:0 < V):∃ q,q*V≤U∧U < (q+1)*V:=
 ⟨U / V,Nat.div_mul_le_self _ _,by rw[Nat.add_mul,Nat.one_mul];exact Nat.lt_div_mul_add h⟩
section
variable {B:Nat} {u v:Nat→Nat} {n h r:Nat}
variable (hB:0 < B) (hu:∀ i,i < n+3→u i < B) (hv:∀ i,i < n+2→v i < B) (hv0:v (n+1)≠0)
include hB hu hv0 in
theorem first_ge:vf B u (n+3) < ((u (n+2)*B+u (n+1)) / v (n+1)+1)*vf B v (n+2):=by
 have hV:v (n+1)*B^(n+1)≤vf B v (n+2):=by rw[vf_succ];omega
 have hU:vf B u (n+3) < (u (n+2)*B+u (n+1)+1)*B^(n+1):=by
  rw[top2',Nat.add_mul _ 1,Nat.one_mul];have:vf B u (n+1) < B^(n+1):=vf_lt fun i hi=>hu i (by omega);omega
 have hVpos:0 < vf B v (n+2):=Nat.lt_of_lt_of_le (Nat.mul_pos (Nat.pos_of_ne_zero hv0) (Nat.pow_pos hB)) hV;obtain ⟨q,hq1,hq2⟩:=exists_quo (U:=vf B u (n+3)) hVpos;have h1:=guess_ge hU hV hq1 (Nat.pos_of_ne_zero hv0);exact Nat.lt_of_lt_of_le hq2 (Nat.mul_le_mul_right _ (Nat.succ_le_succ h1))
include hB hu hv0 in
theorem guess_fail (hg:h*(v (n+1)*B+v n) > (u (n+2)*B+u (n+1))*B+u n):0 < h∧vf B u (n+3) < (h - 1+1)*vf B v (n+2):=by
 have hV:(v (n+1)*B+v n)*B^n≤vf B v (n+2):=by rw[top2];omega
 have hU:vf B u (n+3) < ((u (n+2)*B+u (n+1))*B+u n+1)*B^n:=by
  rw[top3,Nat.add_mul _ 1,Nat.one_mul];have:vf B u n < B^n:=vf_lt fun i hi=>hu i (by omega);omega
 have hpos:0 < v (n+1)*B^(n+1):=Nat.mul_pos (Nat.pos_of_ne_zero hv0) (Nat.pow_pos hB)
 have hVpos:0 < vf B v (n+2):=by rw[vf_succ];omega
 obtain ⟨q,hq1,hq2⟩:=exists_quo (U:=vf B u (n+3)) hVpos;have h1:=guess_down hU hV hq1 hg;exact ⟨Nat.lt_of_le_of_lt (Nat.zero_le _) h1,Nat.lt_of_lt_of_le hq2 (Nat.mul_le_mul_right _ (by omega))⟩
include hv hv0 in
theorem guess_pass (hh:h < B)(hg:h*(v (n+1)*B+v n)≤(u (n+2)*B+u (n+1))*B+u n):h*vf B v (n+2)≤vf B u (n+3)+vf B v (n+2):=by
 have hpos:B^(n+1)≤v (n+1)*B^(n+1):=by
  have:=Nat.mul_le_mul_right (B^(n+1)) (Nat.pos_of_ne_zero hv0);omega
 refine guess_le (T:=(u (n+2)*B+u (n+1))*B+u n) (t:=v (n+1)*B+v n) (lo:=B^n) ?_ ?_ hg ?_
 ·rw[top3];omega
 ·rw[top2,Nat.add_mul _ 1,Nat.one_mul];have:vf B v n < B^n:=vf_lt fun i hi=>hv i (by omega);omega
 ·have h1:h*B^n≤B*B^n:=Nat.mul_le_mul_right _ (Nat.le_of_lt hh)
  have h2:B*B^n=B^(n+1):=by rw[Nat.pow_succ,Nat.mul_comm]
  have h3:vf B v (n+2)=vf B v (n+1)+v (n+1)*B^(n+1):=vf_succ _ _ _;omega
end
theorem msub_ok {U V o t:Nat}(hs:o+t*V=U)(hge:U < (t+1)*V):o < V:=by
 rw[Nat.add_mul,Nat.one_mul]at hge;omega
theorem msub_back {U V o t P:Nat}(hs:o+t*V=U+P)(ho:o < P)(hle:t*V≤U+V):0 < t∧P≤o+V∧(o+V - P)+(t - 1)*V=U∧o+V - P < V:=by
 have ht:0 < t:=by
  rcases Nat.eq_zero_or_pos t with h | h
  ·subst h;omega
  ·exact h
 obtain ⟨k,rfl⟩:∃ k,t=k+1:=⟨t - 1,by omega⟩;rw[Nat.add_mul,Nat.one_mul] at hs hle;simp only[Nat.add_sub_cancel];omega
theorem upd_lt {o:Nat→Nat}{B k v:Nat}(ho:∀ j,o j < B)(hv:v < B)(j:Nat):upd o k v j < B:=by
 unfold upd;split
 ·exact hv
 ·exact ho j
def cmpNat (x y:Nat):Int:=if x < y then -1 else if y < x then 1 else 0
def padded (g:Nat→Nat)(n:Nat):Nat→Nat:=fun i=>if i < n then g i else 0
theorem padded_in {g:Nat→Nat}{n k:Nat}(h:k < n):padded g n k=g k:=by simp[padded,h]
theorem padded_out {g:Nat→Nat}{n k:Nat}(h:¬k < n):padded g n k=0:=by simp[padded,h]
end Go.Proofs.YtnjonlnemagomaaGreatDoor.Big
namespace Go.Proofs.YtnjonlnemagomaaGreatDoor
open Go.RowKit Big
set_option maxRecDepth 100000
set_option maxHeartbeats 8000000
theorem lt_of_cell {w:World}{p:Addr}{v:Value}(h:w.cell? p=some v):p.block < w.heap.size:=by
 by_cases hb:p.block < w.heap.size
 ·exact hb
 ·exfalso;simp[World.cell?,hb] at h
theorem below_drewN {B:Nat}{a w:World}(h:Below B a w)(n:Nat):Below B a (w.drewN n):=⟨h.os,h.tape,h.output,h.size,h.block⟩
def New (w w':World):Prop:=Below w.heap.size w w'
theorem New.refl (w:World):New w w:=Below.refl _ _
theorem New.trans {a b c:World}(h:New a b)(k:New b c):New a c:=Below.trans h (Below.mono k h.size)
theorem New.size {a b:World}(h:New a b):a.heap.size≤b.heap.size:=Below.size h
theorem New.drewN {a b:World}(h:New a b)(n:Nat):New a (b.drewN n):=below_drewN h n
theorem New.drew {a b:World}(h:New a b):New a b.drew:=Below.drew h
theorem New.alloc {a b:World}(h:New a b)(o:Obj):New a (b.alloc o):=Below.alloc h h.size o
theorem New.setCell {a b:World}(h:New a b){p:Addr}(hp:a.heap.size≤p.block)(u:Value):New a (b.setCell p u):=Below.setCell h hp u
theorem New.cell {a b:World}(h:New a b){p:Addr}{v:Value}(hc:a.cell? p=some v):b.cell? p=some v:=(Below.cell h (lt_of_cell hc)).trans hc
theorem New.cells {a b:World}(h:New a b):∀ k o,k < a.heap.size→b.cell? ⟨k,o,none⟩=a.cell? ⟨k,o,none⟩:=fun k o hk=>Below.cell h (p:=⟨k,o,none⟩) hk
theorem New.row {a b:World}(h:New a b){k:Nat}{t:TypeId}{n:Nat}{f:Nat→Value}(hr:a.rowIs k t n f):b.rowIs k t n f:=hr.of_block (Below.block h k hr.lt)
def Rd (w:World)(a:Option Addr)(k:IntKind)(n:Nat)(f:Nat→Nat):Prop:=∀ i,i < n→∃ b off,a=some ⟨b,off,none⟩∧w.cell? ⟨b,off+i,none⟩=some (.int k (f i))
theorem Rd.new {w w':World}{a:Option Addr}{k:IntKind}{n:Nat}{f:Nat→Nat}(h:Rd w a k n f)(hb:New w w'):Rd w' a k n f:=fun i hi=>by
 obtain ⟨b,off,e,hc⟩:=h i hi;exact ⟨b,off,e,hb.cell hc⟩
theorem Rd.le {w:World}{a:Option Addr}{k:IntKind}{n m:Nat}{f:Nat→Nat}(h:Rd w a k n f)(hm:m≤n):Rd w a k m f:=fun i hi=>h i (by omega)
theorem Rd.zero (w:World)(a:Option Addr)(k:IntKind)(f:Nat→Nat):Rd w a k 0 f:=fun i hi=>by omega
theorem Rd.of_row {w:World}{b:Nat}{t:TypeId}{n:Nat}{k:IntKind}{f:Nat→Nat}(h:w.rowIs b t n fun i=>.int k (f i)):Rd w (some ⟨b,0,none⟩) k n f:=fun i hi=>⟨b,0,rfl,by
 have:=h.cell hi
 simpa using this⟩
def Row (w:World)(b:Nat)(t:TypeId)(k:IntKind)(n:Nat)(f:Nat→Nat):Prop:=w.rowIs b t n fun i=>.int k (f i)
theorem Row.rd {w:World}{b:Nat}{t:TypeId}{k:IntKind}{n:Nat}{f:Nat→Nat}(h:Row w b t k n f):Rd w (some ⟨b,0,none⟩) k n f:=Rd.of_row h
theorem Row.new {w w':World}{b:Nat}{t:TypeId}{k:IntKind}{n:Nat}{f:Nat→Nat}(h:Row w b t k n f)(hn:New w w'):Row w' b t k n f:=hn.row h
theorem Row.drewN {w:World}{b:Nat}{t:TypeId}{k:IntKind}{n:Nat}{f:Nat→Nat}(h:Row w b t k n f)(m:Nat):Row (w.drewN m) b t k n f:=h
theorem Row.drew {w:World}{b:Nat}{t:TypeId}{k:IntKind}{n:Nat}{f:Nat→Nat}(h:Row w b t k n f):Row w.drew b t k n f:=h
theorem Row.alloc {w:World}{b:Nat}{t:TypeId}{k:IntKind}{n:Nat}{f:Nat→Nat}(h:Row w b t k n f)(o:Obj):Row (w.alloc o) b t k n f:=World.rowIs.alloc h o
theorem Row.cell {w:World}{b:Nat}{t:TypeId}{k:IntKind}{n:Nat}{f:Nat→Nat}(h:Row w b t k n f){i:Nat}(hi:i < n):w.cell? ⟨b,i,none⟩=some (.int k (f i)):=World.rowIs.cell h hi
theorem Row.frozen {w:World}{b:Nat}{t:TypeId}{k:IntKind}{n:Nat}{f:Nat→Nat}(h:Row w b t k n f)(i:Nat):w.frozen? ⟨b,i,none⟩=false:=World.rowIs.frozen h i
theorem Row.lt {w:World}{b:Nat}{t:TypeId}{k:IntKind}{n:Nat}{f:Nat→Nat}(h:Row w b t k n f):b < w.heap.size:=World.rowIs.lt h
theorem Row.other {w:World}{b:Nat}{t:TypeId}{k:IntKind}{n:Nat}{f:Nat→Nat}(h:Row w b t k n f){p:Addr}(hp:b≠p.block)(u:Value):Row (w.setCell p u) b t k n f:=World.rowIs.setOther h hp u
theorem Row.set {w:World}{b:Nat}{t:TypeId}{k:IntKind}{n:Nat}{f:Nat→Nat}(h:Row w b t k n f)(i v:Nat):Row (w.setCell ⟨b,i,none⟩ (.int k v)) b t k n (Big.upd f i v):=by
 have:=World.rowIs.set h i (.int k v);refine World.rowIs.congr this fun j _=>?_;unfold Big.upd;split <;> rfl
theorem Row.made (w:World)(k:IntKind)(n:Nat)(t:TypeId):Row (w.alloc (.cells (madeCells #[.int k 0] n) t)) w.heap.size t k n fun _=>0:=World.rowIs_made w (.int k 0) n t
theorem size_alloc (w:World)(o:Obj):w.heap.size+1=(w.alloc o).heap.size:=by
 show _=(w.heap.push _).size;rw[Array.size_push]
def Box (w:World)(B:Nat)(t:TypeId)(cs:Array Value):Prop:=w.heap[B]?=some (.cells cs t (0,0))
theorem Box.lt {w:World}{B:Nat}{t:TypeId}{cs:Array Value}(h:Box w B t cs):B < w.heap.size:=by
 unfold Box at h;rcases Nat.lt_or_ge B w.heap.size with h1 | h1
 ·exact h1
 ·rw[Array.getElem?_eq_none h1] at h;cases h
theorem Box.new {a b:World}{B:Nat}{t:TypeId}{cs:Array Value}(h:Box a B t cs)(hn:New a b):Box b B t cs:=by
 have:=Below.block hn B h.lt;unfold Box at h⊢;rw[this,h]
theorem Box.alloc (w:World)(B:Nat)(t:TypeId)(cs:Array Value)(hB:B=w.heap.size):Box (w.alloc (.cells cs t)) B t cs:=by
 subst hB;show (w.heap.push _)[w.heap.size]?=_;simp
theorem lay1 (w:World)(t:TypeId)(cs:Array Value):Hid (Box (w.alloc (.cells cs t)) w.heap.size t cs)∧Hid (New w (w.alloc (.cells cs t))):=
 ⟨Box.alloc w _ t cs rfl,(New.refl w).alloc _⟩
theorem lay2 (w:World)(t:TypeId)(cs:Array Value)(t':TypeId)(cs':Array Value):Hid (Box ((w.alloc (.cells cs t)).alloc (.cells cs' t')) w.heap.size t cs)∧Hid (Box ((w.alloc (.cells cs t)).alloc (.cells cs' t')) (w.heap.size+1) t' cs')∧Hid (New w ((w.alloc (.cells cs t)).alloc (.cells cs' t'))):=
 ⟨(Box.alloc w _ t cs rfl).new ((New.refl _).alloc _),Box.alloc _ _ t' cs' (by simp),((New.refl w).alloc _).alloc _⟩
theorem lay3 (w:World)(t:TypeId)(cs:Array Value)(t':TypeId)(cs':Array Value)(t'':TypeId)(cs'':Array Value):Hid (Box (((w.alloc (.cells cs t)).alloc (.cells cs' t')).alloc (.cells cs'' t'')) w.heap.size t cs)∧Hid (Box (((w.alloc (.cells cs t)).alloc (.cells cs' t')).alloc (.cells cs'' t'')) (w.heap.size+1) t' cs')∧
  Hid (Box (((w.alloc (.cells cs t)).alloc (.cells cs' t')).alloc (.cells cs'' t'')) (w.heap.size+1+1) t'' cs'')∧Hid (New w (((w.alloc (.cells cs t)).alloc (.cells cs' t')).alloc (.cells cs'' t''))):=
 ⟨(Box.alloc w _ t cs rfl).new (((New.refl _).alloc _).alloc _),(Box.alloc _ _ t' cs' (by simp)).new ((New.refl _).alloc _),Box.alloc _ _ t'' cs'' (by simp),(((New.refl w).alloc _).alloc _).alloc _⟩
theorem Box.cell {w:World}{B:Nat}{t:TypeId}{cs:Array Value}(h:Box w B t cs)(i:Nat):w.cell? ⟨B,i,none⟩=cs[i]?:=by
 unfold Box at h;simp[World.cell?,h]
theorem Box.frozen {w:World}{B:Nat}{t:TypeId}{cs:Array Value}(h:Box w B t cs)(i:Nat):w.frozen? ⟨B,i,none⟩=false:=by
 unfold Box at h;simp[World.frozen?,h]
theorem Box.one {w:World}{B:Nat}{t:TypeId}{x:Value}(h:Box w B t #[x]):w.cell? ⟨B,0,none⟩=some x∧w.frozen? ⟨B,0,none⟩=false∧B < w.heap.size:=⟨h.cell 0,h.frozen 0,h.lt⟩
theorem Box.two {w:World}{B:Nat}{t:TypeId}{x y:Value}(h:Box w B t #[x,y]):
  w.cell? ⟨B,0,none⟩=some x∧w.cell? ⟨B,1,none⟩=some y∧w.frozen? ⟨B,0,none⟩=false∧w.frozen? ⟨B,1,none⟩=false∧B < w.heap.size:=⟨h.cell 0,h.cell 1,h.frozen 0,h.frozen 1,h.lt⟩
theorem Box.four {w:World}{B:Nat}{t:TypeId}{x y x' y':Value}(h:Box w B t #[x,y,x',y']):
  (w.cell? ⟨B,0,none⟩=some x∧w.cell? ⟨B,1,none⟩=some y∧w.cell? ⟨B,2,none⟩=some x'∧w.cell? ⟨B,3,none⟩=some y')∧w.frozen? ⟨B,0,none⟩=false∧w.frozen? ⟨B,1,none⟩=false∧w.frozen? ⟨B,2,none⟩=false∧w.frozen? ⟨B,3,none⟩=false∧B < w.heap.size:=
 ⟨⟨h.cell 0,h.cell 1,h.cell 2,h.cell 3⟩,h.frozen 0,h.frozen 1,h.frozen 2,h.frozen 3,h.lt⟩
theorem Box.set {w:World}{B:Nat}{t:TypeId}{cs:Array Value}(h:Box w B t cs)(i:Nat)(u:Value):Box (w.setCell ⟨B,i,none⟩ u) B t (cs.setIfInBounds i u):=by
 unfold Box at h⊢;simp[World.setCell,Array.getElem?_modify,h]
theorem Box.other {w:World}{B:Nat}{t:TypeId}{cs:Array Value}(h:Box w B t cs){p:Addr}(hp:p.block≠B)(u:Value):Box (w.setCell p u) B t cs:=by
 unfold Box at h⊢;simp[World.setCell,Array.getElem?_modify,h,hp]
theorem Box.put2 {w:World}{B:Nat}{t:TypeId}{x y:Value}(h:Box w B t #[x,y])(u u':Value):Box ((w.setCell ⟨B,0,none⟩ u).setCell ⟨B,1,none⟩ u') B t #[u,u']:=(h.set 0 u).set 1 u'
theorem Box.put4 {w:World}{B:Nat}{t:TypeId}{x y x' y':Value}(h:Box w B t #[x,y,x',y'])(u u' v v':Value):Box ((((w.setCell ⟨B,0,none⟩ u).setCell ⟨B,1,none⟩ u').setCell ⟨B,2,none⟩ v).setCell ⟨B,3,none⟩ v') B t #[u,u',v,v']:=(((h.set 0 u).set 1 u').set 2 v).set 3 v'
def RdL (w:World)(a:Option Addr)(vs:List Value):Prop:=∀ i (h:i < vs.length),∃ b off,a=some ⟨b,off,none⟩∧w.cell? ⟨b,off+i,none⟩=some vs[i]
theorem RdL.new {w w':World}{a:Option Addr}{vs:List Value}(h:RdL w a vs)(hn:New w w'):RdL w' a vs:=fun i hi=>by
 obtain ⟨b,off,e,hc⟩:=h i hi;exact ⟨b,off,e,hn.cell hc⟩
theorem info_int:(Tryz.prog.info? 3).map (fun i=>(i.zero,i.size,i.bytes))=some (some (.int .i64 0),1,8):=by kernel_rfl
theorem grown_new {w wr w1:World}{o:Obj}{v:Value}{e:TypeId}{n:Nat}{xs:List Value}(hn:New w wr)(h:wr.ownsRow w.heap.size e 1 v n xs)(hg:(wr.alloc o).grownBy w1 v.ownBlock):New w w1:=by
 have h2:=hn.alloc o;obtain ⟨a1,a2,a3,a4,a5⟩:=h2;refine ⟨hg.os.trans a1,?_,?_,Nat.le_trans a4 hg.size,fun j hj=>?_⟩
 ·first | exact hg.tape.trans a2 | exact hg.output.trans a2
 ·first | exact hg.output.trans a3 | exact hg.tape.trans a3
 ·refine (hg.block j (Nat.lt_of_lt_of_le hj a4) ?_).trans (a5 j hj);rcases h.2 with ⟨rfl,_⟩ | ⟨g,cap,cur,rfl,hb,_⟩
  ·intro h;cases h
  ·intro h;injection h with h;simp only at h;omega
theorem one_c1 (wr:World)(x:Value)(t:TypeId):∀ (j:Nat) (u:Value),([x]:List Value)[j]?=some u→(wr.alloc (.cells #[x] t)).cell? ((⟨wr.heap.size,0,none⟩:Addr).add j)=some u:=by
 intro j u h
 match j,h with
 | 0,h=>
  simp at h;subst h;have:(wr.alloc (.cells #[x] t)).cell? ⟨wr.heap.size,0,none⟩=(#[x]:Array Value)[0]?:=World.cell?_alloc_new wr #[x] t 0;rw[show (⟨wr.heap.size,0,none⟩:Addr).add 0=⟨wr.heap.size,0,none⟩ from rfl,this];rfl
 | j+1,h=>simp at h
theorem one_c2 (z:Int):∀ u∈[Value.int .i64 z],u.oneCell'=true:=by
 intro u h;simp at h;subst h;rfl
def bools (l:List Bool):List Value:=l.map Value.bool
def ints (l:List Int):List Value:=l.map (Value.int .i64)
theorem RdL.bool {w:World}{a:Option Addr}{l:List Bool}(h:RdL w a (bools l))(i:Nat)(hi:i < l.length):∃ b off,a=some ⟨b,off,none⟩∧w.cell? ⟨b,off+i,none⟩=some (.bool l[i]):=by
 obtain ⟨b,off,e,hc⟩:=h i (by simpa[bools] using hi);exact ⟨b,off,e,by rw[hc];simp[bools]⟩
theorem own_new {w w':World}{base:Nat}{e:TypeId}{v:Value}{n:Nat}{xs:List Value}(h:w.ownsRow base e 1 v n xs)(hn:New w w'):w'.ownsRow base e 1 v n xs:=by
 refine ⟨h.1,?_⟩;rcases h.2 with h2 | ⟨g,cap,cur,h1,h2,h3,h4⟩
 ·exact .inl h2
 ·refine .inr ⟨g,cap,cur,h1,h2,?_,h4⟩
  have hlt:g < w.heap.size:=by
   rcases Nat.lt_or_ge g w.heap.size with h | h
   ·exact h
   ·rw[Array.getElem?_eq_none h] at h3;cases h3
  rw[Below.block hn g hlt,h3]
theorem own_neS {w:World}{base j:Nat}{e:TypeId}{S:Nat}{v:Value}{n:Nat}{xs:List Value}(h:w.ownsRow base e S v n xs)(hj:j < base):some j≠v.ownBlock:=by
 rcases h.2 with ⟨rfl,_⟩ | ⟨g,cap,cur,rfl,hb,_⟩
 ·intro h;cases h
 ·intro h;injection h with h;simp only at h;omega
theorem grown_newS' {w wr w1:World}{v:Value}{e:TypeId}{S:Nat}{n:Nat}{xs:List Value}(hn:New w wr)(h:wr.ownsRow w.heap.size e S v n xs)(hg:wr.grownBy w1 v.ownBlock):New w w1:=by
 obtain ⟨a1,a2,a3,a4,a5⟩:=hn;refine ⟨hg.os.trans a1,?_,?_,Nat.le_trans a4 hg.size,fun j hj=>?_⟩
 ·first | exact hg.tape.trans a2 | exact hg.output.trans a2
 ·first | exact hg.output.trans a3 | exact hg.tape.trans a3
 ·exact (hg.block j (Nat.lt_of_lt_of_le hj a4) (own_neS h hj)).trans (a5 j hj)
theorem own_newS {w w':World}{base:Nat}{e:TypeId}{S:Nat}{v:Value}{n:Nat}{xs:List Value}(h:w.ownsRow base e S v n xs)(hn:New w w'):w'.ownsRow base e S v n xs:=by
 refine ⟨h.1,?_⟩;rcases h.2 with h2 | ⟨g,cap,cur,h1,h2,h3,h4⟩
 ·exact .inl h2
 ·refine .inr ⟨g,cap,cur,h1,h2,?_,h4⟩
  have hlt:g < w.heap.size:=by
   rcases Nat.lt_or_ge g w.heap.size with h | h
   ·exact h
   ·rw[Array.getElem?_eq_none h] at h3;cases h3
  rw[Below.block hn g hlt,h3]
theorem own_rd {w:World}{base:Nat}{e:TypeId}{v:Value}{n:Nat}{xs:List Value}(h:w.ownsRow base e 1 v n xs):∃ (a:Option Addr) (cap:Nat),v=.slice a n cap∧RdL w a xs∧xs.length=n:=by
 have hl:=h.1;rw[Nat.mul_one] at hl;rcases h.2 with ⟨rfl,rfl⟩ | ⟨g,cap,cur,rfl,hb,hc,h1,h2,h3,h4⟩
 ·exact ⟨none,0,rfl,fun i hi=>by omega,hl⟩
 ·refine ⟨_,_,rfl,fun i hi=>⟨g,0,rfl,?_⟩,hl⟩
  have:w.cell? ⟨g,0+i,none⟩=cur[0+i]?:=by simp[World.cell?,hc]
  rw[this,Nat.zero_add];rw[Nat.mul_one] at h4;subst h4
  have hi':i < cur.size:=by simp at hi;omega
  rw[Array.getElem?_eq_getElem hi'];simp
end Go.Proofs.YtnjonlnemagomaaGreatDoor
