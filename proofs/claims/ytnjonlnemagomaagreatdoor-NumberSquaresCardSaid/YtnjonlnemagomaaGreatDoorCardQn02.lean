/- Part CardQn02. -/
import Derived.Test.YtnjonlnemagomaaGreatDoorCardQn01
namespace Go.Proofs.YtnjonlnemagomaaGreatDoor
set_option maxRecDepth 100000
set_option maxHeartbeats 8000000
set_option linter.all false
theorem isRt_ex:∀ n:Nat,∃ r:Int,IsRt (n:Int) r
 | 0=>⟨0,isRt_zero⟩
 | n+1=>by
  obtain ⟨r,h0,h1,h2⟩:=isRt_ex n;rcases Int.lt_or_le ((n:Int)+1) ((r+1)*(r+1)) with h | h
  ·exact ⟨r,h0,by omega,by push_cast;exact h⟩
  ·refine ⟨r+1,by omega,by push_cast;exact h,?_⟩
   have e:(r+1+1)*(r+1+1)=(r+1)*(r+1)+(2*r+3):=by grind
   rw[e]
   push_cast
   omega
theorem isRt_exZ {z:Int}(h:0≤z):∃ r:Int,IsRt z r:=by
 obtain ⟨n,rfl⟩:∃ n:Nat,z=n:=⟨z.toNat,by omega⟩;exact isRt_ex n
theorem divInt_mulc (m d:Int)(h:d≠0):Rat.divInt m d*(d:Rat)=(m:Rat):=by
 rw[Rat.divInt_eq_div]
 exact Rat.div_mul_cancel (by
  intro e
  exact h (Rat.intCast_eq_zero_iff.1 e))
structure SqRes (q L H:Rat):Prop where
 lo:0≤L
 le:L≤H
 sl:L*L≤q
 sh:q≤H*H
 w:H - L≤1 / 1000
theorem sqRes_near {q:Rat}{m:Int}(h0:0≤m)(h1:m*m≤(q*((1000000:Int):Rat)).floor)(h2:(q*((1000000:Int):Rat)).floor < (m+1)*(m+1)):SqRes q (Rat.divInt m 1000) (Rat.divInt (m+1) 1000):=by
 have e1:=divInt_mulc m 1000 (by decide);have e2:=divInt_mulc (m+1) 1000 (by decide);rw[Rat.le_floor_iff,Rat.intCast_mul] at h1
 have h3:¬(m+1)*(m+1)≤(q*((1000000:Int):Rat)).floor:=by omega
 rw[Rat.le_floor_iff,Rat.intCast_mul]at h3
 have h4:(0:Rat)≤(m:Rat):=by
  rw[show (0:Rat)=((0:Int):Rat) from rfl];exact Rat.intCast_le_intCast.2 h0
 obtain ⟨L,hL⟩:∃ L,Rat.divInt m 1000=L:=⟨_,rfl⟩;obtain ⟨H,hH⟩:∃ H,Rat.divInt (m+1) 1000=H:=⟨_,rfl⟩;rw[hL] at e1⊢;rw[hH] at e2⊢
 have e3:((m+1:Int):Rat)=(m:Rat)+1:=by rw[Rat.intCast_add];rfl
 rw[e3]at e2 h3;obtain ⟨M,hM⟩:∃ M:Rat,(m:Rat)=M:=⟨_,rfl⟩;rw[hM] at e1 e2 h1 h3 h4;have c1:((1000:Int):Rat)=1000:=rfl;have c2:((1000000:Int):Rat)=1000000:=rfl;rw[c1] at e1 e2;rw[c2] at h1 h3;clear hL hH hM e3 c1 c2 h0 h2;subst e1
 have e4:H=L+1 / 1000:=by grind
 subst e4;refine ⟨by grind,by grind,by grind,by grind,by grind⟩
theorem sqRes_exact {q:Rat}{n d:Int}(h0:0≤n)(d0:0 < d)(hn:n*n=q.num)(hd:d*d=q.den):SqRes q (Rat.divInt n d) (Rat.divInt n d):=by
 have e:Rat.divInt n d*Rat.divInt n d=q:=by
  rw[Rat.divInt_mul_divInt _ _,hn,hd];exact Rat.num_divInt_den q
 have h:0≤Rat.divInt n d:=Rat.divInt_nonneg h0 (Int.le_of_lt d0);exact ⟨h,Rat.le_refl,by rw[e];exact Rat.le_refl,by rw[e];exact Rat.le_refl,by rw[Rat.sub_self];grind⟩
end Go.Proofs.YtnjonlnemagomaaGreatDoor
