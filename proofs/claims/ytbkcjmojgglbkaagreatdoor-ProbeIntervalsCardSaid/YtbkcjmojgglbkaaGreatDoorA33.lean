/- Part A33. -/
import Derived.Test.YtbkcjmojgglbkaaGreatDoorA24
namespace Go.Proofs.YtbkcjmojgglbkaaGreatDoor.Flo
set_option maxRecDepth 100000
set_option maxHeartbeats 8000000
open Ieee
theorem shalf {m:Nat}{s:Int}(hm:m≠0)(h:m < 16777216)(lo: -90≤s)(hi:s≤90):single.div (single.nearest false m s) 1073741824=some (single.nearest false m (s - 1)):=by
 have hl:=log2_small hm h
 have h1:single.read 1073741824=.number false 8388608 (-22):=by decide
 have h2:=(snearest false hm h (by omega: -100≤s) (by omega)).2;have h3:=nearest_scale single false (m:=m) (p:=s - 1) (23 - m.log2+3) hm (by rw[sfb];omega) (by rw[slp,sfb];omega)
 have hM:(m*2^(23 - m.log2)).log2=23:=by rw[log2_mul_pow hm];omega
 have hM0:m*2^(23 - m.log2)≠0:=Nat.mul_ne_zero hm (Nat.ne_of_gt (Nat.pow_pos (by decide)));unfold Format.div;rw[h1,h2];obtain ⟨M,hMe⟩:∃ M,m*2^(23 - m.log2)=M:=⟨_,rfl⟩;rw[hMe] at hM hM0⊢
 have e0:(8388608:Nat).log2=23:=by decide
 have e1:M <<< (single.fractionBits+2+(8388608:Nat).log2 - M.log2)=8388608*(4*M):=by
  rw[hM,e0,sfb,Nat.shiftLeft_eq];show M*2^25=_;omega
 have e2:8388608*(4*M) / 8388608=4*M:=Nat.mul_div_cancel_left _ (by decide);have e3:8388608*(4*M) % 8388608=0:=Nat.mul_mod_right _ _;unfold Datum.quotient;simp only[show ¬(8388608:Nat)=0 by decide,if_false,Option.map_some];rw[e1,e2,e3,hM,e0,sfb];show some (single.nearest (false ^^ false) (2*(4*M)+0) _)=_
 have e4:m*2^(23 - m.log2+3)=2*(4*M)+0:=by rw[Nat.pow_add,←Nat.mul_assoc,hMe];omega
 have e5:s - 1 - ((23 - m.log2+3:Nat):Int)=s - ((23 - m.log2:Nat):Int) - -22 - ((23+2+23 - 23:Nat):Int) - 1:=by omega
 rw[Bool.xor_false,←h3,e4,e5]
end Go.Proofs.YtbkcjmojgglbkaaGreatDoor.Flo
