/- Part CardLn02. -/
import Derived.Test.YtnjonlnemagomaaGreatDoorB17
import Derived.Test.YtnjonlnemagomaaGreatDoorCardLn01
namespace Go.Proofs.YtnjonlnemagomaaGreatDoor.Flo
set_option maxRecDepth 100000
set_option maxHeartbeats 8000000
set_option linter.all false
open Ieee
theorem order_eq_iff {x y:Nat}(hx:Fin single x)(hy:Fin single y):(single.order x y==some Ordering.eq)=decide (sval single x=sval single y):=by
 rw[order_fin single hx hy,compare_int];by_cases h1:sval single x < sval single y
 ·rw[if_pos h1,decide_eq_false (by omega)];rfl
 ·rw[if_neg h1];by_cases h2:sval single x=sval single y
  ·rw[if_pos h2,decide_eq_true h2];rfl
  ·rw[if_neg h2,decide_eq_false h2];rfl
theorem dval (neg:Bool){m:Nat}{s:Int}(hm:m≠0)(h:m < 16777216)(lo: -900≤s)(hi:s≤900):Fin double (double.nearest neg m s)∧sgn double (double.nearest neg m s)=neg∧rung double (double.nearest neg m s)=erung double m s:=by
 obtain ⟨M,h1,h2,h3,h4,h5⟩:=drung hm h (by omega: -1000≤s) hi;rw[(dnearest neg hm h (by omega) hi).1];have hs:=sgn_word double neg (r:=erung double m s) (by rw[dsw];omega);exact ⟨by unfold Fin;rw[hs.2,dinf];exact h5,hs⟩
end Go.Proofs.YtnjonlnemagomaaGreatDoor.Flo
