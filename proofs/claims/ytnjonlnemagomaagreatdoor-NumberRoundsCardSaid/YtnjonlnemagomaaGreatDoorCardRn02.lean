/- Part CardRn02. -/
import Derived.Test.YtnjonlnemagomaaGreatDoorB17
import Derived.Test.YtnjonlnemagomaaGreatDoorCardRn01
namespace Go.Proofs.YtnjonlnemagomaaGreatDoor.Flo
set_option maxRecDepth 100000
set_option maxHeartbeats 8000000
set_option linter.all false
open Ieee
theorem dval (neg:Bool){m:Nat}{s:Int}(hm:m≠0)(h:m < 16777216)(lo: -900≤s)(hi:s≤900):Fin double (double.nearest neg m s)∧sgn double (double.nearest neg m s)=neg∧rung double (double.nearest neg m s)=erung double m s:=by
 obtain ⟨M,h1,h2,h3,h4,h5⟩:=drung hm h (by omega: -1000≤s) hi;rw[(dnearest neg hm h (by omega) hi).1];have hs:=sgn_word double neg (r:=erung double m s) (by rw[dsw];omega);exact ⟨by unfold Fin;rw[hs.2,dinf];exact h5,hs⟩
end Go.Proofs.YtnjonlnemagomaaGreatDoor.Flo
