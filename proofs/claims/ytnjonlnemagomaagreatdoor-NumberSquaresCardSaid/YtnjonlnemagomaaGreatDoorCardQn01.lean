/- Part CardQn01. -/
import Derived.Test.YtnjonlnemagomaaGreatDoorB11
namespace Go.Proofs.YtnjonlnemagomaaGreatDoor
set_option maxRecDepth 100000
set_option maxHeartbeats 8000000
set_option linter.all false
theorem sq_lt {x y:Int}(hx:0≤x)(h:x < y):x*x < y*y:=by
 have h1:x*x≤x*y:=Int.mul_le_mul_of_nonneg_left (Int.le_of_lt h) hx;have h2:x*y < y*y:=Int.mul_lt_mul_of_pos_right h (by omega);omega
end Go.Proofs.YtnjonlnemagomaaGreatDoor
