/- Part CardDn05. -/
import Derived.JoinedOf
import Derived.Test.YtnjonlnemagomaaGreatDoorCardDn04
namespace Go.Proofs.YtnjonlnemagomaaGreatDoor
open Go.RowKit Go.ChangeShapes Go.WideShapes Go.Deep
set_option maxRecDepth 100000
set_option maxHeartbeats 8000000
theorem deals_closed:joinedFacts Tryz.pinned.checked.prog 7 Tryz.f7 Rows.numberDealsSpec Rows.numberDealsRow=true:=by kernel_rfl
end Go.Proofs.YtnjonlnemagomaaGreatDoor
