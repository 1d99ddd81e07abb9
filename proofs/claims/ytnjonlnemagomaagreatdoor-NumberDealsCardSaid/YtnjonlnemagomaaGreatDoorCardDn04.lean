/- Part CardDn04. -/
import Derived.JoinedOf
import Derived.Test.YtnjonlnemagomaaGreatDoorCardDn03
namespace Go.Proofs.YtnjonlnemagomaaGreatDoor
open Go.RowKit Go.ChangeShapes Go.WideShapes Go.Deep
set_option maxRecDepth 100000
set_option maxHeartbeats 8000000
theorem deals_named:Tryz.pinned.checked.prog.funcNamed Rows.numberDealsRow.func=some 7:=by kernel_rfl
end Go.Proofs.YtnjonlnemagomaaGreatDoor
