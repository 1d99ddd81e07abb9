/- Part B29. -/
import Derived.JoinedOf
import Derived.Test.YtnjonlnemagomaaGreatDoorB27
namespace Go.Proofs.YtnjonlnemagomaaGreatDoor
open Go.RowKit Go.ChangeShapes Go.WideShapes Go.Deep
set_option maxRecDepth 100000
set_option maxHeartbeats 8000000
theorem y9z:Tryz.pinned.checked.prog.funcNamed Rows.numberFormsRow.func=some 11:=by kernel_rfl
end Go.Proofs.YtnjonlnemagomaaGreatDoor
