/- Part CardBn01. -/
import Derived.JoinedOf
import Derived.Test.YtnjonlnemagomaaGreatDoorB20
namespace Go.Proofs.YtnjonlnemagomaaGreatDoor
open Go.RowKit Go.ChangeShapes Go.WideShapes Go.Deep
set_option maxRecDepth 100000
set_option maxHeartbeats 8000000
set_option linter.all false
theorem blends_named:Tryz.pinned.checked.prog.funcNamed Rows.numberBlendsRow.func=some 6:=by kernel_rfl
end Go.Proofs.YtnjonlnemagomaaGreatDoor
