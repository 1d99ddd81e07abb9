/- Part CardEn04. -/
import Derived.JoinedOf
import Derived.Test.YtnjonlnemagomaaGreatDoorCardEn03
namespace Go.Proofs.YtnjonlnemagomaaGreatDoor
open Go.RowKit Go.ChangeShapes Go.WideShapes Go.Deep
set_option maxRecDepth 100000
set_option maxHeartbeats 8000000
set_option linter.all false
theorem encloses_named:Tryz.pinned.checked.prog.funcNamed Rows.numberEnclosesRow.func=some 9:=by kernel_rfl
end Go.Proofs.YtnjonlnemagomaaGreatDoor
