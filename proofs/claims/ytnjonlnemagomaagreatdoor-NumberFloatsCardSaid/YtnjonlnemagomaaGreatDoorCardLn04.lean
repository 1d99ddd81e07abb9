/- Part CardLn04. -/
import Derived.JoinedOf
import Derived.Test.YtnjonlnemagomaaGreatDoorCardLn03
namespace Go.Proofs.YtnjonlnemagomaaGreatDoor
open Go.RowKit Go.ChangeShapes Go.WideShapes Go.Deep
set_option maxRecDepth 100000
set_option maxHeartbeats 8000000
set_option linter.all false
theorem floats_named:Tryz.pinned.checked.prog.funcNamed Rows.numberFloatsRow.func=some 10:=by kernel_rfl
end Go.Proofs.YtnjonlnemagomaaGreatDoor
