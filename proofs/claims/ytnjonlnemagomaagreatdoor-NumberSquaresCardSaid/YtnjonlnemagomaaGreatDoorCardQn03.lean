/- Part CardQn03. -/
import Derived.JoinedOf
import Derived.Test.YtnjonlnemagomaaGreatDoorB20
import Derived.Test.YtnjonlnemagomaaGreatDoorCardQn02
namespace Go.Proofs.YtnjonlnemagomaaGreatDoor
open Go.RowKit Go.ChangeShapes Go.WideShapes Go.Deep
set_option maxRecDepth 100000
set_option maxHeartbeats 8000000
set_option linter.all false
theorem squares_named:Tryz.pinned.checked.prog.funcNamed Rows.numberSquaresRow.func=some 4:=by kernel_rfl
end Go.Proofs.YtnjonlnemagomaaGreatDoor
