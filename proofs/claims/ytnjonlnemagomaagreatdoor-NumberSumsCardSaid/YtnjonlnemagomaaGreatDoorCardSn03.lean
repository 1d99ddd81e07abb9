/- Part CardSn03. -/
import Derived.JoinedOf
import Derived.Test.YtnjonlnemagomaaGreatDoorB20
import Derived.Test.YtnjonlnemagomaaGreatDoorCardSn02
namespace Go.Proofs.YtnjonlnemagomaaGreatDoor
open Go.RowKit Go.ChangeShapes Go.WideShapes Go.Deep
set_option maxRecDepth 100000
set_option maxHeartbeats 8000000
set_option linter.all false
theorem sums_named:Tryz.pinned.checked.prog.funcNamed Rows.numberSumsRow.func=some 12:=by kernel_rfl
end Go.Proofs.YtnjonlnemagomaaGreatDoor
