/- Part CardRn04. -/
import Derived.JoinedOf
import Derived.Test.YtnjonlnemagomaaGreatDoorB20
import Derived.Test.YtnjonlnemagomaaGreatDoorCardRn03
namespace Go.Proofs.YtnjonlnemagomaaGreatDoor
open Go.RowKit Go.ChangeShapes Go.WideShapes Go.Deep
set_option maxRecDepth 100000
set_option maxHeartbeats 8000000
set_option linter.all false
theorem rounds_named:Tryz.pinned.checked.prog.funcNamed Rows.numberRoundsRow.func=some 5:=by kernel_rfl
end Go.Proofs.YtnjonlnemagomaaGreatDoor
