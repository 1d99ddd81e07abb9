/- Part CardRn05. -/
import Derived.JoinedOf
import Derived.Test.YtnjonlnemagomaaGreatDoorCardRn04
namespace Go.Proofs.YtnjonlnemagomaaGreatDoor
open Go.RowKit Go.ChangeShapes Go.WideShapes Go.Deep
set_option maxRecDepth 100000
set_option maxHeartbeats 8000000
set_option linter.all false
theorem rounds_closed:joinedFacts Tryz.pinned.checked.prog 5 Tryz.f5 Rows.numberRoundsSpec Rows.numberRoundsRow=true:=by
 unfold joinedFacts;simp only[Bool.and_eq_true]
 repeat' apply And.intro
 all_goals as_aux_lemma=>kernel_rfl
end Go.Proofs.YtnjonlnemagomaaGreatDoor
