/- Part CardBn02. -/
import Derived.JoinedOf
import Derived.Test.YtnjonlnemagomaaGreatDoorB20
namespace Go.Proofs.YtnjonlnemagomaaGreatDoor
open Go.RowKit Go.ChangeShapes Go.WideShapes Go.Deep
set_option maxRecDepth 100000
set_option maxHeartbeats 8000000
set_option linter.all false
theorem blends_closed:joinedFacts Tryz.pinned.checked.prog 6 Tryz.f6 Rows.numberBlendsSpec Rows.numberBlendsRow=true:=by
 unfold joinedFacts;simp only[Bool.and_eq_true]
 repeat' apply And.intro
 all_goals as_aux_lemma=>kernel_rfl
end Go.Proofs.YtnjonlnemagomaaGreatDoor
