/- Part B30. -/
import Derived.JoinedOf
import Derived.Test.YtnjonlnemagomaaGreatDoorB27
namespace Go.Proofs.YtnjonlnemagomaaGreatDoor
open Go.RowKit Go.ChangeShapes Go.WideShapes Go.Deep
set_option maxRecDepth 100000
set_option maxHeartbeats 8000000
theorem yeo:joinedFacts Tryz.pinned.checked.prog 11 Tryz.f11 Rows.numberFormsSpec Rows.numberFormsRow=true:=by
 unfold joinedFacts;simp only[Bool.and_eq_true]
 repeat' apply And.intro
 all_goals as_aux_lemma=>kernel_rfl
end Go.Proofs.YtnjonlnemagomaaGreatDoor
