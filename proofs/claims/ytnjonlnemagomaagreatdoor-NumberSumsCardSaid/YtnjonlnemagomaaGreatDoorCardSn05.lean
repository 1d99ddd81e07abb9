/- Part CardSn05. -/
import Derived.Lib.SmallJoins
import Derived.Maps.AppendAt
import Derived.Laws.AppendOwnNone
import Derived.Test.YtnjonlnemagomaaGreatDoorB18
import Derived.Test.YtnjonlnemagomaaGreatDoorCardSn04
namespace Go.Proofs.YtnjonlnemagomaaGreatDoor
open Go.RowKit Go.ChangeShapes Go.WideShapes Go.Deep Go.Joins
set_option maxRecDepth 100000
set_option maxHeartbeats 8000000
set_option linter.all false
section
variable {H:Type} {enc:TypeId × Value→H} {P:Program} {w:World} {base:Nat} {sp:Nat→Bool} {held:Bool}
theorem in_str {r:Reach}{b0:Nat}{t:TypeId}{v:Value}{d:DataW H}{p:List MemPlace}(ht:P.underlying t=some .string)(hval:Value.okWide P w r b0 t v)(hd:DataW.Trod enc P w base sp held t v d p):
  ∃ s:ByteArray,v=.string s∧s.size≤9223372036854775807:=by
 obtain ⟨s,rfl⟩:=okWide_string ht hval;obtain ⟨aa,hf⟩:=hd;obtain ⟨s',h,_,hs⟩:=DataW.trod_string ht hf;simp[Value.cells] at h;subst h;exact ⟨_,rfl,hs⟩
end
end Go.Proofs.YtnjonlnemagomaaGreatDoor
