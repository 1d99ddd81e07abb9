/- Part B28. -/
import Derived.Lib.SmallJoins
import Derived.Maps.AppendAt
import Derived.Laws.AppendOwnNone
import Derived.Test.YtnjonlnemagomaaGreatDoorB27
namespace Go.Proofs.YtnjonlnemagomaaGreatDoor
open Go.RowKit Go.ChangeShapes Go.WideShapes Go.Deep
set_option maxRecDepth 100000
set_option maxHeartbeats 8000000
section
variable {H:Type} {enc:TypeId × Value->H} {P:Program} {w:World} {base:Nat} {sp:Nat->Bool} {held:Bool}
theorem ykh {n:Nat}{t e:TypeId}{fuel:Nat}{cs:List Value}{x:DataW H × List MemPlace}(ht:P.underlying t=some (.array n e))(hc:P.cellsOf e=1)(hn:P.cellsOf t=n)(h:DataW.trod enc P w base sp held fuel t cs=some x):
  cs.length=n/\∃ m,∀ (i:Nat) (v:Value),cs[i]?=some v->∃ y,DataW.trod enc P w base sp held m e [v]=some y:=by
 obtain ⟨xs,m,_,_,h1,h2,h3⟩:=DataW.trod_array ht h;rw[hn] at h1;refine ⟨h1,m,fun i v hv=>?_⟩;have hi:i < cs.length:=(List.getElem?_eq_some_iff.1 hv).1;have h4:=h3 i (by omega);rw[hc,Nat.mul_one,List.getElem?_eq_getElem (by omega)] at h4
 have e:(cs.drop i).take 1=[v]:=by
  rw[List.drop_eq_getElem_cons hi];have:=List.getElem?_eq_getElem hi;rw[hv] at this;injection this with this;rw[this];rfl
 rw[e]at h4;exact ⟨_,h4⟩
end
end Go.Proofs.YtnjonlnemagomaaGreatDoor
