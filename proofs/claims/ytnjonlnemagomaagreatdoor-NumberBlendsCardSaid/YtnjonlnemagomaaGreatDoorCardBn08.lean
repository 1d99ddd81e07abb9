/- NumberBlends: for every table and part: the law returns true, and the arguments read behind the call as before it. CONDITIONS: the seven package-level variables of the library of Go that the row lists hold what start-up lays (the card ties them to the text of the program). -/
import Derived.JoinedOf
import Derived.Deep.SlicePairs
import Derived.Lib.SmallJoins
import Derived.Maps.AppendAt
import Derived.Laws.AppendOwnNone
import Derived.Test.YtnjonlnemagomaaGreatDoorCardBn07
namespace Go.Proofs.YtnjonlnemagomaaGreatDoor
open Go.RowKit Go.ChangeShapes Go.WideShapes Go.Deep Go.Proofs.Tryz
set_option maxRecDepth 100000
set_option maxHeartbeats 8000000
set_option linter.all false
theorem blends_card_holds:Rows.NumberBlendsCardSaid:=
 Claim7.holds_tied_plain_at .later [] [.data, .data, .data, .data, .sentinel, .sentinel, .pinned] true (true, "a9e32111962800f742fc79315ec9cb1ecfc7a0d2c5c18bb8e41e091ef505abd9") true
  blends_holds (fun _ h=>by cases h) (by kernel_rfl) (fun _ h=>by cases h) numberBlends_row_tie rfl ⟨rfl,rfl⟩ (by kernel_rfl) rfl
  (fun f fn hf ab=>by
   obtain rfl:f=6:=Option.some.inj (blends_named.symm.trans hf) |>.symm;obtain rfl:fn=Tryz.f6:=(Option.some.inj (func6.symm.trans ab)).symm
   exact ⟨by kernel_rfl,fun j t ht=>by
    rw[Tryz.params6]at ht
    have hm:t∈[22,5]:=by simpa using Array.mem_of_getElem? ht
    have aa:([22,5].all fun u=>!prog.wantsStandIn u)=true:=by kernel_rfl
    exact (show prog.wantsStandIn t=false by simpa using List.all_eq_true.1 aa t hm)⟩)
  (by kernel_rfl)
end Go.Proofs.YtnjonlnemagomaaGreatDoor
