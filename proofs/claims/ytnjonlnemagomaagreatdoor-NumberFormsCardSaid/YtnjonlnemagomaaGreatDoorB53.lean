/- NumberForms: for every text, two integers and a number's text the law returns true, and the arguments read behind the call as before it. CONDITIONS: the seven package-level variables of the library of Go that the row lists hold what start-up lays (the card ties them to the text of the program). -/
import Derived.Test.YtnjonlnemagomaaGreatDoorB52
namespace Go.Proofs.YtnjonlnemagomaaGreatDoor
open Go.RowKit Go.ChangeShapes Go.WideShapes Go.Deep
set_option maxRecDepth 100000
set_option maxHeartbeats 8000000
theorem forms_card_holds:Rows.NumberFormsCardSaid:=
 Claim7.holds_tied_plain_at .later [] [.data, .data, .data, .data, .sentinel, .sentinel, .pinned] true (true, "a9e32111962800f742fc79315ec9cb1ecfc7a0d2c5c18bb8e41e091ef505abd9") true
  yg7 (fun _ h=>by cases h) (by kernel_rfl) (fun _ h=>by cases h) numberForms_row_tie rfl ⟨rfl,rfl⟩ (by kernel_rfl) rfl
  (fun f fn hf hfn=>by
   obtain rfl:f=11:=Option.some.inj (y9z.symm.trans hf) |>.symm;obtain rfl:fn=Tryz.f11:=(Option.some.inj (Tryz.func11.symm.trans hfn)).symm
   exact ⟨by kernel_rfl,fun j t ht=>by
    rw[Tryz.params11]at ht
    have hm:t∈[9,96,23]:=by simpa using Array.mem_of_getElem? ht
    have hall:([9,96,23].all fun u=>!Tryz.prog.wantsStandIn u)=true:=by kernel_rfl
    exact (show Tryz.prog.wantsStandIn t=false by simpa using List.all_eq_true.1 hall t hm)⟩)
  (by kernel_rfl)
end Go.Proofs.YtnjonlnemagomaaGreatDoor
