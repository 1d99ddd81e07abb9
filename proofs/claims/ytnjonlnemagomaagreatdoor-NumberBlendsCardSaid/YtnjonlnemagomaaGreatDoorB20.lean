/- Part B20. -/
import Derived.OpenShut
import Derived.WideShapes
import Derived.Deep.Slices
import Derived.Laws.Cover2
import Derived.Carry
import Derived.RowKit
import Derived.Lay
import Derived.Shelf.Vars
import Derived.Stop.LaidErr
import Derived.Stop.Joined
import Derived.LaidMore
import Derived.ProofKit
import Derived.Lib.SmallJoins
import Derived.Test.YtnjonlnemagomaaGreatDoorTie
import Derived.Test.YtnjonlnemagomaaGreatDoorCards
import Derived.Test.YtnjonlnemagomaaGreatDoorB07
namespace Go.Proofs.YtnjonlnemagomaaGreatDoor
open Go.RowKit Go.ChangeShapes Go.WideShapes Go.Deep Go.Proofs.Tryz
set_option maxRecDepth 100000
set_option maxHeartbeats 8000000
set_option linter.all false
section
variable {H:Type} {enc:TypeId × Value→H} {P:Program} {w:World} {base:Nat} {sp:Nat→Bool} {held:Bool}
end
theorem returns_and_shaped {H:Type} {enc:TypeId × Value→H} {a:Assume} {C:Checked} {os:Os} {f:FuncId} {fn:Func} {s:ChangeSpec} {conds:List PathCond} {apart fresh handsOn again:Bool} {X:World→Array Value→Prop}
  (hX:∀ (w w':World) (aa:Array Value),w.heap=w'.heap→X w aa→X w' aa)
  (own:ownKnob C.prog.godebug=none) (started:os.Started) (noInit:C.prog.inits.idxOf? f=none) (hfn:C.prog.funcs[f]?=some fn)
  (witness:∃ (w:World) (ab:Tape) (i:Input),w.os=os∧(w.forCall ab i).Shaped C.prog∧i.vars=[]∧Input.okWide C.prog (w.forCall ab i) .any w.heap.size f i∧
   ((s.pre enc C.prog fn conds apart (w.forCall ab i).memory i.args∧X (w.forCall ab i).memory i.args)∧sizedMet enc C.prog fn (OpenSpec.ofChange s) apart (w.forCall ab i).memory i.args)∧a.holds C.prog (lone (Frame.enter C.prog f i.args .normal) [] (w.forCall ab i)))
  (contract:∀ (W:World) (base:Nat) (aa:Array Value) (ds gs:List (DataW H)) (before:List MemPlace),
   (∀ (j:Nat) t v,fn.params[j]?=some t→aa[j]?=some v→Value.okWide C.prog W .any base t v)→
   DataW.Whole enc C.prog fn.params.toList s.vars apart W aa.toList ds gs before→X W aa→W.ShapedOpen C.prog→
   Calls C.prog f aa W fun e W'=>∃ v,e=.returned v∧s.post enc C.prog fn apart fresh handsOn again W aa v W'):
  ReturnsInHanded a C os f .any (fun w aa=>(s.pre enc C.prog fn conds apart w aa∧X w aa)∧sizedMet enc C.prog fn (OpenSpec.ofChange s) apart w aa) (s.post enc C.prog fn apart fresh handsOn again):=by
 refine returnsInHanded_of_calls own started noInit witness ?_;intro w ab i _ ah _ ag ad _;obtain ⟨_,_,_,af,ac,_,_,_,_,ae⟩:=ag;have e:af=fn:=Option.some.inj (ac.symm.trans hfn);subst e;obtain ⟨⟨⟨ds,gs,before,hw,_⟩,hx⟩,_⟩:=ad;have ai:=DataW.Whole.of_heap (w':=w.forCall ab i) (by rfl) hw;refine (contract (w.forCall ab i) w.heap.size i.args ds gs before ae ai (hX _ _ _ (by rfl) hx) ah).mono fun e W' ⟨v,he,hp⟩=>?_;subst he;exact ChangeSpec.post_blind hp
theorem own:ownKnob prog.godebug=none:=by kernel_rfl
theorem laidOut:laidOutB prog=true:=by kernel_rfl
noncomputable def Listed:List (String × DataW Unit):=Rows.numberDealsRow.laid
theorem env_of {W:World}(h:laidMetH prog Listed W)(hsh:W.ShapedOpen prog):Env W:=by
 refine ⟨cell_of_shapedOpen_int hsh (g:=1) (t:=3) (zero:=#[.int .i64 0]) (of_decide_eq_true (by kernel_rfl)) (by kernel_rfl) rfl (by kernel_rfl) (by kernel_rfl) underlying3,?_⟩;rw[MakeChecks.laidMetH_plain _ _ _ (by kernel_rfl)] at h
 have h2 : laidMet prog (("internal/strconv.uint64pow10", Rows.laid_internal_strconv_uint64pow10) :: Listed.drop 3) W := h.tail.tail
 have e:(Rows.laid_internal_strconv_uint64pow10:DataW Unit)=Lib.tabData .u64 Lib.pow10Tab:=by kernel_rfl
 rw[e]at h2;exact Lib.tabIs_of_head (g:=6) (t:=294) (e:=198) (n:=20) (by kernel_rfl) (by kernel_rfl) underlying294 underlying198 (by kernel_rfl) (by kernel_rfl) h2
theorem witness_laid (os:Os)(args:Array Value):laidMetH prog Listed ((World.laidAll prog os Listed).forCall (fun _ _=>0) ⟨#[],args,[]⟩).memory:=by
 rw[MakeChecks.laidMetH_plain _ _ _ (by kernel_rfl)];exact laidMet_laidAll _ (by kernel_rfl) (by kernel_rfl)
end Go.Proofs.YtnjonlnemagomaaGreatDoor
