/- Part A39. -/
import Derived.OpenShut
import Derived.WideShapes
import Derived.Deep.Slices
import Derived.Laws.Cover2
import Derived.Carry
import Derived.RowKit
import Derived.Lay
import Derived.Shelf.Vars
import Derived.Stop.LaidErr
import Derived.Stop.Joined
import Derived.LaidMore
import Derived.ProofKit
import Derived.Lib.SmallJoins
import Derived.Test.YtnjonlnemagomaaGreatDoorTie
import Derived.Test.YtnjonlnemagomaaGreatDoorCards
import Derived.Test.YtnjonlnemagomaaGreatDoorA23
namespace Go.Proofs.YtnjonlnemagomaaGreatDoor
open Go.RowKit Go.ChangeShapes Go.WideShapes Go.Deep
set_option maxRecDepth 100000
set_option maxHeartbeats 8000000
theorem exists_map {α β:Type}{f:α→β}:∀ {vs:List β},(∀ u∈vs,∃ x,u=f x)→∃ xs:List α,vs=xs.map f
 | [],_=>⟨[],rfl⟩
 | u::vs,h=>by
  obtain ⟨x,hx⟩:=h u (by simp);obtain ⟨xs,hxs⟩:=exists_map (vs:=vs) fun u hu=>h u (by simp[hu]);exact ⟨x::xs,by rw[hx,hxs];rfl⟩
section
variable {H:Type} {enc:TypeId × Value→H} {P:Program} {w:World} {base:Nat} {sp:Nat→Bool} {held:Bool}
theorem spot_none {a:Addr}{v:Value}(h:w.cell? a=some v):a=⟨a.block,a.off,none⟩:=by
 obtain ⟨b,o,s⟩:=a
 cases s with
 | none=>rfl
 | some s=>
  unfold World.cell? at h;split at h
  ·simp at h
  ·cases h
theorem rdl_fn {a:Addr}{len:Nat}{V:Nat→Value}(h:∀ i,i < len→w.cell? (a.add i)=some (V i)):RdL w (some a) ((List.range len).map V):=by
 intro i hi
 have hi':i < len:=by simpa using hi
 have h0:=h 0 (by omega);have e0:a.add 0=a:=rfl;rw[e0] at h0;have ha:=spot_none h0;refine ⟨a.block,a.off,by rw[←ha],?_⟩;have h1:=h i hi'
 have e:a.add i=⟨a.block,a.off+i,none⟩:=by
  unfold Addr.add;split
  ·rename_i hz;rw[hz];exact ha
  ·rfl
 rw[e]at h1;rw[h1];simp
theorem in_slice1 {t e:TypeId}{fuel:Nat}{cs:List Value}{y:DataW H × List MemPlace}(ht:P.underlying t=some (.slice e))(hc:P.cellsOf e=1)(h:DataW.trod enc P w base sp held fuel t cs=some y):
  ∃ (a:Option Addr) (cap:Nat) (vs:List Value),cs=[.slice a vs.length cap]∧RdL w a vs∧(a=none→cap=0)∧vs.length≤cap∧cap≤maxLen∧
   ∀ u∈vs,∃ (n:Nat) (y:DataW H × List MemPlace),DataW.trod enc P w base sp held n e [u]=some y:=by
 rcases open_slice1 ht hc h with ⟨h0,_⟩ | ⟨a,len,cap,m,n,V,D,Pl,h0,hb,hl,hm,hmm,_,hel⟩
 ·exact ⟨none,0,[],h0,fun i hi=>by simp at hi,fun _=>rfl,Nat.le_refl _,Nat.zero_le _,fun u hu=>by simp at hu⟩
 ·have hlm:len≤m:=by rw[hmm];split <;> omega
  refine ⟨some a,cap,(List.range len).map V,by simpa using h0,rdl_fn fun i hi=>(hel i (by omega)).1,(fun h=>by cases h),by simpa using hl,hm,fun u hu=>?_⟩;obtain ⟨i,hi,rfl⟩:=List.mem_map.1 hu;exact ⟨n,_,(hel i (by have:=List.mem_range.1 hi;omega)).2⟩
theorem trod_int' {t:TypeId}{k:IntKind}{fuel:Nat}{v:Value}{y:DataW H × List MemPlace}(ht:P.underlying t=some (.int k))(h:DataW.trod enc P w base sp held fuel t [v]=some y):∃ n,v=.int k n∧(Lit.int k n).wf=true:=by
 obtain ⟨n,h1,_,hw⟩:=DataW.trod_int ht h;exact ⟨n,by simpa using h1,hw⟩
end
theorem returns_and_shaped {H:Type} {enc:TypeId × Value→H} {a:Assume} {C:Checked} {os:Os} {f:FuncId} {fn:Func} {s:ChangeSpec} {conds:List PathCond} {apart fresh handsOn again:Bool} {X:World→Array Value→Prop}
  (hX:∀ (w w':World) (args:Array Value),w.heap=w'.heap→X w args→X w' args)
  (own:ownKnob C.prog.godebug=none) (started:os.Started) (noInit:C.prog.inits.idxOf? f=none) (hfn:C.prog.funcs[f]?=some fn)
  (witness:∃ (w:World) (tape:Tape) (i:Input),w.os=os∧(w.forCall tape i).Shaped C.prog∧i.vars=[]∧Input.okWide C.prog (w.forCall tape i) .any w.heap.size f i∧
   ((s.pre enc C.prog fn conds apart (w.forCall tape i).memory i.args∧X (w.forCall tape i).memory i.args)∧sizedMet enc C.prog fn (OpenSpec.ofChange s) apart (w.forCall tape i).memory i.args)∧a.holds C.prog (lone (Frame.enter C.prog f i.args .normal) [] (w.forCall tape i)))
  (contract:∀ (W:World) (base:Nat) (args:Array Value) (ds gs:List (DataW H)) (before:List MemPlace),
   (∀ (j:Nat) t v,fn.params[j]?=some t→args[j]?=some v→Value.okWide C.prog W .any base t v)→
   DataW.Whole enc C.prog fn.params.toList s.vars apart W args.toList ds gs before→X W args→W.ShapedOpen C.prog→
   Calls C.prog f args W fun e W'=>∃ v,e=.returned v∧s.post enc C.prog fn apart fresh handsOn again W args v W'):
  ReturnsInHanded a C os f .any (fun w args=>(s.pre enc C.prog fn conds apart w args∧X w args)∧sizedMet enc C.prog fn (OpenSpec.ofChange s) apart w args) (s.post enc C.prog fn apart fresh handsOn again):=by
 refine returnsInHanded_of_calls own started noInit witness ?_;intro w tape i _ hsh _ hok hpre _;obtain ⟨_,_,_,fn',hfn',_,_,_,_,hval⟩:=hok;have e:fn'=fn:=Option.some.inj (hfn'.symm.trans hfn);subst e;obtain ⟨⟨⟨ds,gs,before,hw,_⟩,hx⟩,_⟩:=hpre;have hw':=DataW.Whole.of_heap (w':=w.forCall tape i) (by rfl) hw;refine (contract (w.forCall tape i) w.heap.size i.args ds gs before hval hw' (hX _ _ _ (by rfl) hx) hsh).mono fun e W' ⟨v,he,hp⟩=>?_;subst he;exact ChangeSpec.post_blind hp
theorem own:ownKnob Tryz.prog.godebug=none:=by kernel_rfl
theorem laidOut:laidOutB Tryz.prog=true:=by kernel_rfl
noncomputable def Listed:List (String × DataW Unit):=Rows.numberDealsRow.laid
theorem env_of {W:World}(h:laidMetH Tryz.prog Listed W)(hsh:W.ShapedOpen Tryz.prog):Env W:=by
 refine ⟨cell_of_shapedOpen_int hsh (g:=1) (t:=3) (zero:=#[.int .i64 0]) (of_decide_eq_true (by kernel_rfl)) (by kernel_rfl) rfl (by kernel_rfl) (by kernel_rfl) Tryz.underlying3,?_⟩;rw[MakeChecks.laidMetH_plain _ _ _ (by kernel_rfl)] at h
 have h2 : laidMet Tryz.prog (("internal/strconv.uint64pow10", Rows.laid_internal_strconv_uint64pow10) :: Listed.drop 3) W := h.tail.tail
 have e:(Rows.laid_internal_strconv_uint64pow10:DataW Unit)=Lib.tabData .u64 Lib.pow10Tab:=by kernel_rfl
 rw[e]at h2;exact Lib.tabIs_of_head (g:=6) (t:=294) (e:=198) (n:=20) (by kernel_rfl) (by kernel_rfl) Tryz.underlying294 Tryz.underlying198 (by kernel_rfl) (by kernel_rfl) h2
theorem witness_laid (os:Os)(args:Array Value):laidMetH Tryz.prog Listed ((World.laidAll Tryz.prog os Listed).forCall (fun _ _=>0) ⟨#[],args,[]⟩).memory:=by
 rw[MakeChecks.laidMetH_plain _ _ _ (by kernel_rfl)];exact laidMet_laidAll _ (by kernel_rfl) (by kernel_rfl)
end Go.Proofs.YtnjonlnemagomaaGreatDoor
