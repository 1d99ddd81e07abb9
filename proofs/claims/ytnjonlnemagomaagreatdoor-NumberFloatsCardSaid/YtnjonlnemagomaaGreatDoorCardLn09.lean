/- Part CardLn09. -/
import Derived.Lib.SmallJoins
import Derived.Maps.AppendAt
import Derived.Laws.AppendOwnNone
import Derived.Maps.OwnOps
import Derived.JoinedOf
import Derived.Test.YtnjonlnemagomaaGreatDoorCardLn08
namespace Go.Proofs.YtnjonlnemagomaaGreatDoor
open Go.RowKit Go.ChangeShapes Go.WideShapes Go.Deep Go.Proofs.Tryz
set_option maxRecDepth 100000
set_option maxHeartbeats 8000000
set_option linter.all false
theorem floats_lifted (os:Os)(started:os.Started)(H:Type)(enc:TypeId × Value→H):
  ReturnsInHanded {} Tryz.checked os 10 .any (fun w aa=>(Rows.numberFloatsSpec.pre enc prog Tryz.f10 [] false w aa∧laidMetH prog Listed w)∧sizedMet enc prog Tryz.f10 (OpenSpec.ofChange Rows.numberFloatsSpec) false w aa)
   (Rows.numberFloatsSpec.post enc prog Tryz.f10 false true false false):=by
 refine returns_and_shaped (C:=Tryz.checked) (X:=fun w _=>laidMetH prog Listed w) (fun _ _ _ hh h=>h.of_heap hh) own started (by kernel_rfl) func10
  (ChangeSpec.witness_shaped (enc:=enc) (C:=Tryz.checked) (os:=os) (X:=fun w _=>laidMetH prog Listed w) false (World.laidAll prog os Listed) #[.float .f32 0,.string ⟨#[]⟩,.slice none 0 0] 8 (World.laidAll_os _ _ _)
   (World.shaped_of_ZipB (by kernel_rfl) (by kernel_rfl)) (by kernel_rfl) (by kernel_rfl) (by kernel_rfl) (witness_laid os _)) ?_
 intro W ae aa ds gs before ac hW hL aj;have ab:∀ (j:Nat) t v,Tryz.f10.params[j]?=some t→aa[j]?=some v→Value.okWide prog W .any ae t v:=ac;have ag:=hW;obtain ⟨p,q,af,hV,rfl,_,_⟩:=hW;have hA:DataW.TrodAll enc prog W 0 (fun _=>true) true Tryz.f10.params.toList aa.toList ds p:=af;rw[Tryz.params10] at hA ab;obtain ⟨v0,v1,v2,d0,d1,d2,p0,p1,p2,rfl,rfl,rfl,h0,h1,h2⟩:=trodAll_three hA;obtain ⟨rfl,rfl⟩:=trodVars_none hV;have he:=env_of hL aj
 have ad:∀ x∈p0 ++ p1 ++ p2,x.block < W.heap.size:=fun x hx=>by simpa using ag.lt x (by simpa using hx)
 have ak:=ab 0 _ _ rfl rfl;have al:=ab 1 _ _ rfl rfl;have am:=ab 2 _ _ rfl rfl;clear af ac ab hA
 have up:∀ W',New W W'→DataW.TrodAll enc prog W' 0 (fun b=>decide (b < W.heap.size)) true [62,23,91] [v0,v1,v2] [d0,d1,d2] (p0 ++ (p1 ++ p2)):=fun W' hn=>
  trodAll_mk3 (Below.trod laidOut (by kernel_rfl) (of_decide_eq_true (by kernel_rfl)) h0 hn fun x hx=>ad x (by simp[hx]))
   (Below.trod laidOut (by kernel_rfl) (of_decide_eq_true (by kernel_rfl)) h1 hn fun x hx=>ad x (by simp[hx]))
   (Below.trod laidOut (by kernel_rfl) (of_decide_eq_true (by kernel_rfl)) h2 hn fun x hx=>ad x (by simp[hx]))
 obtain ⟨fb,rfl,ai⟩:=in_flt underlying62 ak h0;obtain ⟨x,rfl,hx⟩:=in_str underlying23 al h1;obtain ⟨a,ah,xs,rfl,hr,hz,ao,an⟩:=in_floats underlying91 underlying62 (by kernel_rfl) am h2;refine (floats_law fb x a ah xs W he ai hx hr (by have h9:maxLen≤9223372036854775807:=(by decide);omega)).mono fun e W' hp=>?_;obtain ⟨rfl,hn⟩:=hp;exact ⟨_,rfl,_,_,_,[],p0 ++ (p1 ++ p2),[],ag,trodAll_mk1 (shut_bool underlying4 _),up W' hn,rfl,Below.frame hn _,fun h=>by cases h⟩
theorem floats_holds:Rows.NumberFloatsSaid:=
 OpenClaim.holds_of_wide 10 Tryz.f10 rfl rfl rfl rfl rfl rfl rfl ⟨rfl,rfl,rfl,rfl,rfl⟩ rfl rfl rfl rfl rfl floats_named func10 floats_closed
  (of_decide_eq_true (by kernel_rfl)) (by unfold Func.isWrapper;first | (rw[if_pos (by decide +kernel)];kernel_rfl) | (rw[if_neg (by decide +kernel)];exact ⟨rfl,rfl⟩))
  (fun os started H enc _=>floats_lifted os started H enc)
end Go.Proofs.YtnjonlnemagomaaGreatDoor
