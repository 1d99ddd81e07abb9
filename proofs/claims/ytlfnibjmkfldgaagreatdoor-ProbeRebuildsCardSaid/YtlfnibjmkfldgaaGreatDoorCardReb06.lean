/- ProbeRebuilds. The law returns true at every input, and the arguments read behind the call as before it. CONDITIONS. The seven listed package-level variables of the library hold what start-up lays (the card ties them to the text). -/
import Derived.Lib.SmallJoins
import Derived.Maps.AppendAt
import Derived.Laws.AppendOwnNone
import Derived.Deep.DeepCutAuto
import Derived.Test.YtlfnibjmkfldgaaGreatDoorA16
import Derived.Test.YtlfnibjmkfldgaaGreatDoorA24
import Derived.Test.YtlfnibjmkfldgaaGreatDoorA29
import Derived.Test.YtlfnibjmkfldgaaGreatDoorA32
import Derived.Test.YtlfnibjmkfldgaaGreatDoorA33
import Derived.Test.YtlfnibjmkfldgaaGreatDoorA35
import Derived.Test.YtlfnibjmkfldgaaGreatDoorCardReb01
import Derived.Test.YtlfnibjmkfldgaaGreatDoorCardReb02
import Derived.Test.YtlfnibjmkfldgaaGreatDoorCardReb03
import Derived.Test.YtlfnibjmkfldgaaGreatDoorCardReb04
import Derived.Test.YtlfnibjmkfldgaaGreatDoorCardReb05
namespace Go.Proofs.YtlfnibjmkfldgaaGreatDoor
open Go.RowKit Go.ChangeShapes Go.WideShapes Go.Deep
set_option maxRecDepth 100000 in
theorem reb_lifted (os : Os) (started : os.Started) (H : Type) (enc : TypeId × Value → H) :
  ReturnsInHanded {} Tryz.checked os 8 .any (fun w args => (Rows.probeRebuildsSpec.pre enc Tryz.prog Tryz.f8 [] false w args ∧ laidMetH Tryz.prog Listed w) ∧ sizedMet enc Tryz.prog Tryz.f8 (OpenSpec.ofChange Rows.probeRebuildsSpec) false w args)
   (Rows.probeRebuildsSpec.post enc Tryz.prog Tryz.f8 false true false false) := by
 refine returns_and_shaped (C := Tryz.checked) (X := fun w _ => laidMetH Tryz.prog Listed w) (fun _ _ _ hh h => h.of_heap hh) own started (by kernel_rfl) Tryz.func8
  (ChangeSpec.witness_shaped (enc := enc) (C := Tryz.checked) (os := os) (X := fun w _ => laidMetH Tryz.prog Listed w) false (World.laidAll Tryz.prog os Listed) #[.slice none 0 0, .bool false, .int .i64 0] 8 (World.laidAll_os _ _ _)
   (World.shaped_of_ZipB (by kernel_rfl) (by kernel_rfl)) (by kernel_rfl) (by kernel_rfl) (by kernel_rfl) (witness_laid os _)) ?_
 intro W base args ds gs before hval0 hW hL hsh
 have hval : ∀ (j : Nat) t v, Tryz.f8.params[j]? = some t → args[j]? = some v → Value.okWide Tryz.prog W .any base t v := hval0
 have hW' := hW
 obtain ⟨p, q, hA0, hV, rfl, _, _⟩ := hW
 have hA : DataW.TrodAll enc Tryz.prog W 0 (fun _ => true) true Tryz.f8.params.toList args.toList ds p := hA0
 rw [Tryz.params8] at hA hval
 obtain ⟨v0, v1, v2, d0, d1, d2, p0, p1, p2, rfl, rfl, rfl, h0, h1, h2⟩ := trodAll_three hA
 obtain ⟨rfl, rfl⟩ := trodVars_none hV
 have he := env_of hL hsh
 have hlt : ∀ x ∈ p0 ++ p1 ++ p2, x.block < W.heap.size := fun x hx => by simpa using hW'.lt x (by simpa using hx)
 have hv0 := hval 0 _ _ rfl rfl
 have hv1 := hval 1 _ _ rfl rfl
 have hv2 := hval 2 _ _ rfl rfl
 clear hA0 hval0 hval hA
 have up : ∀ W', New W W' → DataW.TrodAll enc Tryz.prog W' 0 (fun b => decide (b < W.heap.size)) true [34, 4, 3] [v0, v1, v2] [d0, d1, d2] (p0 ++ (p1 ++ p2)) := fun W' hn =>
  trodAll_mk3 (Below.trod laidOut (by kernel_rfl) (of_decide_eq_true (by kernel_rfl)) h0 hn fun x hx => hlt x (by simp [hx]))
   (Below.trod laidOut (by kernel_rfl) (of_decide_eq_true (by kernel_rfl)) h1 hn fun x hx => hlt x (by simp [hx]))
   (Below.trod laidOut (by kernel_rfl) (of_decide_eq_true (by kernel_rfl)) h2 hn fun x hx => hlt x (by simp [hx]))
 obtain ⟨a, ca, xs, rfl, hr, hza, _, _, _⟩ := in_ints Tryz.underlying34 Tryz.underlying3 (by kernel_rfl) hv0 h0
 obtain ⟨b0, rfl, _, _⟩ := open_bool Tryz.underlying4 hv1 h1
 obtain ⟨n, rfl, _, _, _⟩ := open_int Tryz.underlying3 hv2 h2
 refine (reb_calls awake_calls a ca xs b0 n W he hr hza).mono fun e W' hp => ?_
 obtain ⟨rfl, hn⟩ := hp
 exact ⟨_, rfl, _, _, _, [], p0 ++ (p1 ++ p2), [], hW', trodAll_mk1 (shut_bool Tryz.underlying4 _), up W' hn, rfl, Below.frame hn _, fun h => by cases h⟩
theorem reb_holds : Rows.ProbeRebuildsSaid :=
 OpenClaim.holds_of_wide 8 Tryz.f8 rfl rfl rfl rfl rfl rfl rfl ⟨rfl, rfl, rfl, rfl, rfl⟩ rfl rfl rfl rfl rfl (by kernel_rfl) Tryz.func8 (by kernel_rfl)
  (of_decide_eq_true (by kernel_rfl)) (by unfold Func.isWrapper; first | (rw [if_pos (by decide +kernel)]; kernel_rfl) | (rw [if_neg (by decide +kernel)]; exact ⟨rfl, rfl⟩))
  (fun os started H enc _ => reb_lifted os started H enc)
theorem reb_card_holds : Rows.ProbeRebuildsCardSaid :=
 Claim7.holds_tied_plain_at .later [] [.data, .data, .data, .data, .sentinel, .sentinel, .pinned] true (true, "f0ca2b108762137a6db1396a3c9751d00d662484c3e674171f7431adc0761793") true
  reb_holds (fun _ h => by cases h) (by kernel_rfl) (fun _ h => by cases h) probeRebuilds_row_tie rfl ⟨rfl, rfl⟩ (by kernel_rfl) rfl
  (fun f fn hf hfn => by
   obtain rfl : f = 8 := Option.some.inj ((show Tryz.prog.funcNamed "strobe/strobelaw02.ProbeRebuilds" = some 8 by kernel_rfl).symm.trans hf) |>.symm
   obtain rfl : fn = Tryz.f8 := (Option.some.inj (Tryz.func8.symm.trans hfn)).symm
   exact ⟨by kernel_rfl, fun j t ht => by
    rw [Tryz.params8] at ht
    have hm : t ∈ [34, 4, 3] := by simpa using Array.mem_of_getElem? ht
    have hall : ([34, 4, 3].all fun u => !Tryz.prog.wantsStandIn u) = true := by kernel_rfl
    exact (show Tryz.prog.wantsStandIn t = false by simpa using List.all_eq_true.1 hall t hm)⟩)
  (by kernel_rfl)
end Go.Proofs.YtlfnibjmkfldgaaGreatDoor
