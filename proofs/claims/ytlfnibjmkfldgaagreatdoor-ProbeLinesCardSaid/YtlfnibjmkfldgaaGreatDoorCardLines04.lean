/- ProbeLines. The law returns true at every input, and the arguments read behind the call as before it. CONDITIONS. The seven listed package-level variables of the library hold what start-up lays (the card ties them to the text). -/
import Derived.Deep.DeepCutAuto
import Derived.Laws.AppendOwnNone
import Derived.Test.YtlfnibjmkfldgaaGreatDoorA24
import Derived.Test.YtlfnibjmkfldgaaGreatDoorA29
import Derived.Test.YtlfnibjmkfldgaaGreatDoorA32
import Derived.Test.YtlfnibjmkfldgaaGreatDoorA33
import Derived.Test.YtlfnibjmkfldgaaGreatDoorA35
import Derived.Test.YtlfnibjmkfldgaaGreatDoorCardLines01
import Derived.Test.YtlfnibjmkfldgaaGreatDoorCardLines02
import Derived.Test.YtlfnibjmkfldgaaGreatDoorCardLines03
namespace Go.Proofs.YtlfnibjmkfldgaaGreatDoor
open Go.RowKit Go.ChangeShapes Go.WideShapes Go.Deep
open Go.Joins (open_agg2)
theorem lines_calls (a b : Option Addr) (ca cb : Nat) (lo hi : Nat) (xs : List Nat) (ls : List Bool) (w : World) (he : Env w) (hr : RdL w a (flts xs)) (hrb : RdL w b (bools ls)) (hza : a = none → ca = 0) (hzb : b = none → cb = 0) :
  Calls Tryz.prog 3 #[.slice a xs.length ca, .agg #[.float .f32 lo, .float .f32 hi], .slice b ls.length cb] w fun e w' => e = .returned (.bool true) ∧ New w w' := by
 cases hp : ((xs.length : Int) ≤ 64 || (4096 < (xs.length : Int) && (xs.length : Int) ≤ 4098) : Bool) with
 | false => exact lines_long awake_calls _ _ a b ca cb lo hi w he (.inl hp)
 | true =>
  cases hq : ((ls.length : Int) ≤ 64 || (4096 < (ls.length : Int) && (ls.length : Int) ≤ 4098) : Bool) with
  | false => exact lines_long awake_calls _ _ a b ca cb lo hi w he (.inr hq)
  | true =>
   have h1 : xs.length ≤ 4098 := by simp at hp; omega
   have h2 : ls.length ≤ 4098 := by simp at hq; omega
   exact lines_main awake_calls _ _ a b ca cb lo hi xs ls w he rfl rfl h1 h2 hp hq hr hrb hza hzb
set_option maxRecDepth 100000 in
theorem in_levels {H : Type} {enc : TypeId × Value → H} {w : World} {base : Nat} {sp : Nat → Bool} {held : Bool} {r : Reach} {b0 : Nat} {v : Value} {d : DataW H} {p : List MemPlace} (hval : Value.okWide Tryz.prog w r b0 25 v) (h : DataW.Trod enc Tryz.prog w base sp held 25 v d p) :
  ∃ lo hi : Nat, v = .agg #[.float .f32 lo, .float .f32 hi] := by
 obtain ⟨v0, v1, y0, y1, n, rfl, _, _, h0, h1⟩ := open_agg2 Tryz.underlying25 (by kernel_rfl) (by kernel_rfl) hval h
 obtain ⟨lo, rfl⟩ := trod_float Tryz.underlying23 h0
 obtain ⟨hi, rfl⟩ := trod_float Tryz.underlying23 h1
 exact ⟨lo, hi, rfl⟩
set_option maxRecDepth 100000 in
theorem lines_lifted (os : Os) (started : os.Started) (H : Type) (enc : TypeId × Value → H) :
  ReturnsInHanded {} Tryz.checked os 3 .any (fun w args => (Rows.probeLinesSpec.pre enc Tryz.prog Tryz.f3 [] false w args ∧ laidMetH Tryz.prog Listed w) ∧ sizedMet enc Tryz.prog Tryz.f3 (OpenSpec.ofChange Rows.probeLinesSpec) false w args)
   (Rows.probeLinesSpec.post enc Tryz.prog Tryz.f3 false true false false) := by
 refine returns_and_shaped (C := Tryz.checked) (X := fun w _ => laidMetH Tryz.prog Listed w) (fun _ _ _ hh h => h.of_heap hh) own started (by kernel_rfl) Tryz.func3
  (ChangeSpec.witness_shaped (enc := enc) (C := Tryz.checked) (os := os) (X := fun w _ => laidMetH Tryz.prog Listed w) false (World.laidAll Tryz.prog os Listed) #[.slice none 0 0, .agg #[.float .f32 0, .float .f32 0], .slice none 0 0] 8 (World.laidAll_os _ _ _)
   (World.shaped_of_ZipB (by kernel_rfl) (by kernel_rfl)) (by kernel_rfl) (by kernel_rfl) (by kernel_rfl) (witness_laid os _)) ?_
 intro W base args ds gs before hval0 hW hL hsh
 have hval : ∀ (j : Nat) t v, Tryz.f3.params[j]? = some t → args[j]? = some v → Value.okWide Tryz.prog W .any base t v := hval0
 have hW' := hW
 obtain ⟨p, q, hA0, hV, rfl, _, _⟩ := hW
 have hA : DataW.TrodAll enc Tryz.prog W 0 (fun _ => true) true Tryz.f3.params.toList args.toList ds p := hA0
 rw [Tryz.params3] at hA hval
 obtain ⟨v0, v1, v2, d0, d1, d2, p0, p1, p2, rfl, rfl, rfl, h0, h1, h2⟩ := trodAll_three hA
 obtain ⟨rfl, rfl⟩ := trodVars_none hV
 have he := env_of hL hsh
 have hlt : ∀ x ∈ p0 ++ p1 ++ p2, x.block < W.heap.size := fun x hx => by simpa using hW'.lt x (by simpa using hx)
 have hv0 := hval 0 _ _ rfl rfl
 have hv1 := hval 1 _ _ rfl rfl
 have hv2 := hval 2 _ _ rfl rfl
 clear hA0 hval0 hval hA
 have up : ∀ W', New W W' → DataW.TrodAll enc Tryz.prog W' 0 (fun b => decide (b < W.heap.size)) true [22, 25, 26] [v0, v1, v2] [d0, d1, d2] (p0 ++ (p1 ++ p2)) := fun W' hn =>
  trodAll_mk3 (Below.trod laidOut (by kernel_rfl) (of_decide_eq_true (by kernel_rfl)) h0 hn fun x hx => hlt x (by simp [hx]))
   (Below.trod laidOut (by kernel_rfl) (of_decide_eq_true (by kernel_rfl)) h1 hn fun x hx => hlt x (by simp [hx]))
   (Below.trod laidOut (by kernel_rfl) (of_decide_eq_true (by kernel_rfl)) h2 hn fun x hx => hlt x (by simp [hx]))
 obtain ⟨a, ca, xs, rfl, hr, hza, _, _⟩ := in_floats Tryz.underlying22 Tryz.underlying23 (by kernel_rfl) hv0 h0
 obtain ⟨lo, hi, rfl⟩ := in_levels hv1 h1
 obtain ⟨b, cb, ls, rfl, hrb, hzb, _, _⟩ := in_bools Tryz.underlying26 Tryz.underlying4 (by kernel_rfl) hv2 h2
 refine (lines_calls a b ca cb lo hi xs ls W he hr hrb hza hzb).mono fun e W' hp => ?_
 obtain ⟨rfl, hn⟩ := hp
 exact ⟨_, rfl, _, _, _, [], p0 ++ (p1 ++ p2), [], hW', trodAll_mk1 (shut_bool Tryz.underlying4 _), up W' hn, rfl, Below.frame hn _, fun h => by cases h⟩
theorem lines_holds : Rows.ProbeLinesSaid :=
 OpenClaim.holds_of_wide 3 Tryz.f3 rfl rfl rfl rfl rfl rfl rfl ⟨rfl, rfl, rfl, rfl, rfl⟩ rfl rfl rfl rfl rfl (by kernel_rfl) Tryz.func3 (by kernel_rfl)
  (of_decide_eq_true (by kernel_rfl)) (by unfold Func.isWrapper; first | (rw [if_pos (by decide +kernel)]; kernel_rfl) | (rw [if_neg (by decide +kernel)]; exact ⟨rfl, rfl⟩))
  (fun os started H enc _ => lines_lifted os started H enc)
theorem lines_card_holds : Rows.ProbeLinesCardSaid :=
 Claim7.holds_tied_plain_at .later [] [.data, .data, .data, .data, .sentinel, .sentinel, .pinned] true (true, "f0ca2b108762137a6db1396a3c9751d00d662484c3e674171f7431adc0761793") true
  lines_holds (fun _ h => by cases h) (by kernel_rfl) (fun _ h => by cases h) probeLines_row_tie rfl ⟨rfl, rfl⟩ (by kernel_rfl) rfl
  (fun f fn hf hfn => by
   obtain rfl : f = 3 := Option.some.inj ((show Tryz.prog.funcNamed "strobe/strobelaw02.ProbeLines" = some 3 by kernel_rfl).symm.trans hf) |>.symm
   obtain rfl : fn = Tryz.f3 := (Option.some.inj (Tryz.func3.symm.trans hfn)).symm
   exact ⟨by kernel_rfl, fun j t ht => by
    rw [Tryz.params3] at ht
    have hm : t ∈ [22, 25, 26] := by simpa using Array.mem_of_getElem? ht
    have hall : ([22, 25, 26].all fun u => !Tryz.prog.wantsStandIn u) = true := by kernel_rfl
    exact (show Tryz.prog.wantsStandIn t = false by simpa using List.all_eq_true.1 hall t hm)⟩)
  (by kernel_rfl)
end Go.Proofs.YtlfnibjmkfldgaaGreatDoor
