/- ProbePacks. The law returns true at every input, and the arguments read behind the call as before it. CONDITIONS. The seven listed package-level variables of the library hold what start-up lays (the card ties them to the text). -/
import Derived.Lib.SmallJoins
import Derived.Maps.AppendAt
import Derived.Laws.AppendOwnNone
import Derived.Deep.DeepCutAuto
import Derived.Test.YtlfnibjmkfldgaaGreatDoorA13
import Derived.Test.YtlfnibjmkfldgaaGreatDoorA20
import Derived.Test.YtlfnibjmkfldgaaGreatDoorA23
import Derived.Test.YtlfnibjmkfldgaaGreatDoorA25
import Derived.Test.YtlfnibjmkfldgaaGreatDoorA27
import Derived.Test.YtlfnibjmkfldgaaGreatDoorA28
import Derived.Test.YtlfnibjmkfldgaaGreatDoorA29
import Derived.Test.YtlfnibjmkfldgaaGreatDoorA31
import Derived.Test.YtlfnibjmkfldgaaGreatDoorCardPack01
import Derived.Test.YtlfnibjmkfldgaaGreatDoorCardPack02
import Derived.Test.YtlfnibjmkfldgaaGreatDoorCardPack03
import Derived.Test.YtlfnibjmkfldgaaGreatDoorCardPack04
import Derived.Test.YtlfnibjmkfldgaaGreatDoorCardPack05
import Derived.Test.YtlfnibjmkfldgaaGreatDoorCardPack06
namespace Go.Proofs.YtlfnibjmkfldgaaGreatDoor
open Go.RowKit Go.ChangeShapes Go.WideShapes Go.Deep
theorem choose_list {α β : Type} {R : α → β → Prop} : ∀ {vs : List α}, (∀ u ∈ vs, ∃ x, R u x) → ∃ xs : List β, xs.length = vs.length ∧ ∀ (k : Nat) (u : α) (x : β), vs[k]? = some u → xs[k]? = some x → R u x
 | [], _ => ⟨[], rfl, fun k u x h => by simp at h⟩
 | v :: vs, h => by
  obtain ⟨x, hx⟩ := h v (by simp)
  obtain ⟨xs, hl, hxs⟩ := choose_list (vs := vs) fun u hu => h u (by simp [hu])
  refine ⟨x :: xs, by simp [hl], fun k u y h1 h2 => ?_⟩
  cases k with
  | zero => simp at h1 h2; subst h1 h2; exact hx
  | succ k => exact hxs k u y (by simpa using h1) (by simpa using h2)
section
variable {H : Type} {enc : TypeId × Value → H} {P : Program} {w : World} {base : Nat} {sp : Nat → Bool} {held : Bool}
theorem in_rows {α : Type} {F : α → Value} {t e e2 : TypeId} {r : Reach} {b0 : Nat} {v : Value} {d : DataW H} {p : List MemPlace} (ht : P.underlying t = some (.slice e)) (he : P.underlying e = some (.slice e2)) (hc : P.cellsOf e = 1) (hc2 : P.cellsOf e2 = 1)
  (hF : ∀ (n : Nat) (u : Value) (y : DataW H × List MemPlace), DataW.trod enc P w base sp held n e2 [u] = some y → ∃ x, u = F x) (hval : Value.okWide P w r b0 t v) (h : DataW.Trod enc P w base sp held t v d p) :
  ∃ (a : Option Addr) (cap : Nat) (rv : List Value) (xss : List (List α)), v = .slice a xss.length cap ∧ RdZ w a rv (xss.map fun xs => xs.map F) ∧ (a = none → cap = 0) ∧ xss.length ≤ cap ∧ cap ≤ maxLen := by
 obtain ⟨fuel, hf⟩ := h
 rw [slice_cells ht hval] at hf
 obtain ⟨a, cap, vs, h1, h2, h3, h4, h5, h6⟩ := in_slice1 ht hc hf
 have h7 : ∀ u ∈ vs, ∃ xs : List α, ∃ (a' : Option Addr) (c' : Nat), u = .slice a' xs.length c' ∧ RdL w a' (xs.map F) ∧ (a' = none → c' = 0) ∧ xs.length ≤ c' := fun u hu => by
  obtain ⟨n, y, hy⟩ := h6 u hu
  obtain ⟨a', c', us, g1, g2, g3, g4, g5, g6⟩ := in_slice1 he hc2 hy
  obtain ⟨xs, rfl⟩ : ∃ xs : List α, us = xs.map F := exists_map fun u hu => by
   obtain ⟨n, y, hy⟩ := g6 u hu
   exact hF n u y hy
  rw [List.length_map] at g1 g4
  exact ⟨xs, a', c', by simpa using g1, g2, g3, g4⟩
 obtain ⟨xss, hl, hx⟩ := choose_list h7
 refine ⟨a, cap, vs, xss, by rw [hl]; simpa using h1, ⟨⟨h2, by rw [List.length_map, hl], fun k v xs hk hxs => ?_⟩, fun k a' l' c' hk ha => ?_⟩, h3, by rw [hl]; exact h4, h5⟩
 ·rw [List.getElem?_map] at hxs
  obtain ⟨ys, hy, rfl⟩ := Option.map_eq_some_iff.1 hxs
  obtain ⟨a', c', e1, e2, e3, e4⟩ := hx k v ys hk hy
  exact ⟨a', c', by rw [e1, List.length_map], e2, by rw [List.length_map]; exact e4⟩
 ·have hkl : k < xss.length := by rw [hl]; exact (List.getElem?_eq_some_iff.1 hk).1
  obtain ⟨a2, c2, e1, e2, e3, e4⟩ := hx k _ _ hk (List.getElem?_eq_getElem hkl)
  injection e1 with e5 e6 e7
  rw [e7]
  exact e3 (by rw [← e5]; exact ha)
end
end Go.Proofs.YtlfnibjmkfldgaaGreatDoor
namespace Go.Proofs.YtlfnibjmkfldgaaGreatDoor
open Go.RowKit Go.ChangeShapes Go.WideShapes Go.Deep
set_option maxRecDepth 100000 in
theorem packs_lifted (os : Os) (started : os.Started) (H : Type) (enc : TypeId × Value → H) :
  ReturnsInHanded {} Tryz.checked os 10 .any (fun w args => (Rows.probePacksSpec.pre enc Tryz.prog Tryz.f10 [] false w args ∧ laidMetH Tryz.prog Listed w) ∧ sizedMet enc Tryz.prog Tryz.f10 (OpenSpec.ofChange Rows.probePacksSpec) false w args)
   (Rows.probePacksSpec.post enc Tryz.prog Tryz.f10 false true false false) := by
 refine returns_and_shaped (C := Tryz.checked) (X := fun w _ => laidMetH Tryz.prog Listed w) (fun _ _ _ hh h => h.of_heap hh) own started (by kernel_rfl) Tryz.func10
  (ChangeSpec.witness_shaped (enc := enc) (C := Tryz.checked) (os := os) (X := fun w _ => laidMetH Tryz.prog Listed w) false (World.laidAll Tryz.prog os Listed) #[.slice none 0 0] 8 (World.laidAll_os _ _ _)
   (World.shaped_of_ZipB (by kernel_rfl) (by kernel_rfl)) (by kernel_rfl) (by kernel_rfl) (by kernel_rfl) (witness_laid os _)) ?_
 intro W base args ds gs before hval0 hW hL hsh
 have hval : ∀ (j : Nat) t v, Tryz.f10.params[j]? = some t → args[j]? = some v → Value.okWide Tryz.prog W .any base t v := hval0
 have hW' := hW
 obtain ⟨p, q, hA0, hV, rfl, _, _⟩ := hW
 have hA : DataW.TrodAll enc Tryz.prog W 0 (fun _ => true) true Tryz.f10.params.toList args.toList ds p := hA0
 rw [Tryz.params10] at hA hval
 obtain ⟨v0, d0, rfl, rfl, h0⟩ := trodAll_one hA
 obtain ⟨rfl, rfl⟩ := trodVars_none hV
 have he := env_of hL hsh
 have hlt : ∀ x ∈ p, x.block < W.heap.size := fun x hx => by simpa using hW'.lt x (by simpa using hx)
 have hv0 := hval 0 _ _ rfl rfl
 clear hA0 hval0 hval hA
 have up : ∀ W', New W W' → DataW.TrodAll enc Tryz.prog W' 0 (fun b => decide (b < W.heap.size)) true [57] [v0] [d0] (p) := fun W' hn =>
  trodAll_mk1 (Below.trod laidOut (by kernel_rfl) (of_decide_eq_true (by kernel_rfl)) h0 hn fun x hx => hlt x (by simp [hx]))
 obtain ⟨a, ca, rv, ls, rfl, hr, _, hc, hm⟩ := in_rows (F := Value.bool) Tryz.underlying57 Tryz.underlying26 (by kernel_rfl) (by kernel_rfl) (fun n u y hy => trod_bool' Tryz.underlying4 hy) hv0 h0
 refine (packs_law awake_calls a ca _ rv ls W he rfl (Nat.le_trans hc hm) hr).mono fun e W' hp => ?_
 obtain ⟨rfl, hn⟩ := hp
 exact ⟨_, rfl, _, _, _, [], p, [], hW', trodAll_mk1 (shut_bool Tryz.underlying4 _), up W' hn, rfl, Below.frame hn _, fun h => by cases h⟩
theorem packs_holds : Rows.ProbePacksSaid :=
 OpenClaim.holds_of_wide 10 Tryz.f10 rfl rfl rfl rfl rfl rfl rfl ⟨rfl, rfl, rfl, rfl, rfl⟩ rfl rfl rfl rfl rfl (by kernel_rfl) Tryz.func10 (by kernel_rfl)
  (of_decide_eq_true (by kernel_rfl)) (by unfold Func.isWrapper; first | (rw [if_pos (by decide +kernel)]; kernel_rfl) | (rw [if_neg (by decide +kernel)]; exact ⟨rfl, rfl⟩))
  (fun os started H enc _ => packs_lifted os started H enc)
theorem packs_card_holds : Rows.ProbePacksCardSaid :=
 Claim7.holds_tied_plain_at .later [] [.data, .data, .data, .data, .sentinel, .sentinel, .pinned] true (true, "f0ca2b108762137a6db1396a3c9751d00d662484c3e674171f7431adc0761793") true
  packs_holds (fun _ h => by cases h) (by kernel_rfl) (fun _ h => by cases h) probePacks_row_tie rfl ⟨rfl, rfl⟩ (by kernel_rfl) rfl
  (fun f fn hf hfn => by
   obtain rfl : f = 10 := Option.some.inj ((show Tryz.prog.funcNamed "strobe/strobelaw02.ProbePacks" = some 10 by kernel_rfl).symm.trans hf) |>.symm
   obtain rfl : fn = Tryz.f10 := (Option.some.inj (Tryz.func10.symm.trans hfn)).symm
   exact ⟨by kernel_rfl, fun j t ht => by
    rw [Tryz.params10] at ht
    have hm : t ∈ [57] := by simpa using Array.mem_of_getElem? ht
    have hall : ([57].all fun u => !Tryz.prog.wantsStandIn u) = true := by kernel_rfl
    exact (show Tryz.prog.wantsStandIn t = false by simpa using List.all_eq_true.1 hall t hm)⟩)
  (by kernel_rfl)
end Go.Proofs.YtlfnibjmkfldgaaGreatDoor
