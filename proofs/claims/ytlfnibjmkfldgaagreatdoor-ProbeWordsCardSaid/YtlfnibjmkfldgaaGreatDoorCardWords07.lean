/- ProbeWords. The law returns true at every input, and the arguments read behind the call as before it. CONDITIONS. The seven listed package-level variables of the library hold what start-up lays (the card ties them to the text). -/
import Derived.Lib.SmallJoins
import Derived.Maps.AppendAt
import Derived.Laws.AppendOwnNone
import Derived.Deep.DeepCutAuto
import Derived.Test.YtlfnibjmkfldgaaGreatDoorA16
import Derived.Test.YtlfnibjmkfldgaaGreatDoorA24
import Derived.Test.YtlfnibjmkfldgaaGreatDoorA29
import Derived.Test.YtlfnibjmkfldgaaGreatDoorA31
import Derived.Test.YtlfnibjmkfldgaaGreatDoorA32
import Derived.Test.YtlfnibjmkfldgaaGreatDoorA33
import Derived.Test.YtlfnibjmkfldgaaGreatDoorA35
import Derived.Test.YtlfnibjmkfldgaaGreatDoorCardWords01
import Derived.Test.YtlfnibjmkfldgaaGreatDoorCardWords02
import Derived.Test.YtlfnibjmkfldgaaGreatDoorCardWords03
import Derived.Test.YtlfnibjmkfldgaaGreatDoorCardWords04
import Derived.Test.YtlfnibjmkfldgaaGreatDoorCardWords05
import Derived.Test.YtlfnibjmkfldgaaGreatDoorCardWords06
namespace Go.Proofs.YtlfnibjmkfldgaaGreatDoor
open Go.RowKit Go.ChangeShapes Go.WideShapes Go.Deep
theorem choose_list {α β : Type} {R : α → β → Prop} : ∀ {vs : List α}, (∀ u ∈ vs, ∃ x, R u x) → ∃ xs : List β, xs.length = vs.length ∧ ∀ (k : Nat) (u : α) (x : β), vs[k]? = some u → xs[k]? = some x → R u x
 | [], _ => ⟨[], rfl, fun k u x h => by simp at h⟩
 | v :: vs, h => by
  obtain ⟨x, hx⟩ := h v (by simp)
  obtain ⟨xs, hl, hxs⟩ := choose_list (vs := vs) fun u hu => h u (by simp [hu])
  refine ⟨x :: xs, by simp [hl], fun k u y h1 h2 => ?_⟩
  cases k with
  | zero => simp at h1 h2; subst h1 h2; exact hx
  | succ k => exact hxs k u y (by simpa using h1) (by simpa using h2)
section
variable {H : Type} {enc : TypeId × Value → H} {P : Program} {w : World} {base : Nat} {sp : Nat → Bool} {held : Bool}
theorem in_words {t e : TypeId} {r : Reach} {b0 : Nat} {v : Value} {d : DataW H} {p : List MemPlace} (ht : P.underlying t = some (.slice e)) (he : P.underlying e = some (.int .u16)) (hc : P.cellsOf e = 1) (hval : Value.okWide P w r b0 t v) (h : DataW.Trod enc P w base sp held t v d p) :
  ∃ (a : Option Addr) (cap : Nat) (xs : List Nat), v = .slice a xs.length cap ∧ RdL w a (words xs) ∧ (a = none → cap = 0) ∧ xs.length ≤ cap ∧ cap ≤ maxLen ∧ ∀ x ∈ xs, x < 65536 := by
 obtain ⟨fuel, hf⟩ := h
 rw [slice_cells ht hval] at hf
 obtain ⟨a, cap, vs, h1, h2, h3, h4, h5, h6⟩ := in_slice1 ht hc hf
 have h7 : ∀ u ∈ vs, ∃ x : Nat, u = .int .u16 (x : Int) ∧ x < 65536 := fun u hu => by
  obtain ⟨n, y, hy⟩ := h6 u hu
  obtain ⟨x, hx, hw⟩ := trod_int' he hy
  have hb : 0 ≤ x ∧ x < 65536 := by
   simp only [Lit.wf, Bool.and_eq_true, decide_eq_true_eq] at hw
   have e1 : IntKind.u16.min = 0 := by decide
   have e2 : IntKind.u16.max = 65535 := by decide
   rw [e1, e2] at hw
   omega
  exact ⟨x.toNat, by rw [hx, Int.toNat_of_nonneg hb.1], by omega⟩
 obtain ⟨xs, rfl⟩ : ∃ xs, vs = words xs := exists_map fun u hu => by
  obtain ⟨x, hx, _⟩ := h7 u hu
  exact ⟨x, hx⟩
 have hl : (words xs).length = xs.length := by simp [words]
 rw [hl] at h1 h4
 refine ⟨a, cap, xs, by simpa using h1, h2, h3, h4, h5, fun x hx => ?_⟩
 obtain ⟨x', e1, e2⟩ := h7 (.int .u16 (x : Int)) (by simp only [words, List.mem_map]; exact ⟨x, hx, rfl⟩)
 injection e1 with _ e1
 omega
theorem in_rows {α : Type} {F : α → Value} {t e e2 : TypeId} {r : Reach} {b0 : Nat} {v : Value} {d : DataW H} {p : List MemPlace} (ht : P.underlying t = some (.slice e)) (he : P.underlying e = some (.slice e2)) (hc : P.cellsOf e = 1) (hc2 : P.cellsOf e2 = 1)
  (hF : ∀ (n : Nat) (u : Value) (y : DataW H × List MemPlace), DataW.trod enc P w base sp held n e2 [u] = some y → ∃ x, u = F x) (hval : Value.okWide P w r b0 t v) (h : DataW.Trod enc P w base sp held t v d p) :
  ∃ (a : Option Addr) (cap : Nat) (rv : List Value) (xss : List (List α)), v = .slice a xss.length cap ∧ RdZ w a rv (xss.map fun xs => xs.map F) ∧ (a = none → cap = 0) ∧ xss.length ≤ cap ∧ cap ≤ maxLen := by
 obtain ⟨fuel, hf⟩ := h
 rw [slice_cells ht hval] at hf
 obtain ⟨a, cap, vs, h1, h2, h3, h4, h5, h6⟩ := in_slice1 ht hc hf
 have h7 : ∀ u ∈ vs, ∃ xs : List α, ∃ (a' : Option Addr) (c' : Nat), u = .slice a' xs.length c' ∧ RdL w a' (xs.map F) ∧ (a' = none → c' = 0) ∧ xs.length ≤ c' := fun u hu => by
  obtain ⟨n, y, hy⟩ := h6 u hu
  obtain ⟨a', c', us, g1, g2, g3, g4, g5, g6⟩ := in_slice1 he hc2 hy
  obtain ⟨xs, rfl⟩ : ∃ xs : List α, us = xs.map F := exists_map fun u hu => by
   obtain ⟨n, y, hy⟩ := g6 u hu
   exact hF n u y hy
  rw [List.length_map] at g1 g4
  exact ⟨xs, a', c', by simpa using g1, g2, g3, g4⟩
 obtain ⟨xss, hl, hx⟩ := choose_list h7
 refine ⟨a, cap, vs, xss, by rw [hl]; simpa using h1, ⟨⟨h2, by rw [List.length_map, hl], fun k v xs hk hxs => ?_⟩, fun k a' l' c' hk ha => ?_⟩, h3, by rw [hl]; exact h4, h5⟩
 ·rw [List.getElem?_map] at hxs
  obtain ⟨ys, hy, rfl⟩ := Option.map_eq_some_iff.1 hxs
  obtain ⟨a', c', e1, e2, e3, e4⟩ := hx k v ys hk hy
  exact ⟨a', c', by rw [e1, List.length_map], e2, by rw [List.length_map]; exact e4⟩
 ·have hkl : k < xss.length := by rw [hl]; exact (List.getElem?_eq_some_iff.1 hk).1
  obtain ⟨a2, c2, e1, e2, e3, e4⟩ := hx k _ _ hk (List.getElem?_eq_getElem hkl)
  injection e1 with e5 e6 e7
  rw [e7]
  exact e3 (by rw [← e5]; exact ha)
end
end Go.Proofs.YtlfnibjmkfldgaaGreatDoor
namespace Go.Proofs.YtlfnibjmkfldgaaGreatDoor
open Go.RowKit Go.ChangeShapes Go.WideShapes Go.Deep
set_option maxRecDepth 100000 in
theorem words_lifted (os : Os) (started : os.Started) (H : Type) (enc : TypeId × Value → H) :
  ReturnsInHanded {} Tryz.checked os 6 .any (fun w args => (Rows.probeWordsSpec.pre enc Tryz.prog Tryz.f6 [] false w args ∧ laidMetH Tryz.prog Listed w) ∧ sizedMet enc Tryz.prog Tryz.f6 (OpenSpec.ofChange Rows.probeWordsSpec) false w args)
   (Rows.probeWordsSpec.post enc Tryz.prog Tryz.f6 false true false false) := by
 refine returns_and_shaped (C := Tryz.checked) (X := fun w _ => laidMetH Tryz.prog Listed w) (fun _ _ _ hh h => h.of_heap hh) own started (by kernel_rfl) Tryz.func6
  (ChangeSpec.witness_shaped (enc := enc) (C := Tryz.checked) (os := os) (X := fun w _ => laidMetH Tryz.prog Listed w) false (World.laidAll Tryz.prog os Listed) #[.slice none 0 0, .slice none 0 0, .int .i64 0] 8 (World.laidAll_os _ _ _)
   (World.shaped_of_ZipB (by kernel_rfl) (by kernel_rfl)) (by kernel_rfl) (by kernel_rfl) (by kernel_rfl) (witness_laid os _)) ?_
 intro W base args ds gs before hval0 hW hL hsh
 have hval : ∀ (j : Nat) t v, Tryz.f6.params[j]? = some t → args[j]? = some v → Value.okWide Tryz.prog W .any base t v := hval0
 have hW' := hW
 obtain ⟨p, q, hA0, hV, rfl, _, _⟩ := hW
 have hA : DataW.TrodAll enc Tryz.prog W 0 (fun _ => true) true Tryz.f6.params.toList args.toList ds p := hA0
 rw [Tryz.params6] at hA hval
 obtain ⟨v0, v1, v2, d0, d1, d2, p0, p1, p2, rfl, rfl, rfl, h0, h1, h2⟩ := trodAll_three hA
 obtain ⟨rfl, rfl⟩ := trodVars_none hV
 have he := env_of hL hsh
 have hlt : ∀ x ∈ p0 ++ p1 ++ p2, x.block < W.heap.size := fun x hx => by simpa using hW'.lt x (by simpa using hx)
 have hv0 := hval 0 _ _ rfl rfl
 have hv1 := hval 1 _ _ rfl rfl
 have hv2 := hval 2 _ _ rfl rfl
 clear hA0 hval0 hval hA
 have up : ∀ W', New W W' → DataW.TrodAll enc Tryz.prog W' 0 (fun b => decide (b < W.heap.size)) true [57, 58, 3] [v0, v1, v2] [d0, d1, d2] (p0 ++ (p1 ++ p2)) := fun W' hn =>
  trodAll_mk3 (Below.trod laidOut (by kernel_rfl) (of_decide_eq_true (by kernel_rfl)) h0 hn fun x hx => hlt x (by simp [hx]))
   (Below.trod laidOut (by kernel_rfl) (of_decide_eq_true (by kernel_rfl)) h1 hn fun x hx => hlt x (by simp [hx]))
   (Below.trod laidOut (by kernel_rfl) (of_decide_eq_true (by kernel_rfl)) h2 hn fun x hx => hlt x (by simp [hx]))
 obtain ⟨a, ca, rv, ls, rfl, hr, _, hc, hm⟩ := in_rows (F := Value.bool) Tryz.underlying57 Tryz.underlying26 (by kernel_rfl) (by kernel_rfl) (fun n u y hy => trod_bool' Tryz.underlying4 hy) hv0 h0
 obtain ⟨b, cb, xs, rfl, hrb, hzb, _, _, hx⟩ := in_words Tryz.underlying58 Tryz.underlying70 (by kernel_rfl) hv1 h1
 obtain ⟨n, rfl, _, _, _⟩ := open_int Tryz.underlying3 hv2 h2
 refine (words_law awake_calls a b ca cb _ _ rv ls xs n W he rfl rfl (Nat.le_trans hc hm) hr hrb hx hzb).mono fun e W' hp => ?_
 obtain ⟨rfl, hn⟩ := hp
 exact ⟨_, rfl, _, _, _, [], p0 ++ (p1 ++ p2), [], hW', trodAll_mk1 (shut_bool Tryz.underlying4 _), up W' hn, rfl, Below.frame hn _, fun h => by cases h⟩
theorem words_holds : Rows.ProbeWordsSaid :=
 OpenClaim.holds_of_wide 6 Tryz.f6 rfl rfl rfl rfl rfl rfl rfl ⟨rfl, rfl, rfl, rfl, rfl⟩ rfl rfl rfl rfl rfl (by kernel_rfl) Tryz.func6 (by kernel_rfl)
  (of_decide_eq_true (by kernel_rfl)) (by unfold Func.isWrapper; first | (rw [if_pos (by decide +kernel)]; kernel_rfl) | (rw [if_neg (by decide +kernel)]; exact ⟨rfl, rfl⟩))
  (fun os started H enc _ => words_lifted os started H enc)
theorem words_card_holds : Rows.ProbeWordsCardSaid :=
 Claim7.holds_tied_plain_at .later [] [.data, .data, .data, .data, .sentinel, .sentinel, .pinned] true (true, "f0ca2b108762137a6db1396a3c9751d00d662484c3e674171f7431adc0761793") true
  words_holds (fun _ h => by cases h) (by kernel_rfl) (fun _ h => by cases h) probeWords_row_tie rfl ⟨rfl, rfl⟩ (by kernel_rfl) rfl
  (fun f fn hf hfn => by
   obtain rfl : f = 6 := Option.some.inj ((show Tryz.prog.funcNamed "strobe/strobelaw02.ProbeWords" = some 6 by kernel_rfl).symm.trans hf) |>.symm
   obtain rfl : fn = Tryz.f6 := (Option.some.inj (Tryz.func6.symm.trans hfn)).symm
   exact ⟨by kernel_rfl, fun j t ht => by
    rw [Tryz.params6] at ht
    have hm : t ∈ [57, 58, 3] := by simpa using Array.mem_of_getElem? ht
    have hall : ([57, 58, 3].all fun u => !Tryz.prog.wantsStandIn u) = true := by kernel_rfl
    exact (show Tryz.prog.wantsStandIn t = false by simpa using List.all_eq_true.1 hall t hm)⟩)
  (by kernel_rfl)
end Go.Proofs.YtlfnibjmkfldgaaGreatDoor
