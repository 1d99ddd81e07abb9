/- ProbeSkews. The law returns true at every input, and the arguments read behind the call as before it. CONDITIONS. The seven listed package-level variables of the library hold what start-up lays (the card ties them to the text). -/
import Derived.Lib.SmallJoins
import Derived.Maps.AppendAt
import Derived.Laws.AppendOwnNone
import Derived.Deep.DeepCutAuto
import Derived.Test.YtlfnibjmkfldgaaGreatDoorA13
import Derived.Test.YtlfnibjmkfldgaaGreatDoorA20
import Derived.Test.YtlfnibjmkfldgaaGreatDoorA25
import Derived.Test.YtlfnibjmkfldgaaGreatDoorA27
import Derived.Test.YtlfnibjmkfldgaaGreatDoorA28
import Derived.Test.YtlfnibjmkfldgaaGreatDoorA29
import Derived.Test.YtlfnibjmkfldgaaGreatDoorA31
import Derived.Test.YtlfnibjmkfldgaaGreatDoorCardSk01
import Derived.Test.YtlfnibjmkfldgaaGreatDoorCardSk02
import Derived.Test.YtlfnibjmkfldgaaGreatDoorCardSk03
import Derived.Test.YtlfnibjmkfldgaaGreatDoorCardSk04
namespace Go.Proofs.YtlfnibjmkfldgaaGreatDoor
open Go.RowKit Go.ChangeShapes Go.WideShapes Go.Deep
section
variable {H : Type} {enc : TypeId × Value → H} {P : Program} {w : World} {base : Nat} {sp : Nat → Bool} {held : Bool}
theorem arr_cells {n : Nat} {t e : TypeId} {fuel : Nat} {cs : List Value} {x : DataW H × List MemPlace} (ht : P.underlying t = some (.array n e)) (hc : P.cellsOf e = 1) (hn : P.cellsOf t = n) (h : DataW.trod enc P w base sp held fuel t cs = some x) :
  cs.length = n ∧ ∃ m, ∀ (i : Nat) (v : Value), cs[i]? = some v → ∃ y, DataW.trod enc P w base sp held m e [v] = some y := by
 obtain ⟨xs, m, _, _, h1, h2, h3⟩ := DataW.trod_array ht h
 rw [hn] at h1
 refine ⟨h1, m, fun i v hv => ?_⟩
 have hi : i < cs.length := (List.getElem?_eq_some_iff.1 hv).1
 have h4 := h3 i (by omega)
 rw [hc, Nat.mul_one, List.getElem?_eq_getElem (by omega)] at h4
 have e : (cs.drop i).take 1 = [v] := by
  rw [List.drop_eq_getElem_cons hi]
  have := List.getElem?_eq_getElem hi
  rw [hv] at this
  injection this with this
  rw [this]; rfl
 rw [e] at h4
 exact ⟨_, h4⟩
theorem in_arrays {n : Nat} {t e e2 : TypeId} {r : Reach} {b0 : Nat} {v : Value} {d : DataW H} {p : List MemPlace} (ht : P.underlying t = some (.slice e)) (he : P.underlying e = some (.array n e2)) (hc : P.cellsOf e2 = 1) (hn : P.cellsOf e = n) (h0 : 0 < n) (hval : Value.okWide P w r b0 t v) (h : DataW.Trod enc P w base sp held t v d p) :
  ∃ (a : Option Addr) (cap N : Nat) (vs : List Value), v = .slice a N cap ∧ vs.length = N * n ∧ RdL w a vs ∧ (a = none → cap = 0) ∧ N ≤ cap ∧ cap ≤ maxLen ∧ ∀ u ∈ vs, ∃ (m : Nat) (y : DataW H × List MemPlace), DataW.trod enc P w base sp held m e2 [u] = some y := by
 obtain ⟨fuel, hf⟩ := h
 rw [slice_cells ht hval] at hf
 rcases open_slice ht hf with ⟨h1, _⟩ | ⟨a, len, cap, m, k, D, Pl, h1, hb, hl, hm, hmm, _, hel⟩
 ·exact ⟨none, 0, 0, [], by simpa using h1, by simp, fun i hi => by simp at hi, fun _ => rfl, Nat.le_refl _, Nat.zero_le _, fun u hu => by simp at hu⟩
 ·have hlm : len ≤ m := by rw [hmm]; split <;> omega
  have hcell : ∀ i, i < len * n → ∃ u, w.cell? (a.add i) = some u ∧ ∃ (m : Nat) (y : DataW H × List MemPlace), DataW.trod enc P w base sp held m e2 [u] = some y := by
   intro i hi
   have hq : i / n < len := Nat.div_lt_of_lt_mul (by rw [Nat.mul_comm]; exact hi)
   have hr : i % n < n := Nat.mod_lt _ h0
   obtain ⟨cs, g1, g2⟩ := hel (i / n) (by omega)
   rw [hn] at g1
   obtain ⟨_, g3, g4⟩ := World.cells?_some g1
   obtain ⟨g5, m, g6⟩ := arr_cells he hc hn g2
   have g7 := g4 (i % n) hr
   have e : (a.add (i / n * n)).add (i % n) = a.add i := by
    rw [Go.Deep.add_add, Nat.mul_comm, Nat.div_add_mod]
   rw [e, List.getElem?_eq_getElem (by omega)] at g7
   obtain ⟨y, hy⟩ := g6 (i % n) _ (List.getElem?_eq_getElem (by omega))
   exact ⟨_, g7, m, y, hy⟩
  obtain ⟨V, hV⟩ := choose_lt hcell
  refine ⟨some a, cap, len, (List.range (len * n)).map V, by simpa using h1, by simp, rdl_fn fun i hi => (hV i hi).1, (fun h => by cases h), hl, hm, fun u hu => ?_⟩
  obtain ⟨i, hi, rfl⟩ := List.mem_map.1 hu
  exact (hV i (List.mem_range.1 hi)).2
theorem in_pairs {n : Nat} {t e e2 : TypeId} {r : Reach} {b0 : Nat} {v : Value} {d : DataW H} {p : List MemPlace} (ht : P.underlying t = some (.slice e)) (he : P.underlying e = some (.array n e2)) (h2 : P.underlying e2 = some (.int .i64)) (hc : P.cellsOf e2 = 1) (hn : P.cellsOf e = n) (h0 : 0 < n) (hval : Value.okWide P w r b0 t v) (h : DataW.Trod enc P w base sp held t v d p) :
  ∃ (a : Option Addr) (cap N : Nat) (xs : List Int), v = .slice a N cap ∧ xs.length = N * n ∧ RdL w a (ints xs) ∧ (a = none → cap = 0) ∧ N ≤ cap ∧ cap ≤ maxLen ∧ ∀ x ∈ xs, (Lit.int .i64 x).wf = true := by
 obtain ⟨a, cap, N, vs, h1, hlen, hr, hz, hN, hm, hel⟩ := in_arrays ht he hc hn h0 hval h
 obtain ⟨xs, rfl⟩ : ∃ xs, vs = ints xs := exists_map fun u hu => by
  obtain ⟨n, y, hy⟩ := hel u hu
  obtain ⟨x, hx, _⟩ := trod_int' h2 hy
  exact ⟨x, hx⟩
 refine ⟨a, cap, N, xs, h1, by simpa [ints] using hlen, hr, hz, hN, hm, fun x hx => ?_⟩
 obtain ⟨n, y, hy⟩ := hel (.int .i64 x) (by simp [ints, hx])
 obtain ⟨x', e1, e2⟩ := trod_int' h2 hy
 injection e1 with _ e1
 rw [e1]; exact e2
end
end Go.Proofs.YtlfnibjmkfldgaaGreatDoor
namespace Go.Proofs.YtlfnibjmkfldgaaGreatDoor
open Go.RowKit Go.ChangeShapes Go.WideShapes Go.Deep
set_option maxRecDepth 100000 in
theorem skews_lifted (os : Os) (started : os.Started) (H : Type) (enc : TypeId × Value → H) :
  ReturnsInHanded {} Tryz.checked os 5 .any (fun w args => (Rows.probeSkewsSpec.pre enc Tryz.prog Tryz.f5 [] false w args ∧ laidMetH Tryz.prog Listed w) ∧ sizedMet enc Tryz.prog Tryz.f5 (OpenSpec.ofChange Rows.probeSkewsSpec) false w args)
   (Rows.probeSkewsSpec.post enc Tryz.prog Tryz.f5 false true false false) := by
 refine returns_and_shaped (C := Tryz.checked) (X := fun w _ => laidMetH Tryz.prog Listed w) (fun _ _ _ hh h => h.of_heap hh) own started (by kernel_rfl) Tryz.func5
  (ChangeSpec.witness_shaped (enc := enc) (C := Tryz.checked) (os := os) (X := fun w _ => laidMetH Tryz.prog Listed w) false (World.laidAll Tryz.prog os Listed) #[.slice none 0 0, .slice none 0 0, .int .i64 0] 8 (World.laidAll_os _ _ _)
   (World.shaped_of_ZipB (by kernel_rfl) (by kernel_rfl)) (by kernel_rfl) (by kernel_rfl) (by kernel_rfl) (witness_laid os _)) ?_
 intro W base args ds gs before hval0 hW hL hsh
 have hval : ∀ (j : Nat) t v, Tryz.f5.params[j]? = some t → args[j]? = some v → Value.okWide Tryz.prog W .any base t v := hval0
 have hW' := hW
 obtain ⟨p, q, hA0, hV, rfl, _, _⟩ := hW
 have hA : DataW.TrodAll enc Tryz.prog W 0 (fun _ => true) true Tryz.f5.params.toList args.toList ds p := hA0
 rw [Tryz.params5] at hA hval
 obtain ⟨v0, v1, v2, d0, d1, d2, p0, p1, p2, rfl, rfl, rfl, h0, h1, h2⟩ := trodAll_three hA
 obtain ⟨rfl, rfl⟩ := trodVars_none hV
 have he := env_of hL hsh
 have hlt : ∀ x ∈ p0 ++ p1 ++ p2, x.block < W.heap.size := fun x hx => by simpa using hW'.lt x (by simpa using hx)
 have hv0 := hval 0 _ _ rfl rfl
 have hv1 := hval 1 _ _ rfl rfl
 have hv2 := hval 2 _ _ rfl rfl
 clear hA0 hval0 hval hA
 have up : ∀ W', New W W' → DataW.TrodAll enc Tryz.prog W' 0 (fun b => decide (b < W.heap.size)) true [22, 54, 3] [v0, v1, v2] [d0, d1, d2] (p0 ++ (p1 ++ p2)) := fun W' hn =>
  trodAll_mk3 (Below.trod laidOut (by kernel_rfl) (of_decide_eq_true (by kernel_rfl)) h0 hn fun x hx => hlt x (by simp [hx]))
   (Below.trod laidOut (by kernel_rfl) (of_decide_eq_true (by kernel_rfl)) h1 hn fun x hx => hlt x (by simp [hx]))
   (Below.trod laidOut (by kernel_rfl) (of_decide_eq_true (by kernel_rfl)) h2 hn fun x hx => hlt x (by simp [hx]))
 obtain ⟨a, ca, xs, rfl, hr, hza, hc1, hc2⟩ := in_floats Tryz.underlying22 Tryz.underlying23 (by kernel_rfl) hv0 h0
 obtain ⟨b, cb, K, cs, rfl, hc, hrb, _, hd1, hd2, _⟩ := in_pairs Tryz.underlying54 Tryz.underlying55 Tryz.underlying3 (by kernel_rfl) (by kernel_rfl) (by decide) hv1 h1
 obtain ⟨n, rfl, _, _, _⟩ := open_int Tryz.underlying3 hv2 h2
 refine (skews_law awake_calls a b ca cb xs.length K xs cs n W he rfl (by rw [hc, Nat.mul_comm]) hc1 hc2 (Nat.le_trans hd1 hd2) hr hza hrb).mono fun e W' hp => ?_
 obtain ⟨rfl, hn⟩ := hp
 exact ⟨_, rfl, _, _, _, [], p0 ++ (p1 ++ p2), [], hW', trodAll_mk1 (shut_bool Tryz.underlying4 _), up W' hn, rfl, Below.frame hn _, fun h => by cases h⟩
theorem skews_holds : Rows.ProbeSkewsSaid :=
 OpenClaim.holds_of_wide 5 Tryz.f5 rfl rfl rfl rfl rfl rfl rfl ⟨rfl, rfl, rfl, rfl, rfl⟩ rfl rfl rfl rfl rfl (by kernel_rfl) Tryz.func5 (by kernel_rfl)
  (of_decide_eq_true (by kernel_rfl)) (by unfold Func.isWrapper; first | (rw [if_pos (by decide +kernel)]; kernel_rfl) | (rw [if_neg (by decide +kernel)]; exact ⟨rfl, rfl⟩))
  (fun os started H enc _ => skews_lifted os started H enc)
theorem skews_card_holds : Rows.ProbeSkewsCardSaid :=
 Claim7.holds_tied_plain_at .later [] [.data, .data, .data, .data, .sentinel, .sentinel, .pinned] true (true, "f0ca2b108762137a6db1396a3c9751d00d662484c3e674171f7431adc0761793") true
  skews_holds (fun _ h => by cases h) (by kernel_rfl) (fun _ h => by cases h) probeSkews_row_tie rfl ⟨rfl, rfl⟩ (by kernel_rfl) rfl
  (fun f fn hf hfn => by
   obtain rfl : f = 5 := Option.some.inj ((show Tryz.prog.funcNamed "strobe/strobelaw02.ProbeSkews" = some 5 by kernel_rfl).symm.trans hf) |>.symm
   obtain rfl : fn = Tryz.f5 := (Option.some.inj (Tryz.func5.symm.trans hfn)).symm
   exact ⟨by kernel_rfl, fun j t ht => by
    rw [Tryz.params5] at ht
    have hm : t ∈ [22, 54, 3] := by simpa using Array.mem_of_getElem? ht
    have hall : ([22, 54, 3].all fun u => !Tryz.prog.wantsStandIn u) = true := by kernel_rfl
    exact (show Tryz.prog.wantsStandIn t = false by simpa using List.all_eq_true.1 hall t hm)⟩)
  (by kernel_rfl)
end Go.Proofs.YtlfnibjmkfldgaaGreatDoor
