/- Part CardLines02. -/
import Derived.Laws.AppendOwnNone
import Derived.Test.YtlfnibjmkfldgaaGreatDoorA24
import Derived.Test.YtlfnibjmkfldgaaGreatDoorA29
import Derived.Test.YtlfnibjmkfldgaaGreatDoorA32
import Derived.Test.YtlfnibjmkfldgaaGreatDoorA33
import Derived.Test.YtlfnibjmkfldgaaGreatDoorCardLines01
namespace Go.Proofs.YtlfnibjmkfldgaaGreatDoor
open Go.RowKit Big
set_option maxRecDepth 100000 in
set_option maxHeartbeats 1000000 in
theorem rchanges_calls (a : Option Addr) (cap n : Nat) (l : List Bool) (before : Bool) (w : World) (hn : l.length = n) (hl : n ≤ 4096) (hr : RdL w a (bools l)) :
  Calls Tryz.prog 20 #[.slice a n cap, .bool before] w (RowRet w 3 (ints (chg before 0 l))) := by
 obtain ⟨i0, hi, hz0, hz1, hz2⟩ := info_parts info_int
 have hli : (n : Int) ≤ 4096 := by omega
 have HR := Lib.hid hr
 have HLN := Lib.hid hn
 clear hr hn
 go_enter Tryz.func20, Tryz.ntmps20
 go_wp2_with fail
 go_loopw [1, 5, 6] (fun bf v i wr => ∃ (k : Nat) (y : Bool) (xs : List Int), k ≤ n ∧ bf = .bool y ∧ i = .int .i64 (k : Int) ∧ Hid (lastB before (l.take k) = y) ∧ Hid (chg before 0 (l.take k) = xs) ∧
  Hid (wr.ownsRow w.heap.size 3 1 v (ints xs).length (ints xs)) ∧ Hid (New w wr)) (fun _ _ i _ => n - (intOf i).toNat)
 case atStart => exact ⟨0, before, [], Nat.zero_le _, rfl, rfl, Lib.hid rfl, Lib.hid rfl, Lib.hid (World.ownsRow_nil _ _ _ _), Lib.hid (New.refl _)⟩
 case round =>
  obtain ⟨k, y, xs, hk, rfl, rfl, HY, HX, HO, HN⟩ := hrel
  by_cases hlt0 : k < n
  ·have hlt : k < l.length := by rw [HLN.out]; exact hlt0
   obtain ⟨b, off, rfl, hcell0⟩ := HR.out.bool k hlt
   obtain ⟨x, hx⟩ : ∃ x, l[k] = x := ⟨_, rfl⟩
   rw [hx] at hcell0
   have hcell := HN.out.cell hcell0
   have HLT := Lib.hid hlt
   cases x with
   | true =>
    cases y with
    | true =>
     have hnx := chg_next hlt HY.out HX.out hx
     have hnx1 := hnx.1
     have hnx2 := hnx.2
     simp only [bne_self_eq_false, Bool.false_eq_true, if_false, List.append_nil] at hnx2
     clear hnx
     have HXX := Lib.hid hx
     have HNX1 := Lib.hid hnx1
     have HNX2 := Lib.hid hnx2
     clear hx hnx1 hnx2
     go_wp2_with fail
     go_roundw
     case rel => exact ⟨k + 1, _, xs, by omega, rfl, by go_num, HNX1, HNX2, HO, HN⟩
     case measure => simp [intOf]; omega
    | false =>
     have hnx := chg_next hlt HY.out HX.out hx
     have hnx1 := hnx.1
     have hnx2 := hnx.2
     rw [if_pos (by decide)] at hnx2
     clear hnx
     have hle : xs.length ≤ k := by
      have := chg_len (l.take k) before 0
      rw [HX.out] at this
      simp at this
      omega
     have hli2 : (k : Int) < 4096 := by omega
     have HXX := Lib.hid hx
     have HNX1 := Lib.hid hnx1
     have HNX2 := Lib.hid hnx2
     have HLE := Lib.hid hle
     clear hx hnx1 hnx2 hle
     go_wp2_with (at_builtin; refine wpList_append_own _ rfl _ _ 34 rfl w.heap.size 3 i0 (.int .i64 0) 1 8 Tryz.underlying34 hi hz0 hz1 hz2 rfl (by decide) _ _ _ rfl (HO.out.alloc _) ⟨wr.heap.size, 0, none⟩ 1 1 [.int .i64 (k : Int)] rfl rfl (one_c1 _ _ _) (one_c2 _) (by have := HLE.out; simp only [ints, List.length_map]; unfold maxLen; omega) (by have := HLE.out; simp only [ints, List.length_map]; omega) (by have := HN.out.size; rw [← size_alloc]; omega) ?_)
     intro v' w1 hown' hgrow _
     have hN1 := grown_new HN.out HO.out hgrow
     have hO1 : w1.ownsRow w.heap.size 3 1 v' (ints (xs ++ [(k : Int)])).length (ints (xs ++ [(k : Int)])) := by
      have : ints (xs ++ [(k : Int)]) = ints xs ++ [.int .i64 (k : Int)] := by simp [ints]
      rw [this]
      simpa using hown'
     have hc2 := hN1.cell hcell0
     clear hown' hgrow hcell
     have HN1 := Lib.hid hN1
     have HO1 := Lib.hid hO1
     have HC0 := Lib.hid hcell0
     clear hN1 hO1 hcell0
     go_wp2_with fail
     go_roundw
     case rel => exact ⟨k + 1, _, _, by omega, rfl, by go_num, HNX1, HNX2, HO1, HN1⟩
     case measure => simp [intOf]; omega
   | false =>
    cases y with
    | true =>
     have hnx := chg_next hlt HY.out HX.out hx
     have hnx1 := hnx.1
     have hnx2 := hnx.2
     rw [if_pos (by decide)] at hnx2
     clear hnx
     have hle : xs.length ≤ k := by
      have := chg_len (l.take k) before 0
      rw [HX.out] at this
      simp at this
      omega
     have hli2 : (k : Int) < 4096 := by omega
     have HXX := Lib.hid hx
     have HNX1 := Lib.hid hnx1
     have HNX2 := Lib.hid hnx2
     have HLE := Lib.hid hle
     clear hx hnx1 hnx2 hle
     go_wp2_with (at_builtin; refine wpList_append_own _ rfl _ _ 34 rfl w.heap.size 3 i0 (.int .i64 0) 1 8 Tryz.underlying34 hi hz0 hz1 hz2 rfl (by decide) _ _ _ rfl (HO.out.alloc _) ⟨wr.heap.size, 0, none⟩ 1 1 [.int .i64 (k : Int)] rfl rfl (one_c1 _ _ _) (one_c2 _) (by have := HLE.out; simp only [ints, List.length_map]; unfold maxLen; omega) (by have := HLE.out; simp only [ints, List.length_map]; omega) (by have := HN.out.size; rw [← size_alloc]; omega) ?_)
     intro v' w1 hown' hgrow _
     have hN1 := grown_new HN.out HO.out hgrow
     have hO1 : w1.ownsRow w.heap.size 3 1 v' (ints (xs ++ [(k : Int)])).length (ints (xs ++ [(k : Int)])) := by
      have : ints (xs ++ [(k : Int)]) = ints xs ++ [.int .i64 (k : Int)] := by simp [ints]
      rw [this]
      simpa using hown'
     have hc2 := hN1.cell hcell0
     clear hown' hgrow hcell
     have HN1 := Lib.hid hN1
     have HO1 := Lib.hid hO1
     have HC0 := Lib.hid hcell0
     clear hN1 hO1 hcell0
     go_wp2_with fail
     go_roundw
     case rel => exact ⟨k + 1, _, _, by omega, rfl, by go_num, HNX1, HNX2, HO1, HN1⟩
     case measure => simp [intOf]; omega
    | false =>
     have hnx := chg_next hlt HY.out HX.out hx
     have hnx1 := hnx.1
     have hnx2 := hnx.2
     simp only [bne_self_eq_false, Bool.false_eq_true, if_false, List.append_nil] at hnx2
     clear hnx
     have HXX := Lib.hid hx
     have HNX1 := Lib.hid hnx1
     have HNX2 := Lib.hid hnx2
     clear hx hnx1 hnx2
     go_wp2_with fail
     go_roundw
     case rel => exact ⟨k + 1, _, xs, by omega, rfl, by go_num, HNX1, HNX2, HO, HN⟩
     case measure => simp [intOf]; omega
  ·have hkk : k = n := by omega
   have hX := HX.out
   rw [hkk, ← HLN.out, List.take_length] at hX
   have HKK := Lib.hid hkk
   have HXX := Lib.hid hX
   clear hkk hX
   go_wp2_with fail
   go_ret
   exact ⟨_, rfl, HN.out, by rw [HXX.out]; exact HO.out⟩
end Go.Proofs.YtlfnibjmkfldgaaGreatDoor
namespace Go.Proofs.YtlfnibjmkfldgaaGreatDoor
open Go.RowKit Big
theorem fin_of {b : Nat} (h : isFin b = true) : Flo.Fin Ieee.single b := by
 rcases Nat.lt_trichotomy (Flo.rung Ieee.single b) Ieee.single.infRung with h1 | h1 | h1
 ·exact h1
 ·have := Flo.read_inf Ieee.single (x := b) (by decide) h1
  unfold isFin at h
  rw [this] at h
  cases h
 ·obtain ⟨n, hn⟩ := Flo.read_nan Ieee.single (x := b) (by decide) h1
  unfold isFin at h
  rw [hn] at h
  cases h
theorem geq_val {x y : Nat} (hx : isFin x = true) (hy : isFin y = true) : geqF x y = decide (Flo.sval Ieee.single y ≤ Flo.sval Ieee.single x) := by
 unfold geqF
 have h : FloatKind.f32.format.order x y = some (compare (Flo.sval Ieee.single x) (Flo.sval Ieee.single y)) := Flo.order_fin Ieee.single (fin_of hx) (fin_of hy)
 rw [h, Flo.compare_int]
 by_cases h1 : Flo.sval Ieee.single x < Flo.sval Ieee.single y
 ·rw [if_pos h1, decide_eq_false (by omega)]; rfl
 ·rw [if_neg h1, decide_eq_true (by omega)]
  by_cases h2 : Flo.sval Ieee.single x = Flo.sval Ieee.single y
  ·rw [if_pos h2]; rfl
  ·rw [if_neg h2]; rfl
theorem leq_val {x y : Nat} (hx : isFin x = true) (hy : isFin y = true) : leqF x y = decide (Flo.sval Ieee.single x ≤ Flo.sval Ieee.single y) := by
 unfold leqF
 have h : FloatKind.f32.format.order x y = some (compare (Flo.sval Ieee.single x) (Flo.sval Ieee.single y)) := Flo.order_fin Ieee.single (fin_of hx) (fin_of hy)
 rw [h, Flo.compare_int]
 by_cases h1 : Flo.sval Ieee.single x < Flo.sval Ieee.single y
 ·rw [if_pos h1, decide_eq_true (by omega)]; rfl
 ·rw [if_neg h1]
  by_cases h2 : Flo.sval Ieee.single x = Flo.sval Ieee.single y
  ·rw [if_pos h2, decide_eq_true (by omega)]; rfl
  ·rw [if_neg h2, decide_eq_false (by omega)]; rfl
theorem keep_ref {lo hi x : Nat} (v : Bool) (hl : isFin lo = true) (hh : isFin hi = true) (hx : isFin x = true) (hg : geqF lo hi = false) : (if leqF x lo then false else if geqF x hi then true else v) = keepF lo hi v x := by
 unfold keepF
 rw [geq_val hl hh] at hg
 rw [geq_val hx hh, leq_val hx hl]
 simp only [decide_eq_false_iff_not, decide_eq_true_eq] at hg ⊢
 by_cases h1 : Flo.sval Ieee.single hi ≤ Flo.sval Ieee.single x
 ·rw [if_pos h1, if_pos h1, if_neg (by omega)]
 ·rw [if_neg h1, if_neg h1]
set_option maxRecDepth 100000 in
set_option maxHeartbeats 2000000 in
theorem rdigital_calls (a : Option Addr) (cap n : Nat) (xs : List Nat) (lo hi : Nat) (v : Bool) (w : World) (hn : xs.length = n) (hl : n ≤ 4096) (hr : RdL w a (flts xs)) (hfl : isFin lo = true) (hfh : isFin hi = true) (hfx : xs.all isFin = true) (hg : geqF lo hi = false) :
  Calls Tryz.prog 19 #[.slice a n cap, .agg #[.float .f32 lo, .float .f32 hi], .bool v] w (RowRet w 4 (bools (keepL lo hi v xs))) := by
 obtain ⟨i0, hi0, hz0, hz1, hz2⟩ := info_parts info_bool
 have hli : (n : Int) ≤ 4096 := by omega
 have HR := Lib.hid hr
 have HLN := Lib.hid hn
 have HFL := Lib.hid hfl
 have HFH := Lib.hid hfh
 have HFX := Lib.hid hfx
 have HG := Lib.hid hg
 clear hr hn hfl hfh hfx hg
 go_enter Tryz.func19, Tryz.ntmps19
 go_wp2_with fail
 have BA := Lib.hid ((Box.alloc w (w.heap.size) 25 #[.float .f32 lo, .float .f32 hi] (by simp)).new (New.refl _))
 have HN := Lib.hid ((New.refl w).alloc (.cells #[.float .f32 lo, .float .f32 hi] 25))
 obtain ⟨B, hB⟩ : ∃ B, B = w.heap.size := ⟨_, rfl⟩
 rw [← hB] at BA
 have hB0 := BA.out.lt
 simp only [← hB]
 generalize w.alloc (.cells #[.float .f32 lo, .float .f32 hi] 25) = w0 at *
 have HNW := HN
 clear HN
 have HB := Lib.hid hB
 have HB0 := Lib.hid hB0
 clear hB hB0
 go_loopw [2, 7, 8] (fun bf o i wr => ∃ (k : Nat) (y : Bool), k ≤ n ∧ bf = .bool y ∧ i = .int .i64 (k : Int) ∧ Hid (lastB v (keepL lo hi v (xs.take k)) = y) ∧
  Hid (wr.ownsRow w0.heap.size 4 1 o (bools (keepL lo hi v (xs.take k))).length (bools (keepL lo hi v (xs.take k)))) ∧ Hid (New w0 wr)) (fun _ _ i _ => n - (intOf i).toNat)
 case atStart => exact ⟨0, v, Nat.zero_le _, rfl, rfl, Lib.hid rfl, Lib.hid (World.ownsRow_nil _ _ _ _), Lib.hid (New.refl _)⟩
 case round =>
  obtain ⟨k, y, hk, rfl, rfl, HY, HO, HN⟩ := hrel
  by_cases hlt : k < n
  ·have hlt' : k < xs.length := by rw [HLN.out]; exact hlt
   obtain ⟨b, off, rfl, hcell⟩ := HR.out.flt k hlt'
   obtain ⟨x, hx⟩ : ∃ x, xs[k] = x := ⟨_, rfl⟩
   have hfin : isFin x = true := by rw [← hx]; exact List.all_eq_true.1 HFX.out _ (List.getElem_mem hlt')
   have hke := keep_ref (v := y) HFL.out HFH.out hfin HG.out
   have hnx := keep_next hlt' HY.out hx
   have hnx1 := hnx.1
   have hnx2 := hnx.2
   rw [hx] at hcell
   replace hcell := (HNW.out.trans HN.out).cell hcell
   have ba1 := HN.out.cell (BA.out.cell 0)
   have ba2 := HN.out.cell (BA.out.cell 1)
   obtain ⟨r, hrr⟩ : ∃ r, keepF lo hi y x = r := ⟨_, rfl⟩
   rw [hrr] at hnx1 hnx2 hke
   have hle : (bools (keepL lo hi v (xs.take k))).length = k := by simp [bools, keepL_len]; omega
   have h1 : ∀ u ∈ [Value.bool r], u.oneCell' = true := by intro u hu; simp at hu; rw [hu]; rfl
   unfold leqF geqF at hke
   obtain ⟨g, hgg⟩ : ∃ g, (FloatKind.f32.format.order x hi == some Ordering.gt || FloatKind.f32.format.order x hi == some Ordering.eq) = g := ⟨_, rfl⟩
   obtain ⟨q, hqq⟩ : ∃ q, (FloatKind.f32.format.order x lo == some Ordering.lt || FloatKind.f32.format.order x lo == some Ordering.eq) = q := ⟨_, rfl⟩
   rw [hgg, hqq] at hke
   have hBs : B < wr.heap.size := Nat.lt_of_lt_of_le HB0.out HN.out.size
   clear hnx
   have HXX := Lib.hid hx
   have HRR := Lib.hid hrr
   have HNX1 := Lib.hid hnx1
   have HNX2 := Lib.hid hnx2
   have HLE := Lib.hid hle
   have H1 := Lib.hid h1
   have HFIN := Lib.hid hfin
   clear hx hrr hnx1 hnx2 hle h1 hfin
   cases q with
   | true =>
    simp at hke
    cases g with
    | true =>
     subst hke
     go_wp2_with fail
     go_quiet (fail)
     go_wp2_with fail
     go_quiet (fail)
     go_wp2_with (at_builtin; refine wpList_append_own _ rfl _ _ 26 rfl w0.heap.size 4 i0 (.bool false) 1 1 Tryz.underlying26 hi0 hz0 hz1 hz2 rfl (by decide) _ _ _ rfl ((own_new HO.out ((New.refl _).drewN _)).alloc _) ⟨wr.heap.size, 0, none⟩ 1 1 [Value.bool false] rfl rfl (one_c1 _ _ _) H1.out (by have := HLE.out; unfold maxLen; omega) (by have := HLE.out; omega) (by have := HN.out.size; rw [← size_alloc]; exact Nat.le_trans this (Nat.le_succ _)) ?_)
     intro v' w2 hown' hgrow _
     have hN1 := grown_new (HN.out.drewN _) (own_new HO.out ((New.refl _).drewN _)) hgrow
     have hO1 : w2.ownsRow w0.heap.size 4 1 v' (bools (keepL lo hi v (xs.take (k + 1)))).length (bools (keepL lo hi v (xs.take (k + 1)))) := by
      rw [HNX1.out]
      have : bools (keepL lo hi v (xs.take k) ++ [false]) = bools (keepL lo hi v (xs.take k)) ++ [.bool false] := by simp [bools]
      rw [this]
      simpa using hown'
     clear hown' hgrow
     have HN1 := Lib.hid hN1
     have HO1 := Lib.hid hO1
     clear hN1 hO1
     go_wp2_with fail
     go_roundw
     case rel => exact ⟨k + 1, false, by omega, rfl, by go_num, HNX2, HO1, HN1⟩
     case measure => simp [intOf]; omega
    | false =>
     subst hke
     go_wp2_with fail
     go_quiet (fail)
     go_wp2_with fail
     go_quiet (fail)
     go_wp2_with (at_builtin; refine wpList_append_own _ rfl _ _ 26 rfl w0.heap.size 4 i0 (.bool false) 1 1 Tryz.underlying26 hi0 hz0 hz1 hz2 rfl (by decide) _ _ _ rfl ((own_new HO.out ((New.refl _).drewN _)).alloc _) ⟨wr.heap.size, 0, none⟩ 1 1 [Value.bool false] rfl rfl (one_c1 _ _ _) H1.out (by have := HLE.out; unfold maxLen; omega) (by have := HLE.out; omega) (by have := HN.out.size; rw [← size_alloc]; exact Nat.le_trans this (Nat.le_succ _)) ?_)
     intro v' w2 hown' hgrow _
     have hN1 := grown_new (HN.out.drewN _) (own_new HO.out ((New.refl _).drewN _)) hgrow
     have hO1 : w2.ownsRow w0.heap.size 4 1 v' (bools (keepL lo hi v (xs.take (k + 1)))).length (bools (keepL lo hi v (xs.take (k + 1)))) := by
      rw [HNX1.out]
      have : bools (keepL lo hi v (xs.take k) ++ [false]) = bools (keepL lo hi v (xs.take k)) ++ [.bool false] := by simp [bools]
      rw [this]
      simpa using hown'
     clear hown' hgrow
     have HN1 := Lib.hid hN1
     have HO1 := Lib.hid hO1
     clear hN1 hO1
     go_wp2_with fail
     go_roundw
     case rel => exact ⟨k + 1, false, by omega, rfl, by go_num, HNX2, HO1, HN1⟩
     case measure => simp [intOf]; omega
   | false =>
    cases g with
    | true =>
     simp at hke
     subst hke
     go_wp2_with fail
     go_quiet (fail)
     go_wp2_with fail
     go_quiet (fail)
     go_wp2_with (at_builtin; refine wpList_append_own _ rfl _ _ 26 rfl w0.heap.size 4 i0 (.bool false) 1 1 Tryz.underlying26 hi0 hz0 hz1 hz2 rfl (by decide) _ _ _ rfl ((own_new HO.out ((New.refl _).drewN _)).alloc _) ⟨wr.heap.size, 0, none⟩ 1 1 [Value.bool true] rfl rfl (one_c1 _ _ _) H1.out (by have := HLE.out; unfold maxLen; omega) (by have := HLE.out; omega) (by have := HN.out.size; rw [← size_alloc]; exact Nat.le_trans this (Nat.le_succ _)) ?_)
     intro v' w2 hown' hgrow _
     have hN1 := grown_new (HN.out.drewN _) (own_new HO.out ((New.refl _).drewN _)) hgrow
     have hO1 : w2.ownsRow w0.heap.size 4 1 v' (bools (keepL lo hi v (xs.take (k + 1)))).length (bools (keepL lo hi v (xs.take (k + 1)))) := by
      rw [HNX1.out]
      have : bools (keepL lo hi v (xs.take k) ++ [true]) = bools (keepL lo hi v (xs.take k)) ++ [.bool true] := by simp [bools]
      rw [this]
      simpa using hown'
     clear hown' hgrow
     have HN1 := Lib.hid hN1
     have HO1 := Lib.hid hO1
     clear hN1 hO1
     go_wp2_with fail
     go_roundw
     case rel => exact ⟨k + 1, true, by omega, rfl, by go_num, HNX2, HO1, HN1⟩
     case measure => simp [intOf]; omega
    | false =>
     simp at hke
     subst hke
     go_wp2_with fail
     go_quiet (fail)
     go_wp2_with fail
     go_quiet (fail)
     go_wp2_with (at_builtin; refine wpList_append_own _ rfl _ _ 26 rfl w0.heap.size 4 i0 (.bool false) 1 1 Tryz.underlying26 hi0 hz0 hz1 hz2 rfl (by decide) _ _ _ rfl ((own_new HO.out ((New.refl _).drewN _)).alloc _) ⟨wr.heap.size, 0, none⟩ 1 1 [Value.bool y] rfl rfl (one_c1 _ _ _) H1.out (by have := HLE.out; unfold maxLen; omega) (by have := HLE.out; omega) (by have := HN.out.size; rw [← size_alloc]; exact Nat.le_trans this (Nat.le_succ _)) ?_)
     intro v' w2 hown' hgrow _
     have hN1 := grown_new (HN.out.drewN _) (own_new HO.out ((New.refl _).drewN _)) hgrow
     have hO1 : w2.ownsRow w0.heap.size 4 1 v' (bools (keepL lo hi v (xs.take (k + 1)))).length (bools (keepL lo hi v (xs.take (k + 1)))) := by
      rw [HNX1.out]
      have : bools (keepL lo hi v (xs.take k) ++ [y]) = bools (keepL lo hi v (xs.take k)) ++ [.bool y] := by simp [bools]
      rw [this]
      simpa using hown'
     clear hown' hgrow
     have HN1 := Lib.hid hN1
     have HO1 := Lib.hid hO1
     clear hN1 hO1
     go_wp2_with fail
     go_roundw
     case rel => exact ⟨k + 1, y, by omega, rfl, by go_num, HNX2, HO1, HN1⟩
     case measure => simp [intOf]; omega
  ·have hkk : k = n := by omega
   have hO := own_mono HO.out HNW.out.size
   rw [hkk, ← HLN.out, List.take_length] at hO
   have HKK := Lib.hid hkk
   have HOO := Lib.hid hO
   clear hkk hO
   go_wp2_with fail
   go_ret
   exact ⟨_, rfl, HNW.out.trans HN.out, HOO.out⟩
end Go.Proofs.YtlfnibjmkfldgaaGreatDoor
namespace Go.Proofs.YtlfnibjmkfldgaaGreatDoor
open Go.RowKit Big
def digL (xs : List Nat) (lo hi : Nat) (v : Bool) : List Bool := if digitalErr xs lo hi = 0 then keepL lo hi v xs else []
def chgL (ls : List Bool) (v : Bool) : List Int := if 4096 < ls.length then [] else chg v 0 ls
def manyE (n : Nat) : Int := if 4096 < n then 5 else 0
theorem rdl_nil (w : World) (a : Option Addr) : RdL w a [] := fun i hi => by simp at hi
theorem samples_len {xs : List Nat} (h : samplesErr xs = 0) : xs.length ≤ 4096 ∧ xs.all isFin = true := by
 unfold samplesErr at h
 split at h
 ·cases h
 ·split at h
  ·exact ⟨by omega, by assumption⟩
  ·cases h
theorem digital_len {xs : List Nat} {lo hi : Nat} (h : digitalErr xs lo hi = 0) : xs.length ≤ 4096 ∧ xs.all isFin = true ∧ isFin lo = true ∧ isFin hi = true ∧ geqF lo hi = false := by
 unfold digitalErr at h
 split at h
 ·rename_i h1
  obtain ⟨h2, h3⟩ := samples_len h1
  unfold levelsErr at h
  split at h
  ·rename_i h4
   have h5 := (samples_len h4).2
   simp at h5
   split at h
   ·cases h
   ·rename_i h6
    exact ⟨h2, h3, h5.1, h5.2, by simpa using h6⟩
  ·rename_i h4
   exact absurd h h4
 ·rename_i h1
  exact absurd h h1
theorem pdig_calls (a : Option Addr) (cap n : Nat) (xs : List Nat) (lo hi : Nat) (v : Bool) (w : World) (hn : xs.length = n) (hl : n ≤ 9223372036854775807) (hr : RdL w a (flts xs)) :
  Calls Tryz.prog 13 #[.slice a n cap, .agg #[.float .f32 lo, .float .f32 hi], .bool v] w fun e w' => ∃ (a' : Option Addr) (c' : Nat), e = .returned (.tuple #[.slice a' (digL xs lo hi v).length c', .int .i64 (digitalErr xs lo hi)]) ∧ New w w' ∧ RdL w' a' (bools (digL xs lo hi v)) := by
 subst hn
 unfold digL
 by_cases h : digitalErr xs lo hi = 0
 ·rw [if_pos h, h]
  refine (digital_ok a cap xs lo hi v w (digital_len h).1 hr h).mono fun e w' hp => ?_
  exact hp.rd _ (by simp [bools])
 ·rw [if_neg h]
  refine (digital_bad a cap xs lo hi v w hl hr h).mono fun e w' hp => ?_
  exact ⟨none, 0, hp.1, hp.2, rdl_nil _ _⟩
theorem pchg_calls (a : Option Addr) (cap n : Nat) (ls : List Bool) (v : Bool) (w : World) (hn : ls.length = n) (hl : n ≤ 1000000) (hr : RdL w a (bools ls)) :
  Calls Tryz.prog 15 #[.slice a n cap, .bool v] w fun e w' => ∃ (a' : Option Addr) (c' : Nat), e = .returned (.tuple #[.slice a' (chgL ls v).length c', .int .i64 (manyE n)]) ∧ New w w' ∧ RdL w' a' (ints (chgL ls v)) := by
 subst hn
 unfold chgL manyE
 by_cases h : 4096 < ls.length
 ·rw [if_pos h, if_pos h]
  exact (changes_many a _ cap v w hl h).mono fun e w' hp => ⟨none, 0, hp.1, hp.2, rdl_nil _ _⟩
 ·rw [if_neg h, if_neg h]
  exact (changes_ok a cap ls v w (by omega) hr).mono fun e w' hp => hp.rd _ (by simp [ints])
theorem rdig_calls (a : Option Addr) (cap n : Nat) (xs : List Nat) (lo hi : Nat) (v : Bool) (w : World) (hn : xs.length = n) (hr : RdL w a (flts xs)) (h : digitalErr xs lo hi = 0) :
  Calls Tryz.prog 19 #[.slice a n cap, .agg #[.float .f32 lo, .float .f32 hi], .bool v] w fun e w' => ∃ (a' : Option Addr) (c' : Nat), e = .returned (.slice a' (digL xs lo hi v).length c') ∧ New w w' ∧ RdL w' a' (bools (digL xs lo hi v)) := by
 obtain ⟨h1, h2, h3, h4, h5⟩ := digital_len h
 unfold digL
 rw [if_pos h]
 refine (rdigital_calls a cap n xs lo hi v w hn (by omega) hr h3 h4 h2 h5).mono fun e w' hp => ?_
 obtain ⟨u, rfl, hnw, ho⟩ := hp
 obtain ⟨a', c', rfl, hrd, -⟩ := own_rd ho
 exact ⟨a', c', by simp [bools], hnw, hrd⟩
theorem rchg_calls (a : Option Addr) (cap n : Nat) (ls : List Bool) (v : Bool) (w : World) (hn : ls.length = n) (hl : n ≤ 4096) (hr : RdL w a (bools ls)) :
  Calls Tryz.prog 20 #[.slice a n cap, .bool v] w fun e w' => ∃ (a' : Option Addr) (c' : Nat), e = .returned (.slice a' (chgL ls v).length c') ∧ New w w' ∧ RdL w' a' (ints (chgL ls v)) := by
 unfold chgL
 rw [if_neg (by omega)]
 refine (rchanges_calls a cap n ls v w hn hl hr).mono fun e w' hp => ?_
 obtain ⟨u, rfl, hnw, ho⟩ := hp
 obtain ⟨a', c', rfl, hrd, -⟩ := own_rd ho
 exact ⟨a', c', by simp [ints], hnw, hrd⟩
theorem sameb_self (a b : Option Addr) (cap cap' : Nat) (xs : List Bool) (w : World) (hl : xs.length ≤ 1000000) (hr1 : RdL w a (bools xs)) (hr2 : RdL w b (bools xs)) :
  Calls Tryz.prog 22 #[.slice a xs.length cap, .slice b xs.length cap'] w fun e w' => e = .returned (.bool true) ∧ New w w' :=
 same_bools a b cap cap' xs xs w hl rfl hr1 hr2 (by intro k h h'; simp)
theorem samei_self (a b : Option Addr) (cap cap' : Nat) (xs : List Int) (w : World) (hl : xs.length ≤ 1000000) (hr1 : RdL w a (ints xs)) (hr2 : RdL w b (ints xs)) :
  Calls Tryz.prog 23 #[.slice a xs.length cap, .slice b xs.length cap'] w fun e w' => e = .returned (.bool true) ∧ New w w' :=
 same_ints a b cap cap' xs xs w hl rfl hr1 hr2 (by intro k h h'; simp)
end Go.Proofs.YtlfnibjmkfldgaaGreatDoor
