/- Part CardReb02. -/
import Derived.Laws.AppendOwnNone
import Derived.Test.YtlfnibjmkfldgaaGreatDoorA24
import Derived.Test.YtlfnibjmkfldgaaGreatDoorA29
import Derived.Test.YtlfnibjmkfldgaaGreatDoorA32
import Derived.Test.YtlfnibjmkfldgaaGreatDoorCardReb01
namespace Go.Proofs.YtlfnibjmkfldgaaGreatDoor
open Go.RowKit Big
def fromS (ts : List Int) (b : Bool) : Nat → Nat × Bool × List Bool
 | 0 => (0, b, [])
 | i + 1 => let s := fromS ts b i
  if ts[s.1]? = some (i : Int) then (s.1 + 1, !s.2.1, s.2.2 ++ [!s.2.1]) else (s.1, s.2.1, s.2.2 ++ [s.2.1])
theorem fromS_len (ts : List Int) (b : Bool) : ∀ i, (fromS ts b i).2.2.length = i ∧ (fromS ts b i).1 ≤ i
 | 0 => ⟨rfl, Nat.le_refl _⟩
 | i + 1 => by
  obtain ⟨h1, h2⟩ := fromS_len ts b i
  unfold fromS
  simp only
  split
  ·simp [h1]; omega
  ·simp [h1]; omega
set_option maxRecDepth 100000 in
set_option maxHeartbeats 2000000 in
theorem rfrom_calls (a : Option Addr) (cap m n : Nat) (ts : List Int) (b0 : Bool) (w : World) (hm : ts.length = m) (hl : m ≤ 1000000) (hn : n ≤ 4096) (hr : RdL w a (ints ts)) :
  Calls Tryz.prog 44 #[.slice a m cap, .bool b0, .int .i64 (n : Int)] w (RowRet w 4 (bools (fromS ts b0 n).2.2)) := by
 obtain ⟨i0, hi0, hz0, hz1, hz2⟩ := info_parts info_bool
 have hmi : (m : Int) ≤ 1000000 := by omega
 have hni : (n : Int) ≤ 4096 := by omega
 have HR := Lib.hid hr
 have HMM := Lib.hid hm
 clear hr hm
 go_enter Tryz.func44, Tryz.ntmps44
 go_wp2_with fail
 go_loopw [1, 7, 8, 9] (fun bf o k i wr => ∃ (j c : Nat) (y : Bool) (ol : List Bool), j ≤ n ∧ c ≤ m ∧ bf = .bool y ∧ k = .int .i64 (c : Int) ∧ i = .int .i64 (j : Int) ∧ Hid (fromS ts b0 j = (c, y, ol)) ∧
  Hid (wr.ownsRow w.heap.size 4 1 o (bools ol).length (bools ol)) ∧ Hid (New w wr)) (fun _ _ _ i _ => n - (intOf i).toNat)
 case atStart => exact ⟨0, 0, b0, [], Nat.zero_le _, Nat.zero_le _, rfl, rfl, rfl, Lib.hid rfl, Lib.hid (World.ownsRow_nil _ _ _ _), Lib.hid (New.refl _)⟩
 case round =>
  obtain ⟨j, c, y, ol, hj, hc, rfl, rfl, rfl, HF, HO, HN⟩ := hrel
  have hle : ol.length = j := by have h := (fromS_len ts b0 j).1; rw [HF.out] at h; exact h
  have HLE := Lib.hid hle
  clear hle
  by_cases hlt : j < n
  ·have hjm : (j : Int) < 4096 := by omega
   by_cases hcm : c < m
   ·have hc' : c < ts.length := by rw [HMM.out]; exact hcm
    obtain ⟨b, off, rfl, hcell⟩ := HR.out.int c hc'
    obtain ⟨t, ht⟩ : ∃ t, ts[c] = t := ⟨_, rfl⟩
    rw [ht] at hcell
    have hcell0 := hcell
    replace hcell := HN.out.cell hcell
    by_cases htj : t = (j : Int)
    ·have hnx : fromS ts b0 (j + 1) = (c + 1, !y, ol ++ [!y]) := by
      unfold fromS
      rw [HF.out]
      simp only
      rw [if_pos (by rw [List.getElem?_eq_getElem hc', ht, htj])]
     subst htj
     have HNX := Lib.hid hnx
     have HT := Lib.hid ht
     have HC0 := Lib.hid hcell0
     clear hnx ht hcell0
     go_wp2_with (at_builtin; go_loud (refine wpList_append_own _ rfl _ _ 26 rfl w.heap.size 4 i0 (.bool false) 1 1 Tryz.underlying26 hi0 hz0 hz1 hz2 rfl (by decide) _ _ _ rfl (HO.out.alloc _) ⟨wr.heap.size, 0, none⟩ 1 1 [Value.bool (!y)] rfl rfl (one_c1 _ _ _) (by intro u hu; simp at hu; rw [hu]; rfl) (by have := HLE.out; simp only [bools, List.length_map]; unfold maxLen; omega) (by have := HLE.out; simp only [bools, List.length_map]; omega) (by have := HN.out.size; rw [← size_alloc]; omega) ?_))
     intro v' w2 hown' hgrow _
     have hN1 := grown_new HN.out HO.out hgrow
     have hO1 : w2.ownsRow w.heap.size 4 1 v' (bools (ol ++ [!y])).length (bools (ol ++ [!y])) := by
      have : bools (ol ++ [!y]) = bools ol ++ [.bool (!y)] := by simp [bools]
      rw [this]
      simpa using hown'
     clear hown' hgrow
     have HN1 := Lib.hid hN1
     have HO1 := Lib.hid hO1
     clear hN1 hO1
     go_wp2_with fail
     go_roundw
     case rel => exact ⟨j + 1, c + 1, _, _, by omega, by omega, rfl, by go_num, by go_num, HNX, HO1, HN1⟩
     case measure => simp [intOf]; omega
    ·have hnx : fromS ts b0 (j + 1) = (c, y, ol ++ [y]) := by
      unfold fromS
      rw [HF.out]
      simp only
      rw [if_neg (by rw [List.getElem?_eq_getElem hc', ht]; intro e; injection e with e; exact htj e)]
     have htb : (t == (j : Int)) = false := by simpa using htj
     clear htj
     have HNX := Lib.hid hnx
     have HT := Lib.hid ht
     have HC0 := Lib.hid hcell0
     clear hnx ht hcell0
     go_wp2_with (at_builtin; go_loud (refine wpList_append_own _ rfl _ _ 26 rfl w.heap.size 4 i0 (.bool false) 1 1 Tryz.underlying26 hi0 hz0 hz1 hz2 rfl (by decide) _ _ _ rfl (HO.out.alloc _) ⟨wr.heap.size, 0, none⟩ 1 1 [Value.bool (y)] rfl rfl (one_c1 _ _ _) (by intro u hu; simp at hu; rw [hu]; rfl) (by have := HLE.out; simp only [bools, List.length_map]; unfold maxLen; omega) (by have := HLE.out; simp only [bools, List.length_map]; omega) (by have := HN.out.size; rw [← size_alloc]; omega) ?_))
     intro v' w2 hown' hgrow _
     have hN1 := grown_new HN.out HO.out hgrow
     have hO1 : w2.ownsRow w.heap.size 4 1 v' (bools (ol ++ [y])).length (bools (ol ++ [y])) := by
      have : bools (ol ++ [y]) = bools ol ++ [.bool (y)] := by simp [bools]
      rw [this]
      simpa using hown'
     clear hown' hgrow
     have HN1 := Lib.hid hN1
     have HO1 := Lib.hid hO1
     clear hN1 hO1
     go_wp2_with fail
     go_roundw
     case rel => exact ⟨j + 1, c, _, _, by omega, hc, rfl, rfl, by go_num, HNX, HO1, HN1⟩
     case measure => simp [intOf]; omega
   ·have hnx : fromS ts b0 (j + 1) = (c, y, ol ++ [y]) := by
     unfold fromS
     rw [HF.out]
     simp only
     rw [if_neg (by rw [List.getElem?_eq_none (by rw [HMM.out]; omega)]; intro e; cases e)]
    have HNX := Lib.hid hnx
    clear hnx
    go_wp2_with (at_builtin; go_loud (refine wpList_append_own _ rfl _ _ 26 rfl w.heap.size 4 i0 (.bool false) 1 1 Tryz.underlying26 hi0 hz0 hz1 hz2 rfl (by decide) _ _ _ rfl (HO.out.alloc _) ⟨wr.heap.size, 0, none⟩ 1 1 [Value.bool (y)] rfl rfl (one_c1 _ _ _) (by intro u hu; simp at hu; rw [hu]; rfl) (by have := HLE.out; simp only [bools, List.length_map]; unfold maxLen; omega) (by have := HLE.out; simp only [bools, List.length_map]; omega) (by have := HN.out.size; rw [← size_alloc]; omega) ?_))
    intro v' w2 hown' hgrow _
    have hN1 := grown_new HN.out HO.out hgrow
    have hO1 : w2.ownsRow w.heap.size 4 1 v' (bools (ol ++ [y])).length (bools (ol ++ [y])) := by
     have : bools (ol ++ [y]) = bools ol ++ [.bool (y)] := by simp [bools]
     rw [this]
     simpa using hown'
    clear hown' hgrow
    have HN1 := Lib.hid hN1
    have HO1 := Lib.hid hO1
    clear hN1 hO1
    go_wp2_with fail
    go_roundw
    case rel => exact ⟨j + 1, c, _, _, by omega, hc, rfl, rfl, by go_num, HNX, HO1, HN1⟩
    case measure => simp [intOf]; omega
  ·have hjn : j = n := by omega
   have hO : wr.ownsRow w.heap.size 4 1 u7 (bools (fromS ts b0 n).2.2).length (bools (fromS ts b0 n).2.2) := by
    have h1 := HO.out
    rw [← hjn, HF.out]
    exact h1
   have HJN := Lib.hid hjn
   have HOO := Lib.hid hO
   clear hjn hO
   go_wp2_with fail
   go_ret
   exact ⟨_, rfl, HN.out, HOO.out⟩
end Go.Proofs.YtlfnibjmkfldgaaGreatDoor
