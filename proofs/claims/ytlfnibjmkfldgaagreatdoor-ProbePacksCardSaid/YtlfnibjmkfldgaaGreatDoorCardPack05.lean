/- Part CardPack05. -/
import Derived.Deep.DeepCutAuto
import Derived.Laws.AppendOwnNone
import Derived.Maps.AppendAt
import Derived.Test.YtlfnibjmkfldgaaGreatDoorA13
import Derived.Test.YtlfnibjmkfldgaaGreatDoorA20
import Derived.Test.YtlfnibjmkfldgaaGreatDoorA23
import Derived.Test.YtlfnibjmkfldgaaGreatDoorA25
import Derived.Test.YtlfnibjmkfldgaaGreatDoorA27
import Derived.Test.YtlfnibjmkfldgaaGreatDoorA28
import Derived.Test.YtlfnibjmkfldgaaGreatDoorA29
import Derived.Test.YtlfnibjmkfldgaaGreatDoorCardPack01
import Derived.Test.YtlfnibjmkfldgaaGreatDoorCardPack02
import Derived.Test.YtlfnibjmkfldgaaGreatDoorCardPack03
import Derived.Test.YtlfnibjmkfldgaaGreatDoorCardPack04
namespace Go.Proofs.YtlfnibjmkfldgaaGreatDoor
open Go.RowKit Big
def wordsL (ls : List (List Bool)) : List Nat := if linesErr ls = 0 then wordsOf ls (ls.headD []).length else []
def lineL (xs : List Nat) (line : Int) : List Bool := if lineErr xs.length line = 0 then xs.map (fun x => bitOf x line.toNat) else []
theorem lines_ok {ls : List (List Bool)} (h : linesErr ls = 0) : 1 ≤ ls.length ∧ ls.length ≤ 16 ∧ (ls.headD []).length ≤ 4096 ∧ ∀ x ∈ ls, x.length = (ls.headD []).length := by
 cases ls with
 | nil => exact absurd h (by decide)
 | cons l0 r =>
  rw [linesErr_cons (by simp)] at h
  have hd : ((l0 :: r).headD []) = l0 := rfl
  rw [hd]
  simp only [List.getElem_cons_zero] at h
  by_cases c1 : 16 < (l0 :: r).length ∨ 4096 < l0.length
  ·rw [if_pos c1] at h; omega
  ·rw [if_neg c1] at h
   by_cases c2 : ((l0 :: r).all fun l => l.length == l0.length) = true
   ·refine ⟨by simp, by omega, by omega, fun x hx => ?_⟩
    have := List.all_eq_true.1 c2 x hx
    simpa using this
   ·rw [if_neg c2] at h; omega
theorem pwords_all (a : Option Addr) (cap N : Nat) (rv : List Value) (ls : List (List Bool)) (w : World) (hr : RdLL w a rv (ls.map bools)) (hN : ls.length = N) (hl : N ≤ 1000000) (ha : 0 < N → ∃ L, a = some ⟨L, 0, none⟩) :
  Calls Tryz.prog 28 #[.slice a N cap] w fun e w' => ∃ (a' : Option Addr) (c' : Nat), e = .returned (.tuple #[.slice a' (wordsL ls).length c', .int .i64 (linesErr ls)]) ∧ New w w' ∧ RdL w' a' (words (wordsL ls)) := by
 unfold wordsL
 by_cases h : linesErr ls = 0
 ·rw [if_pos h, h]
  obtain ⟨h1, h2, h3, h4⟩ := lines_ok h
  obtain ⟨L, rfl⟩ := ha (by omega)
  have := Words_ok L cap (ls.headD []).length rv ls w hr h1 h2 h4 h3
  rw [hN] at this
  refine this.mono fun e w' hp => ?_
  exact hp.rd _ (by simp [words])
 ·rw [if_neg h]
  refine (words_bad a cap N rv ls w hr hN hl ha h).mono fun e w' hp => ?_
  exact ⟨none, 0, hp.1, hp.2, rdl_nil _ _⟩
theorem line_in {m : Nat} {line : Int} (h : lineErr m line = 0) : m ≤ 4096 ∧ 0 ≤ line ∧ line ≤ 15 := by
 unfold lineErr at h
 split at h
 ·cases h
 ·rename_i h1
  split at h
  ·cases h
  ·rename_i h2
   simp only [outside, Bool.not_eq_true, Bool.or_eq_false_iff, decide_eq_false_iff_not] at h2
   omega
theorem pline_all (a : Option Addr) (cap m : Nat) (xs : List Nat) (line : Int) (w : World) (hm : xs.length = m) (hl : m ≤ 1000000) (hx : ∀ x ∈ xs, x < 65536) (hr : RdL w a (words xs)) :
  Calls Tryz.prog 30 #[.slice a m cap, .int .i64 line] w fun e w' => ∃ (a' : Option Addr) (c' : Nat), e = .returned (.tuple #[.slice a' (lineL xs line).length c', .int .i64 (lineErr m line)]) ∧ New w w' ∧ RdL w' a' (bools (lineL xs line)) := by
 subst hm
 unfold lineL
 by_cases h : lineErr xs.length line = 0
 ·rw [if_pos h, h]
  obtain ⟨h1, h2, h3⟩ := line_in h
  obtain ⟨n, rfl⟩ : ∃ n : Nat, line = n := ⟨line.toNat, by omega⟩
  refine (line_ok a cap xs n w h1 hx (by omega) hr).mono fun e w' hp => ?_
  exact hp.rd _ (by simp [bools])
 ·rw [if_neg h]
  have := line_bad a cap (words xs) line w (by rw [words_len]; exact hl) (by rw [words_len]; exact h)
  rw [words_len] at this
  refine this.mono fun e w' hp => ?_
  exact ⟨none, 0, hp.1, hp.2, rdl_nil _ _⟩
end Go.Proofs.YtlfnibjmkfldgaaGreatDoor
namespace Go.Proofs.YtlfnibjmkfldgaaGreatDoor
open Go.RowKit Big
theorem bitOf_test (x n : Nat) : bitOf x n = x.testBit n := by
 unfold bitOf
 rw [Nat.testBit_eq_decide_div_mod_eq, Bool.eq_iff_iff]
 simp
theorem bit_add {s k i : Nat} (hs : s < 2 ^ k) : bitOf (s + 2 ^ k) i = if i = k then true else bitOf s i := by
 simp only [bitOf_test]
 rw [Nat.add_comm]
 rcases Nat.lt_trichotomy i k with h | h | h
 ·rw [Nat.testBit_two_pow_add_gt h, if_neg (by omega)]
 ·subst h
  rw [Nat.testBit_two_pow_add_eq, Nat.testBit_lt_two_pow hs]; simp
 ·rw [if_neg (by omega), Nat.testBit_lt_two_pow, Nat.testBit_lt_two_pow]
  ·exact Nat.lt_of_lt_of_le hs (Nat.pow_le_pow_right (by omega) (by omega))
  ·have : 2 ^ k + s < 2 ^ (k + 1) := by rw [Nat.pow_succ]; omega
   exact Nat.lt_of_lt_of_le this (Nat.pow_le_pow_right (by omega) (by omega))
theorem bit_word (ls : List (List Bool)) (t i : Nat) : ∀ k, k ≤ ls.length → bitOf (wordAt (ls.take k) t) i = if i < k then (ls.getD i []).getD t false else false := by
 intro k
 induction k with
 | zero => intro _; show bitOf 0 i = _; rw [if_neg (by omega), bitOf_test, Nat.zero_testBit]
 | succ k ih =>
  intro hk
  have ih := ih (by omega)
  have hlt := wordAt_lt t (ls.take k)
  rw [List.length_take, Nat.min_eq_left (by omega)] at hlt
  rw [wordAt_next ls t k (by omega) _ rfl]
  have hg : ls.getD k [] = ls[k] := by simp [List.getD_eq_getElem?_getD, List.getElem?_eq_getElem (show k < ls.length by omega)]
  obtain ⟨v, hv⟩ : ∃ v, ls[k].getD t false = v := ⟨_, rfl⟩
  rcases Nat.lt_trichotomy i k with h | h | h
  ·rw [if_pos (show i < k + 1 by omega)]
   rw [if_pos h] at ih
   rw [hv]
   cases v with
   | true => rw [if_pos rfl, bit_add hlt, if_neg (by omega)]; exact ih
   | false => rw [if_neg (by decide)]; exact ih
  ·subst h
   rw [if_neg (by omega)] at ih
   rw [if_pos (show i < i + 1 by omega), hg, hv]
   cases v with
   | true => rw [if_pos rfl, bit_add hlt, if_pos rfl]
   | false => rw [if_neg (by decide)]; exact ih
  ·rw [if_neg (show ¬ i < k + 1 by omega), hv]
   rw [if_neg (by omega)] at ih
   cases v with
   | true => rw [if_pos rfl, bit_add hlt, if_neg (by omega)]; exact ih
   | false => rw [if_neg (by decide)]; exact ih
theorem pack_lines {ls : List (List Bool)} {m : Nat} (h16 : ls.length ≤ 16) (hm : ∀ x ∈ ls, x.length = m) (hm4 : m ≤ 4096) :
  (∀ (i : Nat) (h : i < ls.length), lineL (wordsOf ls m) (i : Int) = ls[i]) ∧ (∀ i : Nat, ls.length ≤ i → ∀ x ∈ lineL (wordsOf ls m) (i : Int), x = false) ∧
  (∀ i : Nat, i ≤ 15 → lineErr m (i : Int) = 0 ∧ (lineL (wordsOf ls m) (i : Int)).length = m) ∧ (∀ x ∈ wordsOf ls m, x < 65536) := by
 have hwl : (wordsOf ls m).length = m := by simp [wordsOf]
 have hle : ∀ i : Nat, i ≤ 15 → lineErr m (i : Int) = 0 := fun i hi => by
  unfold lineErr
  rw [if_neg (by omega), if_neg (by simp only [outside, Bool.not_eq_true, Bool.or_eq_false_iff, decide_eq_false_iff_not]; omega)]
 have hlL : ∀ i : Nat, i ≤ 15 → lineL (wordsOf ls m) (i : Int) = (List.range m).map fun t => if i < ls.length then (ls.getD i []).getD t false else false := fun i hi => by
  unfold lineL
  rw [hwl, if_pos (hle i hi)]
  unfold wordsOf
  rw [List.map_map]
  refine List.map_congr_left fun t _ => ?_
  have := bit_word ls t i ls.length (Nat.le_refl _)
  rw [List.take_length] at this
  simpa using this
 refine ⟨fun i h => ?_, fun i h x hx => ?_, fun i hi => ⟨hle i hi, ?_⟩, fun x hx => ?_⟩
 ·rw [hlL i (by omega)]
  have hil : ls[i].length = m := hm _ (List.getElem_mem h)
  apply List.ext_getElem
  ·simp [hil]
  ·intro t h1 h2
   simp [h, List.getD_eq_getElem?_getD, List.getElem?_eq_getElem h2]
 ·by_cases hi : i ≤ 15
  ·rw [hlL i hi] at hx
   simp only [List.mem_map, if_neg (show ¬ i < ls.length by omega)] at hx
   obtain ⟨_, _, rfl⟩ := hx
   rfl
  ·unfold lineL at hx
   rw [hwl, if_neg (by unfold lineErr; rw [if_neg (by omega), if_pos (by simp only [outside, Bool.or_eq_true, decide_eq_true_eq]; omega)]; decide)] at hx
   simp at hx
 ·rw [hlL i hi]; simp
 ·simp only [wordsOf, List.mem_map] at hx
  obtain ⟨t, _, rfl⟩ := hx
  have := wordAt_lt t ls
  exact Nat.lt_of_lt_of_le this (Nat.pow_le_pow_right (by omega) h16)
theorem pack_blocks {xs : List Nat} {m : Nat} (hm : xs.length = m) (hm4 : m ≤ 4096) : blocksN xs = nBlocks m ∧ blocksL xs = padW xs (16 * nBlocks m) ∧ unpackE (nBlocks m) (m : Int) (padW xs (16 * nBlocks m)) = 0 ∧ unpackL (nBlocks m) (m : Int) (padW xs (16 * nBlocks m)) = xs ∧ (padW xs (16 * nBlocks m)).length = 16 * nBlocks m := by
 have hf : fewErr xs.length = 0 := by unfold fewErr; rw [if_neg (by omega)]
 have hb : m ≤ 16 * nBlocks m ∧ nBlocks m ≤ 256 := by unfold nBlocks; omega
 have hpl : (padW xs (16 * nBlocks m)).length = 16 * nBlocks m := by simp [padW]
 have hue : unpackErr (nBlocks m) (m : Int) = 0 := by
  unfold unpackErr
  rw [if_neg (by omega), if_neg (by simp only [outside, Bool.not_eq_true, Bool.or_eq_false_iff, decide_eq_false_iff_not]; omega), if_pos (by simp)]
 have hdrop : ((padW xs (16 * nBlocks m)).drop m).all (fun x => x == 0) = true := by
  rw [List.all_eq_true]
  intro x hx
  obtain ⟨j, hj, rfl⟩ := List.getElem_of_mem hx
  simp [padW, List.getD_eq_getElem?_getD, List.getElem?_eq_none (show xs.length ≤ m + j by omega)]
 have hE : unpackE (nBlocks m) (m : Int) (padW xs (16 * nBlocks m)) = 0 := by
  unfold unpackE
  rw [if_pos hue, Int.toNat_natCast, hdrop]; rfl
 refine ⟨by unfold blocksN; rw [if_pos hf, hm], by unfold blocksL; rw [if_pos hf, hm], hE, ?_, hpl⟩
 unfold unpackL
 rw [if_pos hE, Int.toNat_natCast]
 apply List.ext_getElem
 ·rw [List.length_take, hpl]; omega
 ·intro j h1 h2
  simp [padW, List.getD_eq_getElem?_getD, List.getElem?_eq_getElem h2]
theorem run_index16 (W : World) (f : Nat → Nat) (k : Nat) (hk : k < 16) : (Instr.index 71 (.agg #[.int .u16 (f 0 : Nat), .int .u16 (f 1 : Nat), .int .u16 (f 2 : Nat), .int .u16 (f 3 : Nat), .int .u16 (f 4 : Nat), .int .u16 (f 5 : Nat), .int .u16 (f 6 : Nat), .int .u16 (f 7 : Nat), .int .u16 (f 8 : Nat), .int .u16 (f 9 : Nat), .int .u16 (f 10 : Nat), .int .u16 (f 11 : Nat), .int .u16 (f 12 : Nat), .int .u16 (f 13 : Nat), .int .u16 (f 14 : Nat), .int .u16 (f 15 : Nat)]) (.int .i64 (k : Int))).run Tryz.prog W = .ok (.int .u16 (f k : Nat)) W := by
 have h := run_underlying Tryz.underlying71 W
 match k, hk with
 | 0, _ => simp [Instr.index, h, asIntOf, go_sem]
 | 1, _ => simp [Instr.index, h, asIntOf, go_sem]
 | 2, _ => simp [Instr.index, h, asIntOf, go_sem]
 | 3, _ => simp [Instr.index, h, asIntOf, go_sem]
 | 4, _ => simp [Instr.index, h, asIntOf, go_sem]
 | 5, _ => simp [Instr.index, h, asIntOf, go_sem]
 | 6, _ => simp [Instr.index, h, asIntOf, go_sem]
 | 7, _ => simp [Instr.index, h, asIntOf, go_sem]
 | 8, _ => simp [Instr.index, h, asIntOf, go_sem]
 | 9, _ => simp [Instr.index, h, asIntOf, go_sem]
 | 10, _ => simp [Instr.index, h, asIntOf, go_sem]
 | 11, _ => simp [Instr.index, h, asIntOf, go_sem]
 | 12, _ => simp [Instr.index, h, asIntOf, go_sem]
 | 13, _ => simp [Instr.index, h, asIntOf, go_sem]
 | 14, _ => simp [Instr.index, h, asIntOf, go_sem]
 | 15, _ => simp [Instr.index, h, asIntOf, go_sem]
 | n + 16, h => exact absurd h (by omega)
end Go.Proofs.YtlfnibjmkfldgaaGreatDoor
namespace Go.Proofs.YtlfnibjmkfldgaaGreatDoor
open Go.RowKit Big
def Blk (w : World) (B : Nat) (f : Nat → Nat) : Prop := Box w B 71 #[.int .u16 (f 0 : Nat), .int .u16 (f 1 : Nat), .int .u16 (f 2 : Nat), .int .u16 (f 3 : Nat), .int .u16 (f 4 : Nat), .int .u16 (f 5 : Nat), .int .u16 (f 6 : Nat), .int .u16 (f 7 : Nat), .int .u16 (f 8 : Nat), .int .u16 (f 9 : Nat), .int .u16 (f 10 : Nat), .int .u16 (f 11 : Nat), .int .u16 (f 12 : Nat), .int .u16 (f 13 : Nat), .int .u16 (f 14 : Nat), .int .u16 (f 15 : Nat)]
theorem Blk.new {w w' : World} {B : Nat} {f : Nat → Nat} (h : Blk w B f) (hn : New w w') : Blk w' B f := Box.new h hn
theorem Blk.at {w : World} {B : Nat} {f : Nat → Nat} (h : Blk w B f) (j : Nat) (hj : j < 16) : w.cell? ⟨B, j, none⟩ = some (.int .u16 (f j : Nat)) := by
 rw [Box.cell h]
 match j, hj with
 | 0, _ => rfl
 | 1, _ => rfl
 | 2, _ => rfl
 | 3, _ => rfl
 | 4, _ => rfl
 | 5, _ => rfl
 | 6, _ => rfl
 | 7, _ => rfl
 | 8, _ => rfl
 | 9, _ => rfl
 | 10, _ => rfl
 | 11, _ => rfl
 | 12, _ => rfl
 | 13, _ => rfl
 | 14, _ => rfl
 | 15, _ => rfl
 | n + 16, h => exact absurd h (by omega)
end Go.Proofs.YtlfnibjmkfldgaaGreatDoor
