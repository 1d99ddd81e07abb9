/- Part CardBlk05. -/
import Derived.Laws.AppendOwnNone
import Derived.Maps.AppendAt
import Derived.Deep.DeepCutAuto
import Derived.Test.YtlfnibjmkfldgaaGreatDoorA13
import Derived.Test.YtlfnibjmkfldgaaGreatDoorA20
import Derived.Test.YtlfnibjmkfldgaaGreatDoorA23
import Derived.Test.YtlfnibjmkfldgaaGreatDoorA25
import Derived.Test.YtlfnibjmkfldgaaGreatDoorA27
import Derived.Test.YtlfnibjmkfldgaaGreatDoorA28
import Derived.Test.YtlfnibjmkfldgaaGreatDoorA29
import Derived.Test.YtlfnibjmkfldgaaGreatDoorCardBlk01
import Derived.Test.YtlfnibjmkfldgaaGreatDoorCardBlk02
import Derived.Test.YtlfnibjmkfldgaaGreatDoorCardBlk03
import Derived.Test.YtlfnibjmkfldgaaGreatDoorCardBlk04
namespace Go.Proofs.YtlfnibjmkfldgaaGreatDoor
def AwakeOk : Prop := ∀ w, Env w → Calls Tryz.prog 12 #[] w fun e w' => e = .returned (.bool true) ∧ New w w'
end Go.Proofs.YtlfnibjmkfldgaaGreatDoor
namespace Go.Proofs.YtlfnibjmkfldgaaGreatDoor
open Go.RowKit Big
theorem rdl_nil (w : World) (a : Option Addr) : RdL w a [] := fun i hi => by simp at hi
theorem samew_self (a b : Option Addr) (cap cap' : Nat) (xs : List Nat) (w : World) (hl : xs.length ≤ 1000000) (hr1 : RdL w a (words xs)) (hr2 : RdL w b (words xs)) :
  Calls Tryz.prog 35 #[.slice a xs.length cap, .slice b xs.length cap'] w fun e w' => e = .returned (.bool true) ∧ New w w' :=
 same_words a b cap cap' xs xs w hl rfl hr1 hr2 (by intro k h h'; simp)
end Go.Proofs.YtlfnibjmkfldgaaGreatDoor
namespace Go.Proofs.YtlfnibjmkfldgaaGreatDoor
open Go.RowKit Big
def blocksN (xs : List Nat) : Nat := if fewErr xs.length = 0 then nBlocks xs.length else 0
def blocksL (xs : List Nat) : List Nat := if fewErr xs.length = 0 then padW xs (16 * nBlocks xs.length) else []
def unpackE (N : Nat) (n : Int) (xs : List Nat) : Int := if unpackErr N n = 0 then (if (xs.drop n.toNat).all (fun x => x == 0) then 0 else 1) else unpackErr N n
def unpackL (N : Nat) (n : Int) (xs : List Nat) : List Nat := if unpackE N n xs = 0 then xs.take n.toNat else []
theorem pblocks_all (a : Option Addr) (cap m : Nat) (xs : List Nat) (w : World) (hm : xs.length = m) (hl : m ≤ 1000000) (hr : RdL w a (words xs)) :
  Calls Tryz.prog 37 #[.slice a m cap] w fun e w' => ∃ (a' : Option Addr) (c' : Nat), e = .returned (.tuple #[.slice a' (blocksN xs) c', .int .i64 (fewErr m)]) ∧ New w w' ∧ RdL w' a' (words (blocksL xs)) := by
 unfold blocksN blocksL
 subst hm
 by_cases h : fewErr xs.length = 0
 ·rw [if_pos h, if_pos h, h]
  have h4 : xs.length ≤ 4096 := by unfold fewErr at h; split at h <;> omega
  refine (Blocks_ok a cap xs w h4 hr).mono fun e w' hp => ?_
  exact hp.rd
 ·rw [if_neg h, if_neg h]
  refine (blocks_bad a xs.length cap w (by omega) h).mono fun e w' hp => ?_
  exact ⟨none, 0, hp.1, hp.2, rdl_nil _ _⟩
theorem unpackErr_ok {N : Nat} {n : Int} (h : unpackErr N n = 0) : N ≤ 256 ∧ ∃ k : Nat, n = (k : Int) ∧ k ≤ 4096 ∧ nBlocks k = N := by
 unfold unpackErr at h
 split at h
 ·cases h
 ·split at h
  ·cases h
  ·rename_i h1 h2
   simp only [outside, Bool.or_eq_true, decide_eq_true_eq] at h2
   split at h
   ·rename_i h3
    exact ⟨by omega, n.toNat, by omega, by omega, h3.symm⟩
   ·cases h
theorem unpack_form {P Q : Prop} {l : List Nat} (h1 : (∀ x ∈ l, x = 0) → P) (h2 : (∃ x ∈ l, x ≠ 0) → Q) : (l.all (fun x => x == 0) = true ∧ P) ∨ (l.all (fun x => x == 0) = false ∧ Q) := by
 cases h : l.all (fun x => x == 0) with
 | true => exact .inl ⟨rfl, h1 (by simpa using h)⟩
 | false => exact .inr ⟨rfl, h2 (by simpa using h)⟩
theorem unpack_all (a : Option Addr) (cap N : Nat) (n : Int) (xs : List Nat) (w : World) (hx : xs.length = 16 * N) (hl : N ≤ 1000000) (hr : RdL w a (words xs)) :
  Calls Tryz.prog 38 #[.slice a N cap, .int .i64 n] w fun e w' => ∃ (a' : Option Addr) (c' : Nat), e = .returned (.tuple #[.slice a' (unpackL N n xs).length c', .int .i64 (unpackE N n xs)]) ∧ New w w' ∧ RdL w' a' (words (unpackL N n xs)) := by
 by_cases h : unpackErr N n = 0
 ·obtain ⟨hN, k, rfl, hk, hb⟩ := unpackErr_ok h
  have hkx : k ≤ xs.length := by rw [hx]; unfold nBlocks at hb; omega
  refine (unpack_main a cap N k xs w hr hx hN hk hb).mono fun e w' hp => ?_
  obtain ⟨hn, hp1, hp2⟩ := hp
  rcases unpack_form hp1 hp2 with ⟨hz, a', c', he, hrd, hc⟩ | ⟨hz, he⟩
  ·have hE : unpackE N (k : Int) xs = 0 := by unfold unpackE; rw [if_pos h, Int.toNat_natCast, hz]; rfl
   have hL : unpackL N (k : Int) xs = xs.take k := by unfold unpackL; rw [if_pos hE, Int.toNat_natCast]
   rw [hE, hL]
   exact ⟨a', c', by rw [he, List.length_take, Nat.min_eq_left hkx], hn, hrd⟩
  ·have hE : unpackE N (k : Int) xs = 1 := by unfold unpackE; rw [if_pos h, Int.toNat_natCast, hz]; rfl
   have hL : unpackL N (k : Int) xs = [] := by unfold unpackL; rw [if_neg (by rw [hE]; decide)]
   rw [hE, hL]
   exact ⟨none, 0, he, hn, rdl_nil _ _⟩
 ·have hE : unpackE N n xs = unpackErr N n := by unfold unpackE; rw [if_neg h]
  have hL : unpackL N n xs = [] := by unfold unpackL; rw [if_neg (by rw [hE]; exact h)]
  rw [hE, hL]
  refine (unpack_bad a cap N n w hl h).mono fun e w' hp => ?_
  exact ⟨none, 0, hp.1, hp.2, rdl_nil _ _⟩
theorem runpack_all (a : Option Addr) (cap N : Nat) (n : Int) (xs : List Nat) (w : World) (hx : xs.length = 16 * N) (hl : N ≤ 1000000) (hr : RdL w a (words xs)) :
  Calls Tryz.prog 40 #[.slice a N cap, .int .i64 n] w fun e w' => ∃ (a' : Option Addr) (c' : Nat), e = .returned (.tuple #[.slice a' (unpackL N n xs).length c', .int .i64 (unpackE N n xs)]) ∧ New w w' ∧ RdL w' a' (words (unpackL N n xs)) := by
 by_cases h : unpackErr N n = 0
 ·obtain ⟨hN, k, rfl, hk, hb⟩ := unpackErr_ok h
  have hkx : k ≤ xs.length := by rw [hx]; unfold nBlocks at hb; omega
  refine (runpack_main a cap N k xs w hr hx hN hk hb).mono fun e w' hp => ?_
  obtain ⟨hn, hp1, hp2⟩ := hp
  rcases unpack_form hp1 hp2 with ⟨hz, a', c', he, hrd, hc⟩ | ⟨hz, he⟩
  ·have hE : unpackE N (k : Int) xs = 0 := by unfold unpackE; rw [if_pos h, Int.toNat_natCast, hz]; rfl
   have hL : unpackL N (k : Int) xs = xs.take k := by unfold unpackL; rw [if_pos hE, Int.toNat_natCast]
   rw [hE, hL]
   exact ⟨a', c', by rw [he, List.length_take, Nat.min_eq_left hkx], hn, hrd⟩
  ·have hE : unpackE N (k : Int) xs = 1 := by unfold unpackE; rw [if_pos h, Int.toNat_natCast, hz]; rfl
   have hL : unpackL N (k : Int) xs = [] := by unfold unpackL; rw [if_neg (by rw [hE]; decide)]
   rw [hE, hL]
   exact ⟨none, 0, he, hn, rdl_nil _ _⟩
 ·have hE : unpackE N n xs = unpackErr N n := by unfold unpackE; rw [if_neg h]
  have hL : unpackL N n xs = [] := by unfold unpackL; rw [if_neg (by rw [hE]; exact h)]
  rw [hE, hL]
  refine (runpack_bad a cap N n w hl h).mono fun e w' hp => ?_
  exact ⟨none, 0, hp.1, hp.2, rdl_nil _ _⟩
theorem eql16 (W : World) (f : Nat → Nat) : (binOp .eql 71 (.agg #[.int .u16 (f 0 : Nat), .int .u16 (f 1 : Nat), .int .u16 (f 2 : Nat), .int .u16 (f 3 : Nat), .int .u16 (f 4 : Nat), .int .u16 (f 5 : Nat), .int .u16 (f 6 : Nat), .int .u16 (f 7 : Nat), .int .u16 (f 8 : Nat), .int .u16 (f 9 : Nat), .int .u16 (f 10 : Nat), .int .u16 (f 11 : Nat), .int .u16 (f 12 : Nat), .int .u16 (f 13 : Nat), .int .u16 (f 14 : Nat), .int .u16 (f 15 : Nat)]) (.agg #[.int .u16 (f 0 : Nat), .int .u16 (f 1 : Nat), .int .u16 (f 2 : Nat), .int .u16 (f 3 : Nat), .int .u16 (f 4 : Nat), .int .u16 (f 5 : Nat), .int .u16 (f 6 : Nat), .int .u16 (f 7 : Nat), .int .u16 (f 8 : Nat), .int .u16 (f 9 : Nat), .int .u16 (f 10 : Nat), .int .u16 (f 11 : Nat), .int .u16 (f 12 : Nat), .int .u16 (f 13 : Nat), .int .u16 (f 14 : Nat), .int .u16 (f 15 : Nat)])).run Tryz.prog W = .ok (.bool true) W := by
 obtain ⟨ii, hi, _⟩ := info_parts info_u16
 have h := run_equal_ints (P := Tryz.prog) W 9998 (q := .u16) ((List.range 16).map fun j => ((f j : Nat) : Int)) ((List.range 16).map fun j => ((f j : Nat) : Int)) Tryz.underlying71 hi Tryz.underlying70 (by kernel_rfl) (by kernel_rfl) (by simp) (by simp)
 have e1 : (Value.agg (((List.range 16).map fun j => ((f j : Nat) : Int)).map (Value.int .u16)).toArray) = .agg #[.int .u16 (f 0 : Nat), .int .u16 (f 1 : Nat), .int .u16 (f 2 : Nat), .int .u16 (f 3 : Nat), .int .u16 (f 4 : Nat), .int .u16 (f 5 : Nat), .int .u16 (f 6 : Nat), .int .u16 (f 7 : Nat), .int .u16 (f 8 : Nat), .int .u16 (f 9 : Nat), .int .u16 (f 10 : Nat), .int .u16 (f 11 : Nat), .int .u16 (f 12 : Nat), .int .u16 (f 13 : Nat), .int .u16 (f 14 : Nat), .int .u16 (f 15 : Nat)] := rfl
 rw [e1] at h
 rw [run_eql_struct, h]
 simp
def blockF (xs : List Nat) : Nat → Nat := fun j => if xs.length = 16 then xs.getD j 0 else 0
theorem pblock_all (a : Option Addr) (cap m : Nat) (xs : List Nat) (w : World) (hm : xs.length = m) (hl : m ≤ 1000000) (hr : RdL w a (words xs)) :
  Calls Tryz.prog 36 #[.slice a m cap] w fun e w' => e = .returned (.tuple #[.agg #[.int .u16 (blockF xs 0 : Nat), .int .u16 (blockF xs 1 : Nat), .int .u16 (blockF xs 2 : Nat), .int .u16 (blockF xs 3 : Nat), .int .u16 (blockF xs 4 : Nat), .int .u16 (blockF xs 5 : Nat), .int .u16 (blockF xs 6 : Nat), .int .u16 (blockF xs 7 : Nat), .int .u16 (blockF xs 8 : Nat), .int .u16 (blockF xs 9 : Nat), .int .u16 (blockF xs 10 : Nat), .int .u16 (blockF xs 11 : Nat), .int .u16 (blockF xs 12 : Nat), .int .u16 (blockF xs 13 : Nat), .int .u16 (blockF xs 14 : Nat), .int .u16 (blockF xs 15 : Nat)], .int .i64 (blockErr m)]) ∧ New w w' := by
 subst hm
 by_cases h : xs.length = 16
 ·have hF : ∀ j, blockF xs j = xs.getD j 0 := fun j => by unfold blockF; rw [if_pos h]
  simp only [hF]
  obtain ⟨b, off, rfl, -⟩ := hr.w16 0 (by omega)
  rw [h]
  refine (block_ok b off cap (fun j => xs.getD j 0) w fun i hi => ?_).mono fun e w' hp => ?_
  ·obtain ⟨b2, off2, e2, hc⟩ := hr.w16 i (by omega)
   injection e2 with e2
   injection e2 with e2 e3
   subst e2 e3
   rw [hc]
   simp [List.getD_eq_getElem?_getD, List.getElem?_eq_getElem (show i < xs.length by omega)]
  ·exact hp
 ·have hF : ∀ j, blockF xs j = 0 := fun j => by unfold blockF; rw [if_neg h]
  simp only [hF]
  have h0 : blockErr xs.length ≠ 0 := by unfold blockErr; split <;> simp_all
  exact (block_bad a xs.length cap w (by omega) h0).mono fun e w' hp => hp
end Go.Proofs.YtlfnibjmkfldgaaGreatDoor
namespace Go.Proofs.YtlfnibjmkfldgaaGreatDoor
open Go.RowKit Big
theorem words_cell (xs : List Nat) : ∀ u ∈ words xs, u.oneCell' = true := by intro u hu; simp [words] at hu; obtain ⟨x, -, rfl⟩ := hu; rfl
end Go.Proofs.YtlfnibjmkfldgaaGreatDoor
