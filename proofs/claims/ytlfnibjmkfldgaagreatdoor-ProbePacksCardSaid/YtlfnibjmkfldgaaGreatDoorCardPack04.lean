/- Part CardPack04. -/
import Derived.Maps.AppendAt
import Derived.Laws.AppendOwnNone
import Derived.Test.YtlfnibjmkfldgaaGreatDoorA13
import Derived.Test.YtlfnibjmkfldgaaGreatDoorA20
import Derived.Test.YtlfnibjmkfldgaaGreatDoorA23
import Derived.Test.YtlfnibjmkfldgaaGreatDoorA25
import Derived.Test.YtlfnibjmkfldgaaGreatDoorA27
import Derived.Test.YtlfnibjmkfldgaaGreatDoorA28
import Derived.Test.YtlfnibjmkfldgaaGreatDoorA29
import Derived.Test.YtlfnibjmkfldgaaGreatDoorCardPack01
import Derived.Test.YtlfnibjmkfldgaaGreatDoorCardPack02
import Derived.Test.YtlfnibjmkfldgaaGreatDoorCardPack03
namespace Go.Proofs.YtlfnibjmkfldgaaGreatDoor
open Go.RowKit Big
theorem bools_cell (xs : List Bool) : ∀ u ∈ bools xs, u.oneCell' = true := by intro u hu; simp [bools] at hu; rcases hu with ⟨-, rfl⟩ | ⟨-, rfl⟩ <;> rfl
def RdZ (w : World) (a : Option Addr) (rv : List Value) (xss : List (List Value)) : Prop :=
 RdLL w a rv xss ∧ ∀ (k : Nat) (a' : Option Addr) (l' c' : Nat), rv[k]? = some (.slice a' l' c') → a' = none → c' = 0
theorem RdZ.new {w w' : World} {a : Option Addr} {rv : List Value} {xss : List (List Value)} (h : RdZ w a rv xss) (hn : New w w') : RdZ w' a rv xss := ⟨h.1.new hn, h.2⟩
theorem RdZ.at {w : World} {a : Option Addr} {rv : List Value} {xss : List (List Value)} (h : RdZ w a rv xss) (k : Nat) (hk : k < xss.length) :
  ∃ (b off : Nat) (a' : Option Addr) (c' : Nat), a = some ⟨b, off, none⟩ ∧ w.cell? ⟨b, off + k, none⟩ = some (.slice a' xss[k].length c') ∧ RdL w a' xss[k] ∧ xss[k].length ≤ c' ∧ (a' = none → c' = 0) := by
 have hk' : k < rv.length := by rw [h.1.2.1]; exact hk
 obtain ⟨b, off, e, hc⟩ := h.1.1 k hk'
 obtain ⟨a', c', e', hr⟩ := h.1.2.2 k rv[k] xss[k] (List.getElem?_eq_getElem hk') (List.getElem?_eq_getElem hk)
 exact ⟨b, off, a', c', e, by rw [hc, e'], hr.1, hr.2, h.2 k a' _ c' (by rw [List.getElem?_eq_getElem hk', e'])⟩
theorem RowsOf.rdz {w : World} {base : Nat} {ts te : TypeId} {out : Value} {xss : List (List Value)} (h : RowsOf w base ts te out xss) :
  ∃ (a : Option Addr) (cap : Nat) (vs : List Value), out = .slice a xss.length cap ∧ RdZ w a vs xss ∧ (0 < xss.length → ∃ L, a = some ⟨L, 0, none⟩) ∧ xss.length ≤ cap ∧ (a = none → cap = 0) := by
 obtain ⟨vs, h1, h2, h3⟩ := h
 obtain ⟨a, cap, e, hr, hc, hz⟩ := own_rdS' h1
 refine ⟨a, cap, vs, by rw [e, h2], ⟨⟨hr, h2, fun k v xs hk hx => ?_⟩, fun k a' l' c' hk ha => ?_⟩, fun h0 => ?_, by rw [← h2]; exact hc, hz⟩
 ·obtain ⟨a', c', e', hr', hc', -⟩ := own_rdS' (h3 k v xs hk hx).1
  exact ⟨a', c', e', hr', hc'⟩
 ·have hkl : k < vs.length := (List.getElem?_eq_some_iff.1 hk).1
  have hx : xss[k]? = some (xss[k]'(by omega)) := List.getElem?_eq_getElem (by omega)
  obtain ⟨a2, c2, e', -, -, hz'⟩ := own_rdS' (h3 k _ _ hk hx).1
  injection e' with e1 e2 e3
  rw [e3]
  exact hz' (by rw [← e1]; exact ha)
 ·rcases h1.2 with ⟨rfl, h4⟩ | ⟨g, cap2, cur, e2, _⟩
  ·omega
  ·rw [e] at e2
   injection e2 with e2
   exact ⟨g, e2⟩
set_option maxRecDepth 100000 in
theorem bools_row (a : Option Addr) (cap m : Nat) (xs : List Bool) (w : World) (hm : xs.length = m) (hl : m ≤ 5000) (hr : RdL w a (bools xs)) (hz : a = none → cap = 0) :
  Calls Tryz.prog 16 #[.slice a m cap] w (RowRet w 4 (bools xs)) := by
 obtain ⟨i0, hi0, hz0, hz1, hz2⟩ := info_parts info_bool
 have hlen : (bools xs).length = m * 1 := by simp [bools, hm]
 have HR := Lib.hid hr
 have HZ := Lib.hid hz
 have HLEN := Lib.hid hlen
 have HM := Lib.hid hm
 clear hr hz hlen hm
 go_enter Tryz.func16, Tryz.ntmps16
 go_wp2_with (at_builtin; refine wpList_append_copy rfl _ _ 26 rfl 4 i0 (.bool false) 1 1 Tryz.underlying26 hi0 hz0 hz1 hz2 rfl (by decide) _ rfl a m cap (bools xs) rfl HLEN.out HR.out HZ.out (bools_cell xs) (by unfold maxLen; omega) (by omega) ?_)
 intro a1 c1 w1 hn ho _ _ _
 have hl2 : (bools xs).length = m := by rw [HLEN.out, Nat.mul_one]
 have HN := Lib.hid hn
 have HO := Lib.hid ho
 have HL2 := Lib.hid hl2
 clear hn ho hl2
 go_wp2_with fail
 go_ret
 exact ⟨_, rfl, HN.out, by rw [HL2.out]; exact HO.out⟩
set_option maxRecDepth 100000 in
set_option maxHeartbeats 2000000 in
theorem copied_calls (a : Option Addr) (cap N : Nat) (rv : List Value) (ls : List (List Bool)) (w : World) (hr : RdZ w a rv (ls.map bools)) (hN : ls.length = N) (hl : N ≤ 1000) (hm : ∀ (k : Nat) (h : k < ls.length), ls[k].length ≤ 5000) :
  Calls Tryz.prog 29 #[.slice a N cap] w fun e w' => ∃ v, e = .returned v ∧ New w w' ∧ RowsOf w' w.heap.size 26 4 v (ls.map bools) := by
 obtain ⟨i0, hi, hz0, hz1, hz2⟩ := info_parts info_bsl
 have hNi : (N : Int) ≤ 1000 := by omega
 have HR := Lib.hid hr
 have HNN := Lib.hid hN
 have HM := Lib.hid hm
 clear hr hN hm
 go_enter Tryz.func29, Tryz.ntmps29
 go_wp2_with fail
 go_loopw [3, 8] (fun v i wr => ∃ (k : Nat), k ≤ N ∧ i = .int .i64 (k : Int) ∧ Hid (RowsOf wr w.heap.size 26 4 v ((ls.take k).map bools)) ∧ Hid (New w wr)) (fun _ i _ => N - (intOf i).toNat)
 case atStart => exact ⟨0, Nat.zero_le _, rfl, Lib.hid (RowsOf.nil _ _ _ _), Lib.hid (New.refl _)⟩
 case round =>
  obtain ⟨k, hk, rfl, HO, HN⟩ := hrel
  by_cases hlt : k < N
  ·have hkl : k < ls.length := by rw [HNN.out]; exact hlt
   obtain ⟨b, off, a1, c1, rfl, hcell, hrd, -, hz⟩ := HR.out.at k (by simpa using hkl)
   have hlb := HM.out k hkl
   obtain ⟨x, hx⟩ : ∃ x, ls[k] = x := ⟨_, rfl⟩
   obtain ⟨l, hl0⟩ : ∃ l, x.length = l := ⟨_, rfl⟩
   have hxl : (bools x).length = l := by simp [bools, hl0]
   simp only [List.getElem_map, hx, hxl] at hcell hrd
   rw [hx, hl0] at hlb
   replace hcell := HN.out.cell hcell
   have hsn : (ls.take (k + 1)).map bools = (ls.take k).map bools ++ [bools x] := by rw [List.take_succ_eq_append_getElem hkl, hx]; simp
   have hrow := bools_row a1 c1 l x wr hl0 hlb (hrd.new HN.out) hz
   clear hrd hx
   have HSN := Lib.hid hsn
   have HXL := Lib.hid hxl
   have HL0 := Lib.hid hl0
   have HROWC := Lib.hid hrow
   have HLB := Lib.hid hlb
   clear hsn hxl hl0 hrow hlb
   go_wp2_with fail
   refine HROWC.out.mono ?_
   rintro e w9 ⟨v9, rfl, hn, hrow⟩
   obtain ⟨vs, r1, r2, r3⟩ := HO.out
   have r1' := own_newS r1 hn
   have hvl : vs.length = k := by rw [r2]; simp; omega
   obtain ⟨a9, c9, e9, -, -⟩ := own_rd hrow
   subst e9
   have h1c : ∀ u ∈ [Value.slice a9 (bools x).length c9], u.oneCell' = true := by intro u hu; simp at hu; rw [hu]; rfl
   have hM2 := HN.out.trans hn
   have hms := HN.out.size
   clear hcell HO
   have R1 := Lib.hid r1
   have R1N := Lib.hid r1'
   have R2 := Lib.hid r2
   have R3 := Lib.hid r3
   have HVL := Lib.hid hvl
   have HROW := Lib.hid hrow
   have H1C := Lib.hid h1c
   have HM2 := Lib.hid hM2
   have HN9 := Lib.hid hn
   have HMS := Lib.hid hms
   clear r1 r1' r2 r3 hvl hrow h1c hM2 hn hms
   go_wp2_with (at_builtin; refine wpList_append_own_at _ rfl _ _ 57 rfl w.heap.size 26 i0 (.slice none 0 0) 1 24 Tryz.underlying57 hi hz0 hz1 hz2 rfl (by decide) _ _ _ rfl (World.ownsRow.alloc R1N.out _) ⟨w9.heap.size, 0, none⟩ 1 1 [.slice a9 (bools x).length c9] rfl rfl (one_c1 _ _ _) H1C.out (by have := HVL.out; unfold maxLen; omega) (by have := HVL.out; omega) (by have := HM2.out.size; rw [← size_alloc]; omega) ?_)
   intro v' w10 hown' hgrow _ hat
   have hN1 := grown_newS HM2.out R1N.out hgrow
   have hO1 := RowsOf.snoc R1.out R2.out R3.out HN9.out HROW.out HMS.out hown' hgrow hat
   rw [← HSN.out] at hO1
   clear hown' hgrow hat
   have HN1 := Lib.hid hN1
   have HO1 := Lib.hid hO1
   clear hN1 hO1
   go_wp2_with fail
   go_roundw
   case rel => exact ⟨k + 1, by omega, by go_num, HO1, HN1⟩
   case measure => simp [intOf]; omega
  ·have hkk : k = N := by omega
   have hO := HO.out
   rw [List.take_of_length_le (by rw [HNN.out]; omega)] at hO
   clear HO
   have HO := Lib.hid hO
   have HKK := Lib.hid hkk
   clear hO hkk
   go_wp2_with fail
   go_ret
   exact ⟨_, rfl, HN.out, HO.out⟩
end Go.Proofs.YtlfnibjmkfldgaaGreatDoor
namespace Go.Proofs.YtlfnibjmkfldgaaGreatDoor
def AwakeOk : Prop := ∀ w, Env w → Calls Tryz.prog 12 #[] w fun e w' => e = .returned (.bool true) ∧ New w w'
end Go.Proofs.YtlfnibjmkfldgaaGreatDoor
namespace Go.Proofs.YtlfnibjmkfldgaaGreatDoor
open Go.RowKit Big
theorem rdl_nil (w : World) (a : Option Addr) : RdL w a [] := fun i hi => by simp at hi
theorem sameb_self (a b : Option Addr) (cap cap' : Nat) (xs : List Bool) (w : World) (hl : xs.length ≤ 1000000) (hr1 : RdL w a (bools xs)) (hr2 : RdL w b (bools xs)) :
  Calls Tryz.prog 22 #[.slice a xs.length cap, .slice b xs.length cap'] w fun e w' => e = .returned (.bool true) ∧ New w w' :=
 same_bools a b cap cap' xs xs w hl rfl hr1 hr2 (by intro k h h'; simp)
theorem samew_self (a b : Option Addr) (cap cap' : Nat) (xs : List Nat) (w : World) (hl : xs.length ≤ 1000000) (hr1 : RdL w a (words xs)) (hr2 : RdL w b (words xs)) :
  Calls Tryz.prog 35 #[.slice a xs.length cap, .slice b xs.length cap'] w fun e w' => e = .returned (.bool true) ∧ New w w' :=
 same_words a b cap cap' xs xs w hl rfl hr1 hr2 (by intro k h h'; simp)
end Go.Proofs.YtlfnibjmkfldgaaGreatDoor
namespace Go.Proofs.YtlfnibjmkfldgaaGreatDoor
open Go.RowKit Big
def blocksN (xs : List Nat) : Nat := if fewErr xs.length = 0 then nBlocks xs.length else 0
def blocksL (xs : List Nat) : List Nat := if fewErr xs.length = 0 then padW xs (16 * nBlocks xs.length) else []
def unpackE (N : Nat) (n : Int) (xs : List Nat) : Int := if unpackErr N n = 0 then (if (xs.drop n.toNat).all (fun x => x == 0) then 0 else 1) else unpackErr N n
def unpackL (N : Nat) (n : Int) (xs : List Nat) : List Nat := if unpackE N n xs = 0 then xs.take n.toNat else []
theorem pblocks_all (a : Option Addr) (cap m : Nat) (xs : List Nat) (w : World) (hm : xs.length = m) (hl : m ≤ 1000000) (hr : RdL w a (words xs)) :
  Calls Tryz.prog 37 #[.slice a m cap] w fun e w' => ∃ (a' : Option Addr) (c' : Nat), e = .returned (.tuple #[.slice a' (blocksN xs) c', .int .i64 (fewErr m)]) ∧ New w w' ∧ RdL w' a' (words (blocksL xs)) := by
 unfold blocksN blocksL
 subst hm
 by_cases h : fewErr xs.length = 0
 ·rw [if_pos h, if_pos h, h]
  have h4 : xs.length ≤ 4096 := by unfold fewErr at h; split at h <;> omega
  refine (Blocks_ok a cap xs w h4 hr).mono fun e w' hp => ?_
  exact hp.rd
 ·rw [if_neg h, if_neg h]
  refine (blocks_bad a xs.length cap w (by omega) h).mono fun e w' hp => ?_
  exact ⟨none, 0, hp.1, hp.2, rdl_nil _ _⟩
theorem unpackErr_ok {N : Nat} {n : Int} (h : unpackErr N n = 0) : N ≤ 256 ∧ ∃ k : Nat, n = (k : Int) ∧ k ≤ 4096 ∧ nBlocks k = N := by
 unfold unpackErr at h
 split at h
 ·cases h
 ·split at h
  ·cases h
  ·rename_i h1 h2
   simp only [outside, Bool.or_eq_true, decide_eq_true_eq] at h2
   split at h
   ·rename_i h3
    exact ⟨by omega, n.toNat, by omega, by omega, h3.symm⟩
   ·cases h
theorem unpack_form {P Q : Prop} {l : List Nat} (h1 : (∀ x ∈ l, x = 0) → P) (h2 : (∃ x ∈ l, x ≠ 0) → Q) : (l.all (fun x => x == 0) = true ∧ P) ∨ (l.all (fun x => x == 0) = false ∧ Q) := by
 cases h : l.all (fun x => x == 0) with
 | true => exact .inl ⟨rfl, h1 (by simpa using h)⟩
 | false => exact .inr ⟨rfl, h2 (by simpa using h)⟩
theorem unpack_all (a : Option Addr) (cap N : Nat) (n : Int) (xs : List Nat) (w : World) (hx : xs.length = 16 * N) (hl : N ≤ 1000000) (hr : RdL w a (words xs)) :
  Calls Tryz.prog 38 #[.slice a N cap, .int .i64 n] w fun e w' => ∃ (a' : Option Addr) (c' : Nat), e = .returned (.tuple #[.slice a' (unpackL N n xs).length c', .int .i64 (unpackE N n xs)]) ∧ New w w' ∧ RdL w' a' (words (unpackL N n xs)) := by
 by_cases h : unpackErr N n = 0
 ·obtain ⟨hN, k, rfl, hk, hb⟩ := unpackErr_ok h
  have hkx : k ≤ xs.length := by rw [hx]; unfold nBlocks at hb; omega
  refine (unpack_main a cap N k xs w hr hx hN hk hb).mono fun e w' hp => ?_
  obtain ⟨hn, hp1, hp2⟩ := hp
  rcases unpack_form hp1 hp2 with ⟨hz, a', c', he, hrd, hc⟩ | ⟨hz, he⟩
  ·have hE : unpackE N (k : Int) xs = 0 := by unfold unpackE; rw [if_pos h, Int.toNat_natCast, hz]; rfl
   have hL : unpackL N (k : Int) xs = xs.take k := by unfold unpackL; rw [if_pos hE, Int.toNat_natCast]
   rw [hE, hL]
   exact ⟨a', c', by rw [he, List.length_take, Nat.min_eq_left hkx], hn, hrd⟩
  ·have hE : unpackE N (k : Int) xs = 1 := by unfold unpackE; rw [if_pos h, Int.toNat_natCast, hz]; rfl
   have hL : unpackL N (k : Int) xs = [] := by unfold unpackL; rw [if_neg (by rw [hE]; decide)]
   rw [hE, hL]
   exact ⟨none, 0, he, hn, rdl_nil _ _⟩
 ·have hE : unpackE N n xs = unpackErr N n := by unfold unpackE; rw [if_neg h]
  have hL : unpackL N n xs = [] := by unfold unpackL; rw [if_neg (by rw [hE]; exact h)]
  rw [hE, hL]
  refine (unpack_bad a cap N n w hl h).mono fun e w' hp => ?_
  exact ⟨none, 0, hp.1, hp.2, rdl_nil _ _⟩
def blockF (xs : List Nat) : Nat → Nat := fun j => if xs.length = 16 then xs.getD j 0 else 0
theorem pblock_all (a : Option Addr) (cap m : Nat) (xs : List Nat) (w : World) (hm : xs.length = m) (hl : m ≤ 1000000) (hr : RdL w a (words xs)) :
  Calls Tryz.prog 36 #[.slice a m cap] w fun e w' => e = .returned (.tuple #[.agg #[.int .u16 (blockF xs 0 : Nat), .int .u16 (blockF xs 1 : Nat), .int .u16 (blockF xs 2 : Nat), .int .u16 (blockF xs 3 : Nat), .int .u16 (blockF xs 4 : Nat), .int .u16 (blockF xs 5 : Nat), .int .u16 (blockF xs 6 : Nat), .int .u16 (blockF xs 7 : Nat), .int .u16 (blockF xs 8 : Nat), .int .u16 (blockF xs 9 : Nat), .int .u16 (blockF xs 10 : Nat), .int .u16 (blockF xs 11 : Nat), .int .u16 (blockF xs 12 : Nat), .int .u16 (blockF xs 13 : Nat), .int .u16 (blockF xs 14 : Nat), .int .u16 (blockF xs 15 : Nat)], .int .i64 (blockErr m)]) ∧ New w w' := by
 subst hm
 by_cases h : xs.length = 16
 ·have hF : ∀ j, blockF xs j = xs.getD j 0 := fun j => by unfold blockF; rw [if_pos h]
  simp only [hF]
  obtain ⟨b, off, rfl, -⟩ := hr.w16 0 (by omega)
  rw [h]
  refine (block_ok b off cap (fun j => xs.getD j 0) w fun i hi => ?_).mono fun e w' hp => ?_
  ·obtain ⟨b2, off2, e2, hc⟩ := hr.w16 i (by omega)
   injection e2 with e2
   injection e2 with e2 e3
   subst e2 e3
   rw [hc]
   simp [List.getD_eq_getElem?_getD, List.getElem?_eq_getElem (show i < xs.length by omega)]
  ·exact hp
 ·have hF : ∀ j, blockF xs j = 0 := fun j => by unfold blockF; rw [if_neg h]
  simp only [hF]
  have h0 : blockErr xs.length ≠ 0 := by unfold blockErr; split <;> simp_all
  exact (block_bad a xs.length cap w (by omega) h0).mono fun e w' hp => hp
end Go.Proofs.YtlfnibjmkfldgaaGreatDoor
namespace Go.Proofs.YtlfnibjmkfldgaaGreatDoor
open Go.RowKit Big
theorem lines_first {ls : List (List Bool)} {N : Nat} (hN : ls.length = N) {e1 e2 r1 : Int} {b1 b2 : Bool} (hb1 : ((N : Int) == 0) = b1) (hb2 : decide ((16 : Int) < (N : Int)) = b2)
  (he1 : (if b1 then 12 else 0) = e1) (he2 : (if b2 then 5 else 0) = e2) (hr1 : (if e1 = 0 then e2 else e1) = r1) : (r1 ≠ 0 → linesErr ls = r1) ∧ (r1 = 0 → 1 ≤ N ∧ N ≤ 16) := by
 by_cases h0 : N = 0
 ·subst h0
  obtain rfl : ls = [] := List.eq_nil_of_length_eq_zero hN
  have : b1 = true := by rw [← hb1]; rfl
  subst this
  simp at he1
  subst he1
  simp at hr1
  subst hr1
  exact ⟨fun _ => rfl, fun h => by omega⟩
 ·have hb : b1 = false := by rw [← hb1, beq_eq_false_iff_ne]; omega
  subst hb
  simp at he1
  subst he1
  simp at hr1
  subst hr1
  have hc := linesErr_cons (ls := ls) (by omega)
  by_cases h16 : 16 < N
  ·have hb : b2 = true := by rw [← hb2, decide_eq_true_eq]; omega
   subst hb
   simp at he2
   subst he2
   exact ⟨fun _ => by rw [hc, if_pos (.inl (by omega))], fun h => by omega⟩
  ·have hb : b2 = false := by rw [← hb2, decide_eq_false_iff_not]; omega
   subst hb
   simp at he2
   subst he2
   exact ⟨fun h => absurd rfl h, fun _ => by omega⟩
theorem lines_second {ls : List (List Bool)} {N m : Nat} (hN : ls.length = N) (h1 : 1 ≤ N) (h16 : N ≤ 16) (hm : (ls[0]'(by omega)).length = m) {e3 e4 r2 : Int} {b3 b4 : Bool} (hb3 : decide ((4096 : Int) < (m : Int)) = b3) (hb4 : decide (0 ≤ otherAt m 0 ls) = b4)
  (he3 : (if b3 then 5 else 0) = e3) (he4 : (if b4 then 2 else 0) = e4) (hr2 : (if e3 = 0 then e4 else e3) = r2) : linesErr ls = r2 := by
 rw [linesErr_cons (by omega), hm]
 by_cases h4 : 4096 < m
 ·have hb : b3 = true := by rw [← hb3, decide_eq_true_eq]; omega
  subst hb
  simp at he3
  subst he3
  simp at hr2
  subst hr2
  rw [if_pos (.inr h4)]
 ·have hb : b3 = false := by rw [← hb3, decide_eq_false_iff_not]; omega
  subst hb
  simp at he3
  subst he3
  simp at hr2
  subst hr2
  rw [if_neg (by omega)]
  by_cases ha : ∀ x ∈ ls, x.length = m
  ·have hb : b4 = false := by rw [← hb4, otherAt_ok ls 0 ha]; rfl
   subst hb
   simp at he4
   rw [if_pos (by simpa using ha)]
   exact he4
  ·have hx : ∃ x ∈ ls, x.length ≠ m := by
    simpa using ha
   have hb : b4 = true := by rw [← hb4, decide_eq_true_eq]; exact otherAt_bad ls 0 hx
   subst hb
   simp at he4
   rw [if_neg (by simpa using ha)]
   exact he4
set_option maxRecDepth 100000 in
set_option maxHeartbeats 2000000 in
theorem words_bad (a : Option Addr) (cap N : Nat) (rv : List Value) (ls : List (List Bool)) (w : World) (hr : RdLL w a rv (ls.map bools)) (hN : ls.length = N) (hl : N ≤ 1000000) (ha : 0 < N → ∃ L, a = some ⟨L, 0, none⟩) (h0 : linesErr ls ≠ 0) :
  Calls Tryz.prog 28 #[.slice a N cap] w fun e w' => e = .returned (.tuple #[.slice none 0 0, .int .i64 (linesErr ls)]) ∧ New w w' := by
 obtain ⟨r, hres⟩ : ∃ r, linesErr ls = r := ⟨_, rfl⟩
 rw [hres] at h0 ⊢
 obtain ⟨b1, hb1⟩ : ∃ b, ((N : Int) == 0) = b := ⟨_, rfl⟩
 obtain ⟨b2, hb2⟩ : ∃ b, decide ((16 : Int) < (N : Int)) = b := ⟨_, rfl⟩
 obtain ⟨e1, he1⟩ : ∃ e : Int, (if b1 then 12 else 0) = e := ⟨_, rfl⟩
 obtain ⟨e2, he2⟩ : ∃ e : Int, (if b2 then 5 else 0) = e := ⟨_, rfl⟩
 obtain ⟨r1, hr1⟩ : ∃ r : Int, (if e1 = 0 then e2 else e1) = r := ⟨_, rfl⟩
 obtain ⟨f1, f2⟩ := lines_first hN hb1 hb2 he1 he2 hr1
 have f1 : r1 ≠ 0 → r = r1 := fun h => hres.symm.trans (f1 h)
 have hsec : r1 = 0 → ∃ (L m : Nat) (a0 : Option Addr) (c0 : Nat), a = some ⟨L, 0, none⟩ ∧ (0 : Int) < (N : Int) ∧ w.cell? ⟨L, 0, none⟩ = some (.slice a0 m c0) ∧
   (∀ (W : World) (B : Nat), New w W → W.cell? ⟨B, 0, none⟩ = some (.slice (some ⟨L, 0, none⟩) N cap) → Calls Tryz.prog 67 #[.slice (some ⟨L, 0, none⟩) N cap, .func (.func 68) #[] #[.pointer (some ⟨B, 0, none⟩)]] W fun e w' => e = .returned (.bool (decide (0 ≤ otherAt m 0 ls))) ∧ New W w') ∧
   (∀ (e3 e4 r2 : Int) (b3 b4 : Bool), decide ((4096 : Int) < (m : Int)) = b3 → decide (0 ≤ otherAt m 0 ls) = b4 → (if b3 then 5 else 0) = e3 → (if b4 then 2 else 0) = e4 → (if e3 = 0 then e4 else e3) = r2 → r = r2) := by
  intro h
  obtain ⟨h1, h16⟩ := f2 h
  obtain ⟨L, rfl⟩ := ha h1
  have hpos : 0 < ls.length := by omega
  obtain ⟨b0, off0, a0, c0, hab0, hcell0, -, -⟩ := hr.at 0 (by simpa using hpos)
  injection hab0 with hab0
  injection hab0 with hab0 hab0'
  subst hab0 hab0'
  have hl0 : ((ls.map bools)[0]'(by simpa using hpos)).length = ls[0].length := by simp [bools]
  rw [hl0, Nat.add_zero] at hcell0
  refine ⟨L, ls[0].length, a0, c0, rfl, by omega, hcell0, fun W B hn hb => ?_, fun e3 e4 r2 b3 b4 g1 g2 g3 g4 g5 => ?_⟩
  ·have := contains_lines L cap ls[0].length rv ls B W (hr.new hn) (by omega) hpos rfl (by rw [hN]; exact hb)
   rw [hN] at this
   exact this
  ·exact hres.symm.trans (lines_second hN h1 h16 rfl g1 g2 g3 g4 g5)
 clear f2 hr ha hres hN hl
 have htr : (r != 0) = true := by simpa using h0
 have HE1 := Lib.hid he1
 have HE2 := Lib.hid he2
 have HR1 := Lib.hid hr1
 have F1 := Lib.hid f1
 have HSEC := Lib.hid hsec
 have H0 := Lib.hid h0
 clear he1 he2 hr1 f1 hsec h0
 go_enter Tryz.func28, Tryz.ntmps28
 go_wp2_with fail
 have BA := Lib.hid ((Box.alloc w (w.heap.size) 57 #[.slice a N cap] (by simp)).new (New.refl _))
 have HN := Lib.hid ((New.refl w).alloc (.cells #[.slice a N cap] 57))
 obtain ⟨p0, p1, p2⟩ := BA.out.one
 refine wp_region_T 10 (fun W => W.cell? ⟨w.heap.size, 0, none⟩ = some (.slice a N cap)) 11 #[false, false, false, false, false, false, false, false, false, false, false] rfl (by kernel_rfl) (by kernel_rfl) ?_
 refine wpT_take 0 (v := ?_) rfl (by kernel_rfl) (fun _ _ _ h => h) (by exact p0) (Or.inl ⟨by first | kernel_rfl | rfl, ?_⟩) ?_
 rotate_left
 ·(intro W hW; (try dsimp only at hW); go_simp; try with_reducible rfl)
 try simp only [PT]
 refine wpT_take 1 (v := ?_) rfl (by kernel_rfl) (fun _ _ _ h => h) (by exact p0) (Or.inl ⟨by first | kernel_rfl | rfl, ?_⟩) ?_
 rotate_left
 ·(intro W hW; (try dsimp only at hW); go_simp; try with_reducible rfl)
 try simp only [PT]
 refine wpT_take 2 (v := ?_) rfl (by kernel_rfl) (fun _ _ _ h => h) (by exact p0) (Or.inl ⟨by first | kernel_rfl | rfl, ?_⟩) ?_
 rotate_left
 ·(intro W hW; (try dsimp only at hW); go_simp; try with_reducible rfl)
 try simp only [PT]
 refine wpT_take 4 (v := ?_) rfl (by kernel_rfl) (fun _ _ _ h => h) (by exact p0) (Or.inl ⟨by first | kernel_rfl | rfl, ?_⟩) ?_
 rotate_left
 ·(intro W hW; (try dsimp only at hW); go_simp; try with_reducible rfl)
 try simp only [PT]
 refine wpT_take 5 (v := ?_) rfl (by kernel_rfl) (fun _ _ _ h => h) (by exact p0) (Or.inl ⟨by first | kernel_rfl | rfl, ?_⟩) ?_
 rotate_left
 ·(intro W hW; (try dsimp only at hW); go_simp; try with_reducible rfl)
 try simp only [PT]
 refine wpT_take 6 (v := ?_) rfl (by kernel_rfl) (fun _ _ _ h => h) (by exact p0) (Or.inl ⟨by first | kernel_rfl | rfl, ?_⟩) ?_
 rotate_left
 ·(intro W hW; (try dsimp only at hW); go_simp; try with_reducible rfl)
 try simp only [PT]
 refine wpT_one 3 rfl (by kernel_rfl) (fun K hK => ?_)
 go_simp
 refine (pwhen_new b1 12 _).mono ?_
 rintro e w1 ⟨rfl, hn⟩
 rw [HE1.out]
 have hn := hn.undrew
 clear p0 p1 p2
 replace BA := Lib.hid (BA.out.new hn)
 replace HN := Lib.hid (HN.out.trans hn)
 clear hn
 obtain ⟨p0, p1, p2⟩ := BA.out.one
 refine hK.out _ _ (fun _ => ?_) ?_
 ·exact p0
 clear hK K
 try simp only [PT]
 refine wpT_one 7 rfl (by kernel_rfl) (fun K hK => ?_)
 go_simp
 refine (pwhen_new b2 5 _).mono ?_
 rintro e w2 ⟨rfl, hn⟩
 rw [HE2.out]
 clear p0 p1 p2
 replace BA := Lib.hid (BA.out.new hn)
 replace HN := Lib.hid (HN.out.trans hn)
 clear hn
 obtain ⟨p0, p1, p2⟩ := BA.out.one
 refine hK.out _ _ (fun _ => ?_) ?_
 ·exact p0
 clear hK K
 try simp only [PT]
 refine wpT_one 8 rfl (by kernel_rfl) (fun K hK => ?_)
 go_simp
 clear p0 p1 p2
 have HN0 := HN
 clear HN
 have BG := Lib.hid ((Box.alloc w2 (w2.heap.size) 29 #[.int .i64 e1, .int .i64 e2] (by simp)).new (New.refl _))
 have HN := Lib.hid ((New.refl w2).alloc (.cells #[.int .i64 e1, .int .i64 e2] 29))
 replace BA := Lib.hid (BA.out.new HN.out)
 have HN_ := HN0.out.trans HN.out
 clear HN HN0
 have HN := Lib.hid HN_
 clear HN_
 obtain ⟨p0, p1, p2⟩ := BA.out.one
 refine hK.out _ _ (fun _ => ?_) ?_
 ·exact p0
 clear hK K
 try simp only [PT]
 refine wpT_one 9 rfl (by kernel_rfl) (fun K hK => ?_)
 go_simp
 refine (pfirst2_new e1 e2 _ _ 29 _ BG.out).mono ?_
 rintro e w3 ⟨rfl, hn⟩
 rw [HR1.out]
 clear p0 p1 p2
 replace BA := Lib.hid (BA.out.new hn)
 replace HN := Lib.hid (HN.out.trans hn)
 clear hn
 obtain ⟨p0, p1, p2⟩ := BA.out.one
 refine hK.out _ _ (fun _ => ?_) ?_
 ·exact p0
 clear hK K
 try simp only [PT]
 refine wpT_tail rfl (by kernel_rfl) ?_
 simp only [List.drop_succ_cons, List.drop_zero]
 clear BG
 by_cases hr10 : r1 = 0
 ·obtain ⟨L, m, a0, c0, rfl, hN1, hcell0, hcont, hfin⟩ := HSEC.out hr10
  obtain ⟨b3, hb3⟩ : ∃ b, decide ((4096 : Int) < (m : Int)) = b := ⟨_, rfl⟩
  obtain ⟨b4, hb4⟩ : ∃ b, decide (0 ≤ otherAt m 0 ls) = b := ⟨_, rfl⟩
  obtain ⟨e3, he3⟩ : ∃ e : Int, (if b3 then 5 else 0) = e := ⟨_, rfl⟩
  obtain ⟨e4, he4⟩ : ∃ e : Int, (if b4 then 2 else 0) = e := ⟨_, rfl⟩
  obtain ⟨r2, hr2⟩ : ∃ r : Int, (if e3 = 0 then e4 else e3) = r := ⟨_, rfl⟩
  have hrr := hfin e3 e4 r2 b3 b4 hb3 hb4 he3 he4 hr2
  rw [hb4] at hcont
  clear hfin hb4
  subst hr10
  have hc0 := Lib.hid hcell0
  clear hcell0
  have HCONT := Lib.hid hcont
  have HE3 := Lib.hid he3
  have HE4 := Lib.hid he4
  have HR2 := Lib.hid hr2
  have HRR := Lib.hid hrr
  clear hcont he3 he4 hr2 hrr
  go_wp2_with fail
  refine (HCONT.out _ w.heap.size HN.out p0).mono ?_
  rintro e w4 ⟨rfl, hn⟩
  clear p0 p1 p2
  replace BA := Lib.hid (BA.out.new hn)
  replace HN := Lib.hid (HN.out.trans hn)
  clear hn
  obtain ⟨p0, p1, p2⟩ := BA.out.one
  have hc1 := HN.out.cell hc0.out
  go_wp2_with fail
  refine (pwhen_new b3 5 _).mono ?_
  rintro e w5 ⟨rfl, hn⟩
  rw [HE3.out]
  clear hc1
  clear p0 p1 p2
  replace BA := Lib.hid (BA.out.new hn)
  replace HN := Lib.hid (HN.out.trans hn)
  clear hn
  go_wp2_with fail
  refine (pwhen_new b4 2 _).mono ?_
  rintro e w6 ⟨rfl, hn⟩
  rw [HE4.out]
  replace BA := Lib.hid (BA.out.new hn)
  replace HN := Lib.hid (HN.out.trans hn)
  clear hn
  go_wp2_with fail
  have HN0 := HN
  clear HN
  have BG := Lib.hid ((Box.alloc w6 (w6.heap.size) 29 #[.int .i64 e3, .int .i64 e4] (by simp)).new (New.refl _))
  have HN := Lib.hid ((New.refl w6).alloc (.cells #[.int .i64 e3, .int .i64 e4] 29))
  replace BA := Lib.hid (BA.out.new HN.out)
  have HN_ := HN0.out.trans HN.out
  clear HN HN0
  have HN := Lib.hid HN_
  clear HN_
  refine (pfirst2_new e3 e4 _ _ 29 _ BG.out).mono ?_
  rintro e w7 ⟨rfl, hn⟩
  rw [HR2.out, ← HRR.out]
  replace BA := Lib.hid (BA.out.new hn)
  replace HN := Lib.hid (HN.out.trans hn)
  clear hn
  clear BG
  go_wp2_with fail
  go_ret2
  exact ⟨rfl, HN.out⟩
 ·have hrr := F1.out hr10
  subst hrr
  go_wp2_with fail
  go_ret2
  exact ⟨rfl, HN.out⟩
end Go.Proofs.YtlfnibjmkfldgaaGreatDoor
