/- Part CardWords05. -/
import Derived.Maps.AppendAt
import Derived.Laws.AppendOwnNone
import Derived.Test.YtlfnibjmkfldgaaGreatDoorA16
import Derived.Test.YtlfnibjmkfldgaaGreatDoorA24
import Derived.Test.YtlfnibjmkfldgaaGreatDoorA29
import Derived.Test.YtlfnibjmkfldgaaGreatDoorA32
import Derived.Test.YtlfnibjmkfldgaaGreatDoorA33
import Derived.Test.YtlfnibjmkfldgaaGreatDoorCardWords01
import Derived.Test.YtlfnibjmkfldgaaGreatDoorCardWords02
import Derived.Test.YtlfnibjmkfldgaaGreatDoorCardWords04
namespace Go.Proofs.YtlfnibjmkfldgaaGreatDoor
open Go.RowKit Big
theorem bools_cell (xs : List Bool) : ∀ u ∈ bools xs, u.oneCell' = true := by intro u hu; simp [bools] at hu; rcases hu with ⟨-, rfl⟩ | ⟨-, rfl⟩ <;> rfl
def RdZ (w : World) (a : Option Addr) (rv : List Value) (xss : List (List Value)) : Prop :=
 RdLL w a rv xss ∧ ∀ (k : Nat) (a' : Option Addr) (l' c' : Nat), rv[k]? = some (.slice a' l' c') → a' = none → c' = 0
theorem RdZ.new {w w' : World} {a : Option Addr} {rv : List Value} {xss : List (List Value)} (h : RdZ w a rv xss) (hn : New w w') : RdZ w' a rv xss := ⟨h.1.new hn, h.2⟩
theorem RdZ.at {w : World} {a : Option Addr} {rv : List Value} {xss : List (List Value)} (h : RdZ w a rv xss) (k : Nat) (hk : k < xss.length) :
  ∃ (b off : Nat) (a' : Option Addr) (c' : Nat), a = some ⟨b, off, none⟩ ∧ w.cell? ⟨b, off + k, none⟩ = some (.slice a' xss[k].length c') ∧ RdL w a' xss[k] ∧ xss[k].length ≤ c' ∧ (a' = none → c' = 0) := by
 have hk' : k < rv.length := by rw [h.1.2.1]; exact hk
 obtain ⟨b, off, e, hc⟩ := h.1.1 k hk'
 obtain ⟨a', c', e', hr⟩ := h.1.2.2 k rv[k] xss[k] (List.getElem?_eq_getElem hk') (List.getElem?_eq_getElem hk)
 exact ⟨b, off, a', c', e, by rw [hc, e'], hr.1, hr.2, h.2 k a' _ c' (by rw [List.getElem?_eq_getElem hk', e'])⟩
theorem RowsOf.rdz {w : World} {base : Nat} {ts te : TypeId} {out : Value} {xss : List (List Value)} (h : RowsOf w base ts te out xss) :
  ∃ (a : Option Addr) (cap : Nat) (vs : List Value), out = .slice a xss.length cap ∧ RdZ w a vs xss ∧ (0 < xss.length → ∃ L, a = some ⟨L, 0, none⟩) ∧ xss.length ≤ cap ∧ (a = none → cap = 0) := by
 obtain ⟨vs, h1, h2, h3⟩ := h
 obtain ⟨a, cap, e, hr, hc, hz⟩ := own_rdS' h1
 refine ⟨a, cap, vs, by rw [e, h2], ⟨⟨hr, h2, fun k v xs hk hx => ?_⟩, fun k a' l' c' hk ha => ?_⟩, fun h0 => ?_, by rw [← h2]; exact hc, hz⟩
 ·obtain ⟨a', c', e', hr', hc', -⟩ := own_rdS' (h3 k v xs hk hx).1
  exact ⟨a', c', e', hr', hc'⟩
 ·have hkl : k < vs.length := (List.getElem?_eq_some_iff.1 hk).1
  have hx : xss[k]? = some (xss[k]'(by omega)) := List.getElem?_eq_getElem (by omega)
  obtain ⟨a2, c2, e', -, -, hz'⟩ := own_rdS' (h3 k _ _ hk hx).1
  injection e' with e1 e2 e3
  rw [e3]
  exact hz' (by rw [← e1]; exact ha)
 ·rcases h1.2 with ⟨rfl, h4⟩ | ⟨g, cap2, cur, e2, _⟩
  ·omega
  ·rw [e] at e2
   injection e2 with e2
   exact ⟨g, e2⟩
set_option maxRecDepth 100000 in
theorem bools_row (a : Option Addr) (cap m : Nat) (xs : List Bool) (w : World) (hm : xs.length = m) (hl : m ≤ 5000) (hr : RdL w a (bools xs)) (hz : a = none → cap = 0) :
  Calls Tryz.prog 16 #[.slice a m cap] w (RowRet w 4 (bools xs)) := by
 obtain ⟨i0, hi0, hz0, hz1, hz2⟩ := info_parts info_bool
 have hlen : (bools xs).length = m * 1 := by simp [bools, hm]
 have HR := Lib.hid hr
 have HZ := Lib.hid hz
 have HLEN := Lib.hid hlen
 have HM := Lib.hid hm
 clear hr hz hlen hm
 go_enter Tryz.func16, Tryz.ntmps16
 go_wp2_with (at_builtin; refine wpList_append_copy rfl _ _ 26 rfl 4 i0 (.bool false) 1 1 Tryz.underlying26 hi0 hz0 hz1 hz2 rfl (by decide) _ rfl a m cap (bools xs) rfl HLEN.out HR.out HZ.out (bools_cell xs) (by unfold maxLen; omega) (by omega) ?_)
 intro a1 c1 w1 hn ho _ _ _
 have hl2 : (bools xs).length = m := by rw [HLEN.out, Nat.mul_one]
 have HN := Lib.hid hn
 have HO := Lib.hid ho
 have HL2 := Lib.hid hl2
 clear hn ho hl2
 go_wp2_with fail
 go_ret
 exact ⟨_, rfl, HN.out, by rw [HL2.out]; exact HO.out⟩
set_option maxRecDepth 100000 in
set_option maxHeartbeats 2000000 in
theorem copied_calls (a : Option Addr) (cap N : Nat) (rv : List Value) (ls : List (List Bool)) (w : World) (hr : RdZ w a rv (ls.map bools)) (hN : ls.length = N) (hl : N ≤ 1000) (hm : ∀ (k : Nat) (h : k < ls.length), ls[k].length ≤ 5000) :
  Calls Tryz.prog 29 #[.slice a N cap] w fun e w' => ∃ v, e = .returned v ∧ New w w' ∧ RowsOf w' w.heap.size 26 4 v (ls.map bools) := by
 obtain ⟨i0, hi, hz0, hz1, hz2⟩ := info_parts info_bsl
 have hNi : (N : Int) ≤ 1000 := by omega
 have HR := Lib.hid hr
 have HNN := Lib.hid hN
 have HM := Lib.hid hm
 clear hr hN hm
 go_enter Tryz.func29, Tryz.ntmps29
 go_wp2_with fail
 go_loopw [3, 8] (fun v i wr => ∃ (k : Nat), k ≤ N ∧ i = .int .i64 (k : Int) ∧ Hid (RowsOf wr w.heap.size 26 4 v ((ls.take k).map bools)) ∧ Hid (New w wr)) (fun _ i _ => N - (intOf i).toNat)
 case atStart => exact ⟨0, Nat.zero_le _, rfl, Lib.hid (RowsOf.nil _ _ _ _), Lib.hid (New.refl _)⟩
 case round =>
  obtain ⟨k, hk, rfl, HO, HN⟩ := hrel
  by_cases hlt : k < N
  ·have hkl : k < ls.length := by rw [HNN.out]; exact hlt
   obtain ⟨b, off, a1, c1, rfl, hcell, hrd, -, hz⟩ := HR.out.at k (by simpa using hkl)
   have hlb := HM.out k hkl
   obtain ⟨x, hx⟩ : ∃ x, ls[k] = x := ⟨_, rfl⟩
   obtain ⟨l, hl0⟩ : ∃ l, x.length = l := ⟨_, rfl⟩
   have hxl : (bools x).length = l := by simp [bools, hl0]
   simp only [List.getElem_map, hx, hxl] at hcell hrd
   rw [hx, hl0] at hlb
   replace hcell := HN.out.cell hcell
   have hsn : (ls.take (k + 1)).map bools = (ls.take k).map bools ++ [bools x] := by rw [List.take_succ_eq_append_getElem hkl, hx]; simp
   have hrow := bools_row a1 c1 l x wr hl0 hlb (hrd.new HN.out) hz
   clear hrd hx
   have HSN := Lib.hid hsn
   have HXL := Lib.hid hxl
   have HL0 := Lib.hid hl0
   have HROWC := Lib.hid hrow
   have HLB := Lib.hid hlb
   clear hsn hxl hl0 hrow hlb
   go_wp2_with fail
   refine HROWC.out.mono ?_
   rintro e w9 ⟨v9, rfl, hn, hrow⟩
   obtain ⟨vs, r1, r2, r3⟩ := HO.out
   have r1' := own_newS r1 hn
   have hvl : vs.length = k := by rw [r2]; simp; omega
   obtain ⟨a9, c9, e9, -, -⟩ := own_rd hrow
   subst e9
   have h1c : ∀ u ∈ [Value.slice a9 (bools x).length c9], u.oneCell' = true := by intro u hu; simp at hu; rw [hu]; rfl
   have hM2 := HN.out.trans hn
   have hms := HN.out.size
   clear hcell HO
   have R1 := Lib.hid r1
   have R1N := Lib.hid r1'
   have R2 := Lib.hid r2
   have R3 := Lib.hid r3
   have HVL := Lib.hid hvl
   have HROW := Lib.hid hrow
   have H1C := Lib.hid h1c
   have HM2 := Lib.hid hM2
   have HN9 := Lib.hid hn
   have HMS := Lib.hid hms
   clear r1 r1' r2 r3 hvl hrow h1c hM2 hn hms
   go_wp2_with (at_builtin; refine wpList_append_own_at _ rfl _ _ 57 rfl w.heap.size 26 i0 (.slice none 0 0) 1 24 Tryz.underlying57 hi hz0 hz1 hz2 rfl (by decide) _ _ _ rfl (World.ownsRow.alloc R1N.out _) ⟨w9.heap.size, 0, none⟩ 1 1 [.slice a9 (bools x).length c9] rfl rfl (one_c1 _ _ _) H1C.out (by have := HVL.out; unfold maxLen; omega) (by have := HVL.out; omega) (by have := HM2.out.size; rw [← size_alloc]; omega) ?_)
   intro v' w10 hown' hgrow _ hat
   have hN1 := grown_newS HM2.out R1N.out hgrow
   have hO1 := RowsOf.snoc R1.out R2.out R3.out HN9.out HROW.out HMS.out hown' hgrow hat
   rw [← HSN.out] at hO1
   clear hown' hgrow hat
   have HN1 := Lib.hid hN1
   have HO1 := Lib.hid hO1
   clear hN1 hO1
   go_wp2_with fail
   go_roundw
   case rel => exact ⟨k + 1, by omega, by go_num, HO1, HN1⟩
   case measure => simp [intOf]; omega
  ·have hkk : k = N := by omega
   have hO := HO.out
   rw [List.take_of_length_le (by rw [HNN.out]; omega)] at hO
   clear HO
   have HO := Lib.hid hO
   have HKK := Lib.hid hkk
   clear hO hkk
   go_wp2_with fail
   go_ret
   exact ⟨_, rfl, HN.out, HO.out⟩
end Go.Proofs.YtlfnibjmkfldgaaGreatDoor
namespace Go.Proofs.YtlfnibjmkfldgaaGreatDoor
open Go.RowKit Big
theorem rdl_nil (w : World) (a : Option Addr) : RdL w a [] := fun i hi => by simp at hi
theorem sameb_self (a b : Option Addr) (cap cap' : Nat) (xs : List Bool) (w : World) (hl : xs.length ≤ 1000000) (hr1 : RdL w a (bools xs)) (hr2 : RdL w b (bools xs)) :
  Calls Tryz.prog 22 #[.slice a xs.length cap, .slice b xs.length cap'] w fun e w' => e = .returned (.bool true) ∧ New w w' :=
 same_bools a b cap cap' xs xs w hl rfl hr1 hr2 (by intro k h h'; simp)
theorem samew_self (a b : Option Addr) (cap cap' : Nat) (xs : List Nat) (w : World) (hl : xs.length ≤ 1000000) (hr1 : RdL w a (words xs)) (hr2 : RdL w b (words xs)) :
  Calls Tryz.prog 35 #[.slice a xs.length cap, .slice b xs.length cap'] w fun e w' => e = .returned (.bool true) ∧ New w w' :=
 same_words a b cap cap' xs xs w hl rfl hr1 hr2 (by intro k h h'; simp)
end Go.Proofs.YtlfnibjmkfldgaaGreatDoor
namespace Go.Proofs.YtlfnibjmkfldgaaGreatDoor
def AwakeOk : Prop := ∀ w, Env w → Calls Tryz.prog 12 #[] w fun e w' => e = .returned (.bool true) ∧ New w w'
end Go.Proofs.YtlfnibjmkfldgaaGreatDoor
