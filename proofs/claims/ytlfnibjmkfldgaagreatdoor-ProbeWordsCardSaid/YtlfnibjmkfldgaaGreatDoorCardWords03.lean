/- Part CardWords03. -/
import Derived.Laws.AppendOwnNone
import Derived.Test.YtlfnibjmkfldgaaGreatDoorA29
import Derived.Test.YtlfnibjmkfldgaaGreatDoorA31
import Derived.Test.YtlfnibjmkfldgaaGreatDoorA32
import Derived.Test.YtlfnibjmkfldgaaGreatDoorCardWords01
import Derived.Test.YtlfnibjmkfldgaaGreatDoorCardWords02
namespace Go.Proofs.YtlfnibjmkfldgaaGreatDoor
open Go.RowKit Big
theorem wrapn {z : Int} {k : Nat} (h : z = (k : Int)) (hk : k < 1000000) : IntKind.i64.wrap z = (k : Int) := by
 subst h
 rw [IntKind.wrap_i64]
 omega
theorem wrap64n {z : Int} {k : Nat} (h : z = (k : Int)) (hk : k < 1000000) : wrap64 z = (k : Int) := by
 subst h
 exact ld_in (by omega) (by omega)
theorem power_calls (n : Nat) (w : World) (hn : n ≤ 16) : Calls Tryz.prog 73 #[.int .i64 (n : Int)] w fun e w' => e = .returned (.int .i64 ((2 ^ n : Nat) : Int)) ∧ w' = w := by
 have hni : (n : Int) ≤ 16 := by omega
 go_enter Tryz.func73, Tryz.ntmps73
 go_wp2_with fail
 go_loopw [3, 4] (fun p i wr => ∃ (k q : Nat), k ≤ n ∧ i = .int .i64 (k : Int) ∧ p = .int .i64 (q : Int) ∧ Hid (2 ^ k = q) ∧ wr = w) (fun _ i _ => n - (intOf i).toNat)
 case atStart => exact ⟨0, 1, Nat.zero_le _, rfl, rfl, Lib.hid rfl, rfl⟩
 case round =>
  obtain ⟨k, q, hk, rfl, rfl, HQ, rfl⟩ := hrel
  have hq : q ≤ 65536 := by
   rw [← HQ.out]
   have : 2 ^ k ≤ 2 ^ 16 := Nat.pow_le_pow_right (by decide) (by omega)
   exact this
  by_cases hlt : k < n
  ·have hw1 : wrap64 (2 * (q : Int)) = ((2 * q : Nat) : Int) := by rw [ld_in (by omega) (by omega)]; omega
   have hw2 : IntKind.i64.wrap (2 * (q : Int)) = ((2 * q : Nat) : Int) := by rw [IntKind.wrap_i64]; omega
   go_wp2_with fail
   go_roundw
   case rel => exact ⟨k + 1, 2 * q, by omega, by go_num, rfl, Lib.hid (by rw [Nat.pow_succ, HQ.out]; omega), by first | rfl | trivial⟩
   case measure => simp [intOf]; omega
  ·have hkk : k = n := by omega
   have HKK := Lib.hid hkk
   clear hkk
   go_wp2_with fail
   go_ret
   exact ⟨ret_i64 (by rw [← HKK.out, HQ.out]), rfl⟩
theorem bit_calls (x n : Nat) (w : World) (hx : x < 65536) (hn : n ≤ 15) : Calls Tryz.prog 74 #[.int .u16 (x : Int), .int .i64 (n : Int)] w fun e w' => e = .returned (.bool (bitOf x n)) ∧ New w w' := by
 obtain ⟨q, hq⟩ : ∃ q, 2 ^ n = q := ⟨_, rfl⟩
 have hq0 : 0 < q := by rw [← hq]; exact Nat.pow_pos (by decide)
 have hp := fun W => power_calls n W (by omega)
 simp only [hq] at hp
 have hw0 : IntKind.i64.wrap (x : Int) = (x : Int) := by rw [IntKind.wrap_i64]; omega
 have hw00 : wrap64 (x : Int) = (x : Int) := ld_in (by omega) (by omega)
 have hq1 : (q : Int) ≠ 0 := by omega
 obtain ⟨d, hd⟩ : ∃ d, x / q = d := ⟨_, rfl⟩
 have hdx : d ≤ x := by rw [← hd]; exact Nat.div_le_self _ _
 have hde : (x : Int) / (q : Int) = (d : Int) := by rw [← hd]; simp
 have hdw : wrap64 (d : Int) = (d : Int) := ld_in (by omega) (by omega)
 have hm : Int.tmod (d : Int) 2 = ((d % 2 : Nat) : Int) := by rw [Int.tmod_eq_emod_of_nonneg (by omega)]; omega
 have HP := Lib.hid hp
 have HQ := Lib.hid hq
 clear hp hq
 go_enter Tryz.func74, Tryz.ntmps74
 go_wp2_with fail
 refine (HP.out _).mono ?_
 rintro e w1 ⟨rfl, rfl⟩
 go_wp2_with fail
 go_ret
 refine ⟨ret_bool ?_, New.refl _⟩
 unfold bitOf
 rw [HQ.out, hd]
 have : d % 2 = 0 ∨ d % 2 = 1 := by omega
 rcases this with h | h <;> (try simp [h]) <;> omega
set_option maxRecDepth 100000 in
theorem rline_calls (a : Option Addr) (cap m n : Nat) (xs : List Nat) (w : World) (hm : xs.length = m) (hl : m ≤ 4096) (hx : ∀ x ∈ xs, x < 65536) (hn : n ≤ 15) (hr : RdL w a (words xs)) :
  Calls Tryz.prog 34 #[.slice a m cap, .int .i64 (n : Int)] w (RowRet w 4 (bools (xs.map fun x => bitOf x n))) := by
 obtain ⟨i0, hi0, hz0, hz1, hz2⟩ := info_parts info_bool
 have hmi : (m : Int) ≤ 4096 := by omega
 have hb := fun x W h => bit_calls x n W h hn
 obtain ⟨ys, hys⟩ : ∃ ys, xs.map (fun x => bitOf x n) = ys := ⟨_, rfl⟩
 have hyl : ys.length = m := by rw [← hys]; simpa using hm
 have hyk : ∀ (k : Nat) (h : k < xs.length) (h' : k < ys.length), ys[k] = bitOf xs[k] n := by intro k h h'; simp [← hys]
 rw [hys]
 clear hys
 obtain ⟨F, hF⟩ : ∃ F : Nat → List Value, ∀ k, F k = bools (ys.take k) := ⟨_, fun _ => rfl⟩
 have HR := Lib.hid hr
 have HMM := Lib.hid hm
 have HB := Lib.hid hb
 have HX := Lib.hid hx
 have HYL := Lib.hid hyl
 have HYK := Lib.hid hyk
 have HF := Lib.hid hF
 clear hr hm hb hx hyl hyk hF
 go_enter Tryz.func34, Tryz.ntmps34
 go_wp2_with fail
 go_loopw [5, 6] (fun o i wr => ∃ k : Nat, k ≤ m ∧ i = .int .i64 (k : Int) ∧ Hid (wr.ownsRow w.heap.size 4 1 o (F k).length (F k)) ∧ Hid (New w wr)) (fun _ i _ => m - (intOf i).toNat)
 case atStart => exact ⟨0, Nat.zero_le _, rfl, Lib.hid (by rw [HF.out]; exact World.ownsRow_nil _ _ _ _), Lib.hid (New.refl _)⟩
 case round =>
  obtain ⟨k, hk, rfl, HO, HN⟩ := hrel
  by_cases hlt : k < m
  ·have hk1 : k < xs.length := by rw [HMM.out]; exact hlt
   have hk2 : k < ys.length := by rw [HYL.out]; exact hlt
   obtain ⟨b, off, rfl, hcell⟩ := HR.out.u16 k hk1
   have hxk := HX.out xs[k] (List.getElem_mem hk1)
   have hy := HYK.out k hk1 hk2
   obtain ⟨x, hxe⟩ : ∃ x, xs[k] = x := ⟨_, rfl⟩
   obtain ⟨y, hye⟩ : ∃ y, ys[k] = y := ⟨_, rfl⟩
   rw [hxe] at hcell hxk hy
   rw [hye] at hy
   replace hcell := HN.out.cell hcell
   have hle : (F k).length = k := by rw [HF.out]; simp [bools]; omega
   have hsn : F (k + 1) = F k ++ [.bool y] := by rw [HF.out, HF.out, List.take_succ_eq_append_getElem hk2, hye]; simp [bools]
   clear hxe hye
   have HLE := Lib.hid hle
   have HSN := Lib.hid hsn
   have HXK := Lib.hid hxk
   have HY := Lib.hid hy
   clear hle hsn hxk hy
   go_wp2_with fail
   refine (HB.out x _ HXK.out).mono ?_
   rintro e w1 ⟨rfl, hn⟩
   rw [← HY.out]
   have hO := own_new HO.out hn
   have hN := HN.out.trans hn
   clear HO HN hcell hn
   have HO := Lib.hid hO
   have HN := Lib.hid hN
   clear hO hN
   go_wp2_with (at_builtin; go_loud (refine wpList_append_own _ rfl _ _ 26 rfl w.heap.size 4 i0 (.bool false) 1 1 Tryz.underlying26 hi0 hz0 hz1 hz2 rfl (by decide) _ _ _ rfl (HO.out.alloc _) ⟨w1.heap.size, 0, none⟩ 1 1 [Value.bool y] rfl rfl (one_c1 _ _ _) (by intro u hu; simp at hu; rw [hu]; rfl) (by have := HLE.out; unfold maxLen; omega) (by have := HLE.out; omega) (by have := HN.out.size; rw [← size_alloc]; omega) ?_))
   intro v' w9 hown' hgrow _
   have hN1 := grown_new HN.out HO.out hgrow
   have hO1 := hown'
   rw [← HSN.out] at hO1
   have hO2 : w9.ownsRow w.heap.size 4 1 v' (F (k + 1)).length (F (k + 1)) := by
    have e : (F (k + 1)).length = (F k).length + 1 := by rw [HSN.out]; simp
    rw [e]
    exact hO1
   clear hown' hgrow hO1
   have HN1 := Lib.hid hN1
   have HO1 := Lib.hid hO2
   clear hN1 hO2
   go_wp2_with fail
   go_roundw
   case rel => exact ⟨k + 1, by omega, by go_num, HO1, HN1⟩
   case measure => simp [intOf]; omega
  ·have hkk : k = m := by omega
   have hO := HO.out
   rw [HF.out, List.take_of_length_le (by rw [HYL.out]; omega)] at hO
   have HKK := Lib.hid hkk
   have HOO := Lib.hid hO
   clear hkk hO
   go_wp2_with fail
   go_ret
   exact ⟨_, rfl, HN.out, HOO.out⟩
def linesErr (ls : List (List Bool)) : Int := match ls with
 | [] => 12
 | l0 :: r => if 16 < r.length + 1 ∨ 4096 < l0.length then 5 else if (l0 :: r).all (fun l => l.length == l0.length) then 0 else 2
theorem linesErr_cons {ls : List (List Bool)} (h0 : 0 < ls.length) : linesErr ls = if 16 < ls.length ∨ 4096 < ls[0].length then 5 else if ls.all (fun l => l.length == ls[0].length) then 0 else 2 := by
 cases ls with
 | nil => simp at h0
 | cons l0 r => rfl
theorem lines_facts {ls : List (List Bool)} {l0 : Nat} {r : Int} (h0 : 0 < ls.length) (hl : ls[0].length = l0) (hr : linesErr ls = r) :
  (16 < ls.length → r = 5) ∧ (4096 < l0 → r = 5) ∧ (¬ 16 < ls.length → ¬ 4096 < l0 → (∀ (k : Nat) (h : k < ls.length), ls[k].length ≠ l0 → r = 2) ∧ ((∀ (k : Nat) (h : k < ls.length), ls[k].length = l0) → r = 0)) := by
 rw [linesErr_cons h0, hl] at hr
 refine ⟨fun h => by rw [if_pos (Or.inl h)] at hr; exact hr.symm, fun h => by rw [if_pos (Or.inr h)] at hr; exact hr.symm, fun h1 h2 => ?_⟩
 rw [if_neg (by omega)] at hr
 refine ⟨fun k h h3 => ?_, fun h => ?_⟩
 ·rw [if_neg (by simp only [List.all_eq_true, beq_iff_eq]; intro h4; exact h3 (h4 _ (List.getElem_mem h)))] at hr
  exact hr.symm
 ·rw [if_pos (by
   simp only [List.all_eq_true, beq_iff_eq]
   intro l hl
   obtain ⟨i, hi, rfl⟩ := List.mem_iff_getElem.1 hl
   exact h i hi)] at hr
  exact hr.symm
set_option maxRecDepth 100000 in
theorem rlines_calls (a : Option Addr) (cap N : Nat) (rv : List Value) (ls : List (List Bool)) (w : World) (hr : RdLL w a rv (ls.map bools)) (hN : ls.length = N) (hl : N ≤ 1000000) :
  Calls Tryz.prog 32 #[.slice a N cap] w (RetNew w (linesErr ls)) := by
 have hNi : (N : Int) ≤ 1000000 := by omega
 by_cases h0 : N = 0
 ·subst h0
  obtain rfl : ls = [] := List.eq_nil_of_length_eq_zero hN
  clear hr hN hl
  go_enter Tryz.func32, Tryz.ntmps32
  go_wp2_with fail
  go_ret
  exact ⟨rfl, New.refl _⟩
 have hpos : 0 < ls.length := by omega
 obtain ⟨b, off, a0, c0, rfl, hcell0, -, -⟩ := hr.at 0 (by simpa using hpos)
 obtain ⟨l0, hl0⟩ : ∃ l0, ls[0].length = l0 := ⟨_, rfl⟩
 have hlb : ((ls.map bools)[0]'(by simpa using hpos)).length = l0 := by simp [bools, hl0]
 rw [hlb, Nat.add_zero] at hcell0
 obtain ⟨r, hres⟩ : ∃ r, linesErr ls = r := ⟨_, rfl⟩
 obtain ⟨f1, f2, f3⟩ := lines_facts hpos hl0 hres
 have f1 : 16 < N → r = 5 := fun h => f1 (by rw [hN]; exact h)
 have f3 := fun (h : ¬ 16 < N) => f3 (by rw [hN]; exact h)
 rw [hres]
 have hd0 : ((N : Int) == 0) = false := by rw [beq_eq_false_iff_ne]; omega
 have hN1 : (0 : Int) < (N : Int) := by omega
 have hat : ∀ (k : Nat) (h : k < ls.length), ∃ (a' : Option Addr) (c' : Nat), w.cell? ⟨b, off + k, none⟩ = some (.slice a' ls[k].length c') := fun k h => by
  obtain ⟨b', off', a', c', e, hc, -, -⟩ := hr.at k (by simpa using h)
  injection e with e
  injection e with e1 e2
  subst e1 e2
  have e3 : ((ls.map bools)[k]'(by simpa using h)).length = ls[k].length := by simp [bools]
  rw [e3] at hc
  exact ⟨a', c', hc⟩
 clear hr hlb hl0 hres hpos h0
 have HAT := Lib.hid hat
 have HNN := Lib.hid hN
 clear hat hN
 by_cases h16 : 16 < N
 ·have hi16 : (16 : Int) < (N : Int) := by omega
  have hd16 : decide ((16 : Int) < (N : Int)) = true := decide_eq_true hi16
  obtain rfl := f1 h16
  clear f2 f3 hcell0 h16
  go_enter Tryz.func32, Tryz.ntmps32
  go_wp2_with fail
  go_ret
  exact ⟨rfl, New.refl _⟩
 have hi16 : ¬ (16 : Int) < (N : Int) := by omega
 have hd16 : decide ((16 : Int) < (N : Int)) = false := decide_eq_false hi16
 by_cases h4 : 4096 < l0
 ·have hi4 : (4096 : Int) < (l0 : Int) := by omega
  have hd4 : decide ((4096 : Int) < (l0 : Int)) = true := decide_eq_true hi4
  obtain rfl := f2 h4
  clear f1 f3 h4 h16
  go_enter Tryz.func32, Tryz.ntmps32
  go_wp2_with fail
  go_ret
  exact ⟨rfl, New.refl _⟩
 have hi4 : ¬ (4096 : Int) < (l0 : Int) := by omega
 have hd4 : decide ((4096 : Int) < (l0 : Int)) = false := decide_eq_false hi4
 obtain ⟨f4, f5⟩ := f3 h16 h4
 clear f1 f2 f3 h4 h16
 have hc0 := Lib.hid hcell0
 have F4 := Lib.hid f4
 have F5 := Lib.hid f5
 clear f4 f5
 go_enter Tryz.func32, Tryz.ntmps32
 go_wp2_with fail
 clear hcell0
 go_loopw [3] (fun i wr => ∃ (k : Nat), k ≤ N ∧ i = .int .i64 (k : Int) ∧ Hid (∀ (j : Nat) (h : j < ls.length), j < k → ls[j].length = l0) ∧ Hid (New w wr)) (fun i _ => N - (intOf i).toNat)
 case atStart => exact ⟨0, Nat.zero_le _, rfl, Lib.hid (fun j h h' => by omega), Lib.hid (New.refl _)⟩
 case round =>
  obtain ⟨k, hk, rfl, HK, HN⟩ := hrel
  by_cases hlt : k < N
  ·have hk1 : k < ls.length := by rw [HNN.out]; exact hlt
   obtain ⟨a', c', hcell⟩ := HAT.out k hk1
   obtain ⟨lk, hlk⟩ : ∃ x, ls[k].length = x := ⟨_, rfl⟩
   rw [hlk] at hcell
   replace hcell := HN.out.cell hcell
   have hcell0 := HN.out.cell hc0.out
   by_cases he : lk = l0
   ·have hne : ((l0 : Int) != (l0 : Int)) = false := by simp
    subst he
    have hK2 : ∀ (j : Nat) (h : j < ls.length), j < k + 1 → ls[j].length = lk := fun j h h' => by
     by_cases hjk : j = k
     ·subst hjk; exact hlk
     ·exact HK.out j h (by omega)
    clear hlk
    have HK2 := Lib.hid hK2
    clear hK2
    go_wp2_with fail
    go_quiet (fail)
    go_wp2_with fail
    go_roundw
    case rel => exact ⟨k + 1, by omega, by go_num, HK2, Lib.hid (HN.out.drewN _)⟩
    case measure => simp [intOf]; omega
   ·have hne : ((lk : Int) != (l0 : Int)) = true := by rw [bne_iff_ne]; omega
    obtain rfl := F4.out k hk1 (by rw [hlk]; exact he)
    clear hlk he
    go_wp2_with fail
    go_quiet (fail)
    go_wp2_with fail
    go_ret
    exact ⟨rfl, HN.out.drewN _⟩
  ·have hkk : k = N := by omega
   obtain rfl := F5.out (fun j h => HK.out j h (by rw [hkk, ← HNN.out]; exact h))
   have HKK := Lib.hid hkk
   clear hkk
   go_wp2_with fail
   go_ret
   exact ⟨rfl, HN.out⟩
theorem wordAt_next (ls : List (List Bool)) (t i : Nat) (h : i < ls.length) (s : Nat) (hs : wordAt (ls.take i) t = s) : wordAt (ls.take (i + 1)) t = if ls[i].getD t false then s + 2 ^ i else s := by
 rw [List.take_succ_eq_append_getElem h, wordAt_snoc, hs]
 have hl : (ls.take i).length = i := by rw [List.length_take]; omega
 rw [hl]
 split
 ·have h1 := wordAt_lt t (ls.take i)
  rw [hl, hs] at h1
  have := Nat.two_pow_add_eq_or_of_lt h1 1
  rw [Nat.mul_one] at this
  rw [Nat.or_comm, ← this]
  omega
 ·rfl
set_option maxRecDepth 100000 in
set_option maxHeartbeats 2000000 in
theorem rwords_calls (a : Option Addr) (cap N m : Nat) (rv : List Value) (ls : List (List Bool)) (w : World) (hr : RdLL w a rv (ls.map bools)) (hN : ls.length = N) (h1 : 1 ≤ N) (h16 : N ≤ 16) (hm : ∀ (k : Nat) (h : k < ls.length), ls[k].length = m) (hm4 : m ≤ 4096) :
  Calls Tryz.prog 33 #[.slice a N cap] w (RowRet w 70 (words (wordsOf ls m))) := by
 obtain ⟨i0, hi0, hz0, hz1, hz2⟩ := info_parts info_u16
 have hNi : (N : Int) ≤ 16 := by omega
 have hmi : (m : Int) ≤ 4096 := by omega
 have hpos : 0 < ls.length := by omega
 obtain ⟨b, off, a0, c0, rfl, hcell0, -, -⟩ := hr.at 0 (by simpa using hpos)
 have hlb : ((ls.map bools)[0]'(by simpa using hpos)).length = m := by simp [bools, hm 0 hpos]
 rw [hlb, Nat.add_zero] at hcell0
 have hat : ∀ (k : Nat) (h : k < ls.length), ∃ (a' : Option Addr) (c' : Nat), w.cell? ⟨b, off + k, none⟩ = some (.slice a' m c') ∧ RdL w a' (bools ls[k]) := fun k h => by
  obtain ⟨b', off', a', c', e, hc, hrd, -⟩ := hr.at k (by simpa using h)
  injection e with e
  injection e with e1 e2
  subst e1 e2
  have e3 : ((ls.map bools)[k]'(by simpa using h)).length = m := by simp [bools, hm k h]
  rw [e3] at hc
  exact ⟨a', c', hc, by simpa using hrd⟩
 have hc0 := Lib.hid hcell0
 obtain ⟨ys, hys⟩ : ∃ ys, wordsOf ls m = ys := ⟨_, rfl⟩
 have hyl : ys.length = m := by rw [← hys]; simp [wordsOf]
 have hyk : ∀ (k : Nat) (h' : k < ys.length), ys[k] = wordAt ls k := by intro k h'; simp [← hys, wordsOf]
 rw [hys]
 clear hys hr hlb hcell0
 obtain ⟨F, hF⟩ : ∃ F : Nat → List Value, ∀ k, F k = words (ys.take k) := ⟨_, fun _ => rfl⟩
 have HAT := Lib.hid hat
 have HNN := Lib.hid hN
 have HM := Lib.hid hm
 have HYL := Lib.hid hyl
 have HYK := Lib.hid hyk
 have HF := Lib.hid hF
 clear hat hN hm hyl hyk hF
 go_enter Tryz.func33, Tryz.ntmps33
 go_wp2_with fail
 go_loopw [3, 4] (fun o i wr => ∃ k : Nat, k ≤ m ∧ i = .int .i64 (k : Int) ∧ Hid (wr.ownsRow w.heap.size 70 1 o (F k).length (F k)) ∧ Hid (New w wr)) (fun _ i _ => m - (intOf i).toNat)
 case atStart => exact ⟨0, Nat.zero_le _, rfl, Lib.hid (by rw [HF.out]; exact World.ownsRow_nil _ _ _ _), Lib.hid (New.refl _)⟩
 case round =>
  obtain ⟨k, hk, rfl, HO, HN⟩ := hrel
  have hcell0 := HN.out.cell hc0.out
  by_cases hlt : k < m
  ·go_wp2_with fail
   clear hcell0
   obtain ⟨w5, hw5⟩ : ∃ x, x = wr := ⟨_, rfl⟩
   rw [← hw5] at HO HN ⊢
   clear hw5
   go_loopw [5, 6] (fun n i wr => ∃ (j s : Nat), j ≤ N ∧ i = .int .i64 (j : Int) ∧ n = .int .i64 (s : Int) ∧ Hid (wordAt (ls.take j) k = s) ∧ wr = w5) (fun _ i _ => N - (intOf i).toNat)
   case atStart => exact ⟨0, 0, Nat.zero_le _, rfl, rfl, Lib.hid rfl, rfl⟩
   case round =>
    obtain ⟨j, s, hj, rfl, rfl, HS, rfl⟩ := hrel
    have hs64 : s < 65536 := by
     have h1 := wordAt_lt k (ls.take j)
     rw [HS.out] at h1
     have h2 : (ls.take j).length ≤ 16 := by rw [List.length_take, HNN.out]; omega
     have h3 : 2 ^ (ls.take j).length ≤ 2 ^ 16 := Nat.pow_le_pow_right (by decide) h2
     exact Nat.lt_of_lt_of_le h1 h3
    by_cases hjn : j < N
    ·have hj1 : j < ls.length := by rw [HNN.out]; exact hjn
     obtain ⟨a', c', hcell, hrd⟩ := HAT.out j hj1
     have hkl : k < ls[j].length := by rw [HM.out]; exact hlt
     obtain ⟨b2, off2, rfl, hcell2⟩ := hrd.bool k hkl
     obtain ⟨x, hx⟩ : ∃ x, (ls[j])[k] = x := ⟨_, rfl⟩
     rw [hx] at hcell2
     replace hcell := HN.out.cell hcell
     replace hcell2 := HN.out.cell hcell2
     have hnx := wordAt_next ls k j hj1 s HS.out
     have hgd : ls[j].getD k false = x := by rw [← hx]; simp [hkl]
     rw [hgd] at hnx
     have hp := fun W => power_calls j W (by omega)
     obtain ⟨q, hq⟩ : ∃ q, 2 ^ j = q := ⟨_, rfl⟩
     have hq64 : q ≤ 32768 := by
      rw [← hq]
      have : 2 ^ j ≤ 2 ^ 15 := Nat.pow_le_pow_right (by decide) (by omega)
      exact this
     simp only [hq] at hp hnx
     have hsq : s + q < 1000000 := by omega
     have hw1 : wrap64 ((s : Int) + (q : Int)) = ((s + q : Nat) : Int) := wrap64n (Int.natCast_add s q).symm hsq
     have hw2 : IntKind.i64.wrap ((s : Int) + (q : Int)) = ((s + q : Nat) : Int) := wrapn (Int.natCast_add s q).symm hsq
     clear hx hgd hq hrd
     cases x with
     | true =>
      simp only [if_true] at hnx
      have HNX := Lib.hid hnx
      have HP := Lib.hid hp
      clear hnx hp
      go_wp2_with fail
      refine (HP.out _).mono ?_
      rintro e w1 ⟨rfl, rfl⟩
      go_wp2_with fail
      go_roundw
      case rel => exact ⟨j + 1, s + q, by omega, by go_num, rfl, HNX, by first | rfl | trivial⟩
      case measure => simp [intOf]; omega
     | false =>
      simp only [Bool.false_eq_true, if_false] at hnx
      have HNX := Lib.hid hnx
      have HP := Lib.hid hp
      clear hnx hp
      go_wp2_with fail
      go_roundw
      case rel => exact ⟨j + 1, s, by omega, by go_num, rfl, HNX, by first | rfl | trivial⟩
      case measure => simp [intOf]; omega
    ·have hjj : j = N := by omega
     have hk2 : k < ys.length := by rw [HYL.out]; exact hlt
     have hws : ys[k] = s := by
      rw [HYK.out k hk2, ← HS.out, List.take_of_length_le (by rw [HNN.out]; omega)]
     have hwu : IntKind.u16.wrap (s : Int) = (s : Int) := wrap16_in hs64
     have hle : (F k).length = k := by rw [HF.out]; simp [words]; omega
     have hsn : F (k + 1) = F k ++ [.int .u16 (s : Int)] := by rw [HF.out, HF.out, List.take_succ_eq_append_getElem hk2, hws]; simp [words]
     clear hws
     have HLE := Lib.hid hle
     have HSN := Lib.hid hsn
     have HJJ := Lib.hid hjj
     clear hle hsn hjj
     go_wp2_with (at_builtin; go_loud (refine wpList_append_own _ rfl _ _ 58 rfl w.heap.size 70 i0 (.int .u16 0) 1 2 Tryz.underlying58 hi0 hz0 hz1 hz2 rfl (by decide) _ _ _ rfl (HO.out.alloc _) ⟨wr.heap.size, 0, none⟩ 1 1 [Value.int .u16 (s : Int)] rfl rfl (one_c1 _ _ _) (by intro u hu; simp at hu; rw [hu]; rfl) (by have := HLE.out; unfold maxLen; omega) (by have := HLE.out; omega) (by have := HN.out.size; rw [← size_alloc]; omega) ?_))
     intro v' w9 hown' hgrow _
     have hN1 := grown_new HN.out HO.out hgrow
     have hO1 := hown'
     rw [← HSN.out] at hO1
     have hO2 : w9.ownsRow w.heap.size 70 1 v' (F (k + 1)).length (F (k + 1)) := by
      have e : (F (k + 1)).length = (F k).length + 1 := by rw [HSN.out]; simp
      rw [e]
      exact hO1
     clear hown' hgrow hO1
     have HN1 := Lib.hid hN1
     have HO1 := Lib.hid hO2
     clear hN1 hO2
     go_wp2_with fail
     go_roundw
     case rel => exact ⟨k + 1, by omega, by go_num, HO1, HN1⟩
     case measure => simp [intOf]; omega
  ·have hkk : k = m := by omega
   have hO := HO.out
   rw [HF.out, List.take_of_length_le (by rw [HYL.out]; omega)] at hO
   have HKK := Lib.hid hkk
   have HOO := Lib.hid hO
   clear hkk hO
   go_wp2_with fail
   go_ret
   exact ⟨_, rfl, HN.out, HOO.out⟩
end Go.Proofs.YtlfnibjmkfldgaaGreatDoor
