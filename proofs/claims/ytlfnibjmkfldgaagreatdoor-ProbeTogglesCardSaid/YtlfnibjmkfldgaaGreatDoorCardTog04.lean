/- Part CardTog04. -/
import Derived.Laws.AppendOwnNone
import Derived.Deep.DeepCutAuto
import Derived.Test.YtlfnibjmkfldgaaGreatDoorA16
import Derived.Test.YtlfnibjmkfldgaaGreatDoorA24
import Derived.Test.YtlfnibjmkfldgaaGreatDoorA29
import Derived.Test.YtlfnibjmkfldgaaGreatDoorA32
import Derived.Test.YtlfnibjmkfldgaaGreatDoorA33
import Derived.Test.YtlfnibjmkfldgaaGreatDoorCardTog01
import Derived.Test.YtlfnibjmkfldgaaGreatDoorCardTog02
import Derived.Test.YtlfnibjmkfldgaaGreatDoorCardTog03
namespace Go.Proofs.YtlfnibjmkfldgaaGreatDoor
open Go.RowKit Big
def digL (xs : List Nat) (lo hi : Nat) (v : Bool) : List Bool := if digitalErr xs lo hi = 0 then keepL lo hi v xs else []
theorem rdl_nil (w : World) (a : Option Addr) : RdL w a [] := fun i hi => by simp at hi
theorem samples_len {xs : List Nat} (h : samplesErr xs = 0) : xs.length ≤ 4096 ∧ xs.all isFin = true := by
 unfold samplesErr at h
 split at h
 ·cases h
 ·split at h
  ·exact ⟨by omega, by assumption⟩
  ·cases h
theorem digital_len {xs : List Nat} {lo hi : Nat} (h : digitalErr xs lo hi = 0) : xs.length ≤ 4096 ∧ xs.all isFin = true ∧ isFin lo = true ∧ isFin hi = true ∧ geqF lo hi = false := by
 unfold digitalErr at h
 split at h
 ·rename_i h1
  obtain ⟨h2, h3⟩ := samples_len h1
  unfold levelsErr at h
  split at h
  ·rename_i h4
   have h5 := (samples_len h4).2
   simp at h5
   split at h
   ·cases h
   ·rename_i h6
    exact ⟨h2, h3, h5.1, h5.2, by simpa using h6⟩
  ·rename_i h4
   exact absurd h h4
 ·rename_i h1
  exact absurd h h1
theorem pdig_calls (a : Option Addr) (cap n : Nat) (xs : List Nat) (lo hi : Nat) (v : Bool) (w : World) (hn : xs.length = n) (hl : n ≤ 9223372036854775807) (hr : RdL w a (flts xs)) :
  Calls Tryz.prog 13 #[.slice a n cap, .agg #[.float .f32 lo, .float .f32 hi], .bool v] w fun e w' => ∃ (a' : Option Addr) (c' : Nat), e = .returned (.tuple #[.slice a' (digL xs lo hi v).length c', .int .i64 (digitalErr xs lo hi)]) ∧ New w w' ∧ RdL w' a' (bools (digL xs lo hi v)) := by
 subst hn
 unfold digL
 by_cases h : digitalErr xs lo hi = 0
 ·rw [if_pos h, h]
  refine (digital_ok a cap xs lo hi v w (digital_len h).1 hr h).mono fun e w' hp => ?_
  exact hp.rd _ (by simp [bools])
 ·rw [if_neg h]
  refine (digital_bad a cap xs lo hi v w hl hr h).mono fun e w' hp => ?_
  exact ⟨none, 0, hp.1, hp.2, rdl_nil _ _⟩
theorem sameb_self (a b : Option Addr) (cap cap' : Nat) (xs : List Bool) (w : World) (hl : xs.length ≤ 1000000) (hr1 : RdL w a (bools xs)) (hr2 : RdL w b (bools xs)) :
  Calls Tryz.prog 22 #[.slice a xs.length cap, .slice b xs.length cap'] w fun e w' => e = .returned (.bool true) ∧ New w w' :=
 same_bools a b cap cap' xs xs w hl rfl hr1 hr2 (by intro k h h'; simp)
end Go.Proofs.YtlfnibjmkfldgaaGreatDoor
namespace Go.Proofs.YtlfnibjmkfldgaaGreatDoor
def AwakeOk : Prop := ∀ w, Env w → Calls Tryz.prog 12 #[] w fun e w' => e = .returned (.bool true) ∧ New w w'
end Go.Proofs.YtlfnibjmkfldgaaGreatDoor
namespace Go.Proofs.YtlfnibjmkfldgaaGreatDoor
open Go.RowKit Big
def fromL (m : Nat) (n : Int) (ts : List Int) (b : Bool) : List Bool := if changesErr m n ts = 0 then (fromS ts b n.toNat).2.2 else []
theorem changes_front {m : Nat} {n : Int} {ts : List Int} : (fromErr m n ≠ 0 → changesErr m n ts = fromErr m n) ∧ (fromErr m n = 0 → m ≤ 4096 ∧ 0 ≤ n ∧ n ≤ 4096 ∧ changesErr m n ts = chkFrom n none ts) := by
 unfold fromErr changesErr
 by_cases h : 4096 < m
 ·rw [if_pos h, if_pos h]
  exact ⟨fun _ => rfl, fun h => by omega⟩
 ·rw [if_neg h, if_neg h]
  by_cases h2 : n < 0 ∨ 4096 < n
  ·have ho : outside n 0 4096 = true := by
    simp only [outside, Bool.or_eq_true, decide_eq_true_eq]
    omega
   rw [ho, if_pos h2]
   exact ⟨fun _ => rfl, fun h => by simp at h⟩
  ·have ho : outside n 0 4096 = false := by
    simp only [outside, Bool.or_eq_false_iff, decide_eq_false_iff_not]
    omega
   rw [ho, if_neg h2]
   exact ⟨fun h => absurd rfl h, fun _ => ⟨by omega, by omega, by omega, rfl⟩⟩
theorem pfrom_calls (a : Option Addr) (cap m : Nat) (ts : List Int) (b0 : Bool) (n : Int) (w : World) (hm : ts.length = m) (hl : m ≤ 1000000) (hcap : m ≤ cap) (hr : RdL w a (ints ts)) :
  Calls Tryz.prog 42 #[.slice a m cap, .bool b0, .int .i64 n] w fun e w' => ∃ (a' : Option Addr) (c' : Nat), e = .returned (.tuple #[.slice a' (fromL m n ts b0).length c', .int .i64 (changesErr m n ts)]) ∧ New w w' ∧ RdL w' a' (bools (fromL m n ts b0)) := by
 obtain ⟨h1, h2⟩ := @changes_front m n ts
 by_cases h0 : fromErr m n = 0
 ·obtain ⟨h3, h4, h5, h6⟩ := h2 h0
  obtain ⟨k, rfl⟩ : ∃ k : Nat, n = k := ⟨n.toNat, by omega⟩
  unfold fromL
  rw [h6, Int.toNat_natCast]
  obtain ⟨r, hr'⟩ : ∃ r, chkFrom (k : Int) none ts = r := ⟨_, rfl⟩
  rw [hr']
  refine (from_main a cap m k ts b0 w hm h3 hcap (by omega) hr r hr').mono fun e w' hp => ?_
  obtain ⟨v, rfl, hn, hb, hg⟩ := hp
  by_cases hr0 : r = 0
  ·obtain ⟨B, c, rfl, hrd⟩ := hg hr0
   rw [if_pos hr0]
   exact ⟨_, c, by rw [(fromS_len ts b0 k).1], hn, hrd⟩
  ·rw [if_neg hr0, hb hr0]
   exact ⟨none, 0, rfl, hn, rdl_nil _ _⟩
 ·have h3 := h1 h0
  unfold fromL
  rw [h3, if_neg h0]
  refine (from_bad a m cap b0 n w hl h0).mono fun e w' hp => ?_
  exact ⟨none, 0, hp.1, hp.2, rdl_nil _ _⟩
end Go.Proofs.YtlfnibjmkfldgaaGreatDoor
