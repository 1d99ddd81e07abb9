/- Part A03. -/
import Derived.Test.YtlfnibjmkfldgaaGreatDoorA02
namespace Go.Proofs.YtlfnibjmkfldgaaGreatDoor
open Go.RowKit Big
theorem wrap_u64_nat (n : Nat) : IntKind.u64.wrap (n : Int) = ((n % W64 : Nat) : Int) := by
 have := IntKind.wrap_u64 (n : Int)
 unfold W64
 rw [this]; omega
theorem pow_le_w64 {s : Nat} (hs : s < 64) : 2 ^ s ≤ W64 := Nat.pow_le_pow_right (by omega) (by omega : s ≤ 64)
theorem w64_split {s : Nat} (hs : s < 64) : W64 = 2 ^ (64 - s) * 2 ^ s := by
 rw [← Nat.pow_add, Nat.sub_add_cancel (by omega)]
theorem shl_or {s x c : Nat} (hs : s < 64) (hc : c < 2 ^ s) : bits .or .u64 (c : Int) (IntKind.u64.wrap ((x : Int) * 2 ^ s)) = ((x * 2 ^ s % W64 + c : Nat) : Int) := by
 have e1 : ((x : Int) * 2 ^ s) = ((x * 2 ^ s : Nat) : Int) := by rw [Int.natCast_mul, Int.natCast_pow]; rfl
 have hcw : c < 18446744073709551616 := Nat.lt_of_lt_of_le hc (pow_le_w64 hs)
 have hxw : x * 2 ^ s % W64 < 18446744073709551616 := Nat.mod_lt _ (by decide)
 rw [e1, wrap_u64_nat, u64_or_nat c _ hcw hxw]
 congr 1
 have e2 : x * 2 ^ s % W64 = 2 ^ s * (x % 2 ^ (64 - s)) := by rw [w64_split hs, Nat.mul_mod_mul_right, Nat.mul_comm]
 rw [e2, Nat.or_comm, ← Nat.two_pow_add_eq_or_of_lt hc]
theorem shr_left {s x : Nat} (hs : s < 64) : x / 2 ^ (64 - s) = x * 2 ^ s / W64 := by
 rw [w64_split hs, Nat.mul_div_mul_right _ _ (Nat.pow_pos (by omega))]
theorem shr_cast {s x : Nat} : (x : Int) / 2 ^ (64 - s) = ((x / 2 ^ (64 - s) : Nat) : Int) := by
 rw [Int.natCast_ediv, Int.natCast_pow]; rfl
theorem shr_lt {s x : Nat} (hs : s < 64) (hx : x < W64) : x / 2 ^ (64 - s) < 2 ^ s := by
 rw [Nat.div_lt_iff_lt_mul (Nat.pow_pos (by omega)), Nat.mul_comm, ← w64_split hs]; exact hx
theorem shl_digit {k M c x lo c' : Nat} {o f : Nat → Nat} (h : vf W64 o (k + 1) = vf W64 f k * M) (hc : o k = c) (hx : f k = x) (hs : lo + W64 * c' = x * M + c) :
  vf W64 (upd (upd o k lo) (k + 1) c') (k + 1 + 1) = vf W64 f (k + 1) * M := by
 rw [vf_succ, upd_same, vf_upd_above (Nat.le_refl _)]
 refine shl_step (o := upd o k lo) (w := f) (c := c) ?_ ?_
 ·rw [vf_upd_above (Nat.le_refl _), ← h, vf_succ, hc]
 ·rw [upd_same, hx]; exact hs
set_option maxHeartbeats 400000 in
theorem shiftUp_any (a : Option Addr) (m ca s : Nat) (f : Nat → Nat) (w : World) (hm : m ≤ 1000000) (hs : s < 64) (ha : Rd w a .u64 m f) (hfl : ∀ i, i < m → f i < W64) :
  Calls Tryz.prog 185 #[.slice a m ca, .int .i64 s] w fun e w' => ∃ h, e = .returned (.slice (some ⟨w.heap.size, 0, none⟩) (m + 1) (m + 1)) ∧ New w w' ∧ Row w' w.heap.size 191 .u64 (m + 1) h ∧ (∀ j, h j < W64) ∧ vf W64 h (m + 1) = vf W64 f m * 2 ^ s := by
 have hmk := fun W => run_make_row' (P := Tryz.prog) 136 191 (.int .u64 0) 8 Tryz.underlying136 info_u64 rfl .i64 .i64 (m + 1) (by omega) (by omega) W
 rw [show ((m + 1 : Nat) : Int) = (m : Int) + 1 by omega] at hmk
 have hsplit : s = 0 ∨ 0 < s := by omega
 rcases hsplit with rfl | hs0
 all_goals
  go_enter Tryz.func185, Tryz.ntmps185
  go_wp2
  clear hmk
  obtain ⟨B, hB⟩ : ∃ B, B = w.heap.size := ⟨_, rfl⟩
  have hrow0 := Row.made w .u64 (m + 1) 191
  have hnew0 : New w (w.alloc (.cells (madeCells #[.int .u64 0] (m + 1)) 191)) := (New.refl w).alloc _
  rw [← hB] at hrow0 ⊢
  generalize w.alloc (.cells (madeCells #[.int .u64 0] (m + 1)) 191) = w0 at hrow0 hnew0 ⊢
  have HB := Lib.hid hB; clear hB
 ·go_loopw [14] (fun i wr => ∃ (k : Nat) (o : Nat → Nat), k ≤ m ∧ i = .int .i64 k ∧ Row wr B 191 .u64 (m + 1) o ∧ (∀ j, o j < W64) ∧ (∀ j, k ≤ j → o j = 0) ∧ vf W64 o k = vf W64 f k ∧ New w wr) (fun i _ => m - (intOf i).toNat)
  case atStart => exact ⟨0, fun _ => 0, Nat.zero_le _, rfl, hrow0, fun _ => by simp [W64], fun _ _ => rfl, rfl, hnew0⟩
  case round =>
   obtain ⟨k, o, hk, rfl, hrow, hol, hz, hval, hnew⟩ := hrel
   have HV := Lib.hid hval
   have HZ := Lib.hid hz
   have HO := Lib.hid hol
   clear hval hrow0 hnew0 hz
   by_cases hkm : k < m
   ·obtain ⟨b1, o1, rfl, h1⟩ := (ha.new hnew) k hkm
    have hf0 := hfl k hkm
    have hcell := hrow.cell (i := k) (by omega)
    have hfr := hrow.frozen k
    clear ha hfl hol
    go_wp2
    go_region
    go_wp2
    clear hcell hfr h1
    go_roundw
    case rel =>
     have e := shl_or (s := 0) (x := f k) (c := o k) (by omega) (by rw [HZ.out k (Nat.le_refl _)]; decide)
     simp only [Int.pow_zero, Int.mul_one, Nat.pow_zero, Nat.mul_one] at e
     rw [HZ.out k (Nat.le_refl _), Nat.mod_eq_of_lt hf0, Nat.add_zero] at e
     refine ⟨k + 1, upd o k (f k), by omega, by go_num, ?_, upd_lt HO.out hf0, fun j hj => ?_, ?_, (hnew.setCell (Nat.le_of_eq HB.out.symm) _).drew⟩
     ·refine Row.drew (row_int hrow ?_)
      rw [HZ.out k (Nat.le_refl _)]
      first | exact e | (simp only [Int.pow_zero, Int.mul_one]; exact e)
     ·rw [upd_other _ _ (by omega)]; exact HZ.out j (by omega)
     ·rw [vf_succ, upd_same, vf_upd_above (Nat.le_refl _), HV.out, vf_succ]
    case measure => simp [intOf]; omega
   ·obtain rfl : k = m := by omega
    clear hol ha hfl
    go_wp2
    go_ret
    refine ⟨o, by rw [HB.out]; rfl, hnew, by rw [← HB.out]; exact hrow, HO.out, ?_⟩
    rw [vf_succ, HZ.out k (Nat.le_refl _), HV.out]; simp
 ·go_loopw [14] (fun i wr => ∃ (k : Nat) (o : Nat → Nat), k ≤ m ∧ i = .int .i64 k ∧ Row wr B 191 .u64 (m + 1) o ∧ (∀ j, o j < W64) ∧ o k < 2 ^ s ∧ vf W64 o (k + 1) = vf W64 f k * 2 ^ s ∧ New w wr) (fun i _ => m - (intOf i).toNat)
  case atStart => exact ⟨0, fun _ => 0, Nat.zero_le _, rfl, hrow0, fun _ => by simp [W64], Nat.pow_pos (by omega), by simp [vf], hnew0⟩
  case round =>
   obtain ⟨k, o, hk, rfl, hrow, hol, hz, hval, hnew⟩ := hrel
   have HV := Lib.hid hval
   have HZ := Lib.hid hz
   have HO := Lib.hid hol
   clear hval hrow0 hnew0 hz
   by_cases hkm : k < m
   ·obtain ⟨b1, o1, rfl, h1⟩ := (ha.new hnew) k hkm
    have hf0 := hfl k hkm
    have hcell := hrow.cell (i := k) (by omega)
    have hfr := hrow.frozen k
    have hcell2 := hrow.cell (i := k + 1) (by omega)
    have hfr2 := hrow.frozen (k + 1)
    clear ha hfl hol
    go_wp2
    go_region
    go_wp2
    clear hcell hfr hcell2 hfr2 h1
    go_roundw
    case rel =>
     have e := shl_or (s := s) (x := f k) (c := o k) hs HZ.out
     have hlo : f k * 2 ^ s % W64 + o k < W64 := by
      have h1 : f k * 2 ^ s % W64 = 2 ^ s * (f k % 2 ^ (64 - s)) := by rw [w64_split hs, Nat.mul_mod_mul_right, Nat.mul_comm]
      have h2 : f k % 2 ^ (64 - s) + 1 ≤ 2 ^ (64 - s) := Nat.mod_lt _ (Nat.pow_pos (by omega))
      have h3 : 2 ^ s * (f k % 2 ^ (64 - s) + 1) ≤ 2 ^ s * 2 ^ (64 - s) := Nat.mul_le_mul_left _ h2
      rw [Nat.mul_add, Nat.mul_one, Nat.mul_comm _ (2 ^ (64 - s)), ← w64_split hs] at h3
      have := HZ.out
      omega
     have hhi := shr_lt hs hf0
     refine ⟨k + 1, upd (upd o k (f k * 2 ^ s % W64 + o k)) (k + 1) (f k / 2 ^ (64 - s)), by omega, by go_num, ?_, upd_lt (upd_lt HO.out hlo) ?_, ?_, ?_, ((hnew.setCell (Nat.le_of_eq HB.out.symm) _).setCell (Nat.le_of_eq HB.out.symm) _).drew⟩
     ·exact Row.drew (row_int (row_int hrow e) shr_cast)
     ·exact Nat.lt_of_lt_of_le hhi (pow_le_w64 hs)
     ·rw [upd_same]; exact hhi
     ·refine shl_digit HV.out rfl rfl ?_
      rw [shr_left hs]
      have := Nat.mod_add_div (f k * 2 ^ s) W64
      omega
    case measure => simp [intOf]; omega
   ·obtain rfl : k = m := by omega
    clear hol ha hfl
    go_wp2
    go_ret
    exact ⟨o, by rw [HB.out]; rfl, hnew, by rw [← HB.out]; exact hrow, HO.out, HV.out⟩
end Go.Proofs.YtlfnibjmkfldgaaGreatDoor
namespace Go.Proofs.YtlfnibjmkfldgaaGreatDoor
open Go.RowKit Big
abbrev B32 : Nat := 4294967296
structure Half (u d v yn1 yn0 q r : Nat) : Prop where
 rest : q * yn1 + r = u
 ge : u * B32 + d < (q + 1) * v
 le : q ≤ B32 + 1
 small : r < B32
structure Done (u d v q : Nat) : Prop where
 le : q * v ≤ u * B32 + d
 ge : u * B32 + d < (q + 1) * v
section
variable {u d v yn1 yn0 q r : Nat} (hv : v = yn1 * B32 + yn0) (h0 : yn0 < B32) (h1 : B32 ≤ 2 * yn1) (h1' : yn1 < B32) (hu : u < v) (hd : d < B32)
include hv h0 h1 h1' hu hd in
theorem Half.start : Half u d v yn1 yn0 (u / yn1) (u - u / yn1 * yn1) := by
 have hpos : 0 < yn1 := by omega
 have e1 := Nat.div_mul_le_self u yn1
 have e2 : u < u / yn1 * yn1 + yn1 := Nat.lt_div_mul_add hpos
 refine ⟨by omega, ?_, ?_, by omega⟩
 ·rw [Nat.add_mul, Nat.one_mul]
  have h2 : u / yn1 * v = u / yn1 * yn1 * B32 + u / yn1 * yn0 := by rw [hv, Nat.mul_add, Nat.mul_assoc]
  rw [h2]
  unfold B32 at *
  omega
 ·have : u / yn1 < B32 + 2 := by
   rw [Nat.div_lt_iff_lt_mul hpos]
   rw [Nat.add_mul, Nat.mul_comm B32]
   omega
  omega
include hv hu hd in
theorem Half.down (h : Half u d v yn1 yn0 q r) (ht : B32 ≤ q ∨ B32 * r + d < q * yn0) : 0 < q ∧ u * B32 + d < (q - 1 + 1) * v := by
 have hbad : u * B32 + d < q * v := by
  rcases ht with ht | ht
  ·have : B32 * v ≤ q * v := Nat.mul_le_mul_right _ ht
   have h2 : (u + 1) * B32 ≤ v * B32 := Nat.mul_le_mul_right _ hu
   rw [Nat.add_mul, Nat.mul_comm v] at h2
   omega
  ·have e : q * v = q * yn1 * B32 + q * yn0 := by rw [hv, Nat.mul_add, Nat.mul_assoc]
   have h3 : u * B32 = q * yn1 * B32 + r * B32 := by rw [← h.rest, Nat.add_mul]
   rw [e, h3, Nat.mul_comm r B32]; omega
 have hq : 0 < q := by
  rcases Nat.eq_zero_or_pos q with e | e
  ·subst e; omega
  ·exact e
 exact ⟨hq, by rw [Nat.sub_add_cancel hq]; exact hbad⟩
include hv in
theorem Half.fits (h : Half u d v yn1 yn0 q r) (ht : q * yn0 ≤ B32 * r + d) : Done u d v q := by
 refine ⟨?_, h.ge⟩
 have e : q * v = q * yn1 * B32 + q * yn0 := by rw [hv, Nat.mul_add, Nat.mul_assoc]
 have h3 : u * B32 = q * yn1 * B32 + r * B32 := by rw [← h.rest, Nat.add_mul]
 rw [e, h3, Nat.mul_comm r B32]; omega
include hv h0 hu hd in
theorem Half.next (h : Half u d v yn1 yn0 q r) (ht : B32 ≤ q ∨ B32 * r + d < q * yn0) : 0 < q ∧ (r + yn1 < B32 → Half u d v yn1 yn0 (q - 1) (r + yn1)) ∧ (B32 ≤ r + yn1 → Done u d v (q - 1)) := by
 obtain ⟨hq, hge⟩ := h.down hv hu hd ht
 obtain ⟨k, rfl⟩ : ∃ k, q = k + 1 := ⟨q - 1, by omega⟩
 have hr : k * yn1 + (r + yn1) = u := by have := h.rest; rw [Nat.add_mul, Nat.one_mul] at this; omega
 simp only [Nat.add_sub_cancel] at hge ⊢
 refine ⟨hq, fun h2 => ⟨hr, hge, by have := h.le; omega, h2⟩, fun h2 => ⟨?_, hge⟩⟩
 have e : k * v = k * yn1 * B32 + k * yn0 := by rw [hv, Nat.mul_add, Nat.mul_assoc]
 have h3 : u * B32 = k * yn1 * B32 + (r + yn1) * B32 := by rw [← hr, Nat.add_mul]
 have h4 : k * yn0 ≤ B32 * (B32 - 1) := Nat.mul_le_mul (by have := h.le; omega) (by omega)
 have h5 : B32 * B32 ≤ (r + yn1) * B32 := Nat.mul_le_mul_right _ h2
 rw [e, h3]
 unfold B32 at *
 omega
end
theorem Done.lt {u d v q : Nat} (h : Done u d v q) (hu : u < v) (hd : d < B32) : q < B32 := by
 have h1 := h.le
 have h2 : (u + 1) * B32 ≤ v * B32 := Nat.mul_le_mul_right _ hu
 rcases Nat.lt_or_ge q B32 with h3 | h3
 ·exact h3
 ·have h4 : B32 * v ≤ q * v := Nat.mul_le_mul_right _ h3
  rw [Nat.add_mul, Nat.mul_comm v] at h2
  omega
theorem Done.rest {u d v q : Nat} (h : Done u d v q) : u * B32 + d - q * v < v := by
 have h1 := h.le
 have h2 := h.ge
 rw [Nat.add_mul, Nat.one_mul] at h2
 omega
theorem bits_mask32 (n : Nat) (hn : n < W64) : bits .and .u64 (n : Int) 4294967295 = ((n % B32 : Nat) : Int) := by
 have := u64_and_nat n 4294967295 hn (by decide)
 have e : (n &&& 4294967295) = n % B32 := Nat.and_two_pow_sub_one_eq_mod n 32
 rw [e] at this
 exact this
theorem shl_in {x s : Nat} (h : x * 2 ^ s < W64) : IntKind.u64.wrap ((x : Int) * 2 ^ s) = ((x * 2 ^ s : Nat) : Int) := by
 have e1 : ((x : Int) * 2 ^ s) = ((x * 2 ^ s : Nat) : Int) := by rw [Int.natCast_mul, Int.natCast_pow]; rfl
 rw [e1, wrap_u64_nat, Nat.mod_eq_of_lt h]
theorem shl_mod {x s : Nat} : IntKind.u64.wrap ((x : Int) * 2 ^ s) = ((x * 2 ^ s % W64 : Nat) : Int) := by
 have e1 : ((x : Int) * 2 ^ s) = ((x * 2 ^ s : Nat) : Int) := by rw [Int.natCast_mul, Int.natCast_pow]; rfl
 rw [e1, wrap_u64_nat]
theorem join_high {hi lo s : Nat} (hs : s < 64) (hlo : lo < W64) (h : hi * 2 ^ s + 2 ^ s ≤ W64) : bits .or .u64 (IntKind.u64.wrap ((hi : Int) * 2 ^ s)) ((lo : Int) / 2 ^ (64 - s)) = ((hi * 2 ^ s + lo * 2 ^ s / W64 : Nat) : Int) := by
 have hl := shr_lt hs hlo
 have hp : 0 < 2 ^ s := Nat.pow_pos (by omega)
 rw [shl_in (by omega), shr_cast, u64_or_nat _ _ (by unfold W64 at h; omega) (by unfold W64 at h; omega)]
 congr 1
 rw [← shr_left hs, Nat.mul_comm hi, ← Nat.two_pow_add_eq_or_of_lt hl]
theorem un21_in {u d v q : Nat} (_hu : u < W64) (_hd : d < B32) (hv : v < W64) (h : Done u d v q) :
  IntKind.u64.wrap (IntKind.u64.wrap (IntKind.u64.wrap ((u : Int) * 4294967296) + d) - IntKind.u64.wrap ((q : Int) * v)) = ((u * B32 + d - q * v : Nat) : Int) := by
 have h1 := h.le
 have h2 := h.rest
 have e : ((q : Int) * v) = ((q * v : Nat) : Int) := by rw [Int.natCast_mul]
 rw [e]
 generalize q * v = p at *
 simp only [IntKind.wrap_u64]
 unfold B32 W64 at *
 omega
end Go.Proofs.YtlfnibjmkfldgaaGreatDoor
namespace Go.Proofs.YtlfnibjmkfldgaaGreatDoor
open Go.RowKit Big
theorem half_prod {q yn0 : Nat} (h : q ≤ B32 + 1) (h0 : yn0 < B32) : ∃ p : Nat, p = q * yn0 ∧ IntKind.u64.wrap ((q : Int) * yn0) = p := by
 have hp1 : q * yn0 ≤ 4294967297 * 4294967295 := Nat.mul_le_mul (by unfold B32 at h; omega) (by unfold B32 at h0; omega)
 exact ⟨_, rfl, by rw [← Int.natCast_mul, wrap_u64_nat, Nat.mod_eq_of_lt (by unfold W64; omega)]⟩
theorem half_start {X d v yn1 yn0 : Nat} (hv : v = yn1 * B32 + yn0) (h0 : yn0 < B32) (h1 : B32 ≤ 2 * yn1) (h1' : yn1 < B32) (hu : X < v) (hd : d < B32) :
  ∃ q r : Nat, (X : Int) / yn1 = q ∧ (q : Int) < 18446744073709551616 ∧ IntKind.u64.wrap ((X : Int) - IntKind.u64.wrap ((q : Int) * yn1)) = r ∧ Half X d v yn1 yn0 q r := by
 have hs := Half.start hv h0 h1 h1' hu hd
 have hvw : v < W64 := by rw [hv]; unfold B32 W64 at *; omega
 refine ⟨X / yn1, X - X / yn1 * yn1, by rw [Int.natCast_ediv], by have := hs.le; unfold B32 at this; omega, ?_, hs⟩
 have e := Nat.div_mul_le_self X yn1
 rw [← Int.natCast_mul, wrap_u64_nat, Nat.mod_eq_of_lt (by omega), ← Int.ofNat_sub e, wrap_u64_nat, Nat.mod_eq_of_lt (by omega)]
def DivPost (w : World) (U V un1 un0 s : Nat) (e : Ending) (w' : World) : Prop := w = w' ∧ ∃ a b z : Nat, e = .returned (.tuple #[.int .u64 ((a : Int) * 4294967296 + b), .int .u64 z]) ∧ Done U un1 V a ∧
 z = ((U * B32 + un1 - a * V) * B32 + un0 - b * V) / 2 ^ s ∧ Done (U * B32 + un1 - a * V) un0 V b
set_option maxHeartbeats 2000000 in
theorem div64_walk (hi lo y s V yn1 yn0 U T un1 un0 q0 r0 : Nat) (w : World) (_hlo : lo < W64) (_hy : y < W64) (hlt : hi < y) (hi0 : 0 < hi) (hs : s < 64)
  (hlz : ∀ W, Calls Tryz.prog 184 #[.int .u64 y] W fun e w' => e = .returned (.int .i64 s) ∧ W = w')
  (e1 : IntKind.u64.wrap ((y : Int) * 2 ^ s) = (V : Int)) (e2 : (V : Int) / 4294967296 = yn1) (e3 : bits .and .u64 (V : Int) 4294967295 = yn0)
  (e4 : bits .or .u64 (IntKind.u64.wrap ((hi : Int) * 2 ^ s)) ((lo : Int) / 2 ^ (64 - s)) = U) (e5 : IntKind.u64.wrap ((lo : Int) * 2 ^ s) = T)
  (e6 : (T : Int) / 4294967296 = un1) (e7 : bits .and .u64 (T : Int) 4294967295 = un0) (e8 : (U : Int) / yn1 = q0) (hq0 : (q0 : Int) < 18446744073709551616) (e9 : IntKind.u64.wrap ((U : Int) - IntKind.u64.wrap ((q0 : Int) * yn1)) = r0)
  (hV : V < W64) (hv : V = yn1 * B32 + yn0) (h0 : yn0 < B32) (h1 : B32 ≤ 2 * yn1) (h1' : yn1 < B32) (hu : U < V) (hd : un1 < B32) (hd0 : un0 < B32) (hst : Half U un1 V yn1 yn0 q0 r0) :
  Calls Tryz.prog 183 #[.int .u64 hi, .int .u64 lo, .int .u64 y] w (DivPost w U V un1 un0 s) := by
 have g1 : ((y : Int) == 0) = false := by simp; omega
 have g2 : ((hi : Int) == 0) = false := by simp; omega
 have g3 : ¬ ((y : Int) ≤ hi) := by omega
 have g4 : (0 : Int) < yn1 := by unfold B32 at h1; omega
 have HLZ := Lib.hid hlz
 have HV := Lib.hid hv
 have HS0 := Lib.hid hs
 clear hlz hv
 go_enter Tryz.func183, Tryz.ntmps183
 go_wp2_with (go_at_call 184; refine (HLZ.out _).mono ?_; rintro e w' ⟨rfl, rfl⟩)
 go_loop [15, 16] (fun a b => ∃ q r : Nat, a = .int .u64 q ∧ b = .int .u64 r ∧ Half U un1 V yn1 yn0 q r) (fun a _ => (intOf a).toNat)
 case atStart => first | exact ⟨q0, r0, rfl, rfl, hst⟩ | skip
 case round =>
  obtain ⟨q, r, rfl, rfl, hh⟩ := hrel
  have HH := Lib.hid hh
  have hql := hh.le
  have hrs := hh.small
  clear hh hst e1 e2 e3 e4 e5 e6 e7 e8 e9 hlt hi0 hs g1 g2 g3 hq0 HLZ
  obtain ⟨p, hp, ep⟩ := half_prod hql h0
  have HP := Lib.hid hp
  clear hp
  have hx1 : (un1 : Int) < 4294967296 := by unfold B32 at hd; omega
  have hx2 : (r : Int) < 4294967296 := by unfold B32 at hrs; omega
  have hx3 : (yn1 : Int) < 4294967296 := by unfold B32 at h1'; omega
  have hx4 : (q : Int) ≤ 4294967297 := by unfold B32 at hql; omega
  by_cases c1 : 4294967296 ≤ q
  ·have cc : B32 ≤ q ∨ B32 * r + un1 < q * yn0 := .inl c1
   have d1 : (4294967296 : Int) ≤ q := by omega
   clear c1
   obtain ⟨n1, n2, n3⟩ := HH.out.next HV.out h0 hu hd cc
   have N2 := Lib.hid n2
   have N3 := Lib.hid n3
   clear n2 n3 cc HH HP
   obtain ⟨k, rfl⟩ : ∃ k, q = k + 1 := ⟨q - 1, by omega⟩
   have hk1 : ((k + 1 : Nat) : Int) = (k : Int) + 1 := by omega
   simp only [hk1] at d1 ep hx4
   rw [hk1]
   clear hk1
   by_cases c3 : r + yn1 < B32
   ·have d3 : ¬ (4294967296 : Int) ≤ (r : Int) + yn1 := by unfold B32 at c3; omega
    go_wp2
    go_round
    case rel => exact ⟨k, r + yn1, by go_num, by go_num, N2.out c3⟩
    case measure => simp [intOf]
   ·have d3 : (4294967296 : Int) ≤ (r : Int) + yn1 := by unfold B32 at c3; omega
    obtain ⟨qf, hqf⟩ : ∃ qf, qf = k := ⟨_, rfl⟩
    subst hqf
    have hdone : Done U un1 V qf := N3.out (by omega)
    clear N2 N3
    obtain ⟨X, hX⟩ : ∃ X, X = U * B32 + un1 - qf * V := ⟨_, rfl⟩
    have eX := un21_in (Nat.lt_trans hu hV) hd hV hdone
    rw [← hX] at eX
    have hXV : X < V := by rw [hX]; exact hdone.rest
    obtain ⟨q1, r1, f1, f2, f3, hst⟩ := half_start HV.out h0 h1 h1' hXV hd0
    have HX := Lib.hid hX
    have HST := Lib.hid hst
    have HDN := Lib.hid hdone
    clear hX hst hdone
    go_wp2
    go_loop [18, 16] (fun a b => ∃ q r : Nat, a = .int .u64 q ∧ b = .int .u64 r ∧ Half X un0 V yn1 yn0 q r) (fun a _ => (intOf a).toNat)
    case atStart => exact ⟨q1, r1, rfl, rfl, HST.out⟩
    case round =>
     obtain ⟨qq, rr, rfl, rfl, hh⟩ := hrel
     have HH := Lib.hid hh
     have hql := hh.le
     have hrs := hh.small
     clear hh HST f1 f3 eX ep
     obtain ⟨p, hp, ep⟩ := half_prod hql h0
     have HP := Lib.hid hp
     clear hp
     have hx1 : (un0 : Int) < 4294967296 := by unfold B32 at hd0; omega
     have hx2 : (rr : Int) < 4294967296 := by unfold B32 at hrs; omega
     have hx4 : (qq : Int) ≤ 4294967297 := by unfold B32 at hql; omega
     by_cases c1 : 4294967296 ≤ qq
     ·have cc : B32 ≤ qq ∨ B32 * rr + un0 < qq * yn0 := .inl c1
      have d1 : (4294967296 : Int) ≤ qq := by omega
      clear c1
      obtain ⟨n1, n2, n3⟩ := HH.out.next HV.out h0 hXV hd0 cc
      have N2 := Lib.hid n2
      have N3 := Lib.hid n3
      clear n2 n3 cc HH HP
      obtain ⟨k, rfl⟩ : ∃ k, qq = k + 1 := ⟨qq - 1, by omega⟩
      have hk1 : ((k + 1 : Nat) : Int) = (k : Int) + 1 := by omega
      simp only [hk1] at d1 ep hx4
      rw [hk1]
      clear hk1
      by_cases c3 : rr + yn1 < B32
      ·have d3 : ¬ (4294967296 : Int) ≤ (rr : Int) + yn1 := by unfold B32 at c3; omega
       go_wp2
       go_round
       case rel => exact ⟨k, rr + yn1, by go_num, by go_num, N2.out c3⟩
       case measure => simp [intOf]
      ·have d3 : (4294967296 : Int) ≤ (rr : Int) + yn1 := by unfold B32 at c3; omega
       obtain ⟨qe, hqe⟩ : ∃ qe, qe = k := ⟨_, rfl⟩
       subst hqe
       have hdone : Done X un0 V qe := N3.out (by omega)
       clear N2 N3
       have hqf := HDN.out.lt hu hd
       have hqe := hdone.lt hXV hd0
       have b1 : (qf : Int) < 4294967296 := by unfold B32 at hqf; omega
       have b2 : (qe : Int) < 4294967296 := by unfold B32 at hqe; omega
       obtain ⟨Y, hY⟩ : ∃ Y, Y = X * B32 + un0 - qe * V := ⟨_, rfl⟩
       have eY := un21_in (Nat.lt_trans hXV hV) hd0 hV hdone
       rw [← hY] at eY
       obtain ⟨Z, hZ⟩ : ∃ Z, Z = Y / 2 ^ s := ⟨_, rfl⟩
       have eZ : (Y : Int) / 2 ^ min s 64 = Z := by rw [hZ, Nat.min_eq_left (Nat.le_of_lt HS0.out), Int.natCast_ediv, Int.natCast_pow]; rfl
       have HY := Lib.hid hY
       have HZ := Lib.hid hZ
       have HDE := Lib.hid hdone
       clear hY hZ hdone hqf hqe
       go_wp2
       go_ret2
       exact ⟨rfl, qf, qe, Z, rfl, HDN.out, by rw [HZ.out, HY.out, HX.out], by rw [← HX.out]; exact HDE.out⟩
     ·have d1 : ¬ (4294967296 : Int) ≤ qq := by omega
      by_cases c2 : 4294967296 * rr + un0 < p
      ·have cc : B32 ≤ qq ∨ B32 * rr + un0 < qq * yn0 := .inr (by rw [← HP.out]; exact c2)
       have d2 : 4294967296 * (rr : Int) + un0 < p := by omega
       clear c1 c2
       obtain ⟨n1, n2, n3⟩ := HH.out.next HV.out h0 hXV hd0 cc
       have N2 := Lib.hid n2
       have N3 := Lib.hid n3
       clear n2 n3 cc HH HP
       obtain ⟨k, rfl⟩ : ∃ k, qq = k + 1 := ⟨qq - 1, by omega⟩
       have hk1 : ((k + 1 : Nat) : Int) = (k : Int) + 1 := by omega
       simp only [hk1] at d1 ep hx4
       rw [hk1]
       clear hk1
       by_cases c3 : rr + yn1 < B32
       ·have d3 : ¬ (4294967296 : Int) ≤ (rr : Int) + yn1 := by unfold B32 at c3; omega
        go_wp2
        go_round
        case rel => exact ⟨k, rr + yn1, by go_num, by go_num, N2.out c3⟩
        case measure => simp [intOf]
       ·have d3 : (4294967296 : Int) ≤ (rr : Int) + yn1 := by unfold B32 at c3; omega
        obtain ⟨qe, hqe⟩ : ∃ qe, qe = k := ⟨_, rfl⟩
        subst hqe
        have hdone : Done X un0 V qe := N3.out (by omega)
        clear N2 N3
        have hqf := HDN.out.lt hu hd
        have hqe := hdone.lt hXV hd0
        have b1 : (qf : Int) < 4294967296 := by unfold B32 at hqf; omega
        have b2 : (qe : Int) < 4294967296 := by unfold B32 at hqe; omega
        obtain ⟨Y, hY⟩ : ∃ Y, Y = X * B32 + un0 - qe * V := ⟨_, rfl⟩
        have eY := un21_in (Nat.lt_trans hXV hV) hd0 hV hdone
        rw [← hY] at eY
        obtain ⟨Z, hZ⟩ : ∃ Z, Z = Y / 2 ^ s := ⟨_, rfl⟩
        have eZ : (Y : Int) / 2 ^ min s 64 = Z := by rw [hZ, Nat.min_eq_left (Nat.le_of_lt HS0.out), Int.natCast_ediv, Int.natCast_pow]; rfl
        have HY := Lib.hid hY
        have HZ := Lib.hid hZ
        have HDE := Lib.hid hdone
        clear hY hZ hdone hqf hqe
        go_wp2
        go_ret2
        exact ⟨rfl, qf, qe, Z, rfl, HDN.out, by rw [HZ.out, HY.out, HX.out], by rw [← HX.out]; exact HDE.out⟩
      ·have d2 : ¬ 4294967296 * (rr : Int) + un0 < p := by omega
       obtain ⟨qe, hqe⟩ : ∃ qe, qe = qq := ⟨_, rfl⟩
       subst hqe
       have hdone : Done X un0 V qe := HH.out.fits HV.out (by rw [← HP.out]; unfold B32; omega)
       clear c1 c2 HH HP
       have hqf := HDN.out.lt hu hd
       have hqe := hdone.lt hXV hd0
       have b1 : (qf : Int) < 4294967296 := by unfold B32 at hqf; omega
       have b2 : (qe : Int) < 4294967296 := by unfold B32 at hqe; omega
       obtain ⟨Y, hY⟩ : ∃ Y, Y = X * B32 + un0 - qe * V := ⟨_, rfl⟩
       have eY := un21_in (Nat.lt_trans hXV hV) hd0 hV hdone
       rw [← hY] at eY
       obtain ⟨Z, hZ⟩ : ∃ Z, Z = Y / 2 ^ s := ⟨_, rfl⟩
       have eZ : (Y : Int) / 2 ^ min s 64 = Z := by rw [hZ, Nat.min_eq_left (Nat.le_of_lt HS0.out), Int.natCast_ediv, Int.natCast_pow]; rfl
       have HY := Lib.hid hY
       have HZ := Lib.hid hZ
       have HDE := Lib.hid hdone
       clear hY hZ hdone hqf hqe
       go_wp2
       go_ret2
       exact ⟨rfl, qf, qe, Z, rfl, HDN.out, by rw [HZ.out, HY.out, HX.out], by rw [← HX.out]; exact HDE.out⟩
  ·have d1 : ¬ (4294967296 : Int) ≤ q := by omega
   by_cases c2 : 4294967296 * r + un1 < p
   ·have cc : B32 ≤ q ∨ B32 * r + un1 < q * yn0 := .inr (by rw [← HP.out]; exact c2)
    have d2 : 4294967296 * (r : Int) + un1 < p := by omega
    clear c1 c2
    obtain ⟨n1, n2, n3⟩ := HH.out.next HV.out h0 hu hd cc
    have N2 := Lib.hid n2
    have N3 := Lib.hid n3
    clear n2 n3 cc HH HP
    obtain ⟨k, rfl⟩ : ∃ k, q = k + 1 := ⟨q - 1, by omega⟩
    have hk1 : ((k + 1 : Nat) : Int) = (k : Int) + 1 := by omega
    simp only [hk1] at d1 ep hx4
    rw [hk1]
    clear hk1
    by_cases c3 : r + yn1 < B32
    ·have d3 : ¬ (4294967296 : Int) ≤ (r : Int) + yn1 := by unfold B32 at c3; omega
     go_wp2
     go_round
     case rel => exact ⟨k, r + yn1, by go_num, by go_num, N2.out c3⟩
     case measure => simp [intOf]
    ·have d3 : (4294967296 : Int) ≤ (r : Int) + yn1 := by unfold B32 at c3; omega
     obtain ⟨qf, hqf⟩ : ∃ qf, qf = k := ⟨_, rfl⟩
     subst hqf
     have hdone : Done U un1 V qf := N3.out (by omega)
     clear N2 N3
     obtain ⟨X, hX⟩ : ∃ X, X = U * B32 + un1 - qf * V := ⟨_, rfl⟩
     have eX := un21_in (Nat.lt_trans hu hV) hd hV hdone
     rw [← hX] at eX
     have hXV : X < V := by rw [hX]; exact hdone.rest
     obtain ⟨q1, r1, f1, f2, f3, hst⟩ := half_start HV.out h0 h1 h1' hXV hd0
     have HX := Lib.hid hX
     have HST := Lib.hid hst
     have HDN := Lib.hid hdone
     clear hX hst hdone
     go_wp2
     go_loop [18, 16] (fun a b => ∃ q r : Nat, a = .int .u64 q ∧ b = .int .u64 r ∧ Half X un0 V yn1 yn0 q r) (fun a _ => (intOf a).toNat)
     case atStart => exact ⟨q1, r1, rfl, rfl, HST.out⟩
     case round =>
      obtain ⟨qq, rr, rfl, rfl, hh⟩ := hrel
      have HH := Lib.hid hh
      have hql := hh.le
      have hrs := hh.small
      clear hh HST f1 f3 eX ep
      obtain ⟨p, hp, ep⟩ := half_prod hql h0
      have HP := Lib.hid hp
      clear hp
      have hx1 : (un0 : Int) < 4294967296 := by unfold B32 at hd0; omega
      have hx2 : (rr : Int) < 4294967296 := by unfold B32 at hrs; omega
      have hx4 : (qq : Int) ≤ 4294967297 := by unfold B32 at hql; omega
      by_cases c1 : 4294967296 ≤ qq
      ·have cc : B32 ≤ qq ∨ B32 * rr + un0 < qq * yn0 := .inl c1
       have d1 : (4294967296 : Int) ≤ qq := by omega
       clear c1
       obtain ⟨n1, n2, n3⟩ := HH.out.next HV.out h0 hXV hd0 cc
       have N2 := Lib.hid n2
       have N3 := Lib.hid n3
       clear n2 n3 cc HH HP
       obtain ⟨k, rfl⟩ : ∃ k, qq = k + 1 := ⟨qq - 1, by omega⟩
       have hk1 : ((k + 1 : Nat) : Int) = (k : Int) + 1 := by omega
       simp only [hk1] at d1 ep hx4
       rw [hk1]
       clear hk1
       by_cases c3 : rr + yn1 < B32
       ·have d3 : ¬ (4294967296 : Int) ≤ (rr : Int) + yn1 := by unfold B32 at c3; omega
        go_wp2
        go_round
        case rel => exact ⟨k, rr + yn1, by go_num, by go_num, N2.out c3⟩
        case measure => simp [intOf]
       ·have d3 : (4294967296 : Int) ≤ (rr : Int) + yn1 := by unfold B32 at c3; omega
        obtain ⟨qe, hqe⟩ : ∃ qe, qe = k := ⟨_, rfl⟩
        subst hqe
        have hdone : Done X un0 V qe := N3.out (by omega)
        clear N2 N3
        have hqf := HDN.out.lt hu hd
        have hqe := hdone.lt hXV hd0
        have b1 : (qf : Int) < 4294967296 := by unfold B32 at hqf; omega
        have b2 : (qe : Int) < 4294967296 := by unfold B32 at hqe; omega
        obtain ⟨Y, hY⟩ : ∃ Y, Y = X * B32 + un0 - qe * V := ⟨_, rfl⟩
        have eY := un21_in (Nat.lt_trans hXV hV) hd0 hV hdone
        rw [← hY] at eY
        obtain ⟨Z, hZ⟩ : ∃ Z, Z = Y / 2 ^ s := ⟨_, rfl⟩
        have eZ : (Y : Int) / 2 ^ min s 64 = Z := by rw [hZ, Nat.min_eq_left (Nat.le_of_lt HS0.out), Int.natCast_ediv, Int.natCast_pow]; rfl
        have HY := Lib.hid hY
        have HZ := Lib.hid hZ
        have HDE := Lib.hid hdone
        clear hY hZ hdone hqf hqe
        go_wp2
        go_ret2
        exact ⟨rfl, qf, qe, Z, rfl, HDN.out, by rw [HZ.out, HY.out, HX.out], by rw [← HX.out]; exact HDE.out⟩
      ·have d1 : ¬ (4294967296 : Int) ≤ qq := by omega
       by_cases c2 : 4294967296 * rr + un0 < p
       ·have cc : B32 ≤ qq ∨ B32 * rr + un0 < qq * yn0 := .inr (by rw [← HP.out]; exact c2)
        have d2 : 4294967296 * (rr : Int) + un0 < p := by omega
        clear c1 c2
        obtain ⟨n1, n2, n3⟩ := HH.out.next HV.out h0 hXV hd0 cc
        have N2 := Lib.hid n2
        have N3 := Lib.hid n3
        clear n2 n3 cc HH HP
        obtain ⟨k, rfl⟩ : ∃ k, qq = k + 1 := ⟨qq - 1, by omega⟩
        have hk1 : ((k + 1 : Nat) : Int) = (k : Int) + 1 := by omega
        simp only [hk1] at d1 ep hx4
        rw [hk1]
        clear hk1
        by_cases c3 : rr + yn1 < B32
        ·have d3 : ¬ (4294967296 : Int) ≤ (rr : Int) + yn1 := by unfold B32 at c3; omega
         go_wp2
         go_round
         case rel => exact ⟨k, rr + yn1, by go_num, by go_num, N2.out c3⟩
         case measure => simp [intOf]
        ·have d3 : (4294967296 : Int) ≤ (rr : Int) + yn1 := by unfold B32 at c3; omega
         obtain ⟨qe, hqe⟩ : ∃ qe, qe = k := ⟨_, rfl⟩
         subst hqe
         have hdone : Done X un0 V qe := N3.out (by omega)
         clear N2 N3
         have hqf := HDN.out.lt hu hd
         have hqe := hdone.lt hXV hd0
         have b1 : (qf : Int) < 4294967296 := by unfold B32 at hqf; omega
         have b2 : (qe : Int) < 4294967296 := by unfold B32 at hqe; omega
         obtain ⟨Y, hY⟩ : ∃ Y, Y = X * B32 + un0 - qe * V := ⟨_, rfl⟩
         have eY := un21_in (Nat.lt_trans hXV hV) hd0 hV hdone
         rw [← hY] at eY
         obtain ⟨Z, hZ⟩ : ∃ Z, Z = Y / 2 ^ s := ⟨_, rfl⟩
         have eZ : (Y : Int) / 2 ^ min s 64 = Z := by rw [hZ, Nat.min_eq_left (Nat.le_of_lt HS0.out), Int.natCast_ediv, Int.natCast_pow]; rfl
         have HY := Lib.hid hY
         have HZ := Lib.hid hZ
         have HDE := Lib.hid hdone
         clear hY hZ hdone hqf hqe
         go_wp2
         go_ret2
         exact ⟨rfl, qf, qe, Z, rfl, HDN.out, by rw [HZ.out, HY.out, HX.out], by rw [← HX.out]; exact HDE.out⟩
       ·have d2 : ¬ 4294967296 * (rr : Int) + un0 < p := by omega
        obtain ⟨qe, hqe⟩ : ∃ qe, qe = qq := ⟨_, rfl⟩
        subst hqe
        have hdone : Done X un0 V qe := HH.out.fits HV.out (by rw [← HP.out]; unfold B32; omega)
        clear c1 c2 HH HP
        have hqf := HDN.out.lt hu hd
        have hqe := hdone.lt hXV hd0
        have b1 : (qf : Int) < 4294967296 := by unfold B32 at hqf; omega
        have b2 : (qe : Int) < 4294967296 := by unfold B32 at hqe; omega
        obtain ⟨Y, hY⟩ : ∃ Y, Y = X * B32 + un0 - qe * V := ⟨_, rfl⟩
        have eY := un21_in (Nat.lt_trans hXV hV) hd0 hV hdone
        rw [← hY] at eY
        obtain ⟨Z, hZ⟩ : ∃ Z, Z = Y / 2 ^ s := ⟨_, rfl⟩
        have eZ : (Y : Int) / 2 ^ min s 64 = Z := by rw [hZ, Nat.min_eq_left (Nat.le_of_lt HS0.out), Int.natCast_ediv, Int.natCast_pow]; rfl
        have HY := Lib.hid hY
        have HZ := Lib.hid hZ
        have HDE := Lib.hid hdone
        clear hY hZ hdone hqf hqe
        go_wp2
        go_ret2
        exact ⟨rfl, qf, qe, Z, rfl, HDN.out, by rw [HZ.out, HY.out, HX.out], by rw [← HX.out]; exact HDE.out⟩
   ·have d2 : ¬ 4294967296 * (r : Int) + un1 < p := by omega
    obtain ⟨qf, hqf⟩ : ∃ qf, qf = q := ⟨_, rfl⟩
    subst hqf
    have hdone : Done U un1 V qf := HH.out.fits HV.out (by rw [← HP.out]; unfold B32; omega)
    clear c1 c2 HH HP
    obtain ⟨X, hX⟩ : ∃ X, X = U * B32 + un1 - qf * V := ⟨_, rfl⟩
    have eX := un21_in (Nat.lt_trans hu hV) hd hV hdone
    rw [← hX] at eX
    have hXV : X < V := by rw [hX]; exact hdone.rest
    obtain ⟨q1, r1, f1, f2, f3, hst⟩ := half_start HV.out h0 h1 h1' hXV hd0
    have HX := Lib.hid hX
    have HST := Lib.hid hst
    have HDN := Lib.hid hdone
    clear hX hst hdone
    go_wp2
    go_loop [18, 16] (fun a b => ∃ q r : Nat, a = .int .u64 q ∧ b = .int .u64 r ∧ Half X un0 V yn1 yn0 q r) (fun a _ => (intOf a).toNat)
    case atStart => exact ⟨q1, r1, rfl, rfl, HST.out⟩
    case round =>
     obtain ⟨qq, rr, rfl, rfl, hh⟩ := hrel
     have HH := Lib.hid hh
     have hql := hh.le
     have hrs := hh.small
     clear hh HST f1 f3 eX ep
     obtain ⟨p, hp, ep⟩ := half_prod hql h0
     have HP := Lib.hid hp
     clear hp
     have hx1 : (un0 : Int) < 4294967296 := by unfold B32 at hd0; omega
     have hx2 : (rr : Int) < 4294967296 := by unfold B32 at hrs; omega
     have hx4 : (qq : Int) ≤ 4294967297 := by unfold B32 at hql; omega
     by_cases c1 : 4294967296 ≤ qq
     ·have cc : B32 ≤ qq ∨ B32 * rr + un0 < qq * yn0 := .inl c1
      have d1 : (4294967296 : Int) ≤ qq := by omega
      clear c1
      obtain ⟨n1, n2, n3⟩ := HH.out.next HV.out h0 hXV hd0 cc
      have N2 := Lib.hid n2
      have N3 := Lib.hid n3
      clear n2 n3 cc HH HP
      obtain ⟨k, rfl⟩ : ∃ k, qq = k + 1 := ⟨qq - 1, by omega⟩
      have hk1 : ((k + 1 : Nat) : Int) = (k : Int) + 1 := by omega
      simp only [hk1] at d1 ep hx4
      rw [hk1]
      clear hk1
      by_cases c3 : rr + yn1 < B32
      ·have d3 : ¬ (4294967296 : Int) ≤ (rr : Int) + yn1 := by unfold B32 at c3; omega
       go_wp2
       go_round
       case rel => exact ⟨k, rr + yn1, by go_num, by go_num, N2.out c3⟩
       case measure => simp [intOf]
      ·have d3 : (4294967296 : Int) ≤ (rr : Int) + yn1 := by unfold B32 at c3; omega
       obtain ⟨qe, hqe⟩ : ∃ qe, qe = k := ⟨_, rfl⟩
       subst hqe
       have hdone : Done X un0 V qe := N3.out (by omega)
       clear N2 N3
       have hqf := HDN.out.lt hu hd
       have hqe := hdone.lt hXV hd0
       have b1 : (qf : Int) < 4294967296 := by unfold B32 at hqf; omega
       have b2 : (qe : Int) < 4294967296 := by unfold B32 at hqe; omega
       obtain ⟨Y, hY⟩ : ∃ Y, Y = X * B32 + un0 - qe * V := ⟨_, rfl⟩
       have eY := un21_in (Nat.lt_trans hXV hV) hd0 hV hdone
       rw [← hY] at eY
       obtain ⟨Z, hZ⟩ : ∃ Z, Z = Y / 2 ^ s := ⟨_, rfl⟩
       have eZ : (Y : Int) / 2 ^ min s 64 = Z := by rw [hZ, Nat.min_eq_left (Nat.le_of_lt HS0.out), Int.natCast_ediv, Int.natCast_pow]; rfl
       have HY := Lib.hid hY
       have HZ := Lib.hid hZ
       have HDE := Lib.hid hdone
       clear hY hZ hdone hqf hqe
       go_wp2
       go_ret2
       exact ⟨rfl, qf, qe, Z, rfl, HDN.out, by rw [HZ.out, HY.out, HX.out], by rw [← HX.out]; exact HDE.out⟩
     ·have d1 : ¬ (4294967296 : Int) ≤ qq := by omega
      by_cases c2 : 4294967296 * rr + un0 < p
      ·have cc : B32 ≤ qq ∨ B32 * rr + un0 < qq * yn0 := .inr (by rw [← HP.out]; exact c2)
       have d2 : 4294967296 * (rr : Int) + un0 < p := by omega
       clear c1 c2
       obtain ⟨n1, n2, n3⟩ := HH.out.next HV.out h0 hXV hd0 cc
       have N2 := Lib.hid n2
       have N3 := Lib.hid n3
       clear n2 n3 cc HH HP
       obtain ⟨k, rfl⟩ : ∃ k, qq = k + 1 := ⟨qq - 1, by omega⟩
       have hk1 : ((k + 1 : Nat) : Int) = (k : Int) + 1 := by omega
       simp only [hk1] at d1 ep hx4
       rw [hk1]
       clear hk1
       by_cases c3 : rr + yn1 < B32
       ·have d3 : ¬ (4294967296 : Int) ≤ (rr : Int) + yn1 := by unfold B32 at c3; omega
        go_wp2
        go_round
        case rel => exact ⟨k, rr + yn1, by go_num, by go_num, N2.out c3⟩
        case measure => simp [intOf]
       ·have d3 : (4294967296 : Int) ≤ (rr : Int) + yn1 := by unfold B32 at c3; omega
        obtain ⟨qe, hqe⟩ : ∃ qe, qe = k := ⟨_, rfl⟩
        subst hqe
        have hdone : Done X un0 V qe := N3.out (by omega)
        clear N2 N3
        have hqf := HDN.out.lt hu hd
        have hqe := hdone.lt hXV hd0
        have b1 : (qf : Int) < 4294967296 := by unfold B32 at hqf; omega
        have b2 : (qe : Int) < 4294967296 := by unfold B32 at hqe; omega
        obtain ⟨Y, hY⟩ : ∃ Y, Y = X * B32 + un0 - qe * V := ⟨_, rfl⟩
        have eY := un21_in (Nat.lt_trans hXV hV) hd0 hV hdone
        rw [← hY] at eY
        obtain ⟨Z, hZ⟩ : ∃ Z, Z = Y / 2 ^ s := ⟨_, rfl⟩
        have eZ : (Y : Int) / 2 ^ min s 64 = Z := by rw [hZ, Nat.min_eq_left (Nat.le_of_lt HS0.out), Int.natCast_ediv, Int.natCast_pow]; rfl
        have HY := Lib.hid hY
        have HZ := Lib.hid hZ
        have HDE := Lib.hid hdone
        clear hY hZ hdone hqf hqe
        go_wp2
        go_ret2
        exact ⟨rfl, qf, qe, Z, rfl, HDN.out, by rw [HZ.out, HY.out, HX.out], by rw [← HX.out]; exact HDE.out⟩
      ·have d2 : ¬ 4294967296 * (rr : Int) + un0 < p := by omega
       obtain ⟨qe, hqe⟩ : ∃ qe, qe = qq := ⟨_, rfl⟩
       subst hqe
       have hdone : Done X un0 V qe := HH.out.fits HV.out (by rw [← HP.out]; unfold B32; omega)
       clear c1 c2 HH HP
       have hqf := HDN.out.lt hu hd
       have hqe := hdone.lt hXV hd0
       have b1 : (qf : Int) < 4294967296 := by unfold B32 at hqf; omega
       have b2 : (qe : Int) < 4294967296 := by unfold B32 at hqe; omega
       obtain ⟨Y, hY⟩ : ∃ Y, Y = X * B32 + un0 - qe * V := ⟨_, rfl⟩
       have eY := un21_in (Nat.lt_trans hXV hV) hd0 hV hdone
       rw [← hY] at eY
       obtain ⟨Z, hZ⟩ : ∃ Z, Z = Y / 2 ^ s := ⟨_, rfl⟩
       have eZ : (Y : Int) / 2 ^ min s 64 = Z := by rw [hZ, Nat.min_eq_left (Nat.le_of_lt HS0.out), Int.natCast_ediv, Int.natCast_pow]; rfl
       have HY := Lib.hid hY
       have HZ := Lib.hid hZ
       have HDE := Lib.hid hdone
       clear hY hZ hdone hqf hqe
       go_wp2
       go_ret2
       exact ⟨rfl, qf, qe, Z, rfl, HDN.out, by rw [HZ.out, HY.out, HX.out], by rw [← HX.out]; exact HDE.out⟩
end Go.Proofs.YtlfnibjmkfldgaaGreatDoor
