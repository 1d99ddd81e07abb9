/- Part CardTog02. -/
import Derived.Laws.AppendOwnNone
import Derived.Test.YtlfnibjmkfldgaaGreatDoorA24
import Derived.Test.YtlfnibjmkfldgaaGreatDoorA29
import Derived.Test.YtlfnibjmkfldgaaGreatDoorA32
import Derived.Test.YtlfnibjmkfldgaaGreatDoorCardTog01
namespace Go.Proofs.YtlfnibjmkfldgaaGreatDoor
open Go.RowKit Big
theorem rfin_calls (b : Nat) (w : World) : Calls Tryz.prog 62 #[.float .f32 b] w (FinPost w (isFin b)) := by
 cases h : isFin b with
 | true =>
  have hrun := fun W => run_float_arith (P := Tryz.prog) W .sub 23 .f32 b b 0 (sub_self_fin h)
  have ho : (FloatKind.f32.format.order 0 0 == some .eq) = true := by decide
  have H := Lib.hid h
  clear h
  go_enter Tryz.func62, Tryz.ntmps62
  go_wp2_with fail
  go_ret
  exact ⟨rfl, 0, rfl⟩
 | false =>
  have hrun := fun W => nan_run (P := Tryz.prog) 23 b h W
  have ho := fun W => nan_order W b 0
  have H := Lib.hid h
  clear h
  go_enter Tryz.func62, Tryz.ntmps62
  go_wp2_with fail
  go_ret
  exact ⟨rfl, 1, rfl⟩
theorem rfin_new (b : Nat) (w : World) : Calls Tryz.prog 62 #[.float .f32 b] w fun e w' => e = .returned (.bool (isFin b)) ∧ New w w' :=
 (rfin_calls b w).mono fun e w' h => by
  obtain ⟨rfl, n, rfl⟩ := h
  exact ⟨rfl, (New.refl _).drewN n⟩
set_option maxRecDepth 100000 in
theorem rsamples_calls (a : Option Addr) (cap : Nat) (l : List Nat) (w : World) (hl : l.length ≤ 9223372036854775807) (hr : RdL w a (flts l)) :
  Calls Tryz.prog 17 #[.slice a l.length cap] w (RetNew w (samplesErr l)) := by
 obtain ⟨n, hn⟩ : ∃ n, l.length = n := ⟨_, rfl⟩
 by_cases hm : 4096 < n
 ·have hs : samplesErr l = 5 := by unfold samplesErr; rw [hn, if_pos hm]
  have hmi : (4096 : Int) < n := by omega
  rw [hs, hn]
  clear hs hr hl hn
  go_enter Tryz.func17, Tryz.ntmps17
  go_wp2_with fail
  go_ret
  exact ⟨rfl, New.refl _⟩
 have hmi : ¬ (4096 : Int) < n := by omega
 have hs : samplesErr l = if l.all isFin then 0 else 1 := by unfold samplesErr; rw [hn, if_neg hm]
 obtain ⟨r, hres⟩ : ∃ r : Int, (if l.all isFin = true then 0 else 1) = r := ⟨_, rfl⟩
 rw [hs, hres, hn]
 rw [hn] at hl
 clear hs hm
 have HR := Lib.hid hr
 have HRES := Lib.hid hres
 have HL := Lib.hid hl
 have HN0 := Lib.hid hn
 clear hr hres hl hn
 go_enter Tryz.func17, Tryz.ntmps17
 go_wp2_with fail
 go_loopw [3] (fun i wr => ∃ k : Nat, k ≤ n ∧ i = .int .i64 (k : Int) ∧ Hid ((l.take k).all isFin = true) ∧ Hid (New w wr)) (fun i _ => n - (intOf i).toNat)
 case atStart => exact ⟨0, Nat.zero_le _, rfl, Lib.hid rfl, Lib.hid (New.refl _)⟩
 case round =>
  obtain ⟨k, hk, rfl, HK, HN⟩ := hrel
  by_cases hlt : k < n
  ·have hlt' : k < l.length := by rw [HN0.out]; exact hlt
   obtain ⟨b, off, rfl, hcell⟩ := HR.out.flt k hlt'
   obtain ⟨x, hx⟩ : ∃ x, l[k] = x := ⟨_, rfl⟩
   rw [hx] at hcell
   replace hcell := HN.out.cell hcell
   cases hfx : isFin x with
   | true =>
    have hd := all_take_succ hlt' HK.out (by rw [hx]; exact hfx)
    have hc := fun W => rfin_new x W
    rw [hfx] at hc
    have HX := Lib.hid hx
    have HFX := Lib.hid hfx
    have HD := Lib.hid hd
    have HC := Lib.hid hc
    clear hx hfx hd hc
    go_wp2_with fail
    refine (HC.out _).mono ?_
    rintro e w' ⟨rfl, hn⟩
    have hn2 := HN.out.trans hn
    clear hn HN
    have HN := Lib.hid hn2
    clear hn2
    go_wp2_with fail
    go_roundw
    case rel => exact ⟨k + 1, by omega, by go_num, HD, HN⟩
    case measure => simp [intOf]; omega
   | false =>
    have hd := all_false_at hlt' (by rw [hx]; exact hfx)
    have hc := fun W => rfin_new x W
    rw [hfx] at hc
    have HX := Lib.hid hx
    have HFX := Lib.hid hfx
    have HD := Lib.hid hd
    have HC := Lib.hid hc
    clear hx hfx hd hc
    go_wp2_with fail
    refine (HC.out _).mono ?_
    rintro e w' ⟨rfl, hn⟩
    have hn2 := HN.out.trans hn
    clear hn HN
    have HN := Lib.hid hn2
    clear hn2
    go_wp2_with fail
    go_ret
    exact ⟨ret_i64 (by rw [← HRES.out, HD.out]; rfl), HN.out⟩
  ·have hkk : k = n := by omega
   have hz : r = 0 := by rw [← HRES.out, if_pos]; have := HK.out; rwa [hkk, ← HN0.out, List.take_length] at this
   have HKK := Lib.hid hkk
   have HZ := Lib.hid hz
   clear hkk hz
   go_wp2_with fail
   go_ret
   exact ⟨ret_i64 HZ.out.symm, HN.out⟩
set_option maxRecDepth 100000 in
theorem rlevels_calls (lo hi : Nat) (w : World) : Calls Tryz.prog 18 #[.agg #[.float .f32 lo, .float .f32 hi]] w (RetNew w (levelsErr lo hi)) := by
 have h1 := fun W => rfin_new lo W
 have h2 := fun W => rfin_new hi W
 cases e1 : isFin lo with
 | false =>
  have hv : levelsErr lo hi = 1 := by unfold levelsErr samplesErr; simp [e1]
  rw [hv]
  rw [e1] at h1
  clear hv h2
  have H1 := Lib.hid h1
  have E1 := Lib.hid e1
  clear h1 e1
  go_enter Tryz.func18, Tryz.ntmps18
  go_wp2_with fail
  have BA := Lib.hid ((Box.alloc w (w.heap.size) 25 #[.float .f32 lo, .float .f32 hi] (by simp)).new (New.refl _))
  have HN := Lib.hid ((New.refl w).alloc (.cells #[.float .f32 lo, .float .f32 hi] 25))
  refine (H1.out _).mono ?_
  rintro e w1 ⟨rfl, hn⟩
  replace BA := Lib.hid (BA.out.new hn)
  replace HN := Lib.hid (HN.out.trans hn)
  clear hn
  go_wp2_with fail
  go_ret
  exact ⟨rfl, HN.out⟩
 | true =>
  rw [e1] at h1
  cases e2 : isFin hi with
  | false =>
   have hv : levelsErr lo hi = 1 := by unfold levelsErr samplesErr; simp [e1, e2]
   rw [hv]
   rw [e2] at h2
   clear hv
   have H1 := Lib.hid h1
   have H2 := Lib.hid h2
   have E1 := Lib.hid e1
   have E2 := Lib.hid e2
   clear h1 h2 e1 e2
   go_enter Tryz.func18, Tryz.ntmps18
   go_wp2_with fail
   have BA := Lib.hid ((Box.alloc w (w.heap.size) 25 #[.float .f32 lo, .float .f32 hi] (by simp)).new (New.refl _))
   have HN := Lib.hid ((New.refl w).alloc (.cells #[.float .f32 lo, .float .f32 hi] 25))
   refine (H1.out _).mono ?_
   rintro e w1 ⟨rfl, hn⟩
   replace BA := Lib.hid (BA.out.new hn)
   replace HN := Lib.hid (HN.out.trans hn)
   clear hn
   obtain ⟨pa0, pa1, pa2, pa3, pa4⟩ := BA.out.two
   go_wp2_with fail
   refine (H2.out _).mono ?_
   rintro e w2 ⟨rfl, hn⟩
   clear pa0 pa1 pa2 pa3 pa4
   replace BA := Lib.hid (BA.out.new hn)
   replace HN := Lib.hid (HN.out.trans hn)
   clear hn
   go_wp2_with fail
   go_ret
   exact ⟨rfl, HN.out⟩
  | true =>
   have hv : levelsErr lo hi = if geqF lo hi then 11 else 0 := by unfold levelsErr samplesErr; simp [e1, e2]
   obtain ⟨v, hvv⟩ : ∃ v : Int, (if geqF lo hi = true then 11 else 0) = v := ⟨_, rfl⟩
   rw [hv, hvv]
   rw [e2] at h2
   obtain ⟨o, ho⟩ : ∃ o, FloatKind.f32.format.order lo hi = o := ⟨_, rfl⟩
   unfold geqF at hvv
   rw [ho] at hvv
   clear hv
   have H1 := Lib.hid h1
   have H2 := Lib.hid h2
   have E1 := Lib.hid e1
   have E2 := Lib.hid e2
   have HV := Lib.hid hvv
   clear h1 h2 e1 e2 hvv
   go_enter Tryz.func18, Tryz.ntmps18
   go_wp2_with fail
   have BA := Lib.hid ((Box.alloc w (w.heap.size) 25 #[.float .f32 lo, .float .f32 hi] (by simp)).new (New.refl _))
   have HN := Lib.hid ((New.refl w).alloc (.cells #[.float .f32 lo, .float .f32 hi] 25))
   refine (H1.out _).mono ?_
   rintro e w1 ⟨rfl, hn⟩
   replace BA := Lib.hid (BA.out.new hn)
   replace HN := Lib.hid (HN.out.trans hn)
   clear hn
   obtain ⟨pa0, pa1, pa2, pa3, pa4⟩ := BA.out.two
   go_wp2_with fail
   refine (H2.out _).mono ?_
   rintro e w2 ⟨rfl, hn⟩
   clear pa0 pa1 pa2 pa3 pa4
   replace BA := Lib.hid (BA.out.new hn)
   replace HN := Lib.hid (HN.out.trans hn)
   clear hn
   obtain ⟨pa0, pa1, pa2, pa3, pa4⟩ := BA.out.two
   rcases o with _ | _ | _ | _ <;> (go_wp2_with fail; go_ret; exact ⟨ret_i64 (by rw [← HV.out]; rfl), HN.out⟩)
end Go.Proofs.YtlfnibjmkfldgaaGreatDoor
namespace Go.Proofs.YtlfnibjmkfldgaaGreatDoor
open Go.RowKit Big
def chkFrom (n : Int) : Option Int → List Int → Int
 | _, [] => 0
 | p, t :: l => if t < 0 ∨ n ≤ t then 3 else if (match p with | some q => decide (t ≤ q) | none => false) = true then 11 else chkFrom n (some t) l
def prevAt (ts : List Int) (k : Nat) : Option Int := if k = 0 then none else ts[k - 1]?
def changesErr (len : Nat) (n : Int) (ts : List Int) : Int := if 4096 < len then 5 else if n < 0 ∨ 4096 < n then 3 else chkFrom n none ts
theorem chk_step {n : Int} {ts : List Int} {k : Nat} {t r : Int} (hk : k < ts.length) (ht : ts[k] = t) (h : chkFrom n (prevAt ts k) (ts.drop k) = r) :
  (t < 0 ∨ n ≤ t → r = 3) ∧ (¬ (t < 0 ∨ n ≤ t) → (∀ q, prevAt ts k = some q → t ≤ q → r = 11)) ∧ (¬ (t < 0 ∨ n ≤ t) → (∀ q, prevAt ts k = some q → ¬ t ≤ q) → chkFrom n (prevAt ts (k + 1)) (ts.drop (k + 1)) = r) := by
 rw [List.drop_eq_getElem_cons hk, ht] at h
 have hp : prevAt ts (k + 1) = some t := by unfold prevAt; rw [if_neg (by omega), Nat.add_sub_cancel, List.getElem?_eq_getElem hk, ht]
 unfold chkFrom at h
 refine ⟨fun h1 => ?_, fun h1 q hq h2 => ?_, fun h1 h2 => ?_⟩
 ·rw [if_pos h1] at h; exact h.symm
 ·rw [if_neg h1, hq] at h
  simp [h2] at h
  exact h.symm
 ·rw [if_neg h1] at h
  rw [hp]
  cases hq : prevAt ts k with
  | none => rw [hq] at h; simpa using h
  | some q =>
   rw [hq] at h
   have := h2 q hq
   simpa [this] using h
theorem wrap_small {j : Nat} (h : (j : Int) < 1000000) : IntKind.i64.wrap (j : Int) = (j : Int) := by
 rw [IntKind.wrap_i64]; omega
end Go.Proofs.YtlfnibjmkfldgaaGreatDoor
namespace Go.Proofs.YtlfnibjmkfldgaaGreatDoor
open Go.RowKit Big
def fromS (ts : List Int) (b : Bool) : Nat → Nat × Bool × List Bool
 | 0 => (0, b, [])
 | i + 1 => let s := fromS ts b i
  if ts[s.1]? = some (i : Int) then (s.1 + 1, !s.2.1, s.2.2 ++ [!s.2.1]) else (s.1, s.2.1, s.2.2 ++ [s.2.1])
theorem fromS_len (ts : List Int) (b : Bool) : ∀ i, (fromS ts b i).2.2.length = i ∧ (fromS ts b i).1 ≤ i
 | 0 => ⟨rfl, Nat.le_refl _⟩
 | i + 1 => by
  obtain ⟨h1, h2⟩ := fromS_len ts b i
  unfold fromS
  simp only
  split
  ·simp [h1]; omega
  ·simp [h1]; omega
end Go.Proofs.YtlfnibjmkfldgaaGreatDoor
