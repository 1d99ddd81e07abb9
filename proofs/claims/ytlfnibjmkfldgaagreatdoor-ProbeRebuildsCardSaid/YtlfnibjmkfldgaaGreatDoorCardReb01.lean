/- Part CardReb01. -/
import Derived.ChangeKeysEq
import Derived.Laws.StructEq
import Derived.Laws.AppendOwnNone
import Derived.Test.YtlfnibjmkfldgaaGreatDoorA23
import Derived.Test.YtlfnibjmkfldgaaGreatDoorA24
import Derived.Test.YtlfnibjmkfldgaaGreatDoorA25
import Derived.Test.YtlfnibjmkfldgaaGreatDoorA28
import Derived.Test.YtlfnibjmkfldgaaGreatDoorA29
import Derived.Test.YtlfnibjmkfldgaaGreatDoorA30
import Derived.Test.YtlfnibjmkfldgaaGreatDoorA32
namespace Go.Proofs.YtlfnibjmkfldgaaGreatDoor
open Go.RowKit Big
theorem few_int (a : Option Addr) (n cap : Nat) (w : World) (hn : n ≤ 9223372036854775807) : Calls Tryz.prog 78 #[.slice a n cap] w (RetNew w (fewErr n)) := by
 have hi : (n : Int) ≤ 9223372036854775807 := by omega
 unfold fewErr
 by_cases h : 4096 < n
 ·rw [if_pos h]
  have hlt : (4096 : Int) < (n : Int) := by omega
  have hd : decide ((4096 : Int) < (n : Int)) = true := decide_eq_true hlt
  go_enter Tryz.func78, Tryz.ntmps78
  go_wp2_with fail
  refine (pwhen_new true 5 _).mono ?_
  rintro e w1 ⟨rfl, hn⟩
  go_wp2_with fail
  go_ret
  exact ⟨rfl, hn⟩
 ·rw [if_neg h]
  have hlt : ¬ (4096 : Int) < (n : Int) := by omega
  have hd : decide ((4096 : Int) < (n : Int)) = false := decide_eq_false hlt
  go_enter Tryz.func78, Tryz.ntmps78
  go_wp2_with fail
  refine (pwhen_new false 5 _).mono ?_
  rintro e w1 ⟨rfl, hn⟩
  go_wp2_with fail
  go_ret
  exact ⟨rfl, hn⟩
end Go.Proofs.YtlfnibjmkfldgaaGreatDoor
namespace Go.Proofs.YtlfnibjmkfldgaaGreatDoor
open Go.RowKit Big
def fromErr (len : Nat) (n : Int) : Int := if 4096 < len then 5 else if outside n 0 4096 then 3 else 0
set_option maxRecDepth 100000 in
theorem from_bad (a : Option Addr) (len cap : Nat) (before : Bool) (n : Int) (w : World) (hl : len ≤ 1000000) (h0 : fromErr len n ≠ 0) :
  Calls Tryz.prog 42 #[.slice a len cap, .bool before, .int .i64 n] w fun e w' => e = .returned (.tuple #[.slice none 0 0, .int .i64 (fromErr len n)]) ∧ New w w' := by
 obtain ⟨e1, he1⟩ : ∃ e1, fewErr len = e1 := ⟨_, rfl⟩
 obtain ⟨e2, he2⟩ : ∃ e2 : Int, (if outside n 0 4096 then 3 else 0) = e2 := ⟨_, rfl⟩
 have hfew := fun W => few_int a len cap W (by omega)
 rw [he1] at hfew
 obtain ⟨r, hr1⟩ : ∃ r, (if e1 = 0 then e2 else e1) = r := ⟨_, rfl⟩
 have hrr : r = fromErr len n := by
  rw [← hr1, ← he1, ← he2]
  unfold fewErr fromErr
  by_cases h : 4096 < len
  ·rw [if_pos h, if_pos h]; rfl
  ·rw [if_neg h, if_neg h]; rfl
 rw [← hrr] at h0 ⊢
 have ht : (r != 0) = true := by simpa using h0
 have HE1 := Lib.hid he1
 have HE2 := Lib.hid he2
 have HR1 := Lib.hid hr1
 have HFEW := Lib.hid hfew
 have HRR := Lib.hid hrr
 have H0 := Lib.hid h0
 clear he1 he2 hr1 hfew hrr h0
 go_enter Tryz.func42, Tryz.ntmps42
 go_wp2_with fail
 refine (HFEW.out _).mono ?_
 rintro e w1 ⟨rfl, hn⟩
 have HN := Lib.hid hn
 clear hn
 go_wp2_with fail
 refine (pwithin_new n 0 4096 _).mono ?_
 rintro e w2 ⟨rfl, hn⟩
 rw [HE2.out]
 replace HN := Lib.hid (HN.out.trans hn)
 clear hn
 go_wp2_with fail
 have HN0 := HN
 clear HN
 have BG := Lib.hid ((Box.alloc w2 (w2.heap.size) 29 #[.int .i64 e1, .int .i64 e2] (by simp)).new (New.refl _))
 have HN := Lib.hid ((New.refl w2).alloc (.cells #[.int .i64 e1, .int .i64 e2] 29))
 have HN_ := HN0.out.trans HN.out
 clear HN HN0
 have HN := Lib.hid HN_
 clear HN_
 refine (pfirst2_new e1 e2 _ _ 29 _ BG.out).mono ?_
 rintro e w3 ⟨rfl, hn⟩
 rw [HR1.out]
 replace HN := Lib.hid (HN.out.trans hn)
 clear hn
 go_wp2_with fail
 go_ret2
 exact ⟨rfl, HN.out⟩
end Go.Proofs.YtlfnibjmkfldgaaGreatDoor
namespace Go.Proofs.YtlfnibjmkfldgaaGreatDoor
open Go.RowKit Big
theorem grown_newS' {w wr w1 : World} {v : Value} {e : TypeId} {S : Nat} {n : Nat} {xs : List Value} (hn : New w wr) (h : wr.ownsRow w.heap.size e S v n xs) (hg : wr.grownBy w1 v.ownBlock) : New w w1 := by
 obtain ⟨a1, a2, a3, a4, a5⟩ := hn
 refine ⟨hg.os.trans a1, ?_, ?_, Nat.le_trans a4 hg.size, fun j hj => ?_⟩
 ·first | exact hg.tape.trans a2 | exact hg.output.trans a2
 ·first | exact hg.output.trans a3 | exact hg.tape.trans a3
 ·exact (hg.block j (Nat.lt_of_lt_of_le hj a4) (own_neS h hj)).trans (a5 j hj)
end Go.Proofs.YtlfnibjmkfldgaaGreatDoor
namespace Go.Proofs.YtlfnibjmkfldgaaGreatDoor
open Go.RowKit Big
set_option maxRecDepth 100000 in
theorem same_bools (a b : Option Addr) (cap cap' : Nat) (xs ys : List Bool) (w : World) (hl : xs.length ≤ 1000000) (hlen : ys.length = xs.length) (hr1 : RdL w a (bools xs)) (hr2 : RdL w b (bools ys)) (hs : ∀ (k : Nat) (h : k < xs.length) (h' : k < ys.length), (fun x y : Bool => !(x == y)) xs[k] ys[k] = false) :
  Calls Tryz.prog 22 #[.slice a xs.length cap, .slice b ys.length cap'] w fun e w' => e = .returned (.bool true) ∧ New w w' := by
 obtain ⟨n, hn⟩ : ∃ n, xs.length = n := ⟨_, rfl⟩
 rw [hlen]
 rw [hn] at hl hlen ⊢
 have hni : (n : Int) ≤ 1000000 := by omega
 have hnn : ((n : Int) != (n : Int)) = false := by simp
 have HR1 := Lib.hid hr1
 have HR2 := Lib.hid hr2
 have HS := Lib.hid hs
 have HN0 := Lib.hid hn
 have HLEN := Lib.hid hlen
 clear hr1 hr2 hs hn hlen
 go_enter Tryz.func22, Tryz.ntmps22
 go_wp2_with fail
 go_loopw [5] (fun i wr => ∃ (k : Nat), k ≤ n ∧ i = .int .i64 (k : Int) ∧ Hid (New w wr)) (fun i _ => n - (intOf i).toNat)
 case atStart => exact ⟨0, Nat.zero_le _, rfl, Lib.hid (New.refl _)⟩
 case round =>
  obtain ⟨k, hk, rfl, HN⟩ := hrel
  by_cases hlt : k < n
  ·have h1 : k < xs.length := by rw [HN0.out]; exact hlt
   have h2 : k < ys.length := by rw [HLEN.out]; exact hlt
   obtain ⟨b1, off1, rfl, hc1⟩ := HR1.out.bool k h1
   obtain ⟨b2, off2, rfl, hc2⟩ := HR2.out.bool k h2
   have hsame := HS.out k h1 h2
   obtain ⟨x, hx⟩ : ∃ x, xs[k] = x := ⟨_, rfl⟩
   obtain ⟨y, hy⟩ : ∃ y, ys[k] = y := ⟨_, rfl⟩
   rw [hx] at hc1
   rw [hy] at hc2
   rw [hx, hy] at hsame
   replace hc1 := HN.out.cell hc1
   replace hc2 := HN.out.cell hc2
   have HX := Lib.hid hx
   have HY := Lib.hid hy
   clear hx hy
   go_wp2_with fail
   go_quiet (fail)
   go_wp2_with fail
   go_roundw
   case rel => exact ⟨k + 1, by omega, by go_num, Lib.hid (HN.out.drewN nq)⟩
   case measure => simp [intOf]; omega
  ·have hkk : k = n := by omega
   have HKK := Lib.hid hkk
   clear hkk
   go_wp2_with fail
   go_ret
   exact ⟨rfl, HN.out⟩
section
variable {P : Program}
end
set_option maxRecDepth 100000 in
theorem Length_calls (a b : Int) (w : World) : Calls Tryz.prog 11 #[.int .i64 a, .int .i64 b] w fun e w' => e = .returned (.bool (a ≤ b || (4096 < a && a ≤ 4098))) ∧ w' = w := by
 go_enter Tryz.func11, Tryz.ntmps11
 by_cases h1 : a ≤ b <;> by_cases h2 : 4096 < a <;> by_cases h3 : a ≤ 4098 <;> (go_wp2_with fail; go_ret; exact ⟨by simp [h1, h2, h3], rfl⟩)
end Go.Proofs.YtlfnibjmkfldgaaGreatDoor
namespace Go.Proofs.YtlfnibjmkfldgaaGreatDoor
open Go.RowKit Big
def chkFrom (n : Int) : Option Int → List Int → Int
 | _, [] => 0
 | p, t :: l => if t < 0 ∨ n ≤ t then 3 else if (match p with | some q => decide (t ≤ q) | none => false) = true then 11 else chkFrom n (some t) l
def prevAt (ts : List Int) (k : Nat) : Option Int := if k = 0 then none else ts[k - 1]?
def changesErr (len : Nat) (n : Int) (ts : List Int) : Int := if 4096 < len then 5 else if n < 0 ∨ 4096 < n then 3 else chkFrom n none ts
theorem chk_step {n : Int} {ts : List Int} {k : Nat} {t r : Int} (hk : k < ts.length) (ht : ts[k] = t) (h : chkFrom n (prevAt ts k) (ts.drop k) = r) :
  (t < 0 ∨ n ≤ t → r = 3) ∧ (¬ (t < 0 ∨ n ≤ t) → (∀ q, prevAt ts k = some q → t ≤ q → r = 11)) ∧ (¬ (t < 0 ∨ n ≤ t) → (∀ q, prevAt ts k = some q → ¬ t ≤ q) → chkFrom n (prevAt ts (k + 1)) (ts.drop (k + 1)) = r) := by
 rw [List.drop_eq_getElem_cons hk, ht] at h
 have hp : prevAt ts (k + 1) = some t := by unfold prevAt; rw [if_neg (by omega), Nat.add_sub_cancel, List.getElem?_eq_getElem hk, ht]
 unfold chkFrom at h
 refine ⟨fun h1 => ?_, fun h1 q hq h2 => ?_, fun h1 h2 => ?_⟩
 ·rw [if_pos h1] at h; exact h.symm
 ·rw [if_neg h1, hq] at h
  simp [h2] at h
  exact h.symm
 ·rw [if_neg h1] at h
  rw [hp]
  cases hq : prevAt ts k with
  | none => rw [hq] at h; simpa using h
  | some q =>
   rw [hq] at h
   have := h2 q hq
   simpa [this] using h
theorem wrap_small {j : Nat} (h : (j : Int) < 1000000) : IntKind.i64.wrap (j : Int) = (j : Int) := by
 rw [IntKind.wrap_i64]; omega
set_option maxRecDepth 100000 in
theorem rcheck_calls (a : Option Addr) (cap m : Nat) (ts : List Int) (n : Int) (w : World) (hm : ts.length = m) (hl : m ≤ 1000000) (hr : RdL w a (ints ts)) :
  Calls Tryz.prog 43 #[.slice a m cap, .int .i64 n] w (RetNew w (changesErr m n ts)) := by
 have hmi : (m : Int) ≤ 1000000 := by omega
 by_cases h4 : 4096 < m
 ·have h4i : (4096 : Int) < m := by omega
  rw [show changesErr m n ts = 5 from if_pos h4]
  clear hr hm hl h4
  go_enter Tryz.func43, Tryz.ntmps43
  go_wp2_with fail
  go_ret
  exact ⟨rfl, New.refl _⟩
 have h4i : ¬ (4096 : Int) < m := by omega
 by_cases hn : n < 0 ∨ 4096 < n
 ·rw [show changesErr m n ts = 3 by unfold changesErr; rw [if_neg h4, if_pos hn]]
  clear hr hm hl h4
  by_cases hn0 : n < 0
  ·clear hn
   go_enter Tryz.func43, Tryz.ntmps43
   go_wp2_with fail
   go_ret
   exact ⟨rfl, New.refl _⟩
  ·have hn1 : 4096 < n := by omega
   have hn2 : ¬ n < 0 := by omega
   clear hn hn0
   go_enter Tryz.func43, Tryz.ntmps43
   go_wp2_with fail
   go_ret
   exact ⟨rfl, New.refl _⟩
 have hn1 : ¬ 4096 < n := by omega
 have hn2 : ¬ n < 0 := by omega
 obtain ⟨r, hres⟩ : ∃ r, chkFrom n none ts = r := ⟨_, rfl⟩
 rw [show changesErr m n ts = r by unfold changesErr; rw [if_neg h4, if_neg hn, hres]]
 clear hn h4
 have HR := Lib.hid hr
 have HMM := Lib.hid hm
 have HRES := Lib.hid hres
 clear hr hm hres
 go_enter Tryz.func43, Tryz.ntmps43
 go_wp2_with fail
 go_loopw [5] (fun i wr => ∃ (k : Nat), k ≤ m ∧ i = .int .i64 (k : Int) ∧ Hid (chkFrom n (prevAt ts k) (ts.drop k) = r) ∧ Hid (New w wr)) (fun i _ => m - (intOf i).toNat)
 case atStart => exact ⟨0, Nat.zero_le _, rfl, Lib.hid HRES.out, Lib.hid (New.refl _)⟩
 case round =>
  obtain ⟨k, hk, rfl, HK, HN⟩ := hrel
  by_cases hlt : k < m
  ·have hlt' : k < ts.length := by rw [HMM.out]; exact hlt
   obtain ⟨b, off, rfl, hcell⟩ := HR.out.int k hlt'
   obtain ⟨t, ht⟩ : ∃ t, ts[k] = t := ⟨_, rfl⟩
   rw [ht] at hcell
   replace hcell := HN.out.cell hcell
   obtain ⟨s1, s2, s3⟩ := chk_step hlt' ht HK.out
   have HT := Lib.hid ht
   clear ht
   by_cases c1 : t < 0
   ·have hr3 := s1 (Or.inl c1)
    clear s1 s2 s3
    have HR3 := Lib.hid hr3
    clear hr3
    go_wp2_with fail
    go_ret
    exact ⟨ret_i64 HR3.out.symm, HN.out⟩
   by_cases c2 : n ≤ t
   ·have hr3 := s1 (Or.inr c2)
    clear s1 s2 s3
    have HR3 := Lib.hid hr3
    clear hr3
    go_wp2_with fail
    go_ret
    exact ⟨ret_i64 HR3.out.symm, HN.out⟩
   have c3 : ¬ (t < 0 ∨ n ≤ t) := by omega
   have S2 := Lib.hid (s2 c3)
   have S3 := Lib.hid (s3 c3)
   clear s1 s2 s3 c3
   by_cases hk0 : 0 < k
   ·obtain ⟨j, hj⟩ : ∃ j, k = j + 1 := ⟨k - 1, by omega⟩
    have hjl : j < ts.length := by omega
    obtain ⟨b', off', eb, hcell2⟩ := HR.out.int j hjl
    simp at eb
    obtain ⟨rfl, rfl⟩ := eb
    obtain ⟨q, hq⟩ : ∃ q, ts[j] = q := ⟨_, rfl⟩
    rw [hq] at hcell2
    replace hcell2 := HN.out.cell hcell2
    have hp : prevAt ts k = some q := by unfold prevAt; rw [if_neg (by omega), hj, Nat.add_sub_cancel, List.getElem?_eq_getElem hjl, hq]
    have hjm : (j : Int) < (m : Int) := by omega
    have hw : IntKind.i64.wrap ((k : Int) - 1) = (j : Int) := by
     have e : (k : Int) - 1 = (j : Int) := by omega
     rw [e]
     exact wrap_small (by omega)
    have hk0i : (0 : Int) < (k : Int) := by omega
    have HQ := Lib.hid hq
    have HJ := Lib.hid hj
    clear hq hj
    by_cases c4 : t ≤ q
    ·have hr11 := S2.out q hp c4
     have HR11 := Lib.hid hr11
     have HP := Lib.hid hp
     clear hr11 hp
     go_wp2_with fail
     go_quiet (fail)
     go_wp2_with fail
     go_ret
     exact ⟨ret_i64 HR11.out.symm, HN.out.drewN _⟩
    ·have hnx := S3.out (fun q' hq' => by rw [hp] at hq'; injection hq' with e; rw [← e]; exact c4)
     have HNX := Lib.hid hnx
     have HP := Lib.hid hp
     clear hnx hp
     go_wp2_with fail
     go_quiet (fail)
     go_wp2_with fail
     go_roundw
     case rel => exact ⟨k + 1, by omega, by go_num, HNX, Lib.hid (HN.out.drewN _)⟩
     case measure => simp [intOf]; omega
   ·obtain rfl : k = 0 := by omega
    have hnx := S3.out (fun q' hq' => by unfold prevAt at hq'; cases hq')
    clear hk0
    simp only [Nat.add_zero] at hcell
    have HNX := Lib.hid hnx
    clear hnx
    go_wp2_with fail
    go_quiet (fail)
    go_wp2_with fail
    go_roundw
    case rel => exact ⟨1, by omega, by go_num, HNX, Lib.hid (HN.out.drewN _)⟩
    case measure => simp [intOf]; omega
  ·have hkk : k = m := by omega
   have hz : r = 0 := by have := HK.out; rw [hkk, ← HMM.out, List.drop_length] at this; rw [← this]; cases prevAt ts ts.length <;> rfl
   have HKK := Lib.hid hkk
   have HZ := Lib.hid hz
   clear hkk hz
   go_wp2_with fail
   go_ret
   exact ⟨ret_i64 HZ.out.symm, HN.out⟩
end Go.Proofs.YtlfnibjmkfldgaaGreatDoor
