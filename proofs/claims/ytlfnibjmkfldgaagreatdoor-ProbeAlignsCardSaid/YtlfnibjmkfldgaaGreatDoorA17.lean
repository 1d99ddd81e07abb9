/- Part A17. -/
import Derived.Lib.IndexMore
import Derived.Shelf.Strings.SlTrimAscii
import Derived.Test.YtlfnibjmkfldgaaGreatDoorA16
namespace Go.Proofs.YtlfnibjmkfldgaaGreatDoor
open Go.RowKit Big
theorem index47 : ∀ l : List UInt8, Lib.index l [47] = if slashed l then ((upTo l).length : Int) else -1
 | [] => rfl
 | b :: l => by
  have ih := index47 l
  rw [Lib.index]
  by_cases hb : b = 47
  ·subst hb
   rw [if_pos (by simp)]
   rw [if_pos (by simp [slashed])]
   simp [upTo]
  ·have h1 : (47 == b) = false := by rw [beq_eq_false_iff_ne]; exact fun h => hb h.symm
   have h2 : (b == 47) = false := by rw [beq_eq_false_iff_ne]; exact hb
   rw [if_neg (by simp; exact fun h => hb h.symm)]
   have h3 : slashed (b :: l) = slashed l := by simp [slashed, h2]
   have h4 : upTo (b :: l) = b :: upTo l := by simp [upTo, hb]
   rw [h3, h4, ih]
   by_cases hs : slashed l = true
   ·rw [if_pos hs, if_pos hs]
    have : ((((upTo l).length : Int)) == -1) = false := by rw [beq_eq_false_iff_ne]; omega
    rw [if_neg (by rw [this]; decide)]
    simp
   ·rw [if_neg hs, if_neg hs]
    rfl
theorem cut47 (l : List UInt8) : Lib.cut l [47] = (upTo l, behind l, slashed l) := by
 unfold Lib.cut
 rw [index47]
 by_cases hs : slashed l = true
 ·rw [if_pos hs, if_pos (by omega), hs]
  have h := split_slash hs
  obtain ⟨A, hA⟩ : ∃ A, upTo l = A := ⟨_, rfl⟩
  obtain ⟨B, hB⟩ : ∃ B, behind l = B := ⟨_, rfl⟩
  rw [hA, hB] at h ⊢
  have e1 : (A.length : Int).toNat = A.length := by omega
  rw [e1, h]
  simp
 ·rw [if_neg hs, if_neg (by omega)]
  have hs' : slashed l = false := by simpa using hs
  obtain ⟨h1, h2⟩ := split_plain hs'
  rw [h1, h2, hs']
theorem slashed_itoa (z : Int) : slashed (Lib.itoa z) = false := by
 rcases Int.lt_or_le z 0 with hz | hz
 ·obtain ⟨n, rfl⟩ : ∃ n : Nat, z = -(n : Int) := ⟨z.natAbs, by omega⟩
  rw [itoa_neg (by omega)]
  have := slashed_plain n
  simpa [slashed] using this
 ·obtain ⟨n, rfl⟩ : ∃ n : Nat, z = (n : Int) := ⟨z.toNat, by omega⟩
  rw [itoa_nonneg]
  exact slashed_plain n
theorem parts_itoa (z : Int) (r : List UInt8) : upTo (Lib.itoa z ++ 47 :: r) = Lib.itoa z ∧ behind (Lib.itoa z ++ 47 :: r) = r := by
 rcases Int.lt_or_le z 0 with hz | hz
 ·obtain ⟨n, rfl⟩ : ∃ n : Nat, z = -(n : Int) := ⟨z.natAbs, by omega⟩
  rw [itoa_neg (by omega)]
  have h1 := upTo_slash n r
  have h2 := behind_slash n r
  unfold upTo at *
  unfold behind at *
  rw [List.cons_append, List.takeWhile_cons, List.dropWhile_cons]
  rw [if_pos (by decide), if_pos (by decide), h1, h2]
  exact ⟨rfl, rfl⟩
 ·obtain ⟨n, rfl⟩ : ∃ n : Nat, z = (n : Int) := ⟨z.toNat, by omega⟩
  rw [itoa_nonneg]
  exact ⟨upTo_slash n r, behind_slash n r⟩
theorem cut_calls (s : ByteArray) (w : World) (he : Env w) (hl : s.size ≤ 1000000) :
  Calls Tryz.prog 110 #[.string s, .string ⟨#[47]⟩] w fun e w' => e = .returned (.tuple #[.string ⟨(upTo s.data.toList).toArray⟩, .string ⟨(behind s.data.toList).toArray⟩, .bool (slashed s.data.toList)]) ∧ New w w' := by
 obtain ⟨m, hm⟩ := he.maxLen
 refine (Tryz.strings_Cut s ⟨#[47]⟩ m w (by omega) hm).mono fun e w' ⟨h1, n, h2⟩ => ⟨?_, by rw [h2]; exact (New.refl w).drewN n⟩
 rw [h1]
 have : (⟨#[47]⟩ : ByteArray).data.toList = [47] := rfl
 rw [this, cut47]
theorem read_itoa (sb : ByteArray) (z : Int) (w : World) (hsb : sb.data.toList = Lib.itoa z) (hl : sb.size ≤ 1000000) : Calls Tryz.prog 114 #[.string sb] w (IntPost w z) := by
 have hl' : (Lib.itoa z).length ≤ 1000000 := by rw [← hsb]; simpa using hl
 rcases Int.lt_or_le z 0 with hz | hz
 ·obtain ⟨n, rfl⟩ : ∃ n : Nat, z = -(n : Int) := ⟨z.natAbs, by omega⟩
  rw [itoa_neg (by omega)] at hsb hl'
  have := read_calls sb true (Lib.decDigits n) w (by rw [hsb]; rfl) (decDigits_dig n) (by simp at hl'; omega)
  rw [dval_decDigits] at this
  exact this
 ·obtain ⟨n, rfl⟩ : ∃ n : Nat, z = (n : Int) := ⟨z.toNat, by omega⟩
  rw [itoa_nonneg] at hsb hl'
  have := read_calls sb false (Lib.decDigits n) w (by rw [hsb]; rfl) (decDigits_dig n) hl'
  rw [dval_decDigits] at this
  exact this
set_option maxRecDepth 100000 in
theorem from_calls (sb : ByteArray) (q : Rat) (w : World) (he : Env w) (hsb : sb.data.toList = ratText q) (hl : sb.size ≤ 1000000) : Calls Tryz.prog 85 #[.string sb] w (FracPost w q) := by
 obtain ⟨A, hA⟩ : ∃ A, upTo sb.data.toList = A := ⟨_, rfl⟩
 obtain ⟨B, hB⟩ : ∃ B, behind sb.data.toList = B := ⟨_, rfl⟩
 have hcut := fun W (h : New w W) => cut_calls sb W (he.new h) hl
 rw [hA, hB] at hcut
 have hlen : sb.data.toList.length ≤ 1000000 := by simpa using hl
 by_cases hd : q.den = 1
 ·have ht : ratText q = Lib.itoa q.num := by unfold ratText; rw [if_pos hd]
  have hs : slashed sb.data.toList = false := by rw [hsb, ht]; exact slashed_itoa _
  have hq : ((q.num : Int) : Rat) = q := by
   apply Rat.ext
   ·rw [Rat.num_intCast]
   ·rw [Rat.den_intCast, hd]
  have hA' : A = Lib.itoa q.num := by rw [← hA, (split_plain hs).1, hsb, ht]
  have hAl : (⟨A.toArray⟩ : ByteArray).size ≤ 1000000 := by
   have : A.length ≤ 1000000 := by rw [hA', ← ht, ← hsb]; exact hlen
   simpa [ByteArray.size] using this
  rw [hs] at hcut
  have HCUT := Lib.hid hcut
  have HA := Lib.hid hA'
  have HAL := Lib.hid hAl
  have HQ := Lib.hid hq
  clear hcut hA' hAl hq
  clear he hsb hA hB hs ht hd hlen
  go_enter Tryz.func85, Tryz.ntmps85
  go_wp2_with fail
  have BP := Lib.hid ((Box.alloc w (w.heap.size) 140 #[.int .i64 0, .slice none 0 0, .int .i64 0, .slice none 0 0] (by simp)).new (New.refl _))
  have HN := Lib.hid ((New.refl w).alloc (.cells #[.int .i64 0, .slice none 0 0, .int .i64 0, .slice none 0 0] 140))
  refine (HCUT.out _ HN.out).mono ?_
  rintro e w1 ⟨rfl, hn⟩
  replace BP := Lib.hid (BP.out.new hn)
  replace HN := Lib.hid (HN.out.trans hn)
  clear hn
  go_wp2_with fail
  refine (read_itoa _ q.num _ HA.out HAL.out).mono ?_
  rintro e w2 ⟨v, rfl, hn, hi⟩
  obtain ⟨s7, a7, l7, k7, rfl⟩ := hi.shape
  have HI := Lib.hid hi
  clear hi
  replace BP := Lib.hid (BP.out.new hn)
  replace HN := Lib.hid (HN.out.trans hn)
  clear hn
  go_wp2_with fail
  refine (whole_calls _ q.num _ HI.out).mono ?_
  rintro e w3 ⟨v, rfl, hn, hf⟩
  rw [HQ.out] at hf
  obtain ⟨s9, a9, l9, k9, t9, b9, m9, n9, rfl⟩ := hf.shape
  have HF := Lib.hid hf
  clear hf
  replace BP := Lib.hid (BP.out.new hn)
  replace HN := Lib.hid (HN.out.trans hn)
  clear hn
  obtain ⟨⟨p0, p1, p2, p3⟩, p4, p5, p6, p7, p8⟩ := BP.out.four
  go_wp2_with fail
  refine bodyPost_ret (v := .agg #[.int .i64 s9, .slice a9 l9 k9, .int .i64 t9, .slice b9 m9 n9]) (by simp [results, Tryz.results85, go_sem, p0, p1, p2, p3]) rfl ?_
  exact frac_ret HN.out BP.out (by omega) HF.out.parts.1 HF.out.parts.2
 ·have ht : ratText q = Lib.itoa q.num ++ 47 :: Lib.decDigits q.den := by unfold ratText; rw [if_neg hd]
  have hs : slashed sb.data.toList = true := by rw [hsb, ht]; simp [slashed]
  have hA' : A = Lib.itoa q.num := by rw [← hA, hsb, ht]; exact (parts_itoa _ _).1
  have hB' : B = Lib.itoa (q.den : Int) := by rw [← hB, hsb, ht, itoa_nonneg]; exact (parts_itoa _ _).2
  have hAB : sb.data.toList = A ++ 47 :: B := by rw [← hA, ← hB]; exact split_slash hs
  have hAl : (⟨A.toArray⟩ : ByteArray).size ≤ 1000000 := by
   rw [hAB, List.length_append, List.length_cons] at hlen
   have : A.length ≤ 1000000 := by omega
   simpa [ByteArray.size] using this
  have hBl : (⟨B.toArray⟩ : ByteArray).size ≤ 1000000 := by
   rw [hAB, List.length_append, List.length_cons] at hlen
   have : B.length ≤ 1000000 := by omega
   simpa [ByteArray.size] using this
  rw [hs] at hcut
  have HCUT := Lib.hid hcut
  have HA := Lib.hid hA'
  have HAL := Lib.hid hAl
  have HB := Lib.hid hB'
  have HBL := Lib.hid hBl
  clear hcut hA' hAl hB' hBl
  clear he hsb hA hB hs ht hd hlen hAB
  go_enter Tryz.func85, Tryz.ntmps85
  go_wp2_with fail
  have BP := Lib.hid ((Box.alloc w (w.heap.size) 140 #[.int .i64 0, .slice none 0 0, .int .i64 0, .slice none 0 0] (by simp)).new (New.refl _))
  have HN := Lib.hid ((New.refl w).alloc (.cells #[.int .i64 0, .slice none 0 0, .int .i64 0, .slice none 0 0] 140))
  refine (HCUT.out _ HN.out).mono ?_
  rintro e w1 ⟨rfl, hn⟩
  replace BP := Lib.hid (BP.out.new hn)
  replace HN := Lib.hid (HN.out.trans hn)
  clear hn
  go_wp2_with fail
  refine (read_itoa _ q.num _ HA.out HAL.out).mono ?_
  rintro e w2 ⟨v, rfl, hn, hi⟩
  obtain ⟨s7, a7, l7, k7, rfl⟩ := hi.shape
  have HI := Lib.hid hi
  clear hi
  replace BP := Lib.hid (BP.out.new hn)
  replace HN := Lib.hid (HN.out.trans hn)
  clear hn
  go_wp2_with fail
  refine (read_itoa _ (q.den : Int) _ HB.out HBL.out).mono ?_
  rintro e w3 ⟨v, rfl, hn, hi⟩
  obtain ⟨s8, a8, l8, k8, rfl⟩ := hi.shape
  have HI8 := Lib.hid hi
  clear hi
  replace BP := Lib.hid (BP.out.new hn)
  replace HI := Lib.hid (HI.out.new hn)
  replace HN := Lib.hid (HN.out.trans hn)
  clear hn
  obtain ⟨⟨p0, p1, p2, p3⟩, p4, p5, p6, p7, p8⟩ := BP.out.four
  go_wp2_with fail
  refine bodyPost_ret (v := .agg #[.int .i64 s7, .slice a7 l7 k7, .int .i64 s8, .slice a8 l8 k8]) (by simp [results, Tryz.results85, go_sem, p0, p1, p2, p3]) rfl ?_
  exact frac_ret HN.out BP.out (by omega) HI.out HI8.out
end Go.Proofs.YtlfnibjmkfldgaaGreatDoor
namespace Go.Proofs.YtlfnibjmkfldgaaGreatDoor
open Go.RowKit Big
theorem ret_i64 {a b : Int} (h : a = b) : Ending.returned (.int .i64 a) = .returned (.int .i64 b) := by rw [h]
theorem nwhen_calls (b : Bool) (n : Int) (w : World) : Calls Tryz.prog 101 #[.bool b, .int .i64 n] w fun e w' => e = .returned (.int .i64 (if b then n else 0)) ∧ w = w' := by
 cases b <;> (go_enter Tryz.func101, Tryz.ntmps101; go_wp2_with fail; go_ret; exact ⟨rfl, rfl⟩)
theorem pwhen_calls (b : Bool) (n : Int) (w : World) : Calls Tryz.prog 63 #[.bool b, .int .i64 n] w fun e w' => e = .returned (.int .i64 (if b then n else 0)) ∧ w = w' := by
 cases b <;> (go_enter Tryz.func63, Tryz.ntmps63; go_wp2_with fail; go_ret; exact ⟨rfl, rfl⟩)
def firstNZ : List Int → Int
 | [] => 0
 | x :: l => if x = 0 then firstNZ l else x
theorem firstNZ_drop {l : List Int} {k : Nat} (hk : k < l.length) (h : firstNZ (l.drop k) = firstNZ l) (h0 : l[k] = 0) : firstNZ (l.drop (k + 1)) = firstNZ l := by
 rw [← h, List.drop_eq_getElem_cons hk, firstNZ, if_pos h0]
theorem firstNZ_at {l : List Int} {k : Nat} (hk : k < l.length) (h : firstNZ (l.drop k) = firstNZ l) (h0 : l[k] ≠ 0) : firstNZ l = l[k] := by
 rw [← h, List.drop_eq_getElem_cons hk, firstNZ, if_neg h0]
set_option maxRecDepth 100000 in
theorem nfirst_calls (l : List Int) (b cap : Nat) (w : World) (hl : l.length ≤ 1000) (hc : ∀ i (h : i < l.length), w.cell? ⟨b, i, none⟩ = some (.int .i64 l[i])) :
  Calls Tryz.prog 112 #[.slice (some ⟨b, 0, none⟩) l.length cap] w fun e w' => e = .returned (.int .i64 (firstNZ l)) ∧ w = w' := by
 obtain ⟨r, hr⟩ : ∃ r, firstNZ l = r := ⟨_, rfl⟩
 rw [hr]
 have hlen : (l.length : Int) ≤ 1000 := by omega
 have HC := Lib.hid hc
 have HR := Lib.hid hr
 clear hc hr
 go_enter Tryz.func112, Tryz.ntmps112
 go_wp2_with fail
 go_loop [7] (fun i => ∃ k : Nat, k ≤ l.length ∧ i = .int .i64 (k : Int) ∧ Hid (firstNZ (l.drop k) = firstNZ l)) (fun i => l.length - (intOf i).toNat)
 case atStart => exact ⟨0, Nat.zero_le _, rfl, Lib.hid rfl⟩
 case round =>
  obtain ⟨k, hk, rfl, HK⟩ := hrel
  by_cases hlt : k < l.length
  ·have hcell := HC.out k hlt
   obtain ⟨x, hx⟩ : ∃ x, l[k] = x := ⟨_, rfl⟩
   rw [hx] at hcell
   by_cases h0 : x = 0
   ·have hx0 : (x != 0) = false := by simp [h0]
    have hd := firstNZ_drop hlt HK.out (hx.trans h0)
    have HX := Lib.hid hx
    have H0 := Lib.hid h0
    have HD := Lib.hid hd
    clear hx h0 hd
    go_wp2_with fail
    go_round
    case rel => exact ⟨k + 1, by omega, by go_num, HD⟩
    case measure => simp [intOf]; omega
   ·have hx0 : (x != 0) = true := by simp [h0]
    have hd := firstNZ_at hlt HK.out (by rw [hx]; exact h0)
    have HX := Lib.hid hx
    have H0 := Lib.hid h0
    have HD := Lib.hid hd
    clear hx h0 hd
    go_wp2_with fail
    go_ret
    exact ⟨ret_i64 (by rw [← HR.out, HD.out, HX.out]), rfl⟩
  ·have hkk : k = l.length := by omega
   have hz : r = 0 := by rw [← HR.out, ← HK.out, hkk, List.drop_length]; rfl
   have HKK := Lib.hid hkk
   have HZ := Lib.hid hz
   clear hkk hz
   go_wp2_with fail
   go_ret
   exact ⟨ret_i64 HZ.out.symm, rfl⟩
set_option maxRecDepth 100000 in
theorem pfirst_calls (l : List Int) (b cap : Nat) (w : World) (hl : l.length ≤ 1000) (hc : ∀ i (h : i < l.length), w.cell? ⟨b, i, none⟩ = some (.int .i64 l[i])) :
  Calls Tryz.prog 57 #[.slice (some ⟨b, 0, none⟩) l.length cap] w fun e w' => e = .returned (.int .i64 (firstNZ l)) ∧ w = w' := by
 obtain ⟨r, hr⟩ : ∃ r, firstNZ l = r := ⟨_, rfl⟩
 rw [hr]
 have hlen : (l.length : Int) ≤ 1000 := by omega
 have HC := Lib.hid hc
 have HR := Lib.hid hr
 clear hc hr
 go_enter Tryz.func57, Tryz.ntmps57
 go_wp2_with fail
 go_loop [7] (fun i => ∃ k : Nat, k ≤ l.length ∧ i = .int .i64 (k : Int) ∧ Hid (firstNZ (l.drop k) = firstNZ l)) (fun i => l.length - (intOf i).toNat)
 case atStart => exact ⟨0, Nat.zero_le _, rfl, Lib.hid rfl⟩
 case round =>
  obtain ⟨k, hk, rfl, HK⟩ := hrel
  by_cases hlt : k < l.length
  ·have hcell := HC.out k hlt
   obtain ⟨x, hx⟩ : ∃ x, l[k] = x := ⟨_, rfl⟩
   rw [hx] at hcell
   by_cases h0 : x = 0
   ·have hx0 : (x != 0) = false := by simp [h0]
    have hd := firstNZ_drop hlt HK.out (hx.trans h0)
    have HX := Lib.hid hx
    have H0 := Lib.hid h0
    have HD := Lib.hid hd
    clear hx h0 hd
    go_wp2_with fail
    go_round
    case rel => exact ⟨k + 1, by omega, by go_num, HD⟩
    case measure => simp [intOf]; omega
   ·have hx0 : (x != 0) = true := by simp [h0]
    have hd := firstNZ_at hlt HK.out (by rw [hx]; exact h0)
    have HX := Lib.hid hx
    have H0 := Lib.hid h0
    have HD := Lib.hid hd
    clear hx h0 hd
    go_wp2_with fail
    go_ret
    exact ⟨ret_i64 (by rw [← HR.out, HD.out, HX.out]), rfl⟩
  ·have hkk : k = l.length := by omega
   have hz : r = 0 := by rw [← HR.out, ← HK.out, hkk, List.drop_length]; rfl
   have HKK := Lib.hid hkk
   have HZ := Lib.hid hz
   clear hkk hz
   go_wp2_with fail
   go_ret
   exact ⟨ret_i64 HZ.out.symm, rfl⟩
def outside (n lo hi : Int) : Bool := decide (n < lo) || decide (hi < n)
theorem pwithin_calls (n lo hi : Int) (w : World) : Calls Tryz.prog 64 #[.int .i64 n, .int .i64 lo, .int .i64 hi] w fun e w' => e = .returned (.int .i64 (if outside n lo hi then 3 else 0)) ∧ w = w' := by
 obtain ⟨r, hr⟩ : ∃ r, outside n lo hi = r := ⟨_, rfl⟩
 rw [hr]
 unfold outside at hr
 by_cases h1 : n < lo
 ·have hb : r = true := by rw [← hr]; simp [h1]
  subst hb
  clear hr
  go_enter Tryz.func64, Tryz.ntmps64
  go_wp2_with fail
  refine (pwhen_calls true 3 _).mono ?_
  rintro e w' ⟨rfl, rfl⟩
  go_wp2_with fail
  go_ret
  exact ⟨rfl, rfl⟩
 ·by_cases h2 : hi < n
  ·have hb : r = true := by rw [← hr]; simp [h2]
   subst hb
   clear hr
   go_enter Tryz.func64, Tryz.ntmps64
   go_wp2_with fail
   refine (pwhen_calls true 3 _).mono ?_
   rintro e w' ⟨rfl, rfl⟩
   go_wp2_with fail
   go_ret
   exact ⟨rfl, rfl⟩
  ·have hb : r = false := by rw [← hr]; simp [h1, h2]
   subst hb
   clear hr
   go_enter Tryz.func64, Tryz.ntmps64
   go_wp2_with fail
   refine (pwhen_calls false 3 _).mono ?_
   rintro e w' ⟨rfl, rfl⟩
   go_wp2_with fail
   go_ret
   exact ⟨rfl, rfl⟩
theorem firstNZ2 (x y : Int) : firstNZ [x, y] = if x = 0 then y else x := by
 unfold firstNZ
 split
 ·unfold firstNZ
  split
  ·rename_i h; rw [h]; rfl
  ·rfl
 ·rfl
theorem firstNZ3 (x y z : Int) : firstNZ [x, y, z] = if x = 0 then (if y = 0 then z else y) else x := by
 rw [firstNZ, firstNZ2]
theorem nfirst2 (x y : Int) (b cap : Nat) (t : TypeId) (w : World) (h : Box w b t #[.int .i64 x, .int .i64 y]) :
  Calls Tryz.prog 112 #[.slice (some ⟨b, 0, none⟩) 2 cap] w fun e w' => e = .returned (.int .i64 (if x = 0 then y else x)) ∧ w = w' := by
 have := nfirst_calls [x, y] b cap w (by simp) (fun i hi => by
  have : i = 0 ∨ i = 1 := by simp at hi; omega
  rcases this with rfl | rfl
  ·exact h.two.1
  ·exact h.two.2.1)
 rw [firstNZ2] at this
 exact this
theorem pfirst2 (x y : Int) (b cap : Nat) (t : TypeId) (w : World) (h : Box w b t #[.int .i64 x, .int .i64 y]) :
  Calls Tryz.prog 57 #[.slice (some ⟨b, 0, none⟩) 2 cap] w fun e w' => e = .returned (.int .i64 (if x = 0 then y else x)) ∧ w = w' := by
 have := pfirst_calls [x, y] b cap w (by simp) (fun i hi => by
  have : i = 0 ∨ i = 1 := by simp at hi; omega
  rcases this with rfl | rfl
  ·exact h.two.1
  ·exact h.two.2.1)
 rw [firstNZ2] at this
 exact this
theorem pfirst3 (x y z : Int) (b cap : Nat) (t : TypeId) (w : World) (h : Box w b t #[.int .i64 x, .int .i64 y, .int .i64 z]) :
  Calls Tryz.prog 57 #[.slice (some ⟨b, 0, none⟩) 3 cap] w fun e w' => e = .returned (.int .i64 (if x = 0 then (if y = 0 then z else y) else x)) ∧ w = w' := by
 have := pfirst_calls [x, y, z] b cap w (by simp) (fun i hi => by
  have : i = 0 ∨ i = 1 ∨ i = 2 := by simp at hi; omega
  rcases this with rfl | rfl | rfl
  ·exact h.cell 0
  ·exact h.cell 1
  ·exact h.cell 2)
 rw [firstNZ3] at this
 exact this
end Go.Proofs.YtlfnibjmkfldgaaGreatDoor
namespace Go.Proofs.YtlfnibjmkfldgaaGreatDoor
open Go.RowKit Big
theorem strTrim_calls (s : ByteArray) (w : World) (hs : s.size ≤ 1000000) : Calls Tryz.prog 133 #[.string s, .string ⟨#[48, 49, 50, 51, 52, 53, 54, 55, 56, 57]⟩] w fun e w' => e = .returned (.string ⟨(Lib.trimS s.data.toList [48, 49, 50, 51, 52, 53, 54, 55, 56, 57]).toArray⟩) ∧ New w w' :=
 Any.strings_Trim_laid Tryz.lays160 (by kernel_rfl) s ⟨#[48, 49, 50, 51, 52, 53, 54, 55, 56, 57]⟩ w (by omega) (by decide) (ascii_of_all (by decide))
theorem decimal_empty (w : World) : Calls Tryz.prog 111 #[.string ⟨#[]⟩] w fun e w' => e = .returned (.bool false) ∧ New w w' := by
 go_enter Tryz.func111, Tryz.ntmps111
 go_wp2_with fail
 go_ret
 exact ⟨rfl, New.refl _⟩
theorem digs_contains (c : UInt8) : ([48, 49, 50, 51, 52, 53, 54, 55, 56, 57] : List UInt8).contains c = isDig c := by
 have key : ∀ n, n < 256 → ([48, 49, 50, 51, 52, 53, 54, 55, 56, 57] : List UInt8).contains (UInt8.ofNat n) = isDig (UInt8.ofNat n) := by decide +kernel
 have := key c.toNat (UInt8.toNat_lt c)
 rwa [UInt8.ofNat_toNat] at this
theorem dropWhile_nil_iff {p : UInt8 → Bool} : ∀ {l : List UInt8}, l.dropWhile p = [] ↔ ∀ c ∈ l, p c = true := by
 intro l
 exact ⟨fun h => all_of_dropWhile h, fun h => dropWhile_all h⟩
theorem dropWhile_head {p : UInt8 → Bool} : ∀ {l : List UInt8} {c : UInt8} {r : List UInt8}, l.dropWhile p = c :: r → p c = false
 | [], c, r, h => by cases h
 | x :: l, c, r, h => by
  rw [List.dropWhile_cons] at h
  split at h
  ·exact dropWhile_head h
  ·rename_i hx
   cases h
   simpa using hx
theorem trimS_nil {l : List UInt8} : Lib.trimS l [48, 49, 50, 51, 52, 53, 54, 55, 56, 57] = [] ↔ l.all isDig = true := by
 unfold Lib.trimS Lib.trimLeftS Lib.trimRightS
 simp only [digs_contains]
 rw [dropWhile_nil_iff, List.all_eq_true]
 constructor
 ·intro h
  cases hd : l.reverse.dropWhile isDig with
  | nil =>
   intro c hc
   exact dropWhile_nil_iff.1 hd c (by simpa using hc)
  | cons c r =>
   have h1 := dropWhile_head hd
   have h2 := h c (by rw [hd]; simp)
   rw [h1] at h2
   cases h2
 ·intro h c hc
  have : l.reverse.dropWhile isDig = [] := dropWhile_nil_iff.2 fun x hx => h x (by simpa using hx)
  rw [this] at hc
  simp at hc
theorem ret_bool {a b : Bool} (h : a = b) : Ending.returned (.bool a) = .returned (.bool b) := by rw [h]
theorem decimal_some (c : UInt8) (l : List UInt8) (w : World) (hl : (c :: l).length ≤ 1000000) : Calls Tryz.prog 111 #[.string ⟨(c :: l).toArray⟩] w fun e w' => e = .returned (.bool (isDec (c :: l))) ∧ New w w' := by
 obtain ⟨r, hr⟩ : ∃ r, isDec (c :: l) = r := ⟨_, rfl⟩
 rw [hr]
 have ht := fun W => strTrim_calls ⟨(c :: l).toArray⟩ W (by simpa [ByteArray.size] using hl)
 have HT := Lib.hid ht
 have HR := Lib.hid hr
 have HL := Lib.hid hl
 clear ht hr hl
 go_enter Tryz.func111, Tryz.ntmps111
 go_wp2_with fail
 refine (HT.out _).mono ?_
 rintro e w1 ⟨rfl, hn⟩
 obtain ⟨X, hX⟩ : ∃ X, Lib.trimS (⟨(c :: l).toArray⟩ : ByteArray).data.toList [48, 49, 50, 51, 52, 53, 54, 55, 56, 57] = X := ⟨_, rfl⟩
 rw [hX]
 have hX : Lib.trimS (c :: l) [48, 49, 50, 51, 52, 53, 54, 55, 56, 57] = X := hX
 have HN := Lib.hid hn
 have HX := Lib.hid hX
 clear hn hX
 cases X with
 | nil =>
  have hall := trimS_nil.1 HX.out
  by_cases hc : c.toNat = 48
  ·have hc8 : c = 48 := UInt8.toNat_inj.1 hc
   have hr2 : r = l.isEmpty := by
    rw [← HR.out]
    unfold isDec
    rw [hall, hc8]
    cases l <;> simp
   have HALL := Lib.hid hall
   have HC := Lib.hid hc
   have HR2 := Lib.hid hr2
   clear hall hc hr2
   subst hc8
   go_wp2_with fail
   all_goals go_ret
   all_goals exact ⟨ret_bool (by rw [HR2.out]; try rfl), HN.out⟩
  ·have hc8 : c ≠ 48 := fun h => hc (by rw [h]; rfl)
   have hr2 : r = true := by
    rw [← HR.out]
    unfold isDec
    rw [hall]
    simp [hc8]
   have hci : ¬ ((c.toNat : Int) = 48) := by omega
   have hci2 : ((c.toNat : Int) == 48) = false := beq_eq_false_iff_ne.2 hci
   have hg : (⟨(c :: l).toArray⟩ : ByteArray)[0]'(by simp [ByteArray.size]) = c := rfl
   have HALL := Lib.hid hall
   have HC := Lib.hid hc
   have HR2 := Lib.hid hr2
   have HC8 := Lib.hid hc8
   clear hall hc hr2 hc8
   go_wp2_with fail
   all_goals go_ret
   all_goals exact ⟨ret_bool HR2.out.symm, HN.out⟩
 | cons x X =>
  have hr2 : r = false := by
   rw [← HR.out]
   have hall : (c :: l).all isDig = false := by
    cases h : (c :: l).all isDig with
    | false => rfl
    | true =>
     have := trimS_nil.2 h
     rw [HX.out] at this
     cases this
   unfold isDec
   rw [hall]
   simp
  have HR2 := Lib.hid hr2
  clear hr2
  go_wp2_with fail
  go_ret
  exact ⟨ret_bool HR2.out.symm, HN.out⟩
theorem decimal_calls (s : ByteArray) (w : World) (hl : s.size ≤ 1000000) : Calls Tryz.prog 111 #[.string s] w fun e w' => e = .returned (.bool (isDec s.data.toList)) ∧ New w w' := by
 obtain ⟨⟨l⟩⟩ := s
 cases l with
 | nil => exact decimal_empty w
 | cons c l => exact decimal_some c l w (by simpa [ByteArray.size] using hl)
end Go.Proofs.YtlfnibjmkfldgaaGreatDoor
