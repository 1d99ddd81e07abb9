/- Part CardBlk02. -/
import Derived.Laws.AppendOwnNone
import Derived.Test.YtlfnibjmkfldgaaGreatDoorA23
import Derived.Test.YtlfnibjmkfldgaaGreatDoorA25
import Derived.Test.YtlfnibjmkfldgaaGreatDoorA28
import Derived.Test.YtlfnibjmkfldgaaGreatDoorCardBlk01
namespace Go.Proofs.YtlfnibjmkfldgaaGreatDoor
open Go.RowKit Big
def nzAt : Nat → List Nat → Int
 | _, [] => -1
 | k, x :: l => if x = 0 then nzAt (k + 1) l else (k : Int)
theorem nzAt_ok : ∀ (l : List Nat) (k : Nat), (∀ x ∈ l, x = 0) → nzAt k l = -1
 | [], _, _ => rfl
 | x :: l, k, h => by
  unfold nzAt
  rw [if_pos (h x (by simp))]
  exact nzAt_ok l (k + 1) (fun y hy => h y (by simp [hy]))
theorem nzAt_bad : ∀ (l : List Nat) (k : Nat), (∃ x ∈ l, x ≠ 0) → 0 ≤ nzAt k l
 | [], _, h => by obtain ⟨x, hx, _⟩ := h; simp at hx
 | x :: l, k, h => by
  unfold nzAt
  by_cases h0 : x = 0
  ·rw [if_pos h0]
   refine nzAt_bad l (k + 1) ?_
   obtain ⟨y, hy, hy0⟩ := h
   rcases List.mem_cons.1 hy with rfl | hy
   ·exact absurd h0 hy0
   ·exact ⟨y, hy, hy0⟩
  ·rw [if_neg h0]; omega
theorem nzAt_drop (xs : List Nat) (k : Nat) (h : k < xs.length) : nzAt k (xs.drop k) = if xs[k] = 0 then nzAt (k + 1) (xs.drop (k + 1)) else (k : Int) := by
 rw [List.drop_eq_getElem_cons h]
 rfl
theorem RdL.w16 {w : World} {a : Option Addr} {l : List Nat} (h : RdL w a (words l)) (i : Nat) (hi : i < l.length) : ∃ b off, a = some ⟨b, off, none⟩ ∧ w.cell? ⟨b, off + i, none⟩ = some (.int .u16 (l[i] : Nat)) := by
 obtain ⟨b, off, e, hc⟩ := h i (by simpa [words] using hi)
 exact ⟨b, off, e, by rw [hc]; simp [words]⟩
set_option maxRecDepth 100000 in
theorem index_words (a : Option Addr) (cap N : Nat) (xs : List Nat) (w : World) (hr : RdL w a (words xs)) (hN : xs.length = N) (hl : N ≤ 1000000) :
  Calls Tryz.prog 106 #[.slice a N cap, .func (.func 77) #[] #[]] w fun e w' => e = .returned (.int .i64 (nzAt 0 xs)) ∧ New w w' := by
 have hNi : (N : Int) ≤ 1000000 := by omega
 have HR := Lib.hid hr
 have HNN := Lib.hid hN
 clear hr hN
 go_enter Tryz.func106, Tryz.ntmps106
 go_wp2_with fail
 go_loopw [8] (fun i wr => ∃ (k : Nat), k ≤ N ∧ i = .int .i64 (k : Int) ∧ Hid (nzAt 0 xs = nzAt k (xs.drop k)) ∧ Hid (New w wr)) (fun i _ => N - (intOf i).toNat)
 case atStart => exact ⟨0, Nat.zero_le _, rfl, Lib.hid rfl, Lib.hid (New.refl _)⟩
 case round =>
  obtain ⟨k, hk, rfl, HO, HN⟩ := hrel
  by_cases hlt : k < N
  ·have hkl : k < xs.length := by rw [HNN.out]; exact hlt
   obtain ⟨b1, off1, rfl, hcell⟩ := HR.out.w16 k hkl
   have hd := nzAt_drop xs k hkl
   obtain ⟨x, hx⟩ : ∃ x, xs[k] = x := ⟨_, rfl⟩
   rw [hx] at hcell hd
   replace hcell := HN.out.cell hcell
   have hcall := fun W => unpack1_calls x W
   obtain ⟨d, hdd⟩ : ∃ d, decide (x ≠ 0) = d := ⟨_, rfl⟩
   simp only [hdd] at hcall
   cases d with
   | false =>
    have h0 : x = 0 := by simpa using hdd
    rw [if_pos h0] at hd
    clear hdd h0
    have HD := Lib.hid hd
    have HX := Lib.hid hx
    have HCALL := Lib.hid hcall
    clear hd hx hcall
    go_wp2_with fail
    refine (HCALL.out _).mono ?_
    rintro e w1 ⟨rfl, hw1⟩
    subst hw1
    go_wp2_with fail
    go_roundw
    case rel => exact ⟨k + 1, by omega, by go_num, Lib.hid (HO.out.trans HD.out), HN⟩
    case measure => simp [intOf]; omega
   | true =>
    have h0 : ¬ x = 0 := by simpa using hdd
    rw [if_neg h0] at hd
    clear hdd h0
    have HD := Lib.hid hd
    have HX := Lib.hid hx
    have HCALL := Lib.hid hcall
    clear hd hx hcall
    go_wp2_with fail
    refine (HCALL.out _).mono ?_
    rintro e w1 ⟨rfl, hw1⟩
    subst hw1
    go_wp2_with fail
    go_ret
    exact ⟨by rw [HO.out, HD.out]; rfl, HN.out⟩
  ·have hkk : k = N := by omega
   have ho := HO.out
   rw [List.drop_eq_nil_of_le (by rw [HNN.out]; omega)] at ho
   have HO2 := Lib.hid ho
   have HKK := Lib.hid hkk
   clear ho hkk
   go_wp2_with fail
   go_ret
   exact ⟨by rw [HO2.out]; rfl, HN.out⟩
theorem contains_words (a : Option Addr) (cap N : Nat) (xs : List Nat) (w : World) (hr : RdL w a (words xs)) (hN : xs.length = N) (hl : N ≤ 1000000) :
  Calls Tryz.prog 76 #[.slice a N cap, .func (.func 77) #[] #[]] w fun e w' => e = .returned (.bool (decide (0 ≤ nzAt 0 xs))) ∧ New w w' := by
 have hi := index_words a cap N xs w hr hN hl
 obtain ⟨r, hr2⟩ : ∃ r, nzAt 0 xs = r := ⟨_, rfl⟩
 rw [hr2] at hi ⊢
 clear hr hr2
 have HI := Lib.hid hi
 clear hi
 go_enter Tryz.func76, Tryz.ntmps76
 go_wp2_with fail
 refine HI.out.mono ?_
 rintro e w1 ⟨rfl, hn⟩
 go_wp2_with fail
 go_ret
 exact ⟨rfl, hn⟩
theorem pblocks_any (n : Int) (w : World) : Calls Tryz.prog 75 #[.int .i64 n] w fun e w' => (∃ z, e = .returned (.int .i64 z)) ∧ New w w' := by
 go_enter Tryz.func75, Tryz.ntmps75
 go_wp2_with fail
 go_ret
 exact ⟨⟨_, rfl⟩, New.refl _⟩
theorem put16 {w : World} {B : Nat} {t : TypeId} {z0 z1 z2 z3 z4 z5 z6 z7 z8 z9 z10 z11 z12 z13 z14 z15 : Value} (h : Box w B t #[z0, z1, z2, z3, z4, z5, z6, z7, z8, z9, z10, z11, z12, z13, z14, z15]) (x0 x1 x2 x3 x4 x5 x6 x7 x8 x9 x10 x11 x12 x13 x14 x15 : Value) : Box ((((((((((((((((w.setCell ⟨B, 0, none⟩ x0).setCell ⟨B, 1, none⟩ x1).setCell ⟨B, 2, none⟩ x2).setCell ⟨B, 3, none⟩ x3).setCell ⟨B, 4, none⟩ x4).setCell ⟨B, 5, none⟩ x5).setCell ⟨B, 6, none⟩ x6).setCell ⟨B, 7, none⟩ x7).setCell ⟨B, 8, none⟩ x8).setCell ⟨B, 9, none⟩ x9).setCell ⟨B, 10, none⟩ x10).setCell ⟨B, 11, none⟩ x11).setCell ⟨B, 12, none⟩ x12).setCell ⟨B, 13, none⟩ x13).setCell ⟨B, 14, none⟩ x14).setCell ⟨B, 15, none⟩ x15) B t #[x0, x1, x2, x3, x4, x5, x6, x7, x8, x9, x10, x11, x12, x13, x14, x15] := by
 have h0 : Box (w.setCell ⟨B, 0, none⟩ x0) B t #[x0, z1, z2, z3, z4, z5, z6, z7, z8, z9, z10, z11, z12, z13, z14, z15] := by
  have := h.set 0 x0
  simpa using this
 generalize hw1 : w.setCell ⟨B, 0, none⟩ x0 = w1 at h0 ⊢
 have h1 : Box (w1.setCell ⟨B, 1, none⟩ x1) B t #[x0, x1, z2, z3, z4, z5, z6, z7, z8, z9, z10, z11, z12, z13, z14, z15] := by
  have := h0.set 1 x1
  simpa using this
 generalize hw2 : w1.setCell ⟨B, 1, none⟩ x1 = w2 at h1 ⊢
 have h2 : Box (w2.setCell ⟨B, 2, none⟩ x2) B t #[x0, x1, x2, z3, z4, z5, z6, z7, z8, z9, z10, z11, z12, z13, z14, z15] := by
  have := h1.set 2 x2
  simpa using this
 generalize hw3 : w2.setCell ⟨B, 2, none⟩ x2 = w3 at h2 ⊢
 have h3 : Box (w3.setCell ⟨B, 3, none⟩ x3) B t #[x0, x1, x2, x3, z4, z5, z6, z7, z8, z9, z10, z11, z12, z13, z14, z15] := by
  have := h2.set 3 x3
  simpa using this
 generalize hw4 : w3.setCell ⟨B, 3, none⟩ x3 = w4 at h3 ⊢
 have h4 : Box (w4.setCell ⟨B, 4, none⟩ x4) B t #[x0, x1, x2, x3, x4, z5, z6, z7, z8, z9, z10, z11, z12, z13, z14, z15] := by
  have := h3.set 4 x4
  simpa using this
 generalize hw5 : w4.setCell ⟨B, 4, none⟩ x4 = w5 at h4 ⊢
 have h5 : Box (w5.setCell ⟨B, 5, none⟩ x5) B t #[x0, x1, x2, x3, x4, x5, z6, z7, z8, z9, z10, z11, z12, z13, z14, z15] := by
  have := h4.set 5 x5
  simpa using this
 generalize hw6 : w5.setCell ⟨B, 5, none⟩ x5 = w6 at h5 ⊢
 have h6 : Box (w6.setCell ⟨B, 6, none⟩ x6) B t #[x0, x1, x2, x3, x4, x5, x6, z7, z8, z9, z10, z11, z12, z13, z14, z15] := by
  have := h5.set 6 x6
  simpa using this
 generalize hw7 : w6.setCell ⟨B, 6, none⟩ x6 = w7 at h6 ⊢
 have h7 : Box (w7.setCell ⟨B, 7, none⟩ x7) B t #[x0, x1, x2, x3, x4, x5, x6, x7, z8, z9, z10, z11, z12, z13, z14, z15] := by
  have := h6.set 7 x7
  simpa using this
 generalize hw8 : w7.setCell ⟨B, 7, none⟩ x7 = w8 at h7 ⊢
 have h8 : Box (w8.setCell ⟨B, 8, none⟩ x8) B t #[x0, x1, x2, x3, x4, x5, x6, x7, x8, z9, z10, z11, z12, z13, z14, z15] := by
  have := h7.set 8 x8
  simpa using this
 generalize hw9 : w8.setCell ⟨B, 8, none⟩ x8 = w9 at h8 ⊢
 have h9 : Box (w9.setCell ⟨B, 9, none⟩ x9) B t #[x0, x1, x2, x3, x4, x5, x6, x7, x8, x9, z10, z11, z12, z13, z14, z15] := by
  have := h8.set 9 x9
  simpa using this
 generalize hw10 : w9.setCell ⟨B, 9, none⟩ x9 = w10 at h9 ⊢
 have h10 : Box (w10.setCell ⟨B, 10, none⟩ x10) B t #[x0, x1, x2, x3, x4, x5, x6, x7, x8, x9, x10, z11, z12, z13, z14, z15] := by
  have := h9.set 10 x10
  simpa using this
 generalize hw11 : w10.setCell ⟨B, 10, none⟩ x10 = w11 at h10 ⊢
 have h11 : Box (w11.setCell ⟨B, 11, none⟩ x11) B t #[x0, x1, x2, x3, x4, x5, x6, x7, x8, x9, x10, x11, z12, z13, z14, z15] := by
  have := h10.set 11 x11
  simpa using this
 generalize hw12 : w11.setCell ⟨B, 11, none⟩ x11 = w12 at h11 ⊢
 have h12 : Box (w12.setCell ⟨B, 12, none⟩ x12) B t #[x0, x1, x2, x3, x4, x5, x6, x7, x8, x9, x10, x11, x12, z13, z14, z15] := by
  have := h11.set 12 x12
  simpa using this
 generalize hw13 : w12.setCell ⟨B, 12, none⟩ x12 = w13 at h12 ⊢
 have h13 : Box (w13.setCell ⟨B, 13, none⟩ x13) B t #[x0, x1, x2, x3, x4, x5, x6, x7, x8, x9, x10, x11, x12, x13, z14, z15] := by
  have := h12.set 13 x13
  simpa using this
 generalize hw14 : w13.setCell ⟨B, 13, none⟩ x13 = w14 at h13 ⊢
 have h14 : Box (w14.setCell ⟨B, 14, none⟩ x14) B t #[x0, x1, x2, x3, x4, x5, x6, x7, x8, x9, x10, x11, x12, x13, x14, z15] := by
  have := h13.set 14 x14
  simpa using this
 generalize hw15 : w14.setCell ⟨B, 14, none⟩ x14 = w15 at h14 ⊢
 have h15 : Box (w15.setCell ⟨B, 15, none⟩ x15) B t #[x0, x1, x2, x3, x4, x5, x6, x7, x8, x9, x10, x11, x12, x13, x14, x15] := by
  have := h14.set 15 x15
  simpa using this
 exact h15
def unpackErr (N : Nat) (n : Int) : Int := if 256 < N then 5 else if outside n 0 4096 then 3 else if N = nBlocks n.toNat then 0 else 2
set_option maxRecDepth 100000 in
theorem unpack_bad (a : Option Addr) (cap N : Nat) (n : Int) (w : World) (hl : N ≤ 1000000) (h0 : unpackErr N n ≠ 0) :
  Calls Tryz.prog 38 #[.slice a N cap, .int .i64 n] w fun e w' => e = .returned (.tuple #[.slice none 0 0, .int .i64 (unpackErr N n)]) ∧ New w w' := by
 obtain ⟨r, hres⟩ : ∃ r, unpackErr N n = r := ⟨_, rfl⟩
 rw [hres] at h0 ⊢
 have hNi : (N : Int) ≤ 1000000 := by omega
 obtain ⟨b1, hb1⟩ : ∃ b, decide ((256 : Int) < (N : Int)) = b := ⟨_, rfl⟩
 obtain ⟨e1, he1⟩ : ∃ e : Int, (if b1 then 5 else 0) = e := ⟨_, rfl⟩
 obtain ⟨e2, he2⟩ : ∃ e : Int, (if outside n 0 4096 then 3 else 0) = e := ⟨_, rfl⟩
 have hbl : ∀ W, Calls Tryz.prog 75 #[.int .i64 n] W fun e w' => (∃ z : Int, e = .returned (.int .i64 z) ∧ (e1 = 0 → e2 = 0 → z = (nBlocks n.toNat : Nat))) ∧ New W w' := by
  intro W
  by_cases h : e2 = 0
  ·have ho : outside n 0 4096 = false := by
    cases hh : outside n 0 4096 with
    | false => rfl
    | true => rw [hh] at he2; simp at he2; omega
   simp only [outside, Bool.or_eq_false_iff, decide_eq_false_iff_not] at ho
   obtain ⟨k, rfl⟩ : ∃ k : Nat, n = k := ⟨n.toNat, by omega⟩
   refine (pblocks_calls k W (by omega)).mono fun e w' hp => ?_
   exact ⟨⟨_, hp.1, fun _ _ => by rw [Int.toNat_natCast]; rfl⟩, hp.2⟩
  ·refine (pblocks_any n W).mono fun e w' hp => ?_
   obtain ⟨⟨z, hz⟩, hn⟩ := hp
   exact ⟨⟨z, hz, fun _ h' => absurd h' h⟩, hn⟩
 have hfin : ∀ z e3 : Int, (e1 = 0 → e2 = 0 → z = (nBlocks n.toNat : Nat)) → (if ((N : Int) != z) then (2 : Int) else 0) = e3 → (if e1 = 0 then (if e2 = 0 then e3 else e2) else e1) = r := by
  intro z e3 hz he3
  rw [← hres]
  unfold unpackErr
  by_cases h256 : 256 < N
  ·have : b1 = true := by rw [← hb1, decide_eq_true_eq]; omega
   subst this
   simp at he1
   subst he1
   rw [if_pos h256]
   rfl
  ·have : b1 = false := by rw [← hb1, decide_eq_false_iff_not]; omega
   subst this
   simp at he1
   subst he1
   rw [if_neg h256, if_pos rfl]
   by_cases ho : outside n 0 4096 = true
   ·rw [if_pos ho] at he2 ⊢
    subst he2
    rfl
   ·rw [if_neg ho] at he2 ⊢
    subst he2
    rw [if_pos rfl, ← he3, hz rfl rfl]
    by_cases hN : N = nBlocks n.toNat
    ·rw [if_pos hN, if_neg (by simp; omega)]
    ·rw [if_neg hN, if_pos (by rw [bne_iff_ne]; omega)]
 have htr : (r != 0) = true := by simpa using h0
 clear hres hl
 have HE1 := Lib.hid he1
 have HE2 := Lib.hid he2
 have HBL := Lib.hid hbl
 have HFIN := Lib.hid hfin
 have H0 := Lib.hid h0
 clear he1 he2 hbl hfin h0
 go_enter Tryz.func38, Tryz.ntmps38
 go_wp2_with fail
 refine (pwhen_new b1 5 _).mono ?_
 rintro e w1 ⟨rfl, hn⟩
 rw [HE1.out]
 have HN := Lib.hid hn
 clear hn
 go_wp2_with fail
 refine (pwithin_new n 0 4096 _).mono ?_
 rintro e w2 ⟨rfl, hn⟩
 rw [HE2.out]
 replace HN := Lib.hid (HN.out.trans hn)
 clear hn
 go_wp2_with fail
 refine (HBL.out _).mono ?_
 rintro e w3 ⟨⟨z, rfl, hz⟩, hn⟩
 replace HN := Lib.hid (HN.out.trans hn)
 clear hn
 obtain ⟨b3, hb3⟩ : ∃ b, ((N : Int) != z) = b := ⟨_, rfl⟩
 obtain ⟨e3, he3⟩ : ∃ e : Int, (if b3 then 2 else 0) = e := ⟨_, rfl⟩
 have hrr := HFIN.out z e3 hz (by rw [hb3]; exact he3)
 clear hz
 have HE3 := Lib.hid he3
 have HRR := Lib.hid hrr
 clear he3 hrr
 go_wp2_with fail
 refine (pwhen_new b3 2 _).mono ?_
 rintro e w4 ⟨rfl, hn⟩
 rw [HE3.out]
 replace HN := Lib.hid (HN.out.trans hn)
 clear hn
 go_wp2_with fail
 have HN0 := HN
 clear HN
 have BG := Lib.hid ((Box.alloc w4 (w4.heap.size) 29 #[.int .i64 e1, .int .i64 e2, .int .i64 e3] (by simp)).new (New.refl _))
 have HN := Lib.hid ((New.refl w4).alloc (.cells #[.int .i64 e1, .int .i64 e2, .int .i64 e3] 29))
 have HN_ := HN0.out.trans HN.out
 clear HN HN0
 have HN := Lib.hid HN_
 clear HN_
 refine (pfirst3_new e1 e2 e3 _ _ 29 _ BG.out).mono ?_
 rintro e w5 ⟨rfl, hn⟩
 rw [HRR.out]
 replace HN := Lib.hid (HN.out.trans hn)
 clear hn
 clear BG
 go_wp2_with fail
 go_ret2
 exact ⟨rfl, HN.out⟩
end Go.Proofs.YtlfnibjmkfldgaaGreatDoor
namespace Go.Proofs.YtlfnibjmkfldgaaGreatDoor
open Go.RowKit Big
theorem neq16 (W : World) (f : Nat → Nat) : (binOp .neq 71 (.agg #[.int .u16 (f 0 : Nat), .int .u16 (f 1 : Nat), .int .u16 (f 2 : Nat), .int .u16 (f 3 : Nat), .int .u16 (f 4 : Nat), .int .u16 (f 5 : Nat), .int .u16 (f 6 : Nat), .int .u16 (f 7 : Nat), .int .u16 (f 8 : Nat), .int .u16 (f 9 : Nat), .int .u16 (f 10 : Nat), .int .u16 (f 11 : Nat), .int .u16 (f 12 : Nat), .int .u16 (f 13 : Nat), .int .u16 (f 14 : Nat), .int .u16 (f 15 : Nat)]) (.agg #[.int .u16 (f 0 : Nat), .int .u16 (f 1 : Nat), .int .u16 (f 2 : Nat), .int .u16 (f 3 : Nat), .int .u16 (f 4 : Nat), .int .u16 (f 5 : Nat), .int .u16 (f 6 : Nat), .int .u16 (f 7 : Nat), .int .u16 (f 8 : Nat), .int .u16 (f 9 : Nat), .int .u16 (f 10 : Nat), .int .u16 (f 11 : Nat), .int .u16 (f 12 : Nat), .int .u16 (f 13 : Nat), .int .u16 (f 14 : Nat), .int .u16 (f 15 : Nat)])).run Tryz.prog W = .ok (.bool false) W := by
 obtain ⟨ii, hi, _⟩ := info_parts info_u16
 have h := run_equal_ints (P := Tryz.prog) W 9998 (q := .u16) ((List.range 16).map fun j => ((f j : Nat) : Int)) ((List.range 16).map fun j => ((f j : Nat) : Int)) Tryz.underlying71 hi Tryz.underlying70 (by kernel_rfl) (by kernel_rfl) (by simp) (by simp)
 have e1 : (Value.agg (((List.range 16).map fun j => ((f j : Nat) : Int)).map (Value.int .u16)).toArray) = .agg #[.int .u16 (f 0 : Nat), .int .u16 (f 1 : Nat), .int .u16 (f 2 : Nat), .int .u16 (f 3 : Nat), .int .u16 (f 4 : Nat), .int .u16 (f 5 : Nat), .int .u16 (f 6 : Nat), .int .u16 (f 7 : Nat), .int .u16 (f 8 : Nat), .int .u16 (f 9 : Nat), .int .u16 (f 10 : Nat), .int .u16 (f 11 : Nat), .int .u16 (f 12 : Nat), .int .u16 (f 13 : Nat), .int .u16 (f 14 : Nat), .int .u16 (f 15 : Nat)] := rfl
 rw [e1] at h
 rw [run_neq_struct, h]
 simp
theorem less_next1 {k m : Nat} (h : k < m) : m - (intOf (.int .i64 ((k : Int) + 1))).toNat < m - (intOf (.int .i64 (k : Int))).toNat := by
 simp only [intOf]
 omega
theorem block_cells {w wr : World} {b off k N : Nat} {xs : List Nat} (hr : RdL w (some ⟨b, off, none⟩) (words xs)) (hn : New w wr) (hx : xs.length = 16 * N) (hk : k < N) :
  ∀ j, j < 16 → wr.cell? ⟨b, off + k * 16 + j, none⟩ = some (.int .u16 (xs.getD (16 * k + j) 0 : Nat)) := by
 intro j hj
 have hl : 16 * k + j < xs.length := by rw [hx]; omega
 obtain ⟨b2, off2, e2, hc2⟩ := hr.w16 (16 * k + j) hl
 injection e2 with e2
 injection e2 with e2 e3
 subst e2 e3
 rw [show off + k * 16 + j = off + (16 * k + j) by omega, hn.cell hc2]
 simp [List.getD_eq_getElem?_getD, List.getElem?_eq_getElem hl]
set_option maxRecDepth 100000 in
theorem same_blocks (a b : Option Addr) (cap cap' N : Nat) (xs : List Nat) (w : World) (hx : xs.length = 16 * N) (hl : N ≤ 100000) (hr1 : RdL w a (words xs)) (hr2 : RdL w b (words xs)) :
  Calls Tryz.prog 41 #[.slice a N cap, .slice b N cap'] w fun e w' => e = .returned (.bool true) ∧ New w w' := by
 have hni : (N : Int) ≤ 100000 := by omega
 have hnn : ((N : Int) != (N : Int)) = false := by simp
 have HR1 := Lib.hid hr1
 have HR2 := Lib.hid hr2
 have HX := Lib.hid hx
 clear hr1 hr2 hx
 go_enter Tryz.func41, Tryz.ntmps41
 go_wp2_with fail
 go_loopw [13] (fun i wr => ∃ (k : Nat), k ≤ N ∧ i = .int .i64 (k : Int) ∧ Hid (New w wr)) (fun i _ => N - (intOf i).toNat)
 case atStart => exact ⟨0, Nat.zero_le _, rfl, Lib.hid (New.refl _)⟩
 case round =>
  obtain ⟨k, hk, rfl, HN⟩ := hrel
  by_cases hlt : k < N
  ·have h16 : 0 < xs.length := by rw [HX.out]; omega
   obtain ⟨b1, off1, rfl, -⟩ := HR1.out.w16 0 h16
   obtain ⟨b2, off2, rfl, -⟩ := HR2.out.w16 0 h16
   obtain ⟨f, hf⟩ : ∃ f : Nat → Nat, (fun j => xs.getD (16 * k + j) 0) = f := ⟨_, rfl⟩
   have hfd : ∀ j, xs.getD (16 * k + j) 0 = f j := fun j => by rw [← hf]
   have hcell1 := block_cells HR1.out HN.out HX.out hlt
   have hcell2 := block_cells HR2.out HN.out HX.out hlt
   simp only [hfd] at hcell1 hcell2
   have hsame := fun W => neq16 W f
   clear hf hfd h16
   have HC1 := Lib.hid hcell1
   have HC2 := Lib.hid hcell2
   clear hcell1 hcell2
   have c0 : wr.cell? ⟨b1, off1 + k * 16, none⟩ = some (.int .u16 (f 0 : Nat)) := HC1.out 0 (by decide)
   have c1 : wr.cell? ⟨b1, off1 + k * 16 + 1, none⟩ = some (.int .u16 (f 1 : Nat)) := HC1.out 1 (by decide)
   have c2 : wr.cell? ⟨b1, off1 + k * 16 + 2, none⟩ = some (.int .u16 (f 2 : Nat)) := HC1.out 2 (by decide)
   have c3 : wr.cell? ⟨b1, off1 + k * 16 + 3, none⟩ = some (.int .u16 (f 3 : Nat)) := HC1.out 3 (by decide)
   have c4 : wr.cell? ⟨b1, off1 + k * 16 + 4, none⟩ = some (.int .u16 (f 4 : Nat)) := HC1.out 4 (by decide)
   have c5 : wr.cell? ⟨b1, off1 + k * 16 + 5, none⟩ = some (.int .u16 (f 5 : Nat)) := HC1.out 5 (by decide)
   have c6 : wr.cell? ⟨b1, off1 + k * 16 + 6, none⟩ = some (.int .u16 (f 6 : Nat)) := HC1.out 6 (by decide)
   have c7 : wr.cell? ⟨b1, off1 + k * 16 + 7, none⟩ = some (.int .u16 (f 7 : Nat)) := HC1.out 7 (by decide)
   have c8 : wr.cell? ⟨b1, off1 + k * 16 + 8, none⟩ = some (.int .u16 (f 8 : Nat)) := HC1.out 8 (by decide)
   have c9 : wr.cell? ⟨b1, off1 + k * 16 + 9, none⟩ = some (.int .u16 (f 9 : Nat)) := HC1.out 9 (by decide)
   have c10 : wr.cell? ⟨b1, off1 + k * 16 + 10, none⟩ = some (.int .u16 (f 10 : Nat)) := HC1.out 10 (by decide)
   have c11 : wr.cell? ⟨b1, off1 + k * 16 + 11, none⟩ = some (.int .u16 (f 11 : Nat)) := HC1.out 11 (by decide)
   have c12 : wr.cell? ⟨b1, off1 + k * 16 + 12, none⟩ = some (.int .u16 (f 12 : Nat)) := HC1.out 12 (by decide)
   have c13 : wr.cell? ⟨b1, off1 + k * 16 + 13, none⟩ = some (.int .u16 (f 13 : Nat)) := HC1.out 13 (by decide)
   have c14 : wr.cell? ⟨b1, off1 + k * 16 + 14, none⟩ = some (.int .u16 (f 14 : Nat)) := HC1.out 14 (by decide)
   have c15 : wr.cell? ⟨b1, off1 + k * 16 + 15, none⟩ = some (.int .u16 (f 15 : Nat)) := HC1.out 15 (by decide)
   have d0 : wr.cell? ⟨b2, off2 + k * 16, none⟩ = some (.int .u16 (f 0 : Nat)) := HC2.out 0 (by decide)
   have d1 : wr.cell? ⟨b2, off2 + k * 16 + 1, none⟩ = some (.int .u16 (f 1 : Nat)) := HC2.out 1 (by decide)
   have d2 : wr.cell? ⟨b2, off2 + k * 16 + 2, none⟩ = some (.int .u16 (f 2 : Nat)) := HC2.out 2 (by decide)
   have d3 : wr.cell? ⟨b2, off2 + k * 16 + 3, none⟩ = some (.int .u16 (f 3 : Nat)) := HC2.out 3 (by decide)
   have d4 : wr.cell? ⟨b2, off2 + k * 16 + 4, none⟩ = some (.int .u16 (f 4 : Nat)) := HC2.out 4 (by decide)
   have d5 : wr.cell? ⟨b2, off2 + k * 16 + 5, none⟩ = some (.int .u16 (f 5 : Nat)) := HC2.out 5 (by decide)
   have d6 : wr.cell? ⟨b2, off2 + k * 16 + 6, none⟩ = some (.int .u16 (f 6 : Nat)) := HC2.out 6 (by decide)
   have d7 : wr.cell? ⟨b2, off2 + k * 16 + 7, none⟩ = some (.int .u16 (f 7 : Nat)) := HC2.out 7 (by decide)
   have d8 : wr.cell? ⟨b2, off2 + k * 16 + 8, none⟩ = some (.int .u16 (f 8 : Nat)) := HC2.out 8 (by decide)
   have d9 : wr.cell? ⟨b2, off2 + k * 16 + 9, none⟩ = some (.int .u16 (f 9 : Nat)) := HC2.out 9 (by decide)
   have d10 : wr.cell? ⟨b2, off2 + k * 16 + 10, none⟩ = some (.int .u16 (f 10 : Nat)) := HC2.out 10 (by decide)
   have d11 : wr.cell? ⟨b2, off2 + k * 16 + 11, none⟩ = some (.int .u16 (f 11 : Nat)) := HC2.out 11 (by decide)
   have d12 : wr.cell? ⟨b2, off2 + k * 16 + 12, none⟩ = some (.int .u16 (f 12 : Nat)) := HC2.out 12 (by decide)
   have d13 : wr.cell? ⟨b2, off2 + k * 16 + 13, none⟩ = some (.int .u16 (f 13 : Nat)) := HC2.out 13 (by decide)
   have d14 : wr.cell? ⟨b2, off2 + k * 16 + 14, none⟩ = some (.int .u16 (f 14 : Nat)) := HC2.out 14 (by decide)
   have d15 : wr.cell? ⟨b2, off2 + k * 16 + 15, none⟩ = some (.int .u16 (f 15 : Nat)) := HC2.out 15 (by decide)
   go_wp2_with fail
   go_quiet (fail)
   go_wp2_with fail
   go_roundw
   case rel => exact ⟨k + 1, hlt, by go_num, Lib.hid (HN.out.drewN nq)⟩
   case measure => exact less_next1 hlt
  ·have hkk : k = N := by omega
   have HKK := Lib.hid hkk
   clear hkk
   go_wp2_with fail
   go_ret
   exact ⟨rfl, HN.out⟩
end Go.Proofs.YtlfnibjmkfldgaaGreatDoor
