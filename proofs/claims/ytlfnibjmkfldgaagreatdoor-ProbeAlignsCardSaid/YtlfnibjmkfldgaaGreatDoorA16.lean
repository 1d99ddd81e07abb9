/- Part A16. -/
import Derived.Lib.ItoaMem
import Derived.Lib.LaidTab
import Derived.Lib.Atoi
import Derived.Test.YtlfnibjmkfldgaaGreatDoorA15
namespace Go.Proofs.YtlfnibjmkfldgaaGreatDoor
open Go.RowKit Big
structure Env (w : World) : Prop where
 maxLen : ∃ m : Int, w.cell? ⟨1, 0, none⟩ = some (.int .i64 m)
 tab : Lib.TabIs Tryz.prog w "internal/strconv.uint64pow10" .u64 Lib.pow10Tab
theorem Env.new {w w' : World} (h : Env w) (hn : New w w') : Env w' := by
 obtain ⟨⟨m, hm⟩, ht⟩ := h
 refine ⟨⟨m, hn.cell hm⟩, ?_⟩
 unfold Lib.TabIs World.var? at *
 cases hg : Tryz.prog.globalNamed "internal/strconv.uint64pow10" with
 | none => rw [hg] at ht; cases ht
 | some g =>
  rw [hg] at ht
  simp only [Option.bind_some] at ht ⊢
  have hlt : g < w.heap.size := by
   rcases Nat.lt_or_ge g w.heap.size with h | h
   ·exact h
   ·rw [Array.getElem?_eq_none h] at ht; cases ht
  rw [Below.block hn g hlt]
  exact ht
theorem new_grow (w : World) (k : Nat) (os : Array Obj) : New w (Sort.grow (w.drewN k) os) := by
 refine ⟨rfl, rfl, rfl, ?_, fun j hj => ?_⟩
 ·show w.heap.size ≤ (w.heap ++ os).size
  rw [Array.size_append]
  omega
 ·show (w.heap ++ os)[j]? = w.heap[j]?
  rw [Array.getElem?_append_left hj]
theorem itoa_calls (z : Int) (w : World) (he : Env w) (lo : -9223372036854775808 ≤ z) (hi : z ≤ 9223372036854775807) : Calls Tryz.prog 151 #[.int .i64 z] w fun e w' => e = .returned (.string ⟨(Lib.itoa z).toArray⟩) ∧ New w w' :=
 (Tryz.strconv_Itoa z lo hi w he.tab).mono fun e w' ⟨h1, k, os, h2⟩ => ⟨h1, by rw [h2]; exact new_grow w k os⟩
def Sm (z : Int) : Prop := -9223372036854775807 ≤ z ∧ z ≤ 9223372036854775807
theorem IsInt.sm {w : World} {s : Int} {a : Option Addr} {l c : Nat} {z : Int} (h : IsInt w (.agg #[.int .i64 s, .slice a l c]) z) (hs : Sm z) : s = z ∧ a = none ∧ l = 0 ∧ c = 0 := by
 obtain ⟨lo', hi'⟩ := hs
 rcases h with ⟨h, lo, hi⟩ | ⟨b, off, n, cap, f, s, h, hs, hw, h0, hv, hz⟩
 ·injection h with h; simp at h
  obtain ⟨rfl, rfl, rfl, rfl⟩ := h
  exact ⟨rfl, rfl, rfl, rfl⟩
 ·exfalso
  rcases hs with rfl | rfl <;> omega
set_option maxRecDepth 100000 in
theorem string_small (va : Value) (z : Int) (w : World) (hx : IsInt w va z) (hs : Sm z) (he : Env w) : Calls Tryz.prog 129 #[va] w fun e w' => e = .returned (.string ⟨(Lib.itoa z).toArray⟩) ∧ New w w' := by
 have q1 := eql_nil
 obtain ⟨s, a, l, c, rfl⟩ := hx.shape
 obtain ⟨rfl, rfl, rfl, rfl⟩ := hx.sm hs
 have HX := Lib.hid hx
 have HS := Lib.hid hs
 have HE := Lib.hid he
 clear hx hs he
 go_enter Tryz.func129, Tryz.ntmps129
 go_wp2_with fail
 have BA := Lib.hid ((Box.alloc w (w.heap.size) 138 #[.int .i64 s, .slice none 0 0] (by simp)).new (New.refl _))
 have HN := Lib.hid ((New.refl w).alloc (.cells #[.int .i64 s, .slice none 0 0] 138))
 refine (itoa_calls s _ (HE.out.new HN.out) (by have := HS.out.1; omega) HS.out.2).mono ?_
 rintro e w2 ⟨rfl, hn⟩
 replace HN := Lib.hid (HN.out.trans hn)
 clear hn
 go_wp2_with fail
 go_ret
 exact ⟨rfl, HN.out⟩
theorem decDigits_len {u : Nat} (h : u < 9223372036854775808) : (Lib.decDigits u).length ≤ 19 := by
 have := (nDigits_le_iff (u := u) (k := 19) (by omega)).2 (by omega)
 rw [Lib.decDigits_length]
 exact this
theorem itoa_len {z : Int} (h : Sm z) : (Lib.itoa z).length ≤ 20 := by
 obtain ⟨lo, hi⟩ := h
 rcases Int.lt_or_le z 0 with hz | hz
 ·obtain ⟨n, rfl⟩ : ∃ n : Nat, z = -(n : Int) := ⟨z.natAbs, by omega⟩
  rw [itoa_neg (by omega)]
  have := decDigits_len (u := n) (by omega)
  simp; omega
 ·obtain ⟨n, rfl⟩ : ∃ n : Nat, z = (n : Int) := ⟨z.toNat, by omega⟩
  rw [itoa_nonneg]
  have := decDigits_len (u := n) (by omega)
  omega
theorem ret_string {a b : ByteArray} (h : a = b) : Ending.returned (.string a) = .returned (.string b) := by rw [h]
theorem join3 (A B : List UInt8) (c : UInt8) : (⟨A.toArray⟩ ++ ⟨#[c]⟩ ++ ⟨B.toArray⟩ : ByteArray) = ⟨(A ++ c :: B).toArray⟩ := by
 apply ByteArray.ext
 simp [ByteArray.data_append]
def SmF (q : Rat) : Prop := Sm q.num ∧ Sm (q.den : Int)
set_option maxRecDepth 100000 in
theorem text_small (va : Value) (q : Rat) (w : World) (hx : IsFrac w va q) (hs : SmF q) (he : Env w) : Calls Tryz.prog 95 #[va] w fun e w' => e = .returned (.string ⟨(ratText q).toArray⟩) ∧ New w w' := by
 have hX := hx
 obtain ⟨s, a, l, c, s', a', l', c', rfl, h1, h2⟩ := hx
 by_cases hd : q.den = 1
 ·have ht : ratText q = Lib.itoa q.num := by unfold ratText; rw [if_pos hd]
  rw [ht]
  have d1 := decide_eq_true hd
  have HX := Lib.hid hX
  have H1 := Lib.hid h1
  have H2 := Lib.hid h2
  have HS := Lib.hid hs
  have HE := Lib.hid he
  have HD := Lib.hid hd
  have HT := Lib.hid ht
  clear hX h1 h2 hs he hd ht
  go_enter Tryz.func95, Tryz.ntmps95
  go_wp2_with fail
  have BA := Lib.hid ((Box.alloc w (w.heap.size) 140 #[.int .i64 s, .slice a l c, .int .i64 s', .slice a' l' c'] (by simp)).new (New.refl _))
  have HN := Lib.hid ((New.refl w).alloc (.cells #[.int .i64 s, .slice a l c, .int .i64 s', .slice a' l' c'] 140))
  refine (isWhole_calls _ q _ (HX.out.new HN.out)).mono ?_
  rintro e w1 ⟨rfl, hn⟩
  rw [d1]
  replace BA := Lib.hid (BA.out.new hn)
  replace HN := Lib.hid (HN.out.trans hn)
  clear hn
  obtain ⟨⟨pa0, pa1, pa2, pa3⟩, pa4, pa5, pa6, pa7, pa8⟩ := BA.out.four
  go_wp2_with fail
  refine (string_small _ q.num _ (H1.out.new HN.out) HS.out.1 (HE.out.new HN.out)).mono ?_
  rintro e w2 ⟨rfl, hn⟩
  replace HN := Lib.hid (HN.out.trans hn)
  clear hn
  go_wp2_with fail
  go_ret
  exact ⟨rfl, HN.out⟩
 ·obtain ⟨A, hA⟩ : ∃ A, Lib.itoa q.num = A := ⟨_, rfl⟩
  obtain ⟨B, hB⟩ : ∃ B, Lib.itoa (q.den : Int) = B := ⟨_, rfl⟩
  have hla : A.length ≤ 20 := by rw [← hA]; exact itoa_len hs.1
  have hlb : B.length ≤ 20 := by rw [← hB]; exact itoa_len hs.2
  have ht : ratText q = A ++ 47 :: B := by
   unfold ratText
   rw [if_neg hd, ← hA, ← hB, itoa_nonneg]
  rw [ht]
  have d1 := decide_eq_false hd
  have hq1 : ¬ 9223372036854775807 < A.length + 1 := by omega
  have hq2 : ¬ 9223372036854775807 < A.length + 1 + B.length := by omega
  have HX := Lib.hid hX
  have H1 := Lib.hid h1
  have H2 := Lib.hid h2
  have HS := Lib.hid hs
  have HE := Lib.hid he
  have HD := Lib.hid hd
  have HA := Lib.hid hA
  have HB := Lib.hid hB
  clear hX h1 h2 hs he hd hA hB
  clear ht hla hlb
  go_enter Tryz.func95, Tryz.ntmps95
  go_wp2_with fail
  have BA := Lib.hid ((Box.alloc w (w.heap.size) 140 #[.int .i64 s, .slice a l c, .int .i64 s', .slice a' l' c'] (by simp)).new (New.refl _))
  have HN := Lib.hid ((New.refl w).alloc (.cells #[.int .i64 s, .slice a l c, .int .i64 s', .slice a' l' c'] 140))
  refine (isWhole_calls _ q _ (HX.out.new HN.out)).mono ?_
  rintro e w1 ⟨rfl, hn⟩
  rw [d1]
  replace BA := Lib.hid (BA.out.new hn)
  replace HN := Lib.hid (HN.out.trans hn)
  clear hn
  obtain ⟨⟨pa0, pa1, pa2, pa3⟩, pa4, pa5, pa6, pa7, pa8⟩ := BA.out.four
  go_wp2_with fail
  refine wp_region_T 8 (fun W => W.cell? ⟨w.heap.size, 0, none⟩ = some (.int .i64 s) ∧ W.cell? ⟨w.heap.size, 1, none⟩ = some (.slice a l c) ∧ W.cell? ⟨w.heap.size, 2, none⟩ = some (.int .i64 s') ∧ W.cell? ⟨w.heap.size, 3, none⟩ = some (.slice a' l' c')) 9 #[false, false, false, false, false, false, false, false, false] rfl (by kernel_rfl) (by kernel_rfl) ?_
  refine wpT_take 0 (v := ?_) rfl (by kernel_rfl) (fun _ _ _ h => h) (by exact ⟨pa0, pa1, pa2, pa3⟩) (Or.inl ⟨by first | kernel_rfl | rfl, ?_⟩) ?_
  rotate_left
  ·(intro W hW; (try dsimp only at hW); go_simp; try with_reducible rfl)
  try simp only [PT]
  refine wpT_take 1 (v := ?_) rfl (by kernel_rfl) (fun _ _ _ h => h) (by exact ⟨pa0, pa1, pa2, pa3⟩) (Or.inl ⟨by first | kernel_rfl | rfl, ?_⟩) ?_
  rotate_left
  ·(intro W hW; (try dsimp only at hW); go_simp; try with_reducible rfl)
  try simp only [PT]
  refine wpT_take 4 (v := ?_) rfl (by kernel_rfl) (fun _ _ _ h => h) (by exact ⟨pa0, pa1, pa2, pa3⟩) (Or.inl ⟨by first | kernel_rfl | rfl, ?_⟩) ?_
  rotate_left
  ·(intro W hW; (try dsimp only at hW); go_simp; try with_reducible rfl)
  try simp only [PT]
  refine wpT_take 5 (v := ?_) rfl (by kernel_rfl) (fun _ _ _ h => h) (by exact ⟨pa0, pa1, pa2, pa3⟩) (Or.inl ⟨by first | kernel_rfl | rfl, ?_⟩) ?_
  rotate_left
  ·(intro W hW; (try dsimp only at hW); go_simp; try with_reducible rfl)
  try simp only [PT]
  refine wpT_one 2 rfl (by kernel_rfl) (fun K hK => ?_)
  go_simp
  refine (string_small _ q.num _ (H1.out.new HN.out.drew) HS.out.1 (HE.out.new HN.out.drew)).mono ?_
  rintro e w2 ⟨rfl, hn⟩
  rw [HA.out]
  have hn := hn.undrew
  clear pa0 pa1 pa2 pa3 pa4 pa5 pa6 pa7 pa8
  replace BA := Lib.hid (BA.out.new hn)
  replace HN := Lib.hid (HN.out.trans hn)
  clear hn
  obtain ⟨⟨pa0, pa1, pa2, pa3⟩, pa4, pa5, pa6, pa7, pa8⟩ := BA.out.four
  refine hK.out _ _ (fun _ => ?_) ?_
  ·exact ⟨pa0, pa1, pa2, pa3⟩
  clear hK K
  try simp only [PT]
  refine wpT_take 3 (v := ?_) rfl (by kernel_rfl) (fun _ _ _ h => h) (by exact ⟨pa0, pa1, pa2, pa3⟩) (Or.inl ⟨by first | kernel_rfl | rfl, ?_⟩) ?_
  rotate_left
  ·(intro W hW; (try dsimp only at hW); go_simp; try with_reducible rfl)
  try simp only [PT]
  refine wpT_one 6 rfl (by kernel_rfl) (fun K hK => ?_)
  go_simp
  refine (string_small _ (q.den : Int) _ (H2.out.new HN.out) HS.out.2 (HE.out.new HN.out)).mono ?_
  rintro e w3 ⟨rfl, hn⟩
  rw [HB.out]
  clear pa0 pa1 pa2 pa3 pa4 pa5 pa6 pa7 pa8
  replace BA := Lib.hid (BA.out.new hn)
  replace HN := Lib.hid (HN.out.trans hn)
  clear hn
  obtain ⟨⟨pa0, pa1, pa2, pa3⟩, pa4, pa5, pa6, pa7, pa8⟩ := BA.out.four
  refine hK.out _ _ (fun _ => ?_) ?_
  ·exact ⟨pa0, pa1, pa2, pa3⟩
  clear hK K
  try simp only [PT]
  refine wpT_take 7 (v := ?_) rfl (by kernel_rfl) (fun _ _ _ h => h) (by exact ⟨pa0, pa1, pa2, pa3⟩) (Or.inl ⟨by first | kernel_rfl | rfl, ?_⟩) ?_
  rotate_left
  ·(intro W hW; (try dsimp only at hW); go_simp; try with_reducible rfl)
  try simp only [PT]
  refine wpT_tail rfl (by kernel_rfl) ?_
  simp only [List.drop_succ_cons, List.drop_zero]
  go_wp2_with fail
  go_ret
  exact ⟨ret_string (join3 A B 47), HN.out⟩
end Go.Proofs.YtlfnibjmkfldgaaGreatDoor
namespace Go.Proofs.YtlfnibjmkfldgaaGreatDoor
open Go.RowKit Big
def crossed (x y : Rat) : Int := x.num * (y.den : Int) - y.num * (x.den : Int)
theorem crossed_pos {x y : Rat} : 0 < (crossed x y).sign ↔ y < x := by
 rw [Int.sign_pos_iff, Rat.lt_iff]
 unfold crossed
 omega
set_option maxRecDepth 100000 in
set_option maxHeartbeats 1000000 in
theorem fcmp_calls (va vb : Value) (x y : Rat) (j k : Nat) (w : World) (hx : IsFrac w va x) (hy : IsFrac w vb y) (bx : FB j x) (by' : FB k y) (hk : j + k ≤ 60000000) : Calls Tryz.prog 120 #[va, vb] w (SignPost w (crossed x y)) := by
 obtain ⟨sa, aa, la, ca, ta, ba, ma, na, rfl, hx1, hx2⟩ := hx
 obtain ⟨sb, ab, lb, cb, tb, bb, mb, nb, rfl, hy1, hy2⟩ := hy
 obtain ⟨r, hr⟩ : ∃ r, crossed x y = r := ⟨_, rfl⟩
 have hr' : x.num * (y.den : Int) - y.num * (x.den : Int) = r := hr
 rw [hr]
 clear hr
 have b1 := (bx.num.mul by'.den).bd hk
 have b2 := (by'.num.mul bx.den).bd (show k + j ≤ 60000000 by omega)
 have bx1 := bx.num.bd (show j ≤ 60000000 by omega)
 have bx2 := bx.den.bd (show j ≤ 60000000 by omega)
 have by1 := by'.num.bd (show k ≤ 60000000 by omega)
 have by2 := by'.den.bd (show k ≤ 60000000 by omega)
 clear bx by'
 have X1 := Lib.hid hx1
 have X2 := Lib.hid hx2
 have Y1 := Lib.hid hy1
 have Y2 := Lib.hid hy2
 have HR := Lib.hid hr'
 have BX1 := Lib.hid bx1
 have BX2 := Lib.hid bx2
 have BY1 := Lib.hid by1
 have BY2 := Lib.hid by2
 have B1 := Lib.hid b1
 have B2 := Lib.hid b2
 clear hx1 hx2 hy1 hy2 hr' bx1 bx2 by1 by2 b1 b2
 go_enter Tryz.func120, Tryz.ntmps120
 go_wp2_with fail
 have BA := Lib.hid ((Box.alloc w (w.heap.size) 140 #[.int .i64 sa, .slice aa la ca, .int .i64 ta, .slice ba ma na] (by simp)).new ((New.refl _).alloc (.cells #[.int .i64 sb, .slice ab lb cb, .int .i64 tb, .slice bb mb nb] 140)))
 have BB := Lib.hid ((Box.alloc (w.alloc (.cells #[.int .i64 sa, .slice aa la ca, .int .i64 ta, .slice ba ma na] 140)) (w.heap.size + 1) 140 #[.int .i64 sb, .slice ab lb cb, .int .i64 tb, .slice bb mb nb] (by simp)).new (New.refl _))
 have HN := Lib.hid (((New.refl w).alloc (.cells #[.int .i64 sa, .slice aa la ca, .int .i64 ta, .slice ba ma na] 140)).alloc (.cells #[.int .i64 sb, .slice ab lb cb, .int .i64 tb, .slice bb mb nb] 140))
 obtain ⟨⟨pa0, pa1, pa2, pa3⟩, pa4, pa5, pa6, pa7, pa8⟩ := BA.out.four
 obtain ⟨⟨pb0, pb1, pb2, pb3⟩, pb4, pb5, pb6, pb7, pb8⟩ := BB.out.four
 refine wp_region_T 11 (fun W => W.cell? ⟨w.heap.size, 0, none⟩ = some (.int .i64 sa) ∧ W.cell? ⟨w.heap.size, 1, none⟩ = some (.slice aa la ca) ∧ W.cell? ⟨w.heap.size, 2, none⟩ = some (.int .i64 ta) ∧ W.cell? ⟨w.heap.size, 3, none⟩ = some (.slice ba ma na) ∧ W.cell? ⟨w.heap.size + 1, 0, none⟩ = some (.int .i64 sb) ∧ W.cell? ⟨w.heap.size + 1, 1, none⟩ = some (.slice ab lb cb) ∧ W.cell? ⟨w.heap.size + 1, 2, none⟩ = some (.int .i64 tb) ∧ W.cell? ⟨w.heap.size + 1, 3, none⟩ = some (.slice bb mb nb)) 12 #[false, false, false, false, false, false, false, false, false, false, false, false] rfl (by kernel_rfl) (by kernel_rfl) ?_
 refine wpT_take 0 (v := ?_) rfl (by kernel_rfl) (fun _ _ _ h => h) (by exact ⟨pa0, pa1, pa2, pa3, pb0, pb1, pb2, pb3⟩) (Or.inl ⟨by first | kernel_rfl | rfl, ?_⟩) ?_
 rotate_left
 ·(intro W hW; (try dsimp only at hW); go_simp; try with_reducible rfl)
 try simp only [PT]
 refine wpT_take 1 (v := ?_) rfl (by kernel_rfl) (fun _ _ _ h => h) (by exact ⟨pa0, pa1, pa2, pa3, pb0, pb1, pb2, pb3⟩) (Or.inl ⟨by first | kernel_rfl | rfl, ?_⟩) ?_
 rotate_left
 ·(intro W hW; (try dsimp only at hW); go_simp; try with_reducible rfl)
 try simp only [PT]
 refine wpT_take 2 (v := ?_) rfl (by kernel_rfl) (fun _ _ _ h => h) (by exact ⟨pa0, pa1, pa2, pa3, pb0, pb1, pb2, pb3⟩) (Or.inl ⟨by first | kernel_rfl | rfl, ?_⟩) ?_
 rotate_left
 ·(intro W hW; (try dsimp only at hW); go_simp; try with_reducible rfl)
 try simp only [PT]
 refine wpT_take 3 (v := ?_) rfl (by kernel_rfl) (fun _ _ _ h => h) (by exact ⟨pa0, pa1, pa2, pa3, pb0, pb1, pb2, pb3⟩) (Or.inl ⟨by first | kernel_rfl | rfl, ?_⟩) ?_
 rotate_left
 ·(intro W hW; (try dsimp only at hW); go_simp; try with_reducible rfl)
 try simp only [PT]
 refine wpT_take 5 (v := ?_) rfl (by kernel_rfl) (fun _ _ _ h => h) (by exact ⟨pa0, pa1, pa2, pa3, pb0, pb1, pb2, pb3⟩) (Or.inl ⟨by first | kernel_rfl | rfl, ?_⟩) ?_
 rotate_left
 ·(intro W hW; (try dsimp only at hW); go_simp; try with_reducible rfl)
 try simp only [PT]
 refine wpT_take 6 (v := ?_) rfl (by kernel_rfl) (fun _ _ _ h => h) (by exact ⟨pa0, pa1, pa2, pa3, pb0, pb1, pb2, pb3⟩) (Or.inl ⟨by first | kernel_rfl | rfl, ?_⟩) ?_
 rotate_left
 ·(intro W hW; (try dsimp only at hW); go_simp; try with_reducible rfl)
 try simp only [PT]
 refine wpT_take 7 (v := ?_) rfl (by kernel_rfl) (fun _ _ _ h => h) (by exact ⟨pa0, pa1, pa2, pa3, pb0, pb1, pb2, pb3⟩) (Or.inl ⟨by first | kernel_rfl | rfl, ?_⟩) ?_
 rotate_left
 ·(intro W hW; (try dsimp only at hW); go_simp; try with_reducible rfl)
 try simp only [PT]
 refine wpT_take 8 (v := ?_) rfl (by kernel_rfl) (fun _ _ _ h => h) (by exact ⟨pa0, pa1, pa2, pa3, pb0, pb1, pb2, pb3⟩) (Or.inl ⟨by first | kernel_rfl | rfl, ?_⟩) ?_
 rotate_left
 ·(intro W hW; (try dsimp only at hW); go_simp; try with_reducible rfl)
 try simp only [PT]
 refine wpT_one 4 rfl (by kernel_rfl) (fun K hK => ?_)
 go_simp
 refine (mul_calls _ _ x.num (y.den : Int) _ (X1.out.new HN.out.drew) (Y2.out.new HN.out.drew) BX1.out BY2.out).mono ?_
 rintro e w1 ⟨v1, rfl, hn, hi⟩
 have hn := hn.undrew
 have HI1 := Lib.hid hi
 clear hi
 clear pa0 pa1 pa2 pa3 pa4 pa5 pa6 pa7 pa8 pb0 pb1 pb2 pb3 pb4 pb5 pb6 pb7 pb8
 replace BA := Lib.hid (BA.out.new hn)
 replace BB := Lib.hid (BB.out.new hn)
 replace HN := Lib.hid (HN.out.trans hn)
 clear hn
 obtain ⟨⟨pa0, pa1, pa2, pa3⟩, pa4, pa5, pa6, pa7, pa8⟩ := BA.out.four
 obtain ⟨⟨pb0, pb1, pb2, pb3⟩, pb4, pb5, pb6, pb7, pb8⟩ := BB.out.four
 refine hK.out _ _ (fun _ => ?_) ?_
 ·exact ⟨pa0, pa1, pa2, pa3, pb0, pb1, pb2, pb3⟩
 clear hK K
 try simp only [PT]
 refine wpT_one 9 rfl (by kernel_rfl) (fun K hK => ?_)
 go_simp
 refine (mul_calls _ _ y.num (x.den : Int) _ (Y1.out.new HN.out) (X2.out.new HN.out) BY1.out BX2.out).mono ?_
 rintro e w2 ⟨v2, rfl, hn, hi⟩
 have HI1' := Lib.hid (HI1.out.new hn)
 clear HI1
 have HI2 := Lib.hid hi
 clear hi
 clear pa0 pa1 pa2 pa3 pa4 pa5 pa6 pa7 pa8 pb0 pb1 pb2 pb3 pb4 pb5 pb6 pb7 pb8
 replace BA := Lib.hid (BA.out.new hn)
 replace BB := Lib.hid (BB.out.new hn)
 replace HN := Lib.hid (HN.out.trans hn)
 clear hn
 obtain ⟨⟨pa0, pa1, pa2, pa3⟩, pa4, pa5, pa6, pa7, pa8⟩ := BA.out.four
 obtain ⟨⟨pb0, pb1, pb2, pb3⟩, pb4, pb5, pb6, pb7, pb8⟩ := BB.out.four
 refine hK.out _ _ (fun _ => ?_) ?_
 ·exact ⟨pa0, pa1, pa2, pa3, pb0, pb1, pb2, pb3⟩
 clear hK K
 try simp only [PT]
 refine wpT_one 10 rfl (by kernel_rfl) (fun K hK => ?_)
 go_simp
 refine (cmp_calls _ _ _ _ _ HI1'.out HI2.out B1.out B2.out).mono ?_
 rintro e w3 ⟨rfl, hn⟩
 rw [HR.out]
 clear pa0 pa1 pa2 pa3 pa4 pa5 pa6 pa7 pa8 pb0 pb1 pb2 pb3 pb4 pb5 pb6 pb7 pb8
 replace BA := Lib.hid (BA.out.new hn)
 replace BB := Lib.hid (BB.out.new hn)
 replace HN := Lib.hid (HN.out.trans hn)
 clear hn
 obtain ⟨⟨pa0, pa1, pa2, pa3⟩, pa4, pa5, pa6, pa7, pa8⟩ := BA.out.four
 obtain ⟨⟨pb0, pb1, pb2, pb3⟩, pb4, pb5, pb6, pb7, pb8⟩ := BB.out.four
 refine hK.out _ _ (fun _ => ?_) ?_
 ·exact ⟨pa0, pa1, pa2, pa3, pb0, pb1, pb2, pb3⟩
 clear hK K
 try simp only [PT]
 refine wpT_tail rfl (by kernel_rfl) ?_
 simp only [List.drop_succ_cons, List.drop_zero]
 go_wp2_with fail
 go_ret
 exact ⟨rfl, HN.out⟩
set_option maxRecDepth 100000 in
theorem small_calls (va : Value) (z : Int) (w : World) (hx : IsInt w va z) (hs : Sm z) : Calls Tryz.prog 121 #[va] w fun e w' => e = .returned (.tuple #[.int .i64 z, .bool true]) ∧ New w w' := by
 have q1 := eql_nil
 obtain ⟨s, a, l, c, rfl⟩ := hx.shape
 obtain ⟨rfl, rfl, rfl, rfl⟩ := hx.sm hs
 have HX := Lib.hid hx
 have HS := Lib.hid hs
 clear hx hs
 go_enter Tryz.func121, Tryz.ntmps121
 go_wp2_with fail
 have BA := Lib.hid ((Box.alloc w (w.heap.size) 138 #[.int .i64 s, .slice none 0 0] (by simp)).new (New.refl _))
 have HN := Lib.hid ((New.refl w).alloc (.cells #[.int .i64 s, .slice none 0 0] 138))
 obtain ⟨pa0, pa1, pa2, pa3, pa4⟩ := BA.out.two
 go_region
 all_goals
  go_wp2_with fail
  go_ret2
  exact ⟨rfl, HN.out.drewN _⟩
end Go.Proofs.YtlfnibjmkfldgaaGreatDoor
namespace Go.Proofs.YtlfnibjmkfldgaaGreatDoor
open Go.RowKit Big
theorem new_bytesWorld (w : World) (e : TypeId) (s : ByteArray) : New w (Lib.bytesWorld w e s) := by
 have h1 : New w (w.drew.alloc (.cells (Lib.bytesCells w e s) e)) := (New.refl w).drew.alloc _
 unfold Lib.bytesWorld World.freeze
 split
 ·exact h1
 ·refine ⟨h1.os, h1.tape, h1.output, ?_, fun j hj => ?_⟩
  ·show w.heap.size ≤ ((w.drew.alloc _).heap.modify _ _).size
   rw [Array.size_modify]
   exact h1.size
  ·show ((w.drew.alloc _).heap.modify _ _)[j]? = w.heap[j]?
   rw [Array.getElem?_modify, if_neg (by show ¬ w.heap.size = j; omega)]
   exact Below.block h1 j hj
theorem decFrom_dval : ∀ (l : List UInt8) (acc : Nat), (∀ c ∈ l, isDig c = true) → Lib.decFrom acc l = some (dval acc l)
 | [], acc, _ => by rw [dval_nil]; rfl
 | c :: l, acc, h => by
  have hc := isDig_iff.1 (h c (by simp))
  rw [dval_cons, Lib.decFrom, Lib.digitVal, if_pos hc]
  rw [Nat.mul_comm 10 acc]
  exact decFrom_dval l _ fun x hx => h x (by simp [hx])
theorem atoi_dval {l : List UInt8} (h : ∀ c ∈ l, isDig c = true) (hne : l ≠ []) : Lib.atoi l = some ((dval 0 l : Nat) : Int) := by
 cases l with
 | nil => exact absurd rfl hne
 | cons c l =>
  have hc := isDig_iff.1 (h c (by simp))
  have h1 : (c == 45) = false := by
   rw [beq_eq_false_iff_ne]; rintro rfl; simp at hc
  have h2 : (c == 43) = false := by
   rw [beq_eq_false_iff_ne]; rintro rfl; simp at hc
  rw [Lib.atoi]
  simp only [h1, h2, Bool.false_eq_true, if_false]
  rw [Lib.decNat, if_neg (by simp), decFrom_dval _ _ h]
  rfl
theorem atoi_calls (s : ByteArray) (l : List UInt8) (w : World) (hs : s.data.toList = l) (hd : ∀ c ∈ l, isDig c = true) (hne : l ≠ []) (hl : l.length ≤ 18) :
  Calls Tryz.prog 138 #[.string s] w fun e w' => e = .returned (.tuple #[.int .i64 (dval 0 l : Nat), .nilIface]) ∧ New w w' :=
 (Tryz.strconv_Atoi s _ (by rw [← hs] at hl; simpa using hl) (by rw [hs]; exact atoi_dval hd hne) w).mono fun e w' ⟨h1, t, h2⟩ => ⟨h1, by rw [h2]; exact new_bytesWorld _ _ _⟩
theorem dval_bd {l : List UInt8} (h : ∀ c ∈ l, isDig c = true) : BdK (4 * l.length) (dval 0 l : Nat) := by
 have h1 := dval_lt h
 have h2 : 10 ^ l.length ≤ 16 ^ l.length := Nat.pow_le_pow_left (by omega) _
 have h3 : 16 ^ l.length = 2 ^ (4 * l.length) := by rw [show 16 = 2 ^ 4 from rfl, ← Nat.pow_mul]
 unfold BdK
 rw [Int.natAbs_natCast]
 omega
def ReadRel (w : World) (B : Nat) (d : List UInt8) (g : Nat) (u : Value) (wr : World) : Prop := ∃ (c t : List UInt8) (tb : ByteArray) (s2 : Int) (o2 : Option Addr) (l2 k2 : Nat),
 u = .string tb ∧ tb.data.toList = t ∧ c ++ t = d ∧ tb.size = g ∧ New w wr ∧ Box wr w.heap.size 138 #[.int .i64 0, .slice none 0 0] ∧ Box wr B 138 #[.int .i64 s2, .slice o2 l2 k2] ∧
 IsInt wr (.agg #[.int .i64 s2, .slice o2 l2 k2]) (dval 0 c : Nat)
set_option maxRecDepth 100000 in
set_option maxHeartbeats 1000000 in
theorem read_calls (sb : ByteArray) (neg : Bool) (d : List UInt8) (w : World) (hsb : sb.data.toList = if neg then 45 :: d else d) (hd : ∀ c ∈ d, isDig c = true) (hl : d.length ≤ 1000000) :
  Calls Tryz.prog 114 #[.string sb] w (IntPost w (signed neg (dval 0 d))) := by
 obtain ⟨z, hz⟩ : ∃ z, signed neg (dval 0 d) = z := ⟨_, rfl⟩
 rw [hz]
 have hp1 : Lib.hasPrefix sb.data.toList (⟨#[45]⟩ : ByteArray).data.toList = neg := by
  rw [hsb]
  show [45].isPrefixOf _ = neg
  cases neg with
  | true => simp
  | false =>
   cases d with
   | nil => rfl
   | cons c d =>
    have hc := isDig_iff.1 (hd c (by simp))
    have h1 : (45 == c) = false := by
     rw [beq_eq_false_iff_ne]; rintro rfl; simp at hc
    show ((45 == c) && _) = false
    rw [h1]
    rfl
 have hp2 : Lib.trimPrefix sb.data.toList (⟨#[45]⟩ : ByteArray).data.toList = d := by
  unfold Lib.trimPrefix
  rw [hp1, hsb]
  cases neg <;> rfl
 have hend : ∀ w' v, New w w' → IsInt w' v z → IntPost w z (.returned v) w' := fun w' v h1 h2 => ⟨v, rfl, h1, h2⟩
 have HZ := Lib.hid hz
 have HSB := Lib.hid hsb
 have HD := Lib.hid hd
 have HP1 := Lib.hid hp1
 have HP2 := Lib.hid hp2
 have HEND := Lib.hid hend
 clear hz hsb hd hp1 hp2 hend
 go_enter Tryz.func114, Tryz.ntmps114
 go_wp2_with fail
 have BP := Lib.hid ((Box.alloc w (w.heap.size) 138 #[.int .i64 0, .slice none 0 0] (by simp)).new (New.refl _))
 have HN := Lib.hid ((New.refl w).alloc (.cells #[.int .i64 0, .slice none 0 0] 138))
 refine (Tryz.strings_HasPrefix sb _ _).mono ?_
 rintro e w' ⟨rfl, hw⟩
 subst hw
 rw [HP1.out]
 go_wp2_with fail
 refine (Tryz.strings_TrimPrefix sb _ _).mono ?_
 rintro e w' ⟨rfl, hw⟩
 subst hw
 rw [HP2.out]
 go_wp2_with fail
 clear BP HN
 have BP := Lib.hid ((Box.alloc w (w.heap.size) 138 #[.int .i64 0, .slice none 0 0] (by simp)).new ((New.refl _).alloc (.cells #[.int .i64 0, .slice none 0 0] 138)))
 have BO := Lib.hid ((Box.alloc (w.alloc (.cells #[.int .i64 0, .slice none 0 0] 138)) (w.heap.size + 1) 138 #[.int .i64 0, .slice none 0 0] (by simp)).new (New.refl _))
 have HN := Lib.hid (((New.refl w).alloc (.cells #[.int .i64 0, .slice none 0 0] 138)).alloc (.cells #[.int .i64 0, .slice none 0 0] 138))
 have hstart : ReadRel w (w.heap.size + 1) d d.length (.string ⟨d.toArray⟩) _ := ⟨[], d, ⟨d.toArray⟩, _, _, _, _, rfl, rfl, rfl, by simp [ByteArray.size], HN.out, BP.out, BO.out, .small rfl (by simp [dval_nil]) (by simp [dval_nil])⟩
 clear HN BP BO
 have HS := Lib.hid hstart
 clear hstart
 go_loopg [0] d.length (fun g u wr => ReadRel w (w.heap.size + 1) d g u wr)
 case atStart => exact HS.out
 case round =>
  clear HS
  obtain ⟨c, t, tb, s2, o2, l2, k2, rfl, htb, hct, hg, hN, hP, hO, hi⟩ := hrel
  have hB : w.heap.size + 1 < wr.heap.size := hO.lt
  have HT := Lib.hid htb
  have HCT := Lib.hid hct
  have HG := Lib.hid hg
  have HN := Lib.hid hN
  have BP := Lib.hid hP
  have BO := Lib.hid hO
  have HI := Lib.hid hi
  clear htb hct hg hN hP hO hi
  by_cases h0 : tb.size = 0
  ·have hz0 : ¬ (0 : Int) < (tb.size : Int) := by omega
   have hdv : dval 0 d = dval 0 c := by
    have h1 : t = [] := by
     rw [← HT.out]
     have : tb.data.toList.length = 0 := by simpa using h0
     exact List.length_eq_zero_iff.1 this
    rw [← HCT.out, h1, List.append_nil]
   have HDV := Lib.hid hdv
   have H0 := Lib.hid h0
   clear hdv h0
   cases neg with
   | true =>
    obtain ⟨b0, b1, b2, b3, b4⟩ := BO.out.two
    go_wp2_with fail
    refine (neg_calls _ (dval 0 c : Nat) _ HI.out).mono ?_
    rintro e w2 ⟨v, rfl, hn, hi⟩
    obtain ⟨s5, a5, l5, k5, rfl⟩ := hi.shape
    have HI5 := Lib.hid hi
    clear hi
    replace BP := Lib.hid (BP.out.new hn)
    replace HN := Lib.hid (HN.out.trans hn)
    clear hn
    obtain ⟨p0, p1, p2, p3, p4⟩ := BP.out.two
    go_wp2_with fail
    refine bodyPost_ret (v := .agg #[.int .i64 s5, .slice a5 l5 k5]) (by simp [results, Tryz.results114, go_sem, p0, p1]) rfl ?_
    refine HEND.out _ _ (HN.out.putAt BP.out (by omega) _ _) ?_
    rw [← HZ.out, HDV.out]
    exact HI5.out.put2 BP.out _ _ _ _
   | false =>
    obtain ⟨b0, b1, b2, b3, b4⟩ := BO.out.two
    obtain ⟨p0, p1, p2, p3, p4⟩ := BP.out.two
    go_wp2_with fail
    refine bodyPost_ret (v := .agg #[.int .i64 s2, .slice o2 l2 k2]) (by simp [results, Tryz.results114, go_sem, p0, p1]) rfl ?_
    refine HEND.out _ _ (HN.out.putAt BP.out (by omega) _ _) ?_
    rw [← HZ.out, HDV.out]
    exact HI.out.put2 BP.out _ _ _ _
  ·have hz0 : (0 : Int) < (tb.size : Int) := by omega
   obtain ⟨n, hmin, hn1, hn18, hns⟩ : ∃ n : Nat, min (18 : Int) (tb.size : Int) = (n : Int) ∧ 1 ≤ n ∧ n ≤ 18 ∧ n ≤ tb.size := ⟨min 18 tb.size, by omega, by omega, by omega, by omega⟩
   have hlt : tb.size = t.length := by rw [← HT.out]; simp
   have hlen := congrArg List.length HCT.out
   rw [List.length_append] at hlen
   have hdc : ∀ x ∈ c, isDig x = true := fun x hx => HD.out x (by rw [← HCT.out]; simp [hx])
   have hdt : ∀ x ∈ t.take n, isDig x = true := fun x hx => HD.out x (by rw [← HCT.out]; simp [List.mem_of_mem_take hx])
   have hx1 : (tb.extract 0 n).data.toList = t.take n := by rw [Lib.extract_data, HT.out]; rfl
   have hx2 : (tb.extract n tb.size).data.toList = t.drop n := by rw [Lib.extract_to_end, HT.out]
   have hat := fun W => atoi_calls (tb.extract 0 n) (t.take n) W hx1 hdt (by rw [← List.length_pos_iff, List.length_take]; omega) (by rw [List.length_take]; omega)
   have hb1 : Bd (dval 0 c : Nat) := (dval_bd hdc).bd (by omega)
   have hp10 : BdK 4 10 := by unfold BdK; decide
   have hb2 : Bd ((10 : Int) ^ n) := (hp10.pow n).bd (by omega)
   have hb3 : Bd ((dval 0 c : Nat) * (10 : Int) ^ n) := ((dval_bd hdc).mul (hp10.pow n)).bd (by omega)
   have hv : dval 0 (t.take n) < 10 ^ 18 := Nat.lt_of_lt_of_le (dval_lt hdt) (Nat.pow_le_pow_right (by omega) (by rw [List.length_take]; omega))
   have hvl : -9223372036854775808 ≤ ((dval 0 (t.take n) : Nat) : Int) := by omega
   have hvh : ((dval 0 (t.take n) : Nat) : Int) ≤ 9223372036854775807 := by omega
   obtain ⟨V, hV⟩ : ∃ V : Int, ((dval 0 (t.take n) : Nat) : Int) = V := ⟨_, rfl⟩
   rw [hV] at hvl hvh
   simp only [hV] at hat
   have hnew : ((dval 0 c : Nat) : Int) * 10 ^ n + V = (dval 0 (c ++ t.take n) : Nat) := by
    rw [← hV, dval_append, dval_acc (dval 0 c), List.length_take, show min n t.length = n by omega]
    simp
   have hdrop : (c ++ t.take n) ++ t.drop n = d := by rw [List.append_assoc, List.take_append_drop]; exact HCT.out
   have hn0 : (n : Int) ≤ (tb.size : Int) := by omega
   have hnp : (0 : Int) ≤ (n : Int) := by omega
   have hsv : ∀ W, IsInt W (.agg #[.int .i64 V, .slice none 0 0]) V := fun W => .small rfl hvl hvh
   have hbv : Bd V := .small hvl hvh
   have hsz : (tb.extract n tb.size).size < tb.size := by simp; omega
   have HLT := Lib.hid hlt
   have HLEN := Lib.hid hlen
   have HDC := Lib.hid hdc
   have HDT := Lib.hid hdt
   have HX1 := Lib.hid hx1
   have HX2 := Lib.hid hx2
   have HAT := Lib.hid hat
   have HB1 := Lib.hid hb1
   have HP10 := Lib.hid hp10
   have HB2 := Lib.hid hb2
   have HB3 := Lib.hid hb3
   have HV := Lib.hid hv
   have HVV := Lib.hid hV
   have HNEW := Lib.hid hnew
   have HDROP := Lib.hid hdrop
   have HSV := Lib.hid hsv
   have HBV := Lib.hid hbv
   have HSZ := Lib.hid hsz
   have HVL := Lib.hid hvl
   have HVH := Lib.hid hvh
   have H0 := Lib.hid h0
   have HN18 := Lib.hid hn18
   have HN1 := Lib.hid hn1
   have HNS := Lib.hid hns
   clear hlt hlen hdc hdt hx1 hx2 hat hb1 hp10 hb2 hb3 hv hV hnew hdrop hsv hbv hsz hvl hvh h0 hn18 hn1 hns
   go_wp2_with fail
   refine (HAT.out _).mono ?_
   rintro e w1 ⟨rfl, hn⟩
   replace BP := Lib.hid (BP.out.new hn)
   replace BO := Lib.hid (BO.out.new hn)
   replace HI := Lib.hid (HI.out.new hn)
   replace HN := Lib.hid (HN.out.trans hn)
   clear hn
   obtain ⟨b0, b1, b2, b3, b4⟩ := BO.out.two
   go_wp2_with fail
   refine wp_region_T 8 (fun W => W.cell? ⟨w.heap.size + 1, 0, none⟩ = some (.int .i64 s2) ∧ W.cell? ⟨w.heap.size + 1, 1, none⟩ = some (.slice o2 l2 k2)) 9 #[false, false, false, false, false, false, false, false, false] rfl (by kernel_rfl) (by kernel_rfl) ?_
   refine wpT_take 0 (v := ?_) rfl (by kernel_rfl) (fun _ _ _ h => h) (by exact ⟨b0, b1⟩) (Or.inl ⟨by first | kernel_rfl | rfl, ?_⟩) ?_
   rotate_left
   ·(intro W hW; (try dsimp only at hW); go_simp; try with_reducible rfl)
   try simp only [PT]
   refine wpT_take 2 (v := ?_) rfl (by kernel_rfl) (fun _ _ _ h => h) (by exact ⟨b0, b1⟩) (Or.inl ⟨by first | kernel_rfl | rfl, ?_⟩) ?_
   rotate_left
   ·(intro W hW; (try dsimp only at hW); go_simp; try with_reducible rfl)
   try simp only [PT]
   refine wpT_take 5 (v := ?_) rfl (by kernel_rfl) (fun _ _ _ h => h) (by exact ⟨b0, b1⟩) (Or.inl ⟨by first | kernel_rfl | rfl, ?_⟩) ?_
   rotate_left
   ·(intro W hW; (try dsimp only at hW); go_simp; try with_reducible rfl)
   try simp only [PT]
   refine wpT_one 1 rfl (by kernel_rfl) (fun K hK => ?_)
   go_simp
   refine (of_calls 10 _).mono ?_
   rintro e w3 ⟨rfl, hn⟩
   have hn := hn.undrew
   clear b0 b1 b2 b3 b4
   replace BP := Lib.hid (BP.out.new hn)
   replace BO := Lib.hid (BO.out.new hn)
   replace HI := Lib.hid (HI.out.new hn)
   replace HN := Lib.hid (HN.out.trans hn)
   clear hn
   obtain ⟨b0, b1, b2, b3, b4⟩ := BO.out.two
   refine hK.out _ _ (fun _ => ?_) ?_
   ·exact ⟨b0, b1⟩
   clear hK K
   try simp only [PT]
   refine wpT_one 3 rfl (by kernel_rfl) (fun K hK => ?_)
   go_simp
   refine (pow_calls _ 10 n 4 _ (.small rfl (by omega) (by omega)) HP10.out (by have := HN18.out; omega) (by have := HN18.out; omega)).mono ?_
   rintro e w4 ⟨v, rfl, hn, hi⟩
   obtain ⟨s5, a5, l5, k5, rfl⟩ := hi.shape
   have HI5 := Lib.hid hi
   clear hi
   clear b0 b1 b2 b3 b4
   replace BP := Lib.hid (BP.out.new hn)
   replace BO := Lib.hid (BO.out.new hn)
   replace HI := Lib.hid (HI.out.new hn)
   replace HN := Lib.hid (HN.out.trans hn)
   clear hn
   obtain ⟨b0, b1, b2, b3, b4⟩ := BO.out.two
   refine hK.out _ _ (fun _ => ?_) ?_
   ·exact ⟨b0, b1⟩
   clear hK K
   try simp only [PT]
   refine wpT_one 4 rfl (by kernel_rfl) (fun K hK => ?_)
   go_simp
   refine (mul_calls _ _ (dval 0 c : Nat) (10 ^ n) _ HI.out HI5.out HB1.out HB2.out).mono ?_
   rintro e w5 ⟨v, rfl, hn, hi⟩
   obtain ⟨s6, a6, l6, k6, rfl⟩ := hi.shape
   have HI6 := Lib.hid hi
   clear hi
   clear b0 b1 b2 b3 b4
   replace BP := Lib.hid (BP.out.new hn)
   replace BO := Lib.hid (BO.out.new hn)
   replace HN := Lib.hid (HN.out.trans hn)
   clear hn
   obtain ⟨b0, b1, b2, b3, b4⟩ := BO.out.two
   refine hK.out _ _ (fun _ => ?_) ?_
   ·exact ⟨b0, b1⟩
   clear hK K
   try simp only [PT]
   refine wpT_one 6 rfl (by kernel_rfl) (fun K hK => ?_)
   go_simp
   refine (of_calls V _).mono ?_
   rintro e w6 ⟨rfl, hn⟩
   clear b0 b1 b2 b3 b4
   replace BP := Lib.hid (BP.out.new hn)
   replace BO := Lib.hid (BO.out.new hn)
   replace HI6 := Lib.hid (HI6.out.new hn)
   replace HN := Lib.hid (HN.out.trans hn)
   clear hn
   obtain ⟨b0, b1, b2, b3, b4⟩ := BO.out.two
   refine hK.out _ _ (fun _ => ?_) ?_
   ·exact ⟨b0, b1⟩
   clear hK K
   try simp only [PT]
   refine wpT_one 7 rfl (by kernel_rfl) (fun K hK => ?_)
   go_simp
   refine (add_calls _ _ ((dval 0 c : Nat) * 10 ^ n) V _ HI6.out (HSV.out _) HB3.out HBV.out).mono ?_
   rintro e w7 ⟨v, rfl, hn, hi⟩
   rw [HNEW.out] at hi
   obtain ⟨s7, a7, l7, k7, rfl⟩ := hi.shape
   have HI7 := Lib.hid hi
   clear hi
   clear b0 b1 b2 b3 b4
   replace BP := Lib.hid (BP.out.new hn)
   replace BO := Lib.hid (BO.out.new hn)
   replace HN := Lib.hid (HN.out.trans hn)
   clear hn
   obtain ⟨b0, b1, b2, b3, b4⟩ := BO.out.two
   refine hK.out _ _ (fun _ => ?_) ?_
   ·exact ⟨b0, b1⟩
   clear hK K
   try simp only [PT]
   refine wpT_tail rfl (by kernel_rfl) ?_
   simp only [List.drop_succ_cons, List.drop_zero]
   go_wp2_with fail
   clear b0 b1 b2 b3 b4
   have BP_ := BP.out.away BO.out (by omega) (.int .i64 s7) (.slice a7 l7 k7)
   have HI7_ := HI7.out.put2 BO.out s7 a7 l7 k7
   have HN_ := HN.out.putAt BO.out (by omega) (.int .i64 s7) (.slice a7 l7 k7)
   have BO_ := BO.out.put2 (.int .i64 s7) (.slice a7 l7 k7)
   clear BP HI7 HN BO
   have BP := Lib.hid BP_
   have HI7 := Lib.hid HI7_
   have HN := Lib.hid HN_
   have BO := Lib.hid BO_
   clear BP_ HI7_ HN_ BO_
   go_roundg (tb.extract n tb.size).size
   case measure => rw [← HG.out]; exact HSZ.out
   case rel => exact ⟨c ++ t.take n, t.drop n, tb.extract n tb.size, _, _, _, _, rfl, HX2.out, HDROP.out, rfl, HN.out, BP.out, BO.out, HI7.out⟩
end Go.Proofs.YtlfnibjmkfldgaaGreatDoor
