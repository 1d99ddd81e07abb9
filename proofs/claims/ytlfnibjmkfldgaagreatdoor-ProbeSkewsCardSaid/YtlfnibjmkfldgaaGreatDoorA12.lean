/- Part A12. -/
import Derived.Test.YtlfnibjmkfldgaaGreatDoorA11
namespace Go.Proofs.YtlfnibjmkfldgaaGreatDoor
open Go.RowKit Big
theorem BdK.mul {j k : Nat} {x y : Int} (hx : BdK j x) (hy : BdK k y) : BdK (j + k) (x * y) := by
 unfold BdK at *
 rw [Int.natAbs_mul, Nat.pow_add]
 exact Nat.mul_lt_mul'' hx hy
theorem BdK.add {m : Nat} {x y : Int} (hx : BdK m x) (hy : BdK m y) : BdK (m + 1) (x + y) := by
 unfold BdK at *
 rw [Nat.pow_succ]
 omega
theorem BdK.mono {j k : Nat} {x : Int} (h : BdK j x) (hk : j ≤ k) : BdK k x := Nat.lt_of_lt_of_le h (Nat.pow_le_pow_right (by omega) hk)
structure FB (k : Nat) (q : Rat) : Prop where
 num : BdK k q.num
 den : BdK k (q.den : Int)
theorem FB.mono {j k : Nat} {q : Rat} (h : FB j q) (hk : j ≤ k) : FB k q := ⟨h.num.mono hk, h.den.mono hk⟩
theorem divInt_le {x y : Int} (hy : y ≠ 0) : (Rat.divInt x y).num.natAbs ≤ x.natAbs ∧ (Rat.divInt x y).den ≤ y.natAbs := by
 rw [Rat.num_divInt, Rat.den_divInt, if_neg hy]
 refine ⟨Nat.le_trans (Int.natAbs_ediv_le_natAbs _ _) ?_, Nat.div_le_self _ _⟩
 rw [Int.natAbs_mul]
 have : y.sign.natAbs = 1 := by rw [Int.natAbs_sign_of_ne_zero hy]
 rw [this, Nat.one_mul]
 exact Nat.le_refl _
theorem FB.divInt {j : Nat} {x y : Int} (hx : BdK j x) (hy : BdK j y) (h0 : y ≠ 0) : FB j (Rat.divInt x y) := by
 obtain ⟨h1, h2⟩ := divInt_le (x := x) h0
 exact ⟨Nat.lt_of_le_of_lt h1 hx, Nat.lt_of_le_of_lt (by simpa using h2) hy⟩
theorem add_divInt (a b : Rat) : a + b = Rat.divInt (a.num * b.den + b.num * a.den) (a.den * b.den) := by
 rw [Rat.add_def']; rfl
theorem mul_divInt (a b : Rat) : a * b = Rat.divInt (a.num * b.num) (a.den * b.den) := by
 rw [Rat.mul_def']; rfl
theorem den_ne (q : Rat) : (q.den : Int) ≠ 0 := by
 have := q.den_nz
 omega
theorem den2_ne (a b : Rat) : (a.den : Int) * (b.den : Int) ≠ 0 := Int.mul_ne_zero (den_ne a) (den_ne b)
theorem FB.add {j k : Nat} {a b : Rat} (ha : FB j a) (hb : FB k b) : FB (j + k + 1) (a + b) := by
 rw [add_divInt]
 exact FB.divInt ((ha.num.mul hb.den).add (by rw [Nat.add_comm]; exact hb.num.mul ha.den)) ((ha.den.mul hb.den).mono (by omega)) (den2_ne a b)
theorem FB.mul {j k : Nat} {a b : Rat} (ha : FB j a) (hb : FB k b) : FB (j + k) (a * b) := by
 rw [mul_divInt]
 exact FB.divInt (ha.num.mul hb.num) (ha.den.mul hb.den) (den2_ne a b)
theorem FB.neg {j : Nat} {a : Rat} (ha : FB j a) : FB j (-a) := ⟨by
 have := ha.num
 unfold BdK at *
 rw [Rat.neg_num, Int.natAbs_neg]
 exact this, ha.den⟩
theorem FB.sub {j k : Nat} {a b : Rat} (ha : FB j a) (hb : FB k b) : FB (j + k + 1) (a - b) := by
 rw [Rat.sub_eq_add_neg]
 exact ha.add hb.neg
theorem num_ne {a : Rat} (h : a ≠ 0) : a.num ≠ 0 := fun h0 => h (by rw [← Rat.num_divInt_den a, h0, Rat.zero_divInt])
theorem FB.inv {j : Nat} {a : Rat} (ha : FB j a) (h : a ≠ 0) : FB j a⁻¹ := by
 rw [Rat.inv_def]
 exact FB.divInt ha.den ha.num (num_ne h)
theorem FB.div {j k : Nat} {a b : Rat} (ha : FB j a) (hb : FB k b) (h : b ≠ 0) : FB (j + k) (a / b) := by
 rw [Rat.div_def]
 exact ha.mul (hb.inv h)
set_option maxRecDepth 100000 in
theorem inv_calls (va : Value) (q : Rat) (k : Nat) (w : World) (hx : IsFrac w va q) (hb : FB k q) (hk : k ≤ 60000000) (h0 : q ≠ 0) : Calls Tryz.prog 117 #[va] w (FracPost w q⁻¹) := by
 obtain ⟨s, a, l, c, s', a', l', c', rfl, h1, h2⟩ := hx
 obtain ⟨r, hr⟩ : ∃ r, q⁻¹ = r := ⟨_, rfl⟩
 have hr' := Rat.inv_def q
 rw [hr] at hr' ⊢
 have H1 := Lib.hid h1
 have H2 := Lib.hid h2
 have HR := Lib.hid hr'
 have HB := Lib.hid hb
 have HK := Lib.hid hk
 have H0 := Lib.hid h0
 clear h1 h2 hr' hb hk h0
 clear hr
 go_enter Tryz.func117, Tryz.ntmps117
 go_wp2_with fail
 have BA := Lib.hid ((Box.alloc w (w.heap.size) 140 #[.int .i64 s, .slice a l c, .int .i64 s', .slice a' l' c'] (by simp)).new ((New.refl _).alloc (.cells #[.int .i64 0, .slice none 0 0, .int .i64 0, .slice none 0 0] 140)))
 have BP := Lib.hid ((Box.alloc (w.alloc (.cells #[.int .i64 s, .slice a l c, .int .i64 s', .slice a' l' c'] 140)) (w.heap.size + 1) 140 #[.int .i64 0, .slice none 0 0, .int .i64 0, .slice none 0 0] (by simp)).new (New.refl _))
 have HN := Lib.hid (((New.refl w).alloc (.cells #[.int .i64 s, .slice a l c, .int .i64 s', .slice a' l' c'] 140)).alloc (.cells #[.int .i64 0, .slice none 0 0, .int .i64 0, .slice none 0 0] 140))
 refine (make_calls _ _ (q.den : Int) q.num _ (H2.out.new HN.out) (H1.out.new HN.out) (HB.out.den.bd HK.out) (HB.out.num.bd HK.out) (num_ne H0.out)).mono ?_
 rintro e w2 ⟨v, rfl, hn, hf⟩
 rw [← HR.out] at hf
 obtain ⟨s9, a9, l9, k9, t9, b9, m9, n9, rfl⟩ := hf.shape
 have HF := Lib.hid hf
 clear hf
 replace BP := Lib.hid (BP.out.new hn)
 replace HN := Lib.hid (HN.out.trans hn)
 clear hn
 obtain ⟨⟨p0, p1, p2, p3⟩, p4, p5, p6, p7, p8⟩ := BP.out.four
 go_wp2_with fail
 refine bodyPost_ret (v := .agg #[.int .i64 s9, .slice a9 l9 k9, .int .i64 t9, .slice b9 m9 n9]) (by simp [results, Tryz.results117, go_sem, p0, p1, p2, p3]) rfl ?_
 exact frac_ret HN.out BP.out (by omega) HF.out.parts.1 HF.out.parts.2
set_option maxRecDepth 100000 in
set_option maxHeartbeats 1000000 in
theorem fmul_calls (va vb : Value) (x y : Rat) (j k : Nat) (w : World) (hx : IsFrac w va x) (hy : IsFrac w vb y) (bx : FB j x) (by' : FB k y) (hk : j + k ≤ 60000000) : Calls Tryz.prog 92 #[va, vb] w (FracPost w (x * y)) := by
 obtain ⟨sa, aa, la, ca, ta, ba, ma, na, rfl, hx1, hx2⟩ := hx
 obtain ⟨sb, ab, lb, cb, tb, bb, mb, nb, rfl, hy1, hy2⟩ := hy
 obtain ⟨r, hr⟩ : ∃ r, x * y = r := ⟨_, rfl⟩
 have hr' := mul_divInt x y
 rw [hr] at hr' ⊢
 clear hr
 have bn := (bx.num.mul by'.num).bd hk
 have bd := (bx.den.mul by'.den).bd hk
 have bx1 := bx.num.bd (show j ≤ 60000000 by omega)
 have bx2 := bx.den.bd (show j ≤ 60000000 by omega)
 have by1 := by'.num.bd (show k ≤ 60000000 by omega)
 have by2 := by'.den.bd (show k ≤ 60000000 by omega)
 have hne := den2_ne x y
 clear bx by'
 have X1 := Lib.hid hx1
 have X2 := Lib.hid hx2
 have Y1 := Lib.hid hy1
 have Y2 := Lib.hid hy2
 have HR := Lib.hid hr'
 have HK := Lib.hid hk
 have BX1 := Lib.hid bx1
 have BX2 := Lib.hid bx2
 have BY1 := Lib.hid by1
 have BY2 := Lib.hid by2
 have BN := Lib.hid bn
 have BD := Lib.hid bd
 have HNE := Lib.hid hne
 clear hx1 hx2 hy1 hy2 hr' hk bx1 bx2 by1 by2 bn bd hne
 go_enter Tryz.func92, Tryz.ntmps92
 go_wp2_with fail
 have BA := Lib.hid ((Box.alloc w (w.heap.size) 140 #[.int .i64 sa, .slice aa la ca, .int .i64 ta, .slice ba ma na] (by simp)).new (((New.refl _).alloc (.cells #[.int .i64 sb, .slice ab lb cb, .int .i64 tb, .slice bb mb nb] 140)).alloc (.cells #[.int .i64 0, .slice none 0 0, .int .i64 0, .slice none 0 0] 140)))
 have BB := Lib.hid ((Box.alloc (w.alloc (.cells #[.int .i64 sa, .slice aa la ca, .int .i64 ta, .slice ba ma na] 140)) (w.heap.size + 1) 140 #[.int .i64 sb, .slice ab lb cb, .int .i64 tb, .slice bb mb nb] (by simp)).new ((New.refl _).alloc (.cells #[.int .i64 0, .slice none 0 0, .int .i64 0, .slice none 0 0] 140)))
 have BP := Lib.hid ((Box.alloc ((w.alloc (.cells #[.int .i64 sa, .slice aa la ca, .int .i64 ta, .slice ba ma na] 140)).alloc (.cells #[.int .i64 sb, .slice ab lb cb, .int .i64 tb, .slice bb mb nb] 140)) (w.heap.size + 1 + 1) 140 #[.int .i64 0, .slice none 0 0, .int .i64 0, .slice none 0 0] (by simp)).new (New.refl _))
 have HN := Lib.hid ((((New.refl w).alloc (.cells #[.int .i64 sa, .slice aa la ca, .int .i64 ta, .slice ba ma na] 140)).alloc (.cells #[.int .i64 sb, .slice ab lb cb, .int .i64 tb, .slice bb mb nb] 140)).alloc (.cells #[.int .i64 0, .slice none 0 0, .int .i64 0, .slice none 0 0] 140))
 obtain ⟨⟨pa0, pa1, pa2, pa3⟩, pa4, pa5, pa6, pa7, pa8⟩ := BA.out.four
 obtain ⟨⟨pb0, pb1, pb2, pb3⟩, pb4, pb5, pb6, pb7, pb8⟩ := BB.out.four
 refine wp_region_T 11 (fun W => W.cell? ⟨w.heap.size, 0, none⟩ = some (.int .i64 sa) ∧ W.cell? ⟨w.heap.size, 1, none⟩ = some (.slice aa la ca) ∧ W.cell? ⟨w.heap.size, 2, none⟩ = some (.int .i64 ta) ∧ W.cell? ⟨w.heap.size, 3, none⟩ = some (.slice ba ma na) ∧ W.cell? ⟨w.heap.size + 1, 0, none⟩ = some (.int .i64 sb) ∧ W.cell? ⟨w.heap.size + 1, 1, none⟩ = some (.slice ab lb cb) ∧ W.cell? ⟨w.heap.size + 1, 2, none⟩ = some (.int .i64 tb) ∧ W.cell? ⟨w.heap.size + 1, 3, none⟩ = some (.slice bb mb nb)) 12 #[false, false, false, false, false, false, false, false, false, false, false, false] rfl (by kernel_rfl) (by kernel_rfl) ?_
 refine wpT_take 0 (v := ?_) rfl (by kernel_rfl) (fun _ _ _ h => h) (by exact ⟨pa0, pa1, pa2, pa3, pb0, pb1, pb2, pb3⟩) (Or.inl ⟨by first | kernel_rfl | rfl, ?_⟩) ?_
 rotate_left
 ·(intro W hW; (try dsimp only at hW); go_simp; try with_reducible rfl)
 try simp only [PT]
 refine wpT_take 1 (v := ?_) rfl (by kernel_rfl) (fun _ _ _ h => h) (by exact ⟨pa0, pa1, pa2, pa3, pb0, pb1, pb2, pb3⟩) (Or.inl ⟨by first | kernel_rfl | rfl, ?_⟩) ?_
 rotate_left
 ·(intro W hW; (try dsimp only at hW); go_simp; try with_reducible rfl)
 try simp only [PT]
 refine wpT_take 2 (v := ?_) rfl (by kernel_rfl) (fun _ _ _ h => h) (by exact ⟨pa0, pa1, pa2, pa3, pb0, pb1, pb2, pb3⟩) (Or.inl ⟨by first | kernel_rfl | rfl, ?_⟩) ?_
 rotate_left
 ·(intro W hW; (try dsimp only at hW); go_simp; try with_reducible rfl)
 try simp only [PT]
 refine wpT_take 3 (v := ?_) rfl (by kernel_rfl) (fun _ _ _ h => h) (by exact ⟨pa0, pa1, pa2, pa3, pb0, pb1, pb2, pb3⟩) (Or.inl ⟨by first | kernel_rfl | rfl, ?_⟩) ?_
 rotate_left
 ·(intro W hW; (try dsimp only at hW); go_simp; try with_reducible rfl)
 try simp only [PT]
 refine wpT_take 5 (v := ?_) rfl (by kernel_rfl) (fun _ _ _ h => h) (by exact ⟨pa0, pa1, pa2, pa3, pb0, pb1, pb2, pb3⟩) (Or.inl ⟨by first | kernel_rfl | rfl, ?_⟩) ?_
 rotate_left
 ·(intro W hW; (try dsimp only at hW); go_simp; try with_reducible rfl)
 try simp only [PT]
 refine wpT_take 6 (v := ?_) rfl (by kernel_rfl) (fun _ _ _ h => h) (by exact ⟨pa0, pa1, pa2, pa3, pb0, pb1, pb2, pb3⟩) (Or.inl ⟨by first | kernel_rfl | rfl, ?_⟩) ?_
 rotate_left
 ·(intro W hW; (try dsimp only at hW); go_simp; try with_reducible rfl)
 try simp only [PT]
 refine wpT_take 7 (v := ?_) rfl (by kernel_rfl) (fun _ _ _ h => h) (by exact ⟨pa0, pa1, pa2, pa3, pb0, pb1, pb2, pb3⟩) (Or.inl ⟨by first | kernel_rfl | rfl, ?_⟩) ?_
 rotate_left
 ·(intro W hW; (try dsimp only at hW); go_simp; try with_reducible rfl)
 try simp only [PT]
 refine wpT_take 8 (v := ?_) rfl (by kernel_rfl) (fun _ _ _ h => h) (by exact ⟨pa0, pa1, pa2, pa3, pb0, pb1, pb2, pb3⟩) (Or.inl ⟨by first | kernel_rfl | rfl, ?_⟩) ?_
 rotate_left
 ·(intro W hW; (try dsimp only at hW); go_simp; try with_reducible rfl)
 try simp only [PT]
 refine wpT_one 4 rfl (by kernel_rfl) (fun K hK => ?_)
 go_simp
 refine (mul_calls _ _ x.num y.num _ (X1.out.new HN.out.drew) (Y1.out.new HN.out.drew) BX1.out BY1.out).mono ?_
 rintro e w1 ⟨v, rfl, hn, hi⟩
 have hn := hn.undrew
 obtain ⟨s5, a5, l5, k5, rfl⟩ := hi.shape
 have HI5 := Lib.hid hi
 clear hi
 clear pa0 pa1 pa2 pa3 pa4 pa5 pa6 pa7 pa8 pb0 pb1 pb2 pb3 pb4 pb5 pb6 pb7 pb8
 replace BA := Lib.hid (BA.out.new hn)
 replace BB := Lib.hid (BB.out.new hn)
 replace BP := Lib.hid (BP.out.new hn)
 replace HN := Lib.hid (HN.out.trans hn)
 clear hn
 obtain ⟨⟨pa0, pa1, pa2, pa3⟩, pa4, pa5, pa6, pa7, pa8⟩ := BA.out.four
 obtain ⟨⟨pb0, pb1, pb2, pb3⟩, pb4, pb5, pb6, pb7, pb8⟩ := BB.out.four
 refine hK.out _ _ (fun _ => ?_) ?_
 ·exact ⟨pa0, pa1, pa2, pa3, pb0, pb1, pb2, pb3⟩
 clear hK K
 try simp only [PT]
 refine wpT_one 9 rfl (by kernel_rfl) (fun K hK => ?_)
 go_simp
 refine (mul_calls _ _ (x.den : Int) (y.den : Int) _ (X2.out.new HN.out) (Y2.out.new HN.out) BX2.out BY2.out).mono ?_
 rintro e w2 ⟨v, rfl, hn, hi⟩
 obtain ⟨s6, a6, l6, k6, rfl⟩ := hi.shape
 have HI6 := Lib.hid hi
 clear hi
 clear pa0 pa1 pa2 pa3 pa4 pa5 pa6 pa7 pa8 pb0 pb1 pb2 pb3 pb4 pb5 pb6 pb7 pb8
 replace BA := Lib.hid (BA.out.new hn)
 replace BB := Lib.hid (BB.out.new hn)
 replace BP := Lib.hid (BP.out.new hn)
 replace HI5 := Lib.hid (HI5.out.new hn)
 replace HN := Lib.hid (HN.out.trans hn)
 clear hn
 obtain ⟨⟨pa0, pa1, pa2, pa3⟩, pa4, pa5, pa6, pa7, pa8⟩ := BA.out.four
 obtain ⟨⟨pb0, pb1, pb2, pb3⟩, pb4, pb5, pb6, pb7, pb8⟩ := BB.out.four
 refine hK.out _ _ (fun _ => ?_) ?_
 ·exact ⟨pa0, pa1, pa2, pa3, pb0, pb1, pb2, pb3⟩
 clear hK K
 try simp only [PT]
 refine wpT_one 10 rfl (by kernel_rfl) (fun K hK => ?_)
 go_simp
 refine (make_calls _ _ (x.num * y.num) (x.den * y.den : Int) _ HI5.out HI6.out BN.out BD.out HNE.out).mono ?_
 rintro e w3 ⟨v, rfl, hn, hf⟩
 rw [← HR.out] at hf
 obtain ⟨s9, a9, l9, k9, t9, b9, m9, n9, rfl⟩ := hf.shape
 have HF := Lib.hid hf
 clear hf
 clear pa0 pa1 pa2 pa3 pa4 pa5 pa6 pa7 pa8 pb0 pb1 pb2 pb3 pb4 pb5 pb6 pb7 pb8
 replace BA := Lib.hid (BA.out.new hn)
 replace BB := Lib.hid (BB.out.new hn)
 replace BP := Lib.hid (BP.out.new hn)
 replace HN := Lib.hid (HN.out.trans hn)
 clear hn
 obtain ⟨⟨pa0, pa1, pa2, pa3⟩, pa4, pa5, pa6, pa7, pa8⟩ := BA.out.four
 obtain ⟨⟨pb0, pb1, pb2, pb3⟩, pb4, pb5, pb6, pb7, pb8⟩ := BB.out.four
 refine hK.out _ _ (fun _ => ?_) ?_
 ·exact ⟨pa0, pa1, pa2, pa3, pb0, pb1, pb2, pb3⟩
 clear hK K
 try simp only [PT]
 refine wpT_tail rfl (by kernel_rfl) ?_
 simp only [List.drop_succ_cons, List.drop_zero]
 obtain ⟨⟨p0, p1, p2, p3⟩, p4, p5, p6, p7, p8⟩ := BP.out.four
 go_wp2_with fail
 refine bodyPost_ret (v := .agg #[.int .i64 s9, .slice a9 l9 k9, .int .i64 t9, .slice b9 m9 n9]) (by simp [results, Tryz.results92, go_sem, p0, p1, p2, p3]) rfl ?_
 exact frac_ret HN.out BP.out (by omega) HF.out.parts.1 HF.out.parts.2
end Go.Proofs.YtlfnibjmkfldgaaGreatDoor
namespace Go.Proofs.YtlfnibjmkfldgaaGreatDoor
open Go.RowKit Big
theorem add_whole {x y : Rat} (hx : x.den = 1) (hy : y.den = 1) : x + y = ((x.num + y.num : Int) : Rat) := by
 rw [add_divInt, hx, hy]
 apply Rat.ext
 ·rw [Rat.num_divInt, Rat.num_intCast]; simp
 ·rw [Rat.den_divInt, Rat.den_intCast]; simp
set_option maxRecDepth 100000 in
set_option maxHeartbeats 2000000 in
theorem fadd_calls (va vb : Value) (x y : Rat) (j k : Nat) (w : World) (hx : IsFrac w va x) (hy : IsFrac w vb y) (bx : FB j x) (by' : FB k y) (hk : j + k + 1 ≤ 60000000) : Calls Tryz.prog 98 #[va, vb] w (FracPost w (x + y)) := by
 have hX := hx
 have hY := hy
 obtain ⟨sa, aa, la, ca, ta, ba, ma, na, rfl, hx1, hx2⟩ := hx
 obtain ⟨sb, ab, lb, cb, tb, bb, mb, nb, rfl, hy1, hy2⟩ := hy
 obtain ⟨r, hr⟩ : ∃ r, x + y = r := ⟨_, rfl⟩
 have hr' := add_divInt x y
 have hw := add_whole (x := x) (y := y)
 rw [hr] at hr' hw ⊢
 clear hr
 have bm1 := (bx.num.mul by'.den).bd (show j + k ≤ 60000000 by omega)
 have bm2 := (by'.num.mul bx.den).bd (show k + j ≤ 60000000 by omega)
 have bn := ((bx.num.mul by'.den).add (by rw [Nat.add_comm]; exact by'.num.mul bx.den)).bd hk
 have bd := (bx.den.mul by'.den).bd (show j + k ≤ 60000000 by omega)
 have bx1 := bx.num.bd (show j ≤ 60000000 by omega)
 have bx2 := bx.den.bd (show j ≤ 60000000 by omega)
 have by1 := by'.num.bd (show k ≤ 60000000 by omega)
 have by2 := by'.den.bd (show k ≤ 60000000 by omega)
 have hne := den2_ne x y
 clear bx by'
 have HX := Lib.hid hX
 have HY := Lib.hid hY
 have X1 := Lib.hid hx1
 have X2 := Lib.hid hx2
 have Y1 := Lib.hid hy1
 have Y2 := Lib.hid hy2
 have HR := Lib.hid hr'
 have HW := Lib.hid hw
 have HK := Lib.hid hk
 have BX1 := Lib.hid bx1
 have BX2 := Lib.hid bx2
 have BY1 := Lib.hid by1
 have BY2 := Lib.hid by2
 have BM1 := Lib.hid bm1
 have BM2 := Lib.hid bm2
 have BN := Lib.hid bn
 have BD := Lib.hid bd
 have HNE := Lib.hid hne
 clear hX hY hx1 hx2 hy1 hy2 hr' hw hk bx1 bx2 by1 by2 bm1 bm2 bn bd hne
 by_cases h1 : x.den = 1
 ·have d1 : decide (x.den = 1) = true := by simpa using h1
  have H1 := Lib.hid h1
  clear h1
  go_enter Tryz.func98, Tryz.ntmps98
  go_wp2_with fail
  have BA := Lib.hid ((Box.alloc w (w.heap.size) 140 #[.int .i64 sa, .slice aa la ca, .int .i64 ta, .slice ba ma na] (by simp)).new (((New.refl _).alloc (.cells #[.int .i64 sb, .slice ab lb cb, .int .i64 tb, .slice bb mb nb] 140)).alloc (.cells #[.int .i64 0, .slice none 0 0, .int .i64 0, .slice none 0 0] 140)))
  have BB := Lib.hid ((Box.alloc (w.alloc (.cells #[.int .i64 sa, .slice aa la ca, .int .i64 ta, .slice ba ma na] 140)) (w.heap.size + 1) 140 #[.int .i64 sb, .slice ab lb cb, .int .i64 tb, .slice bb mb nb] (by simp)).new ((New.refl _).alloc (.cells #[.int .i64 0, .slice none 0 0, .int .i64 0, .slice none 0 0] 140)))
  have BP := Lib.hid ((Box.alloc ((w.alloc (.cells #[.int .i64 sa, .slice aa la ca, .int .i64 ta, .slice ba ma na] 140)).alloc (.cells #[.int .i64 sb, .slice ab lb cb, .int .i64 tb, .slice bb mb nb] 140)) (w.heap.size + 1 + 1) 140 #[.int .i64 0, .slice none 0 0, .int .i64 0, .slice none 0 0] (by simp)).new (New.refl _))
  have HN := Lib.hid ((((New.refl w).alloc (.cells #[.int .i64 sa, .slice aa la ca, .int .i64 ta, .slice ba ma na] 140)).alloc (.cells #[.int .i64 sb, .slice ab lb cb, .int .i64 tb, .slice bb mb nb] 140)).alloc (.cells #[.int .i64 0, .slice none 0 0, .int .i64 0, .slice none 0 0] 140))
  refine (isWhole_calls _ x _ (HX.out.new HN.out)).mono ?_
  rintro e w1 ⟨rfl, hn⟩
  rw [d1]
  replace BA := Lib.hid (BA.out.new hn)
  replace BB := Lib.hid (BB.out.new hn)
  replace BP := Lib.hid (BP.out.new hn)
  replace HN := Lib.hid (HN.out.trans hn)
  clear hn
  obtain ⟨⟨pb0, pb1, pb2, pb3⟩, pb4, pb5, pb6, pb7, pb8⟩ := BB.out.four
  go_wp2_with fail
  clear pb0 pb1 pb2 pb3 pb4 pb5 pb6 pb7 pb8
  refine (isWhole_calls _ y _ (HY.out.new HN.out)).mono ?_
  rintro e w2 ⟨rfl, hn⟩
  replace BA := Lib.hid (BA.out.new hn)
  replace BB := Lib.hid (BB.out.new hn)
  replace BP := Lib.hid (BP.out.new hn)
  replace HN := Lib.hid (HN.out.trans hn)
  clear hn
  obtain ⟨⟨pa0, pa1, pa2, pa3⟩, pa4, pa5, pa6, pa7, pa8⟩ := BA.out.four
  obtain ⟨⟨pb0, pb1, pb2, pb3⟩, pb4, pb5, pb6, pb7, pb8⟩ := BB.out.four
  by_cases h2 : y.den = 1
  ·rw [decide_eq_true h2]
   have hw := HW.out H1.out h2
   have H2 := Lib.hid h2
   have HWW := Lib.hid hw
   clear h2 hw
   go_wp2_with fail
   clear pa0 pa1 pa2 pa3 pa4 pa5 pa6 pa7 pa8 pb0 pb1 pb2 pb3 pb4 pb5 pb6 pb7 pb8
   refine (add_calls _ _ x.num y.num _ (X1.out.new HN.out) (Y1.out.new HN.out) BX1.out BY1.out).mono ?_
   rintro e w3 ⟨v, rfl, hn, hi⟩
   obtain ⟨s5, a5, l5, k5, rfl⟩ := hi.shape
   have HI5 := Lib.hid hi
   clear hi
   replace BP := Lib.hid (BP.out.new hn)
   replace HN := Lib.hid (HN.out.trans hn)
   clear hn
   go_wp2_with fail
   refine (whole_calls _ (x.num + y.num) _ HI5.out).mono ?_
   rintro e w4 ⟨v, rfl, hn, hf⟩
   rw [← HWW.out] at hf
   obtain ⟨s9, a9, l9, k9, t9, b9, m9, n9, rfl⟩ := hf.shape
   have HF := Lib.hid hf
   clear hf
   replace BP := Lib.hid (BP.out.new hn)
   replace HN := Lib.hid (HN.out.trans hn)
   clear hn
   obtain ⟨⟨p0, p1, p2, p3⟩, p4, p5, p6, p7, p8⟩ := BP.out.four
   go_wp2_with fail
   refine bodyPost_ret (v := .agg #[.int .i64 s9, .slice a9 l9 k9, .int .i64 t9, .slice b9 m9 n9]) (by simp [results, Tryz.results98, go_sem, p0, p1, p2, p3]) rfl ?_
   exact frac_ret HN.out BP.out (by omega) HF.out.parts.1 HF.out.parts.2
  ·rw [decide_eq_false h2]
   clear h2
   go_wp2_with fail
   refine wp_region_T 17 (fun W => W.cell? ⟨w.heap.size, 0, none⟩ = some (.int .i64 sa) ∧ W.cell? ⟨w.heap.size, 1, none⟩ = some (.slice aa la ca) ∧ W.cell? ⟨w.heap.size, 2, none⟩ = some (.int .i64 ta) ∧ W.cell? ⟨w.heap.size, 3, none⟩ = some (.slice ba ma na) ∧ W.cell? ⟨w.heap.size + 1, 0, none⟩ = some (.int .i64 sb) ∧ W.cell? ⟨w.heap.size + 1, 1, none⟩ = some (.slice ab lb cb) ∧ W.cell? ⟨w.heap.size + 1, 2, none⟩ = some (.int .i64 tb) ∧ W.cell? ⟨w.heap.size + 1, 3, none⟩ = some (.slice bb mb nb)) 18 #[false, false, false, false, false, false, false, false, false, false, false, false, false, false, false, false, false, false] rfl (by kernel_rfl) (by kernel_rfl) ?_
   refine wpT_take 0 (v := ?_) rfl (by kernel_rfl) (fun _ _ _ h => h) (by exact ⟨pa0, pa1, pa2, pa3, pb0, pb1, pb2, pb3⟩) (Or.inl ⟨by first | kernel_rfl | rfl, ?_⟩) ?_
   rotate_left
   ·(intro W hW; (try dsimp only at hW); go_simp; try with_reducible rfl)
   try simp only [PT]
   refine wpT_take 1 (v := ?_) rfl (by kernel_rfl) (fun _ _ _ h => h) (by exact ⟨pa0, pa1, pa2, pa3, pb0, pb1, pb2, pb3⟩) (Or.inl ⟨by first | kernel_rfl | rfl, ?_⟩) ?_
   rotate_left
   ·(intro W hW; (try dsimp only at hW); go_simp; try with_reducible rfl)
   try simp only [PT]
   refine wpT_take 2 (v := ?_) rfl (by kernel_rfl) (fun _ _ _ h => h) (by exact ⟨pa0, pa1, pa2, pa3, pb0, pb1, pb2, pb3⟩) (Or.inl ⟨by first | kernel_rfl | rfl, ?_⟩) ?_
   rotate_left
   ·(intro W hW; (try dsimp only at hW); go_simp; try with_reducible rfl)
   try simp only [PT]
   refine wpT_take 3 (v := ?_) rfl (by kernel_rfl) (fun _ _ _ h => h) (by exact ⟨pa0, pa1, pa2, pa3, pb0, pb1, pb2, pb3⟩) (Or.inl ⟨by first | kernel_rfl | rfl, ?_⟩) ?_
   rotate_left
   ·(intro W hW; (try dsimp only at hW); go_simp; try with_reducible rfl)
   try simp only [PT]
   refine wpT_take 5 (v := ?_) rfl (by kernel_rfl) (fun _ _ _ h => h) (by exact ⟨pa0, pa1, pa2, pa3, pb0, pb1, pb2, pb3⟩) (Or.inl ⟨by first | kernel_rfl | rfl, ?_⟩) ?_
   rotate_left
   ·(intro W hW; (try dsimp only at hW); go_simp; try with_reducible rfl)
   try simp only [PT]
   refine wpT_take 6 (v := ?_) rfl (by kernel_rfl) (fun _ _ _ h => h) (by exact ⟨pa0, pa1, pa2, pa3, pb0, pb1, pb2, pb3⟩) (Or.inl ⟨by first | kernel_rfl | rfl, ?_⟩) ?_
   rotate_left
   ·(intro W hW; (try dsimp only at hW); go_simp; try with_reducible rfl)
   try simp only [PT]
   refine wpT_take 7 (v := ?_) rfl (by kernel_rfl) (fun _ _ _ h => h) (by exact ⟨pa0, pa1, pa2, pa3, pb0, pb1, pb2, pb3⟩) (Or.inl ⟨by first | kernel_rfl | rfl, ?_⟩) ?_
   rotate_left
   ·(intro W hW; (try dsimp only at hW); go_simp; try with_reducible rfl)
   try simp only [PT]
   refine wpT_take 8 (v := ?_) rfl (by kernel_rfl) (fun _ _ _ h => h) (by exact ⟨pa0, pa1, pa2, pa3, pb0, pb1, pb2, pb3⟩) (Or.inl ⟨by first | kernel_rfl | rfl, ?_⟩) ?_
   rotate_left
   ·(intro W hW; (try dsimp only at hW); go_simp; try with_reducible rfl)
   try simp only [PT]
   refine wpT_take 11 (v := ?_) rfl (by kernel_rfl) (fun _ _ _ h => h) (by exact ⟨pa0, pa1, pa2, pa3, pb0, pb1, pb2, pb3⟩) (Or.inl ⟨by first | kernel_rfl | rfl, ?_⟩) ?_
   rotate_left
   ·(intro W hW; (try dsimp only at hW); go_simp; try with_reducible rfl)
   try simp only [PT]
   refine wpT_take 12 (v := ?_) rfl (by kernel_rfl) (fun _ _ _ h => h) (by exact ⟨pa0, pa1, pa2, pa3, pb0, pb1, pb2, pb3⟩) (Or.inl ⟨by first | kernel_rfl | rfl, ?_⟩) ?_
   rotate_left
   ·(intro W hW; (try dsimp only at hW); go_simp; try with_reducible rfl)
   try simp only [PT]
   refine wpT_take 13 (v := ?_) rfl (by kernel_rfl) (fun _ _ _ h => h) (by exact ⟨pa0, pa1, pa2, pa3, pb0, pb1, pb2, pb3⟩) (Or.inl ⟨by first | kernel_rfl | rfl, ?_⟩) ?_
   rotate_left
   ·(intro W hW; (try dsimp only at hW); go_simp; try with_reducible rfl)
   try simp only [PT]
   refine wpT_take 14 (v := ?_) rfl (by kernel_rfl) (fun _ _ _ h => h) (by exact ⟨pa0, pa1, pa2, pa3, pb0, pb1, pb2, pb3⟩) (Or.inl ⟨by first | kernel_rfl | rfl, ?_⟩) ?_
   rotate_left
   ·(intro W hW; (try dsimp only at hW); go_simp; try with_reducible rfl)
   try simp only [PT]
   refine wpT_one 4 rfl (by kernel_rfl) (fun K hK => ?_)
   go_simp
   refine (mul_calls _ _ x.num (y.den : Int) _ (X1.out.new HN.out.drew) (Y2.out.new HN.out.drew) BX1.out BY2.out).mono ?_
   rintro e w3 ⟨v, rfl, hn, hi⟩
   have hn := hn.undrew
   obtain ⟨s5, a5, l5, k5, rfl⟩ := hi.shape
   have HI5 := Lib.hid hi
   clear hi
   clear pa0 pa1 pa2 pa3 pa4 pa5 pa6 pa7 pa8 pb0 pb1 pb2 pb3 pb4 pb5 pb6 pb7 pb8
   replace BA := Lib.hid (BA.out.new hn)
   replace BB := Lib.hid (BB.out.new hn)
   replace BP := Lib.hid (BP.out.new hn)
   replace HN := Lib.hid (HN.out.trans hn)
   clear hn
   obtain ⟨⟨pa0, pa1, pa2, pa3⟩, pa4, pa5, pa6, pa7, pa8⟩ := BA.out.four
   obtain ⟨⟨pb0, pb1, pb2, pb3⟩, pb4, pb5, pb6, pb7, pb8⟩ := BB.out.four
   refine hK.out _ _ (fun _ => ?_) ?_
   ·exact ⟨pa0, pa1, pa2, pa3, pb0, pb1, pb2, pb3⟩
   clear hK K
   try simp only [PT]
   refine wpT_one 9 rfl (by kernel_rfl) (fun K hK => ?_)
   go_simp
   refine (mul_calls _ _ y.num (x.den : Int) _ (Y1.out.new HN.out) (X2.out.new HN.out) BY1.out BX2.out).mono ?_
   rintro e w4 ⟨v, rfl, hn, hi⟩
   obtain ⟨s6, a6, l6, k6, rfl⟩ := hi.shape
   have HI6 := Lib.hid hi
   clear hi
   clear pa0 pa1 pa2 pa3 pa4 pa5 pa6 pa7 pa8 pb0 pb1 pb2 pb3 pb4 pb5 pb6 pb7 pb8
   replace BA := Lib.hid (BA.out.new hn)
   replace BB := Lib.hid (BB.out.new hn)
   replace BP := Lib.hid (BP.out.new hn)
   replace HI5 := Lib.hid (HI5.out.new hn)
   replace HN := Lib.hid (HN.out.trans hn)
   clear hn
   obtain ⟨⟨pa0, pa1, pa2, pa3⟩, pa4, pa5, pa6, pa7, pa8⟩ := BA.out.four
   obtain ⟨⟨pb0, pb1, pb2, pb3⟩, pb4, pb5, pb6, pb7, pb8⟩ := BB.out.four
   refine hK.out _ _ (fun _ => ?_) ?_
   ·exact ⟨pa0, pa1, pa2, pa3, pb0, pb1, pb2, pb3⟩
   clear hK K
   try simp only [PT]
   refine wpT_one 10 rfl (by kernel_rfl) (fun K hK => ?_)
   go_simp
   refine (add_calls _ _ (x.num * y.den) (y.num * x.den) _ HI5.out HI6.out BM1.out BM2.out).mono ?_
   rintro e w5 ⟨v, rfl, hn, hi⟩
   obtain ⟨s7, a7, l7, k7, rfl⟩ := hi.shape
   have HI7 := Lib.hid hi
   clear hi
   clear pa0 pa1 pa2 pa3 pa4 pa5 pa6 pa7 pa8 pb0 pb1 pb2 pb3 pb4 pb5 pb6 pb7 pb8
   replace BA := Lib.hid (BA.out.new hn)
   replace BB := Lib.hid (BB.out.new hn)
   replace BP := Lib.hid (BP.out.new hn)
   replace HN := Lib.hid (HN.out.trans hn)
   clear hn
   obtain ⟨⟨pa0, pa1, pa2, pa3⟩, pa4, pa5, pa6, pa7, pa8⟩ := BA.out.four
   obtain ⟨⟨pb0, pb1, pb2, pb3⟩, pb4, pb5, pb6, pb7, pb8⟩ := BB.out.four
   refine hK.out _ _ (fun _ => ?_) ?_
   ·exact ⟨pa0, pa1, pa2, pa3, pb0, pb1, pb2, pb3⟩
   clear hK K
   try simp only [PT]
   refine wpT_one 15 rfl (by kernel_rfl) (fun K hK => ?_)
   go_simp
   refine (mul_calls _ _ (x.den : Int) (y.den : Int) _ (X2.out.new HN.out) (Y2.out.new HN.out) BX2.out BY2.out).mono ?_
   rintro e w6 ⟨v, rfl, hn, hi⟩
   obtain ⟨s8, a8, l8, k8, rfl⟩ := hi.shape
   have HI8 := Lib.hid hi
   clear hi
   clear pa0 pa1 pa2 pa3 pa4 pa5 pa6 pa7 pa8 pb0 pb1 pb2 pb3 pb4 pb5 pb6 pb7 pb8
   replace BA := Lib.hid (BA.out.new hn)
   replace BB := Lib.hid (BB.out.new hn)
   replace BP := Lib.hid (BP.out.new hn)
   replace HI7 := Lib.hid (HI7.out.new hn)
   replace HN := Lib.hid (HN.out.trans hn)
   clear hn
   obtain ⟨⟨pa0, pa1, pa2, pa3⟩, pa4, pa5, pa6, pa7, pa8⟩ := BA.out.four
   obtain ⟨⟨pb0, pb1, pb2, pb3⟩, pb4, pb5, pb6, pb7, pb8⟩ := BB.out.four
   refine hK.out _ _ (fun _ => ?_) ?_
   ·exact ⟨pa0, pa1, pa2, pa3, pb0, pb1, pb2, pb3⟩
   clear hK K
   try simp only [PT]
   refine wpT_one 16 rfl (by kernel_rfl) (fun K hK => ?_)
   go_simp
   refine (make_calls _ _ (x.num * y.den + y.num * x.den) (x.den * y.den : Int) _ HI7.out HI8.out BN.out BD.out HNE.out).mono ?_
   rintro e w7 ⟨v, rfl, hn, hf⟩
   rw [← HR.out] at hf
   obtain ⟨s9, a9, l9, k9, t9, b9, m9, n9, rfl⟩ := hf.shape
   have HF := Lib.hid hf
   clear hf
   clear pa0 pa1 pa2 pa3 pa4 pa5 pa6 pa7 pa8 pb0 pb1 pb2 pb3 pb4 pb5 pb6 pb7 pb8
   replace BA := Lib.hid (BA.out.new hn)
   replace BB := Lib.hid (BB.out.new hn)
   replace BP := Lib.hid (BP.out.new hn)
   replace HN := Lib.hid (HN.out.trans hn)
   clear hn
   obtain ⟨⟨pa0, pa1, pa2, pa3⟩, pa4, pa5, pa6, pa7, pa8⟩ := BA.out.four
   obtain ⟨⟨pb0, pb1, pb2, pb3⟩, pb4, pb5, pb6, pb7, pb8⟩ := BB.out.four
   refine hK.out _ _ (fun _ => ?_) ?_
   ·exact ⟨pa0, pa1, pa2, pa3, pb0, pb1, pb2, pb3⟩
   clear hK K
   try simp only [PT]
   refine wpT_tail rfl (by kernel_rfl) ?_
   simp only [List.drop_succ_cons, List.drop_zero]
   obtain ⟨⟨p0, p1, p2, p3⟩, p4, p5, p6, p7, p8⟩ := BP.out.four
   go_wp2_with fail
   refine bodyPost_ret (v := .agg #[.int .i64 s9, .slice a9 l9 k9, .int .i64 t9, .slice b9 m9 n9]) (by simp [results, Tryz.results98, go_sem, p0, p1, p2, p3]) rfl ?_
   exact frac_ret HN.out BP.out (by omega) HF.out.parts.1 HF.out.parts.2
 ·have d1 : decide (x.den = 1) = false := by simpa using h1
  clear h1
  go_enter Tryz.func98, Tryz.ntmps98
  go_wp2_with fail
  have BA := Lib.hid ((Box.alloc w (w.heap.size) 140 #[.int .i64 sa, .slice aa la ca, .int .i64 ta, .slice ba ma na] (by simp)).new (((New.refl _).alloc (.cells #[.int .i64 sb, .slice ab lb cb, .int .i64 tb, .slice bb mb nb] 140)).alloc (.cells #[.int .i64 0, .slice none 0 0, .int .i64 0, .slice none 0 0] 140)))
  have BB := Lib.hid ((Box.alloc (w.alloc (.cells #[.int .i64 sa, .slice aa la ca, .int .i64 ta, .slice ba ma na] 140)) (w.heap.size + 1) 140 #[.int .i64 sb, .slice ab lb cb, .int .i64 tb, .slice bb mb nb] (by simp)).new ((New.refl _).alloc (.cells #[.int .i64 0, .slice none 0 0, .int .i64 0, .slice none 0 0] 140)))
  have BP := Lib.hid ((Box.alloc ((w.alloc (.cells #[.int .i64 sa, .slice aa la ca, .int .i64 ta, .slice ba ma na] 140)).alloc (.cells #[.int .i64 sb, .slice ab lb cb, .int .i64 tb, .slice bb mb nb] 140)) (w.heap.size + 1 + 1) 140 #[.int .i64 0, .slice none 0 0, .int .i64 0, .slice none 0 0] (by simp)).new (New.refl _))
  have HN := Lib.hid ((((New.refl w).alloc (.cells #[.int .i64 sa, .slice aa la ca, .int .i64 ta, .slice ba ma na] 140)).alloc (.cells #[.int .i64 sb, .slice ab lb cb, .int .i64 tb, .slice bb mb nb] 140)).alloc (.cells #[.int .i64 0, .slice none 0 0, .int .i64 0, .slice none 0 0] 140))
  refine (isWhole_calls _ x _ (HX.out.new HN.out)).mono ?_
  rintro e w1 ⟨rfl, hn⟩
  rw [d1]
  replace BA := Lib.hid (BA.out.new hn)
  replace BB := Lib.hid (BB.out.new hn)
  replace BP := Lib.hid (BP.out.new hn)
  replace HN := Lib.hid (HN.out.trans hn)
  clear hn
  obtain ⟨⟨pa0, pa1, pa2, pa3⟩, pa4, pa5, pa6, pa7, pa8⟩ := BA.out.four
  obtain ⟨⟨pb0, pb1, pb2, pb3⟩, pb4, pb5, pb6, pb7, pb8⟩ := BB.out.four
  go_wp2_with fail
  refine wp_region_T 17 (fun W => W.cell? ⟨w.heap.size, 0, none⟩ = some (.int .i64 sa) ∧ W.cell? ⟨w.heap.size, 1, none⟩ = some (.slice aa la ca) ∧ W.cell? ⟨w.heap.size, 2, none⟩ = some (.int .i64 ta) ∧ W.cell? ⟨w.heap.size, 3, none⟩ = some (.slice ba ma na) ∧ W.cell? ⟨w.heap.size + 1, 0, none⟩ = some (.int .i64 sb) ∧ W.cell? ⟨w.heap.size + 1, 1, none⟩ = some (.slice ab lb cb) ∧ W.cell? ⟨w.heap.size + 1, 2, none⟩ = some (.int .i64 tb) ∧ W.cell? ⟨w.heap.size + 1, 3, none⟩ = some (.slice bb mb nb)) 18 #[false, false, false, false, false, false, false, false, false, false, false, false, false, false, false, false, false, false] rfl (by kernel_rfl) (by kernel_rfl) ?_
  refine wpT_take 0 (v := ?_) rfl (by kernel_rfl) (fun _ _ _ h => h) (by exact ⟨pa0, pa1, pa2, pa3, pb0, pb1, pb2, pb3⟩) (Or.inl ⟨by first | kernel_rfl | rfl, ?_⟩) ?_
  rotate_left
  ·(intro W hW; (try dsimp only at hW); go_simp; try with_reducible rfl)
  try simp only [PT]
  refine wpT_take 1 (v := ?_) rfl (by kernel_rfl) (fun _ _ _ h => h) (by exact ⟨pa0, pa1, pa2, pa3, pb0, pb1, pb2, pb3⟩) (Or.inl ⟨by first | kernel_rfl | rfl, ?_⟩) ?_
  rotate_left
  ·(intro W hW; (try dsimp only at hW); go_simp; try with_reducible rfl)
  try simp only [PT]
  refine wpT_take 2 (v := ?_) rfl (by kernel_rfl) (fun _ _ _ h => h) (by exact ⟨pa0, pa1, pa2, pa3, pb0, pb1, pb2, pb3⟩) (Or.inl ⟨by first | kernel_rfl | rfl, ?_⟩) ?_
  rotate_left
  ·(intro W hW; (try dsimp only at hW); go_simp; try with_reducible rfl)
  try simp only [PT]
  refine wpT_take 3 (v := ?_) rfl (by kernel_rfl) (fun _ _ _ h => h) (by exact ⟨pa0, pa1, pa2, pa3, pb0, pb1, pb2, pb3⟩) (Or.inl ⟨by first | kernel_rfl | rfl, ?_⟩) ?_
  rotate_left
  ·(intro W hW; (try dsimp only at hW); go_simp; try with_reducible rfl)
  try simp only [PT]
  refine wpT_take 5 (v := ?_) rfl (by kernel_rfl) (fun _ _ _ h => h) (by exact ⟨pa0, pa1, pa2, pa3, pb0, pb1, pb2, pb3⟩) (Or.inl ⟨by first | kernel_rfl | rfl, ?_⟩) ?_
  rotate_left
  ·(intro W hW; (try dsimp only at hW); go_simp; try with_reducible rfl)
  try simp only [PT]
  refine wpT_take 6 (v := ?_) rfl (by kernel_rfl) (fun _ _ _ h => h) (by exact ⟨pa0, pa1, pa2, pa3, pb0, pb1, pb2, pb3⟩) (Or.inl ⟨by first | kernel_rfl | rfl, ?_⟩) ?_
  rotate_left
  ·(intro W hW; (try dsimp only at hW); go_simp; try with_reducible rfl)
  try simp only [PT]
  refine wpT_take 7 (v := ?_) rfl (by kernel_rfl) (fun _ _ _ h => h) (by exact ⟨pa0, pa1, pa2, pa3, pb0, pb1, pb2, pb3⟩) (Or.inl ⟨by first | kernel_rfl | rfl, ?_⟩) ?_
  rotate_left
  ·(intro W hW; (try dsimp only at hW); go_simp; try with_reducible rfl)
  try simp only [PT]
  refine wpT_take 8 (v := ?_) rfl (by kernel_rfl) (fun _ _ _ h => h) (by exact ⟨pa0, pa1, pa2, pa3, pb0, pb1, pb2, pb3⟩) (Or.inl ⟨by first | kernel_rfl | rfl, ?_⟩) ?_
  rotate_left
  ·(intro W hW; (try dsimp only at hW); go_simp; try with_reducible rfl)
  try simp only [PT]
  refine wpT_take 11 (v := ?_) rfl (by kernel_rfl) (fun _ _ _ h => h) (by exact ⟨pa0, pa1, pa2, pa3, pb0, pb1, pb2, pb3⟩) (Or.inl ⟨by first | kernel_rfl | rfl, ?_⟩) ?_
  rotate_left
  ·(intro W hW; (try dsimp only at hW); go_simp; try with_reducible rfl)
  try simp only [PT]
  refine wpT_take 12 (v := ?_) rfl (by kernel_rfl) (fun _ _ _ h => h) (by exact ⟨pa0, pa1, pa2, pa3, pb0, pb1, pb2, pb3⟩) (Or.inl ⟨by first | kernel_rfl | rfl, ?_⟩) ?_
  rotate_left
  ·(intro W hW; (try dsimp only at hW); go_simp; try with_reducible rfl)
  try simp only [PT]
  refine wpT_take 13 (v := ?_) rfl (by kernel_rfl) (fun _ _ _ h => h) (by exact ⟨pa0, pa1, pa2, pa3, pb0, pb1, pb2, pb3⟩) (Or.inl ⟨by first | kernel_rfl | rfl, ?_⟩) ?_
  rotate_left
  ·(intro W hW; (try dsimp only at hW); go_simp; try with_reducible rfl)
  try simp only [PT]
  refine wpT_take 14 (v := ?_) rfl (by kernel_rfl) (fun _ _ _ h => h) (by exact ⟨pa0, pa1, pa2, pa3, pb0, pb1, pb2, pb3⟩) (Or.inl ⟨by first | kernel_rfl | rfl, ?_⟩) ?_
  rotate_left
  ·(intro W hW; (try dsimp only at hW); go_simp; try with_reducible rfl)
  try simp only [PT]
  refine wpT_one 4 rfl (by kernel_rfl) (fun K hK => ?_)
  go_simp
  refine (mul_calls _ _ x.num (y.den : Int) _ (X1.out.new HN.out.drew) (Y2.out.new HN.out.drew) BX1.out BY2.out).mono ?_
  rintro e w3 ⟨v, rfl, hn, hi⟩
  have hn := hn.undrew
  obtain ⟨s5, a5, l5, k5, rfl⟩ := hi.shape
  have HI5 := Lib.hid hi
  clear hi
  clear pa0 pa1 pa2 pa3 pa4 pa5 pa6 pa7 pa8 pb0 pb1 pb2 pb3 pb4 pb5 pb6 pb7 pb8
  replace BA := Lib.hid (BA.out.new hn)
  replace BB := Lib.hid (BB.out.new hn)
  replace BP := Lib.hid (BP.out.new hn)
  replace HN := Lib.hid (HN.out.trans hn)
  clear hn
  obtain ⟨⟨pa0, pa1, pa2, pa3⟩, pa4, pa5, pa6, pa7, pa8⟩ := BA.out.four
  obtain ⟨⟨pb0, pb1, pb2, pb3⟩, pb4, pb5, pb6, pb7, pb8⟩ := BB.out.four
  refine hK.out _ _ (fun _ => ?_) ?_
  ·exact ⟨pa0, pa1, pa2, pa3, pb0, pb1, pb2, pb3⟩
  clear hK K
  try simp only [PT]
  refine wpT_one 9 rfl (by kernel_rfl) (fun K hK => ?_)
  go_simp
  refine (mul_calls _ _ y.num (x.den : Int) _ (Y1.out.new HN.out) (X2.out.new HN.out) BY1.out BX2.out).mono ?_
  rintro e w4 ⟨v, rfl, hn, hi⟩
  obtain ⟨s6, a6, l6, k6, rfl⟩ := hi.shape
  have HI6 := Lib.hid hi
  clear hi
  clear pa0 pa1 pa2 pa3 pa4 pa5 pa6 pa7 pa8 pb0 pb1 pb2 pb3 pb4 pb5 pb6 pb7 pb8
  replace BA := Lib.hid (BA.out.new hn)
  replace BB := Lib.hid (BB.out.new hn)
  replace BP := Lib.hid (BP.out.new hn)
  replace HI5 := Lib.hid (HI5.out.new hn)
  replace HN := Lib.hid (HN.out.trans hn)
  clear hn
  obtain ⟨⟨pa0, pa1, pa2, pa3⟩, pa4, pa5, pa6, pa7, pa8⟩ := BA.out.four
  obtain ⟨⟨pb0, pb1, pb2, pb3⟩, pb4, pb5, pb6, pb7, pb8⟩ := BB.out.four
  refine hK.out _ _ (fun _ => ?_) ?_
  ·exact ⟨pa0, pa1, pa2, pa3, pb0, pb1, pb2, pb3⟩
  clear hK K
  try simp only [PT]
  refine wpT_one 10 rfl (by kernel_rfl) (fun K hK => ?_)
  go_simp
  refine (add_calls _ _ (x.num * y.den) (y.num * x.den) _ HI5.out HI6.out BM1.out BM2.out).mono ?_
  rintro e w5 ⟨v, rfl, hn, hi⟩
  obtain ⟨s7, a7, l7, k7, rfl⟩ := hi.shape
  have HI7 := Lib.hid hi
  clear hi
  clear pa0 pa1 pa2 pa3 pa4 pa5 pa6 pa7 pa8 pb0 pb1 pb2 pb3 pb4 pb5 pb6 pb7 pb8
  replace BA := Lib.hid (BA.out.new hn)
  replace BB := Lib.hid (BB.out.new hn)
  replace BP := Lib.hid (BP.out.new hn)
  replace HN := Lib.hid (HN.out.trans hn)
  clear hn
  obtain ⟨⟨pa0, pa1, pa2, pa3⟩, pa4, pa5, pa6, pa7, pa8⟩ := BA.out.four
  obtain ⟨⟨pb0, pb1, pb2, pb3⟩, pb4, pb5, pb6, pb7, pb8⟩ := BB.out.four
  refine hK.out _ _ (fun _ => ?_) ?_
  ·exact ⟨pa0, pa1, pa2, pa3, pb0, pb1, pb2, pb3⟩
  clear hK K
  try simp only [PT]
  refine wpT_one 15 rfl (by kernel_rfl) (fun K hK => ?_)
  go_simp
  refine (mul_calls _ _ (x.den : Int) (y.den : Int) _ (X2.out.new HN.out) (Y2.out.new HN.out) BX2.out BY2.out).mono ?_
  rintro e w6 ⟨v, rfl, hn, hi⟩
  obtain ⟨s8, a8, l8, k8, rfl⟩ := hi.shape
  have HI8 := Lib.hid hi
  clear hi
  clear pa0 pa1 pa2 pa3 pa4 pa5 pa6 pa7 pa8 pb0 pb1 pb2 pb3 pb4 pb5 pb6 pb7 pb8
  replace BA := Lib.hid (BA.out.new hn)
  replace BB := Lib.hid (BB.out.new hn)
  replace BP := Lib.hid (BP.out.new hn)
  replace HI7 := Lib.hid (HI7.out.new hn)
  replace HN := Lib.hid (HN.out.trans hn)
  clear hn
  obtain ⟨⟨pa0, pa1, pa2, pa3⟩, pa4, pa5, pa6, pa7, pa8⟩ := BA.out.four
  obtain ⟨⟨pb0, pb1, pb2, pb3⟩, pb4, pb5, pb6, pb7, pb8⟩ := BB.out.four
  refine hK.out _ _ (fun _ => ?_) ?_
  ·exact ⟨pa0, pa1, pa2, pa3, pb0, pb1, pb2, pb3⟩
  clear hK K
  try simp only [PT]
  refine wpT_one 16 rfl (by kernel_rfl) (fun K hK => ?_)
  go_simp
  refine (make_calls _ _ (x.num * y.den + y.num * x.den) (x.den * y.den : Int) _ HI7.out HI8.out BN.out BD.out HNE.out).mono ?_
  rintro e w7 ⟨v, rfl, hn, hf⟩
  rw [← HR.out] at hf
  obtain ⟨s9, a9, l9, k9, t9, b9, m9, n9, rfl⟩ := hf.shape
  have HF := Lib.hid hf
  clear hf
  clear pa0 pa1 pa2 pa3 pa4 pa5 pa6 pa7 pa8 pb0 pb1 pb2 pb3 pb4 pb5 pb6 pb7 pb8
  replace BA := Lib.hid (BA.out.new hn)
  replace BB := Lib.hid (BB.out.new hn)
  replace BP := Lib.hid (BP.out.new hn)
  replace HN := Lib.hid (HN.out.trans hn)
  clear hn
  obtain ⟨⟨pa0, pa1, pa2, pa3⟩, pa4, pa5, pa6, pa7, pa8⟩ := BA.out.four
  obtain ⟨⟨pb0, pb1, pb2, pb3⟩, pb4, pb5, pb6, pb7, pb8⟩ := BB.out.four
  refine hK.out _ _ (fun _ => ?_) ?_
  ·exact ⟨pa0, pa1, pa2, pa3, pb0, pb1, pb2, pb3⟩
  clear hK K
  try simp only [PT]
  refine wpT_tail rfl (by kernel_rfl) ?_
  simp only [List.drop_succ_cons, List.drop_zero]
  obtain ⟨⟨p0, p1, p2, p3⟩, p4, p5, p6, p7, p8⟩ := BP.out.four
  go_wp2_with fail
  refine bodyPost_ret (v := .agg #[.int .i64 s9, .slice a9 l9 k9, .int .i64 t9, .slice b9 m9 n9]) (by simp [results, Tryz.results98, go_sem, p0, p1, p2, p3]) rfl ?_
  exact frac_ret HN.out BP.out (by omega) HF.out.parts.1 HF.out.parts.2
end Go.Proofs.YtlfnibjmkfldgaaGreatDoor
