/- Part A11. -/
import Derived.Test.YtlfnibjmkfldgaaGreatDoorA10
namespace Go.Proofs.YtlfnibjmkfldgaaGreatDoor
open Go.RowKit Big
theorem quo_pos {x y : Int} (h : 0 < y) : quo x y = x / y := by unfold quo; rw [if_neg (by omega)]
theorem divInt_pos {X Y : Int} (hY : 0 < Y) : (Rat.divInt X Y).num = X / (Int.gcd X Y : Int) ∧ ((Rat.divInt X Y).den : Int) = Y / (Int.gcd X Y : Int) := by
 rw [Rat.num_divInt, Rat.den_divInt, if_neg (by omega), Int.sign_eq_one_of_pos hY, Int.one_mul, Int.gcd_comm]
 refine ⟨rfl, ?_⟩
 rw [Int.natCast_ediv]
 congr 1
 omega
theorem gcd_bd {X Y : Int} (hY : 0 < Y) (b : Bd Y) : Bd (Int.gcd X Y : Int) := b.le (by
 have := Nat.le_of_dvd (by omega) (Int.gcd_dvd_natAbs_right X Y)
 simpa using this)
set_option maxRecDepth 100000 in
set_option maxHeartbeats 2000000 in
theorem make_calls (va vb : Value) (x y : Int) (w : World) (hx : IsInt w va x) (hy : IsInt w vb y) (bx : Bd x) (by' : Bd y) (hy0 : y ≠ 0) : Calls Tryz.prog 124 #[va, vb] w (FracPost w (Rat.divInt x y)) := by
 have q1 := eql_nil
 obtain ⟨sa, aa, la, ca, rfl⟩ := hx.shape
 obtain ⟨sb, ab, lb, cb, rfl⟩ := hy.shape
 obtain ⟨q, hq⟩ : ∃ q, Rat.divInt x y = q := ⟨_, rfl⟩
 rw [hq]
 by_cases hneg : y < 0
 ·obtain ⟨t, ht, htn⟩ : ∃ t, y.sign = t ∧ t < 0 := ⟨_, rfl, by rw [Int.sign_eq_neg_one_of_neg hneg]; omega⟩
  obtain ⟨X, hX⟩ : ∃ X, -x = X := ⟨_, rfl⟩
  obtain ⟨Y, hY⟩ : ∃ Y, -y = Y := ⟨_, rfl⟩
  have hpos : 0 < Y := by omega
  have hq' := divInt_pos (X := X) hpos
  rw [← hX, ← hY, Rat.neg_divInt_neg, hq, hX, hY] at hq'
  have bx' := bx.neg
  have by2 := by'.neg
  rw [hX] at bx'
  rw [hY] at by2
  clear hneg hy0 bx by' hq
  have HX := Lib.hid hx
  have HY := Lib.hid hy
  have BX := Lib.hid bx'
  have BY := Lib.hid by2
  have HQ := Lib.hid hq'
  have HXX := Lib.hid hX
  have HEY := Lib.hid hY
  have HPOS := Lib.hid hpos
  clear hx hy bx' by2 hq' hX hY hpos
  go_enter Tryz.func124, Tryz.ntmps124
  go_wp2_with fail
  have BA := Lib.hid ((Box.alloc w (w.heap.size) 138 #[.int .i64 sa, .slice aa la ca] (by simp)).new (((New.refl _).alloc (.cells #[.int .i64 sb, .slice ab lb cb] 138)).alloc (.cells #[.int .i64 0, .slice none 0 0, .int .i64 0, .slice none 0 0] 140)))
  have BB := Lib.hid ((Box.alloc (w.alloc (.cells #[.int .i64 sa, .slice aa la ca] 138)) (w.heap.size + 1) 138 #[.int .i64 sb, .slice ab lb cb] (by simp)).new ((New.refl _).alloc (.cells #[.int .i64 0, .slice none 0 0, .int .i64 0, .slice none 0 0] 140)))
  have BP := Lib.hid ((Box.alloc ((w.alloc (.cells #[.int .i64 sa, .slice aa la ca] 138)).alloc (.cells #[.int .i64 sb, .slice ab lb cb] 138)) (w.heap.size + 1 + 1) 140 #[.int .i64 0, .slice none 0 0, .int .i64 0, .slice none 0 0] (by simp)).new (New.refl _))
  have HN := Lib.hid ((((New.refl w).alloc (.cells #[.int .i64 sa, .slice aa la ca] 138)).alloc (.cells #[.int .i64 sb, .slice ab lb cb] 138)).alloc (.cells #[.int .i64 0, .slice none 0 0, .int .i64 0, .slice none 0 0] 140))
  refine (sign_calls _ y _ (HY.out.new HN.out)).mono ?_
  rintro e w4 ⟨rfl, hn⟩
  rw [ht]
  clear ht
  replace BA := Lib.hid (BA.out.new hn)
  replace BB := Lib.hid (BB.out.new hn)
  replace BP := Lib.hid (BP.out.new hn)
  replace HN := Lib.hid (HN.out.trans hn)
  clear hn
  obtain ⟨a0, a1, a2, a3, a4⟩ := BA.out.two
  obtain ⟨b0, b1, b2, b3, b4⟩ := BB.out.two
  go_wp2_with fail
  refine wp_region_T 4 (fun W => W.cell? ⟨w.heap.size, 0, none⟩ = some (.int .i64 sa) ∧ W.cell? ⟨w.heap.size, 1, none⟩ = some (.slice aa la ca) ∧ W.cell? ⟨w.heap.size + 1, 0, none⟩ = some (.int .i64 sb) ∧ W.cell? ⟨w.heap.size + 1, 1, none⟩ = some (.slice ab lb cb)) 6 #[false, false, false, false, false, false] rfl (by kernel_rfl) (by kernel_rfl) ?_
  refine wpT_take 0 (v := ?_) rfl (by kernel_rfl) (fun _ _ _ h => h) (by exact ⟨a0, a1, b0, b1⟩) (Or.inl ⟨by first | kernel_rfl | rfl, ?_⟩) ?_
  rotate_left
  ·(intro W hW; (try dsimp only at hW); go_simp; try with_reducible rfl)
  try simp only [PT]
  refine wpT_take 2 (v := ?_) rfl (by kernel_rfl) (fun _ _ _ h => h) (by exact ⟨a0, a1, b0, b1⟩) (Or.inl ⟨by first | kernel_rfl | rfl, ?_⟩) ?_
  rotate_left
  ·(intro W hW; (try dsimp only at hW); go_simp; try with_reducible rfl)
  try simp only [PT]
  refine wpT_one 1 rfl (by kernel_rfl) (fun K hK => ?_)
  go_simp
  refine (neg_calls _ x _ (HX.out.new HN.out.drew)).mono ?_
  rintro e w5 ⟨v5, rfl, hn, hi⟩
  have hn := hn.undrew
  obtain ⟨s5, a5, l5, k5, rfl⟩ := hi.shape
  rw [HXX.out] at hi
  clear a0 a1 a2 a3 a4 b0 b1 b2 b3 b4
  have HIX := Lib.hid hi
  clear hi
  replace BA := Lib.hid (BA.out.new hn)
  replace BB := Lib.hid (BB.out.new hn)
  replace BP := Lib.hid (BP.out.new hn)
  replace HN := Lib.hid (HN.out.trans hn)
  clear hn
  obtain ⟨a0, a1, a2, a3, a4⟩ := BA.out.two
  obtain ⟨b0, b1, b2, b3, b4⟩ := BB.out.two
  refine hK.out _ _ (fun _ => ?_) ?_
  ·exact ⟨a0, a1, b0, b1⟩
  clear hK K
  try simp only [PT]
  refine wpT_one 3 rfl (by kernel_rfl) (fun K hK => ?_)
  go_simp
  refine (neg_calls _ y _ (HY.out.new HN.out)).mono ?_
  rintro e w6 ⟨v6, rfl, hn, hi⟩
  obtain ⟨s6, a6, l6, k6, rfl⟩ := hi.shape
  rw [HEY.out] at hi
  clear a0 a1 a2 a3 a4 b0 b1 b2 b3 b4
  have HIY := Lib.hid hi
  clear hi
  replace BA := Lib.hid (BA.out.new hn)
  replace BB := Lib.hid (BB.out.new hn)
  replace BP := Lib.hid (BP.out.new hn)
  replace HIX := Lib.hid (HIX.out.new hn)
  replace HN := Lib.hid (HN.out.trans hn)
  clear hn
  obtain ⟨a0, a1, a2, a3, a4⟩ := BA.out.two
  obtain ⟨b0, b1, b2, b3, b4⟩ := BB.out.two
  refine hK.out _ _ (fun _ => ?_) ?_
  ·exact ⟨a0, a1, b0, b1⟩
  clear hK K
  try simp only [PT]
  refine wpT_tail rfl (by kernel_rfl) ?_
  simp only [List.drop_succ_cons, List.drop_zero]
  have BB_ := BB.out.away BA.out (by omega) (.int .i64 s5) (.slice a5 l5 k5)
  have BP_ := BP.out.away BA.out (by omega) (.int .i64 s5) (.slice a5 l5 k5)
  have HIX_ := HIX.out.put2 BA.out s5 a5 l5 k5
  have HIY_ := HIY.out.put2 BA.out s5 a5 l5 k5
  have HN_ := HN.out.putAt BA.out (by omega) (.int .i64 s5) (.slice a5 l5 k5)
  have BA_ := BA.out.put2 (.int .i64 s5) (.slice a5 l5 k5)
  clear BB BP HIX HIY HN BA
  have BB := Lib.hid BB_
  have BP := Lib.hid BP_
  have HIX := Lib.hid HIX_
  have HIY := Lib.hid HIY_
  have HN := Lib.hid HN_
  have BA := Lib.hid BA_
  clear BB_ BP_ HIX_ HIY_ HN_ BA_
  have BA_ := BA.out.away BB.out (by omega) (.int .i64 s6) (.slice a6 l6 k6)
  have BP_ := BP.out.away BB.out (by omega) (.int .i64 s6) (.slice a6 l6 k6)
  have HIX_ := HIX.out.put2 BB.out s6 a6 l6 k6
  have HIY_ := HIY.out.put2 BB.out s6 a6 l6 k6
  have HN_ := HN.out.putAt BB.out (by omega) (.int .i64 s6) (.slice a6 l6 k6)
  have BB_ := BB.out.put2 (.int .i64 s6) (.slice a6 l6 k6)
  clear BA BP HIX HIY HN BB
  have BA := Lib.hid BA_
  have BP := Lib.hid BP_
  have HIX := Lib.hid HIX_
  have HIY := Lib.hid HIY_
  have HN := Lib.hid HN_
  have BB := Lib.hid BB_
  clear BA_ BP_ HIX_ HIY_ HN_ BB_
  rcases HIY.out.none_or with ⟨hnn, hsy⟩ | ⟨hnn, hy1⟩
  ·by_cases h1 : s6 = 1
   ·have h2 : Y = 1 := by omega
    clear hsy
    subst h1
    have H1 := Lib.hid h2
    clear h2
    obtain ⟨a0, a1, a2, a3, a4⟩ := BA.out.two
    obtain ⟨b0, b1, b2, b3, b4⟩ := BB.out.two
    obtain ⟨⟨p0, p1, p2, p3⟩, p4, p5, p6, p7, p8⟩ := BP.out.four
    go_wp2_with fail
    refine bodyPost_ret (v := .agg #[.int .i64 s5, .slice a5 l5 k5, .int .i64 1, .slice a6 l6 k6]) (by simp [results, Tryz.results124, go_sem, p0, p1, p2, p3]) rfl ?_
    refine frac_ret HN.out BP.out (by omega) ?_ ?_
    ·have e : (Int.gcd X Y : Int) = 1 := by rw [H1.out, Int.gcd_one]; rfl
     rw [HQ.out.1, e, Int.ediv_one]
     exact HIX.out
    ·have e : (Int.gcd X Y : Int) = 1 := by rw [H1.out, Int.gcd_one]; rfl
     have h := HQ.out.2
     rw [e, Int.ediv_one] at h
     rw [h]
     exact HIY.out
   ·have hd : (s6 == 1) = false := by simpa using h1
    clear h1 hsy
    obtain ⟨a0, a1, a2, a3, a4⟩ := BA.out.two
    obtain ⟨b0, b1, b2, b3, b4⟩ := BB.out.two
    go_wp2_with fail
    refine (gcd_calls _ _ X Y _ HIX.out HIY.out BX.out BY.out).mono ?_
    rintro e w8 ⟨v7, rfl, hn, hi⟩
    obtain ⟨s7, a7, l7, k7, rfl⟩ := hi.shape
    clear a0 a1 a2 a3 a4 b0 b1 b2 b3 b4
    have HG := Lib.hid hi
    clear hi
    replace BA := Lib.hid (BA.out.new hn)
    replace BB := Lib.hid (BB.out.new hn)
    replace BP := Lib.hid (BP.out.new hn)
    replace HIX := Lib.hid (HIX.out.new hn)
    replace HIY := Lib.hid (HIY.out.new hn)
    replace HN := Lib.hid (HN.out.trans hn)
    clear hn
    obtain ⟨a0, a1, a2, a3, a4⟩ := BA.out.two
    obtain ⟨b0, b1, b2, b3, b4⟩ := BB.out.two
    go_wp2_with fail
    clear a0 a1 a2 a3 a4 b0 b1 b2 b3 b4
    have HN0 := HN
    clear HN
    have BG := Lib.hid ((Box.alloc w8 (w8.heap.size) 138 #[.int .i64 s7, .slice a7 l7 k7] (by simp)).new (New.refl _))
    have HN := Lib.hid ((New.refl w8).alloc (.cells #[.int .i64 s7, .slice a7 l7 k7] 138))
    replace BA := Lib.hid (BA.out.new HN.out)
    replace BB := Lib.hid (BB.out.new HN.out)
    replace BP := Lib.hid (BP.out.new HN.out)
    replace HIX := Lib.hid (HIX.out.new HN.out)
    replace HIY := Lib.hid (HIY.out.new HN.out)
    replace HG := Lib.hid (HG.out.new HN.out)
    have HN_ := HN0.out.trans HN.out
    clear HN HN0
    have HN := Lib.hid HN_
    clear HN_
    obtain ⟨a0, a1, a2, a3, a4⟩ := BA.out.two
    obtain ⟨b0, b1, b2, b3, b4⟩ := BB.out.two
    obtain ⟨g0, g1, g2, g3, g4⟩ := BG.out.two
    refine wp_region_T 7 (fun W => W.cell? ⟨w.heap.size, 0, none⟩ = some (.int .i64 s5) ∧ W.cell? ⟨w.heap.size, 1, none⟩ = some (.slice a5 l5 k5) ∧ W.cell? ⟨w.heap.size + 1, 0, none⟩ = some (.int .i64 s6) ∧ W.cell? ⟨w.heap.size + 1, 1, none⟩ = some (.slice a6 l6 k6) ∧ W.cell? ⟨w8.heap.size, 0, none⟩ = some (.int .i64 s7) ∧ W.cell? ⟨w8.heap.size, 1, none⟩ = some (.slice a7 l7 k7)) 8 #[false, false, false, false, false, false, false, false] rfl (by kernel_rfl) (by kernel_rfl) ?_
    refine wpT_take 0 (v := ?_) rfl (by kernel_rfl) (fun _ _ _ h => h) (by exact ⟨a0, a1, b0, b1, g0, g1⟩) (Or.inl ⟨by first | kernel_rfl | rfl, ?_⟩) ?_
    rotate_left
    ·(intro W hW; (try dsimp only at hW); go_simp; try with_reducible rfl)
    try simp only [PT]
    refine wpT_take 1 (v := ?_) rfl (by kernel_rfl) (fun _ _ _ h => h) (by exact ⟨a0, a1, b0, b1, g0, g1⟩) (Or.inl ⟨by first | kernel_rfl | rfl, ?_⟩) ?_
    rotate_left
    ·(intro W hW; (try dsimp only at hW); go_simp; try with_reducible rfl)
    try simp only [PT]
    refine wpT_take 3 (v := ?_) rfl (by kernel_rfl) (fun _ _ _ h => h) (by exact ⟨a0, a1, b0, b1, g0, g1⟩) (Or.inl ⟨by first | kernel_rfl | rfl, ?_⟩) ?_
    rotate_left
    ·(intro W hW; (try dsimp only at hW); go_simp; try with_reducible rfl)
    try simp only [PT]
    refine wpT_take 4 (v := ?_) rfl (by kernel_rfl) (fun _ _ _ h => h) (by exact ⟨a0, a1, b0, b1, g0, g1⟩) (Or.inl ⟨by first | kernel_rfl | rfl, ?_⟩) ?_
    rotate_left
    ·(intro W hW; (try dsimp only at hW); go_simp; try with_reducible rfl)
    try simp only [PT]
    refine wpT_one 2 rfl (by kernel_rfl) (fun K hK => ?_)
    go_simp
    refine (quo_calls _ _ X _ _ (HIX.out.new (New.refl _).drew) (HG.out.new (New.refl _).drew) BX.out (gcd_bd HPOS.out BY.out) (by have := Int.gcd_pos_of_ne_zero_right X (show Y ≠ 0 by have := HPOS.out; omega); omega)).mono ?_
    rintro e w9 ⟨v8, rfl, hn, hi⟩
    have hn := hn.undrew
    obtain ⟨s8, a8, l8, k8, rfl⟩ := hi.shape
    have HI8 := Lib.hid hi
    clear hi
    clear a0 a1 a2 a3 a4 b0 b1 b2 b3 b4 g0 g1 g2 g3 g4
    replace BA := Lib.hid (BA.out.new hn)
    replace BB := Lib.hid (BB.out.new hn)
    replace BP := Lib.hid (BP.out.new hn)
    replace BG := Lib.hid (BG.out.new hn)
    replace HIY := Lib.hid (HIY.out.new hn)
    replace HG := Lib.hid (HG.out.new hn)
    replace HN := Lib.hid (HN.out.trans hn)
    clear hn
    obtain ⟨a0, a1, a2, a3, a4⟩ := BA.out.two
    obtain ⟨b0, b1, b2, b3, b4⟩ := BB.out.two
    obtain ⟨g0, g1, g2, g3, g4⟩ := BG.out.two
    refine hK.out _ _ (fun _ => ?_) ?_
    ·exact ⟨a0, a1, b0, b1, g0, g1⟩
    clear hK K
    try simp only [PT]
    refine wpT_one 5 rfl (by kernel_rfl) (fun K hK => ?_)
    go_simp
    refine (quo_calls _ _ Y _ _ HIY.out HG.out BY.out (gcd_bd HPOS.out BY.out) (by have := Int.gcd_pos_of_ne_zero_right X (show Y ≠ 0 by have := HPOS.out; omega); omega)).mono ?_
    rintro e w10 ⟨v9, rfl, hn, hi⟩
    obtain ⟨s9, a9, l9, k9, rfl⟩ := hi.shape
    have HI9 := Lib.hid hi
    clear hi
    clear a0 a1 a2 a3 a4 b0 b1 b2 b3 b4 g0 g1 g2 g3 g4
    replace BA := Lib.hid (BA.out.new hn)
    replace BB := Lib.hid (BB.out.new hn)
    replace BP := Lib.hid (BP.out.new hn)
    replace BG := Lib.hid (BG.out.new hn)
    replace HI8 := Lib.hid (HI8.out.new hn)
    replace HN := Lib.hid (HN.out.trans hn)
    clear hn
    obtain ⟨a0, a1, a2, a3, a4⟩ := BA.out.two
    obtain ⟨b0, b1, b2, b3, b4⟩ := BB.out.two
    obtain ⟨g0, g1, g2, g3, g4⟩ := BG.out.two
    refine hK.out _ _ (fun _ => ?_) ?_
    ·exact ⟨a0, a1, b0, b1, g0, g1⟩
    clear hK K
    try simp only [PT]
    refine wpT_take 6 (v := ?_) rfl (by kernel_rfl) (fun _ _ _ h => h) (by exact ⟨a0, a1, b0, b1, g0, g1⟩) (Or.inl ⟨by first | kernel_rfl | rfl, ?_⟩) ?_
    rotate_left
    ·(intro W hW; (try dsimp only at hW); go_simp; try with_reducible rfl)
    try simp only [PT]
    refine wpT_tail rfl (by kernel_rfl) ?_
    simp only [List.drop_succ_cons, List.drop_zero]
    obtain ⟨⟨p0, p1, p2, p3⟩, p4, p5, p6, p7, p8⟩ := BP.out.four
    go_wp2_with fail
    refine bodyPost_ret (v := .agg #[.int .i64 s8, .slice a8 l8 k8, .int .i64 s9, .slice a9 l9 k9]) (by simp [results, Tryz.results124, go_sem, p0, p1, p2, p3]) rfl ?_
    refine frac_ret HN.out BP.out (by omega) ?_ ?_
    ·rw [HQ.out.1, ← quo_pos (by have := Int.gcd_pos_of_ne_zero_right X (show Y ≠ 0 by have := HPOS.out; omega); omega)]
     exact HI8.out
    ·rw [HQ.out.2, ← quo_pos (by have := Int.gcd_pos_of_ne_zero_right X (show Y ≠ 0 by have := HPOS.out; omega); omega)]
     exact HI9.out
  ·clear hy1
   obtain ⟨a0, a1, a2, a3, a4⟩ := BA.out.two
   obtain ⟨b0, b1, b2, b3, b4⟩ := BB.out.two
   go_wp2_with fail
   refine (gcd_calls _ _ X Y _ HIX.out HIY.out BX.out BY.out).mono ?_
   rintro e w8 ⟨v7, rfl, hn, hi⟩
   obtain ⟨s7, a7, l7, k7, rfl⟩ := hi.shape
   clear a0 a1 a2 a3 a4 b0 b1 b2 b3 b4
   have HG := Lib.hid hi
   clear hi
   replace BA := Lib.hid (BA.out.new hn)
   replace BB := Lib.hid (BB.out.new hn)
   replace BP := Lib.hid (BP.out.new hn)
   replace HIX := Lib.hid (HIX.out.new hn)
   replace HIY := Lib.hid (HIY.out.new hn)
   replace HN := Lib.hid (HN.out.trans hn)
   clear hn
   obtain ⟨a0, a1, a2, a3, a4⟩ := BA.out.two
   obtain ⟨b0, b1, b2, b3, b4⟩ := BB.out.two
   go_wp2_with fail
   clear a0 a1 a2 a3 a4 b0 b1 b2 b3 b4
   have HN0 := HN
   clear HN
   have BG := Lib.hid ((Box.alloc w8 (w8.heap.size) 138 #[.int .i64 s7, .slice a7 l7 k7] (by simp)).new (New.refl _))
   have HN := Lib.hid ((New.refl w8).alloc (.cells #[.int .i64 s7, .slice a7 l7 k7] 138))
   replace BA := Lib.hid (BA.out.new HN.out)
   replace BB := Lib.hid (BB.out.new HN.out)
   replace BP := Lib.hid (BP.out.new HN.out)
   replace HIX := Lib.hid (HIX.out.new HN.out)
   replace HIY := Lib.hid (HIY.out.new HN.out)
   replace HG := Lib.hid (HG.out.new HN.out)
   have HN_ := HN0.out.trans HN.out
   clear HN HN0
   have HN := Lib.hid HN_
   clear HN_
   obtain ⟨a0, a1, a2, a3, a4⟩ := BA.out.two
   obtain ⟨b0, b1, b2, b3, b4⟩ := BB.out.two
   obtain ⟨g0, g1, g2, g3, g4⟩ := BG.out.two
   refine wp_region_T 7 (fun W => W.cell? ⟨w.heap.size, 0, none⟩ = some (.int .i64 s5) ∧ W.cell? ⟨w.heap.size, 1, none⟩ = some (.slice a5 l5 k5) ∧ W.cell? ⟨w.heap.size + 1, 0, none⟩ = some (.int .i64 s6) ∧ W.cell? ⟨w.heap.size + 1, 1, none⟩ = some (.slice a6 l6 k6) ∧ W.cell? ⟨w8.heap.size, 0, none⟩ = some (.int .i64 s7) ∧ W.cell? ⟨w8.heap.size, 1, none⟩ = some (.slice a7 l7 k7)) 8 #[false, false, false, false, false, false, false, false] rfl (by kernel_rfl) (by kernel_rfl) ?_
   refine wpT_take 0 (v := ?_) rfl (by kernel_rfl) (fun _ _ _ h => h) (by exact ⟨a0, a1, b0, b1, g0, g1⟩) (Or.inl ⟨by first | kernel_rfl | rfl, ?_⟩) ?_
   rotate_left
   ·(intro W hW; (try dsimp only at hW); go_simp; try with_reducible rfl)
   try simp only [PT]
   refine wpT_take 1 (v := ?_) rfl (by kernel_rfl) (fun _ _ _ h => h) (by exact ⟨a0, a1, b0, b1, g0, g1⟩) (Or.inl ⟨by first | kernel_rfl | rfl, ?_⟩) ?_
   rotate_left
   ·(intro W hW; (try dsimp only at hW); go_simp; try with_reducible rfl)
   try simp only [PT]
   refine wpT_take 3 (v := ?_) rfl (by kernel_rfl) (fun _ _ _ h => h) (by exact ⟨a0, a1, b0, b1, g0, g1⟩) (Or.inl ⟨by first | kernel_rfl | rfl, ?_⟩) ?_
   rotate_left
   ·(intro W hW; (try dsimp only at hW); go_simp; try with_reducible rfl)
   try simp only [PT]
   refine wpT_take 4 (v := ?_) rfl (by kernel_rfl) (fun _ _ _ h => h) (by exact ⟨a0, a1, b0, b1, g0, g1⟩) (Or.inl ⟨by first | kernel_rfl | rfl, ?_⟩) ?_
   rotate_left
   ·(intro W hW; (try dsimp only at hW); go_simp; try with_reducible rfl)
   try simp only [PT]
   refine wpT_one 2 rfl (by kernel_rfl) (fun K hK => ?_)
   go_simp
   refine (quo_calls _ _ X _ _ (HIX.out.new (New.refl _).drew) (HG.out.new (New.refl _).drew) BX.out (gcd_bd HPOS.out BY.out) (by have := Int.gcd_pos_of_ne_zero_right X (show Y ≠ 0 by have := HPOS.out; omega); omega)).mono ?_
   rintro e w9 ⟨v8, rfl, hn, hi⟩
   have hn := hn.undrew
   obtain ⟨s8, a8, l8, k8, rfl⟩ := hi.shape
   have HI8 := Lib.hid hi
   clear hi
   clear a0 a1 a2 a3 a4 b0 b1 b2 b3 b4 g0 g1 g2 g3 g4
   replace BA := Lib.hid (BA.out.new hn)
   replace BB := Lib.hid (BB.out.new hn)
   replace BP := Lib.hid (BP.out.new hn)
   replace BG := Lib.hid (BG.out.new hn)
   replace HIY := Lib.hid (HIY.out.new hn)
   replace HG := Lib.hid (HG.out.new hn)
   replace HN := Lib.hid (HN.out.trans hn)
   clear hn
   obtain ⟨a0, a1, a2, a3, a4⟩ := BA.out.two
   obtain ⟨b0, b1, b2, b3, b4⟩ := BB.out.two
   obtain ⟨g0, g1, g2, g3, g4⟩ := BG.out.two
   refine hK.out _ _ (fun _ => ?_) ?_
   ·exact ⟨a0, a1, b0, b1, g0, g1⟩
   clear hK K
   try simp only [PT]
   refine wpT_one 5 rfl (by kernel_rfl) (fun K hK => ?_)
   go_simp
   refine (quo_calls _ _ Y _ _ HIY.out HG.out BY.out (gcd_bd HPOS.out BY.out) (by have := Int.gcd_pos_of_ne_zero_right X (show Y ≠ 0 by have := HPOS.out; omega); omega)).mono ?_
   rintro e w10 ⟨v9, rfl, hn, hi⟩
   obtain ⟨s9, a9, l9, k9, rfl⟩ := hi.shape
   have HI9 := Lib.hid hi
   clear hi
   clear a0 a1 a2 a3 a4 b0 b1 b2 b3 b4 g0 g1 g2 g3 g4
   replace BA := Lib.hid (BA.out.new hn)
   replace BB := Lib.hid (BB.out.new hn)
   replace BP := Lib.hid (BP.out.new hn)
   replace BG := Lib.hid (BG.out.new hn)
   replace HI8 := Lib.hid (HI8.out.new hn)
   replace HN := Lib.hid (HN.out.trans hn)
   clear hn
   obtain ⟨a0, a1, a2, a3, a4⟩ := BA.out.two
   obtain ⟨b0, b1, b2, b3, b4⟩ := BB.out.two
   obtain ⟨g0, g1, g2, g3, g4⟩ := BG.out.two
   refine hK.out _ _ (fun _ => ?_) ?_
   ·exact ⟨a0, a1, b0, b1, g0, g1⟩
   clear hK K
   try simp only [PT]
   refine wpT_take 6 (v := ?_) rfl (by kernel_rfl) (fun _ _ _ h => h) (by exact ⟨a0, a1, b0, b1, g0, g1⟩) (Or.inl ⟨by first | kernel_rfl | rfl, ?_⟩) ?_
   rotate_left
   ·(intro W hW; (try dsimp only at hW); go_simp; try with_reducible rfl)
   try simp only [PT]
   refine wpT_tail rfl (by kernel_rfl) ?_
   simp only [List.drop_succ_cons, List.drop_zero]
   obtain ⟨⟨p0, p1, p2, p3⟩, p4, p5, p6, p7, p8⟩ := BP.out.four
   go_wp2_with fail
   refine bodyPost_ret (v := .agg #[.int .i64 s8, .slice a8 l8 k8, .int .i64 s9, .slice a9 l9 k9]) (by simp [results, Tryz.results124, go_sem, p0, p1, p2, p3]) rfl ?_
   refine frac_ret HN.out BP.out (by omega) ?_ ?_
   ·rw [HQ.out.1, ← quo_pos (by have := Int.gcd_pos_of_ne_zero_right X (show Y ≠ 0 by have := HPOS.out; omega); omega)]
    exact HI8.out
   ·rw [HQ.out.2, ← quo_pos (by have := Int.gcd_pos_of_ne_zero_right X (show Y ≠ 0 by have := HPOS.out; omega); omega)]
    exact HI9.out
 ·obtain ⟨t, ht, htn⟩ : ∃ t, y.sign = t ∧ 0 ≤ t := ⟨_, rfl, Int.sign_nonneg_iff.2 (by omega)⟩
  obtain ⟨X, hX⟩ : ∃ X, x = X := ⟨_, rfl⟩
  obtain ⟨Y, hY⟩ : ∃ Y, y = Y := ⟨_, rfl⟩
  have hpos : 0 < Y := by omega
  have hq' := divInt_pos (X := X) hpos
  rw [← hX, ← hY, hq, hX, hY] at hq'
  clear hneg hy0 hq
  subst hX hY
  obtain ⟨X, rfl⟩ : ∃ X, X = x := ⟨_, rfl⟩
  obtain ⟨Y, rfl⟩ : ∃ Y, Y = y := ⟨_, rfl⟩
  obtain ⟨s5, rfl⟩ : ∃ X, X = sa := ⟨_, rfl⟩
  obtain ⟨a5, rfl⟩ : ∃ X, X = aa := ⟨_, rfl⟩
  obtain ⟨l5, rfl⟩ : ∃ X, X = la := ⟨_, rfl⟩
  obtain ⟨k5, rfl⟩ : ∃ X, X = ca := ⟨_, rfl⟩
  obtain ⟨s6, rfl⟩ : ∃ X, X = sb := ⟨_, rfl⟩
  obtain ⟨a6, rfl⟩ : ∃ X, X = ab := ⟨_, rfl⟩
  obtain ⟨l6, rfl⟩ : ∃ X, X = lb := ⟨_, rfl⟩
  obtain ⟨k6, rfl⟩ : ∃ X, X = cb := ⟨_, rfl⟩
  have HX := Lib.hid hx
  have HY := Lib.hid hy
  have BX := Lib.hid bx
  have BY := Lib.hid by'
  have HQ := Lib.hid hq'
  have HPOS := Lib.hid hpos
  clear hx hy bx by' hq' hpos
  go_enter Tryz.func124, Tryz.ntmps124
  go_wp2_with fail
  have BA := Lib.hid ((Box.alloc w (w.heap.size) 138 #[.int .i64 s5, .slice a5 l5 k5] (by simp)).new (((New.refl _).alloc (.cells #[.int .i64 s6, .slice a6 l6 k6] 138)).alloc (.cells #[.int .i64 0, .slice none 0 0, .int .i64 0, .slice none 0 0] 140)))
  have BB := Lib.hid ((Box.alloc (w.alloc (.cells #[.int .i64 s5, .slice a5 l5 k5] 138)) (w.heap.size + 1) 138 #[.int .i64 s6, .slice a6 l6 k6] (by simp)).new ((New.refl _).alloc (.cells #[.int .i64 0, .slice none 0 0, .int .i64 0, .slice none 0 0] 140)))
  have BP := Lib.hid ((Box.alloc ((w.alloc (.cells #[.int .i64 s5, .slice a5 l5 k5] 138)).alloc (.cells #[.int .i64 s6, .slice a6 l6 k6] 138)) (w.heap.size + 1 + 1) 140 #[.int .i64 0, .slice none 0 0, .int .i64 0, .slice none 0 0] (by simp)).new (New.refl _))
  have HN := Lib.hid ((((New.refl w).alloc (.cells #[.int .i64 s5, .slice a5 l5 k5] 138)).alloc (.cells #[.int .i64 s6, .slice a6 l6 k6] 138)).alloc (.cells #[.int .i64 0, .slice none 0 0, .int .i64 0, .slice none 0 0] 140))
  refine (sign_calls _ Y _ (HY.out.new HN.out)).mono ?_
  rintro e w4 ⟨rfl, hn⟩
  rw [ht]
  clear ht
  replace BA := Lib.hid (BA.out.new hn)
  replace BB := Lib.hid (BB.out.new hn)
  replace BP := Lib.hid (BP.out.new hn)
  replace HN := Lib.hid (HN.out.trans hn)
  clear hn
  have hi5 := HX.out.new HN.out
  have hi6 := HY.out.new HN.out
  have HIX := Lib.hid hi5
  have HIY := Lib.hid hi6
  clear hi5 hi6
  rcases HIY.out.none_or with ⟨hnn, hsy⟩ | ⟨hnn, hy1⟩
  ·by_cases h1 : s6 = 1
   ·have h2 : Y = 1 := by omega
    clear hsy
    subst h1
    have H1 := Lib.hid h2
    clear h2
    obtain ⟨a0, a1, a2, a3, a4⟩ := BA.out.two
    obtain ⟨b0, b1, b2, b3, b4⟩ := BB.out.two
    obtain ⟨⟨p0, p1, p2, p3⟩, p4, p5, p6, p7, p8⟩ := BP.out.four
    go_wp2_with fail
    refine bodyPost_ret (v := .agg #[.int .i64 s5, .slice a5 l5 k5, .int .i64 1, .slice a6 l6 k6]) (by simp [results, Tryz.results124, go_sem, p0, p1, p2, p3]) rfl ?_
    refine frac_ret HN.out BP.out (by omega) ?_ ?_
    ·have e : (Int.gcd X Y : Int) = 1 := by rw [H1.out, Int.gcd_one]; rfl
     rw [HQ.out.1, e, Int.ediv_one]
     exact HIX.out
    ·have e : (Int.gcd X Y : Int) = 1 := by rw [H1.out, Int.gcd_one]; rfl
     have h := HQ.out.2
     rw [e, Int.ediv_one] at h
     rw [h]
     exact HIY.out
   ·have hd : (s6 == 1) = false := by simpa using h1
    clear h1 hsy
    obtain ⟨a0, a1, a2, a3, a4⟩ := BA.out.two
    obtain ⟨b0, b1, b2, b3, b4⟩ := BB.out.two
    go_wp2_with fail
    refine (gcd_calls _ _ X Y _ HIX.out HIY.out BX.out BY.out).mono ?_
    rintro e w8 ⟨v7, rfl, hn, hi⟩
    obtain ⟨s7, a7, l7, k7, rfl⟩ := hi.shape
    clear a0 a1 a2 a3 a4 b0 b1 b2 b3 b4
    have HG := Lib.hid hi
    clear hi
    replace BA := Lib.hid (BA.out.new hn)
    replace BB := Lib.hid (BB.out.new hn)
    replace BP := Lib.hid (BP.out.new hn)
    replace HIX := Lib.hid (HIX.out.new hn)
    replace HIY := Lib.hid (HIY.out.new hn)
    replace HN := Lib.hid (HN.out.trans hn)
    clear hn
    obtain ⟨a0, a1, a2, a3, a4⟩ := BA.out.two
    obtain ⟨b0, b1, b2, b3, b4⟩ := BB.out.two
    go_wp2_with fail
    clear a0 a1 a2 a3 a4 b0 b1 b2 b3 b4
    have HN0 := HN
    clear HN
    have BG := Lib.hid ((Box.alloc w8 (w8.heap.size) 138 #[.int .i64 s7, .slice a7 l7 k7] (by simp)).new (New.refl _))
    have HN := Lib.hid ((New.refl w8).alloc (.cells #[.int .i64 s7, .slice a7 l7 k7] 138))
    replace BA := Lib.hid (BA.out.new HN.out)
    replace BB := Lib.hid (BB.out.new HN.out)
    replace BP := Lib.hid (BP.out.new HN.out)
    replace HIX := Lib.hid (HIX.out.new HN.out)
    replace HIY := Lib.hid (HIY.out.new HN.out)
    replace HG := Lib.hid (HG.out.new HN.out)
    have HN_ := HN0.out.trans HN.out
    clear HN HN0
    have HN := Lib.hid HN_
    clear HN_
    obtain ⟨a0, a1, a2, a3, a4⟩ := BA.out.two
    obtain ⟨b0, b1, b2, b3, b4⟩ := BB.out.two
    obtain ⟨g0, g1, g2, g3, g4⟩ := BG.out.two
    refine wp_region_T 7 (fun W => W.cell? ⟨w.heap.size, 0, none⟩ = some (.int .i64 s5) ∧ W.cell? ⟨w.heap.size, 1, none⟩ = some (.slice a5 l5 k5) ∧ W.cell? ⟨w.heap.size + 1, 0, none⟩ = some (.int .i64 s6) ∧ W.cell? ⟨w.heap.size + 1, 1, none⟩ = some (.slice a6 l6 k6) ∧ W.cell? ⟨w8.heap.size, 0, none⟩ = some (.int .i64 s7) ∧ W.cell? ⟨w8.heap.size, 1, none⟩ = some (.slice a7 l7 k7)) 8 #[false, false, false, false, false, false, false, false] rfl (by kernel_rfl) (by kernel_rfl) ?_
    refine wpT_take 0 (v := ?_) rfl (by kernel_rfl) (fun _ _ _ h => h) (by exact ⟨a0, a1, b0, b1, g0, g1⟩) (Or.inl ⟨by first | kernel_rfl | rfl, ?_⟩) ?_
    rotate_left
    ·(intro W hW; (try dsimp only at hW); go_simp; try with_reducible rfl)
    try simp only [PT]
    refine wpT_take 1 (v := ?_) rfl (by kernel_rfl) (fun _ _ _ h => h) (by exact ⟨a0, a1, b0, b1, g0, g1⟩) (Or.inl ⟨by first | kernel_rfl | rfl, ?_⟩) ?_
    rotate_left
    ·(intro W hW; (try dsimp only at hW); go_simp; try with_reducible rfl)
    try simp only [PT]
    refine wpT_take 3 (v := ?_) rfl (by kernel_rfl) (fun _ _ _ h => h) (by exact ⟨a0, a1, b0, b1, g0, g1⟩) (Or.inl ⟨by first | kernel_rfl | rfl, ?_⟩) ?_
    rotate_left
    ·(intro W hW; (try dsimp only at hW); go_simp; try with_reducible rfl)
    try simp only [PT]
    refine wpT_take 4 (v := ?_) rfl (by kernel_rfl) (fun _ _ _ h => h) (by exact ⟨a0, a1, b0, b1, g0, g1⟩) (Or.inl ⟨by first | kernel_rfl | rfl, ?_⟩) ?_
    rotate_left
    ·(intro W hW; (try dsimp only at hW); go_simp; try with_reducible rfl)
    try simp only [PT]
    refine wpT_one 2 rfl (by kernel_rfl) (fun K hK => ?_)
    go_simp
    refine (quo_calls _ _ X _ _ (HIX.out.new (New.refl _).drew) (HG.out.new (New.refl _).drew) BX.out (gcd_bd HPOS.out BY.out) (by have := Int.gcd_pos_of_ne_zero_right X (show Y ≠ 0 by have := HPOS.out; omega); omega)).mono ?_
    rintro e w9 ⟨v8, rfl, hn, hi⟩
    have hn := hn.undrew
    obtain ⟨s8, a8, l8, k8, rfl⟩ := hi.shape
    have HI8 := Lib.hid hi
    clear hi
    clear a0 a1 a2 a3 a4 b0 b1 b2 b3 b4 g0 g1 g2 g3 g4
    replace BA := Lib.hid (BA.out.new hn)
    replace BB := Lib.hid (BB.out.new hn)
    replace BP := Lib.hid (BP.out.new hn)
    replace BG := Lib.hid (BG.out.new hn)
    replace HIY := Lib.hid (HIY.out.new hn)
    replace HG := Lib.hid (HG.out.new hn)
    replace HN := Lib.hid (HN.out.trans hn)
    clear hn
    obtain ⟨a0, a1, a2, a3, a4⟩ := BA.out.two
    obtain ⟨b0, b1, b2, b3, b4⟩ := BB.out.two
    obtain ⟨g0, g1, g2, g3, g4⟩ := BG.out.two
    refine hK.out _ _ (fun _ => ?_) ?_
    ·exact ⟨a0, a1, b0, b1, g0, g1⟩
    clear hK K
    try simp only [PT]
    refine wpT_one 5 rfl (by kernel_rfl) (fun K hK => ?_)
    go_simp
    refine (quo_calls _ _ Y _ _ HIY.out HG.out BY.out (gcd_bd HPOS.out BY.out) (by have := Int.gcd_pos_of_ne_zero_right X (show Y ≠ 0 by have := HPOS.out; omega); omega)).mono ?_
    rintro e w10 ⟨v9, rfl, hn, hi⟩
    obtain ⟨s9, a9, l9, k9, rfl⟩ := hi.shape
    have HI9 := Lib.hid hi
    clear hi
    clear a0 a1 a2 a3 a4 b0 b1 b2 b3 b4 g0 g1 g2 g3 g4
    replace BA := Lib.hid (BA.out.new hn)
    replace BB := Lib.hid (BB.out.new hn)
    replace BP := Lib.hid (BP.out.new hn)
    replace BG := Lib.hid (BG.out.new hn)
    replace HI8 := Lib.hid (HI8.out.new hn)
    replace HN := Lib.hid (HN.out.trans hn)
    clear hn
    obtain ⟨a0, a1, a2, a3, a4⟩ := BA.out.two
    obtain ⟨b0, b1, b2, b3, b4⟩ := BB.out.two
    obtain ⟨g0, g1, g2, g3, g4⟩ := BG.out.two
    refine hK.out _ _ (fun _ => ?_) ?_
    ·exact ⟨a0, a1, b0, b1, g0, g1⟩
    clear hK K
    try simp only [PT]
    refine wpT_take 6 (v := ?_) rfl (by kernel_rfl) (fun _ _ _ h => h) (by exact ⟨a0, a1, b0, b1, g0, g1⟩) (Or.inl ⟨by first | kernel_rfl | rfl, ?_⟩) ?_
    rotate_left
    ·(intro W hW; (try dsimp only at hW); go_simp; try with_reducible rfl)
    try simp only [PT]
    refine wpT_tail rfl (by kernel_rfl) ?_
    simp only [List.drop_succ_cons, List.drop_zero]
    obtain ⟨⟨p0, p1, p2, p3⟩, p4, p5, p6, p7, p8⟩ := BP.out.four
    go_wp2_with fail
    refine bodyPost_ret (v := .agg #[.int .i64 s8, .slice a8 l8 k8, .int .i64 s9, .slice a9 l9 k9]) (by simp [results, Tryz.results124, go_sem, p0, p1, p2, p3]) rfl ?_
    refine frac_ret HN.out BP.out (by omega) ?_ ?_
    ·rw [HQ.out.1, ← quo_pos (by have := Int.gcd_pos_of_ne_zero_right X (show Y ≠ 0 by have := HPOS.out; omega); omega)]
     exact HI8.out
    ·rw [HQ.out.2, ← quo_pos (by have := Int.gcd_pos_of_ne_zero_right X (show Y ≠ 0 by have := HPOS.out; omega); omega)]
     exact HI9.out
  ·clear hy1
   obtain ⟨a0, a1, a2, a3, a4⟩ := BA.out.two
   obtain ⟨b0, b1, b2, b3, b4⟩ := BB.out.two
   go_wp2_with fail
   refine (gcd_calls _ _ X Y _ HIX.out HIY.out BX.out BY.out).mono ?_
   rintro e w8 ⟨v7, rfl, hn, hi⟩
   obtain ⟨s7, a7, l7, k7, rfl⟩ := hi.shape
   clear a0 a1 a2 a3 a4 b0 b1 b2 b3 b4
   have HG := Lib.hid hi
   clear hi
   replace BA := Lib.hid (BA.out.new hn)
   replace BB := Lib.hid (BB.out.new hn)
   replace BP := Lib.hid (BP.out.new hn)
   replace HIX := Lib.hid (HIX.out.new hn)
   replace HIY := Lib.hid (HIY.out.new hn)
   replace HN := Lib.hid (HN.out.trans hn)
   clear hn
   obtain ⟨a0, a1, a2, a3, a4⟩ := BA.out.two
   obtain ⟨b0, b1, b2, b3, b4⟩ := BB.out.two
   go_wp2_with fail
   clear a0 a1 a2 a3 a4 b0 b1 b2 b3 b4
   have HN0 := HN
   clear HN
   have BG := Lib.hid ((Box.alloc w8 (w8.heap.size) 138 #[.int .i64 s7, .slice a7 l7 k7] (by simp)).new (New.refl _))
   have HN := Lib.hid ((New.refl w8).alloc (.cells #[.int .i64 s7, .slice a7 l7 k7] 138))
   replace BA := Lib.hid (BA.out.new HN.out)
   replace BB := Lib.hid (BB.out.new HN.out)
   replace BP := Lib.hid (BP.out.new HN.out)
   replace HIX := Lib.hid (HIX.out.new HN.out)
   replace HIY := Lib.hid (HIY.out.new HN.out)
   replace HG := Lib.hid (HG.out.new HN.out)
   have HN_ := HN0.out.trans HN.out
   clear HN HN0
   have HN := Lib.hid HN_
   clear HN_
   obtain ⟨a0, a1, a2, a3, a4⟩ := BA.out.two
   obtain ⟨b0, b1, b2, b3, b4⟩ := BB.out.two
   obtain ⟨g0, g1, g2, g3, g4⟩ := BG.out.two
   refine wp_region_T 7 (fun W => W.cell? ⟨w.heap.size, 0, none⟩ = some (.int .i64 s5) ∧ W.cell? ⟨w.heap.size, 1, none⟩ = some (.slice a5 l5 k5) ∧ W.cell? ⟨w.heap.size + 1, 0, none⟩ = some (.int .i64 s6) ∧ W.cell? ⟨w.heap.size + 1, 1, none⟩ = some (.slice a6 l6 k6) ∧ W.cell? ⟨w8.heap.size, 0, none⟩ = some (.int .i64 s7) ∧ W.cell? ⟨w8.heap.size, 1, none⟩ = some (.slice a7 l7 k7)) 8 #[false, false, false, false, false, false, false, false] rfl (by kernel_rfl) (by kernel_rfl) ?_
   refine wpT_take 0 (v := ?_) rfl (by kernel_rfl) (fun _ _ _ h => h) (by exact ⟨a0, a1, b0, b1, g0, g1⟩) (Or.inl ⟨by first | kernel_rfl | rfl, ?_⟩) ?_
   rotate_left
   ·(intro W hW; (try dsimp only at hW); go_simp; try with_reducible rfl)
   try simp only [PT]
   refine wpT_take 1 (v := ?_) rfl (by kernel_rfl) (fun _ _ _ h => h) (by exact ⟨a0, a1, b0, b1, g0, g1⟩) (Or.inl ⟨by first | kernel_rfl | rfl, ?_⟩) ?_
   rotate_left
   ·(intro W hW; (try dsimp only at hW); go_simp; try with_reducible rfl)
   try simp only [PT]
   refine wpT_take 3 (v := ?_) rfl (by kernel_rfl) (fun _ _ _ h => h) (by exact ⟨a0, a1, b0, b1, g0, g1⟩) (Or.inl ⟨by first | kernel_rfl | rfl, ?_⟩) ?_
   rotate_left
   ·(intro W hW; (try dsimp only at hW); go_simp; try with_reducible rfl)
   try simp only [PT]
   refine wpT_take 4 (v := ?_) rfl (by kernel_rfl) (fun _ _ _ h => h) (by exact ⟨a0, a1, b0, b1, g0, g1⟩) (Or.inl ⟨by first | kernel_rfl | rfl, ?_⟩) ?_
   rotate_left
   ·(intro W hW; (try dsimp only at hW); go_simp; try with_reducible rfl)
   try simp only [PT]
   refine wpT_one 2 rfl (by kernel_rfl) (fun K hK => ?_)
   go_simp
   refine (quo_calls _ _ X _ _ (HIX.out.new (New.refl _).drew) (HG.out.new (New.refl _).drew) BX.out (gcd_bd HPOS.out BY.out) (by have := Int.gcd_pos_of_ne_zero_right X (show Y ≠ 0 by have := HPOS.out; omega); omega)).mono ?_
   rintro e w9 ⟨v8, rfl, hn, hi⟩
   have hn := hn.undrew
   obtain ⟨s8, a8, l8, k8, rfl⟩ := hi.shape
   have HI8 := Lib.hid hi
   clear hi
   clear a0 a1 a2 a3 a4 b0 b1 b2 b3 b4 g0 g1 g2 g3 g4
   replace BA := Lib.hid (BA.out.new hn)
   replace BB := Lib.hid (BB.out.new hn)
   replace BP := Lib.hid (BP.out.new hn)
   replace BG := Lib.hid (BG.out.new hn)
   replace HIY := Lib.hid (HIY.out.new hn)
   replace HG := Lib.hid (HG.out.new hn)
   replace HN := Lib.hid (HN.out.trans hn)
   clear hn
   obtain ⟨a0, a1, a2, a3, a4⟩ := BA.out.two
   obtain ⟨b0, b1, b2, b3, b4⟩ := BB.out.two
   obtain ⟨g0, g1, g2, g3, g4⟩ := BG.out.two
   refine hK.out _ _ (fun _ => ?_) ?_
   ·exact ⟨a0, a1, b0, b1, g0, g1⟩
   clear hK K
   try simp only [PT]
   refine wpT_one 5 rfl (by kernel_rfl) (fun K hK => ?_)
   go_simp
   refine (quo_calls _ _ Y _ _ HIY.out HG.out BY.out (gcd_bd HPOS.out BY.out) (by have := Int.gcd_pos_of_ne_zero_right X (show Y ≠ 0 by have := HPOS.out; omega); omega)).mono ?_
   rintro e w10 ⟨v9, rfl, hn, hi⟩
   obtain ⟨s9, a9, l9, k9, rfl⟩ := hi.shape
   have HI9 := Lib.hid hi
   clear hi
   clear a0 a1 a2 a3 a4 b0 b1 b2 b3 b4 g0 g1 g2 g3 g4
   replace BA := Lib.hid (BA.out.new hn)
   replace BB := Lib.hid (BB.out.new hn)
   replace BP := Lib.hid (BP.out.new hn)
   replace BG := Lib.hid (BG.out.new hn)
   replace HI8 := Lib.hid (HI8.out.new hn)
   replace HN := Lib.hid (HN.out.trans hn)
   clear hn
   obtain ⟨a0, a1, a2, a3, a4⟩ := BA.out.two
   obtain ⟨b0, b1, b2, b3, b4⟩ := BB.out.two
   obtain ⟨g0, g1, g2, g3, g4⟩ := BG.out.two
   refine hK.out _ _ (fun _ => ?_) ?_
   ·exact ⟨a0, a1, b0, b1, g0, g1⟩
   clear hK K
   try simp only [PT]
   refine wpT_take 6 (v := ?_) rfl (by kernel_rfl) (fun _ _ _ h => h) (by exact ⟨a0, a1, b0, b1, g0, g1⟩) (Or.inl ⟨by first | kernel_rfl | rfl, ?_⟩) ?_
   rotate_left
   ·(intro W hW; (try dsimp only at hW); go_simp; try with_reducible rfl)
   try simp only [PT]
   refine wpT_tail rfl (by kernel_rfl) ?_
   simp only [List.drop_succ_cons, List.drop_zero]
   obtain ⟨⟨p0, p1, p2, p3⟩, p4, p5, p6, p7, p8⟩ := BP.out.four
   go_wp2_with fail
   refine bodyPost_ret (v := .agg #[.int .i64 s8, .slice a8 l8 k8, .int .i64 s9, .slice a9 l9 k9]) (by simp [results, Tryz.results124, go_sem, p0, p1, p2, p3]) rfl ?_
   refine frac_ret HN.out BP.out (by omega) ?_ ?_
   ·rw [HQ.out.1, ← quo_pos (by have := Int.gcd_pos_of_ne_zero_right X (show Y ≠ 0 by have := HPOS.out; omega); omega)]
    exact HI8.out
   ·rw [HQ.out.2, ← quo_pos (by have := Int.gcd_pos_of_ne_zero_right X (show Y ≠ 0 by have := HPOS.out; omega); omega)]
    exact HI9.out
end Go.Proofs.YtlfnibjmkfldgaaGreatDoor
