/- Part A09. -/
import Derived.Deep.LoopGhost
import Derived.Test.YtlfnibjmkfldgaaGreatDoorA08
namespace Go.Proofs.YtlfnibjmkfldgaaGreatDoor
open Go.RowKit Big
def quo (x y : Int) : Int := if y < 0 then -x / -y else x / y
set_option maxRecDepth 100000 in
set_option maxHeartbeats 1000000 in
theorem quo_calls (va vb : Value) (x y : Int) (w : World) (hx : IsInt w va x) (hy : IsInt w vb y) (bx : Bd x) (by' : Bd y) (hy0 : y ≠ 0) : Calls Tryz.prog 144 #[va, vb] w (IntPost w (quo x y)) := by
 obtain ⟨sa, aa, la, ca, rfl⟩ := hx.shape
 obtain ⟨sb, ab, lb, cb, rfl⟩ := hy.shape
 obtain ⟨z, hz⟩ : ∃ z, quo x y = z := ⟨_, rfl⟩
 rw [hz]
 have hend : ∀ w' v, New w w' → IsInt w' v z → IntPost w z (.returned v) w' := fun w' v h1 h2 => ⟨v, rfl, h1, h2⟩
 have HX := Lib.hid hx
 have HY := Lib.hid hy
 have BX := Lib.hid bx
 have BY := Lib.hid by'
 have HEND := Lib.hid hend
 have HZ := Lib.hid hz
 clear hx hy bx by' hend hz
 by_cases hneg : y < 0
 ·obtain ⟨t, ht, htn⟩ : ∃ t, y.sign = t ∧ t < 0 := ⟨_, rfl, by rw [Int.sign_eq_neg_one_of_neg hneg]; omega⟩
  go_enter Tryz.func144, Tryz.ntmps144
  go_wp2_with fail
  have BA := Lib.hid ((Box.alloc w (w.heap.size) 138 #[.int .i64 sa, .slice aa la ca] (by simp)).new (((New.refl _).alloc (.cells #[.int .i64 sb, .slice ab lb cb] 138)).alloc (.cells #[.int .i64 0, .slice none 0 0] 138)))
  have BB := Lib.hid ((Box.alloc (w.alloc (.cells #[.int .i64 sa, .slice aa la ca] 138)) (w.heap.size + 1) 138 #[.int .i64 sb, .slice ab lb cb] (by simp)).new ((New.refl _).alloc (.cells #[.int .i64 0, .slice none 0 0] 138)))
  have BP := Lib.hid ((Box.alloc ((w.alloc (.cells #[.int .i64 sa, .slice aa la ca] 138)).alloc (.cells #[.int .i64 sb, .slice ab lb cb] 138)) (w.heap.size + 1 + 1) 138 #[.int .i64 0, .slice none 0 0] (by simp)).new (New.refl _))
  have HN := Lib.hid ((((New.refl w).alloc (.cells #[.int .i64 sa, .slice aa la ca] 138)).alloc (.cells #[.int .i64 sb, .slice ab lb cb] 138)).alloc (.cells #[.int .i64 0, .slice none 0 0] 138))
  refine (sign_calls _ y _ (HY.out.new HN.out)).mono ?_
  rintro e w4 ⟨rfl, hn⟩
  rw [ht]
  clear ht
  replace BA := Lib.hid (BA.out.new hn)
  replace BB := Lib.hid (BB.out.new hn)
  replace BP := Lib.hid (BP.out.new hn)
  replace HN := Lib.hid (HN.out.trans hn)
  clear hn
  obtain ⟨a0, a1, a2, a3, a4⟩ := BA.out.two
  obtain ⟨b0, b1, b2, b3, b4⟩ := BB.out.two
  go_wp2_with fail
  refine wp_region_T 4 (fun W => W.cell? ⟨w.heap.size, 0, none⟩ = some (.int .i64 sa) ∧ W.cell? ⟨w.heap.size, 1, none⟩ = some (.slice aa la ca) ∧ W.cell? ⟨w.heap.size + 1, 0, none⟩ = some (.int .i64 sb) ∧ W.cell? ⟨w.heap.size + 1, 1, none⟩ = some (.slice ab lb cb)) 6 #[false, false, false, false, false, false] rfl (by kernel_rfl) (by kernel_rfl) ?_
  refine wpT_take 0 (v := ?_) rfl (by kernel_rfl) (fun _ _ _ h => h) (by exact ⟨a0, a1, b0, b1⟩) (Or.inl ⟨by first | kernel_rfl | rfl, ?_⟩) ?_
  rotate_left
  ·(intro W hW; (try dsimp only at hW); go_simp; try with_reducible rfl)
  try simp only [PT]
  refine wpT_take 2 (v := ?_) rfl (by kernel_rfl) (fun _ _ _ h => h) (by exact ⟨a0, a1, b0, b1⟩) (Or.inl ⟨by first | kernel_rfl | rfl, ?_⟩) ?_
  rotate_left
  ·(intro W hW; (try dsimp only at hW); go_simp; try with_reducible rfl)
  try simp only [PT]
  refine wpT_one 1 rfl (by kernel_rfl) (fun K hK => ?_)
  go_simp
  refine (neg_calls _ x _ (HX.out.new HN.out.drew)).mono ?_
  rintro e w5 ⟨v5, rfl, hn, hi⟩
  have hn := hn.undrew
  obtain ⟨s5, a5, l5, k5, rfl⟩ := hi.shape
  clear a0 a1 a2 a3 a4 b0 b1 b2 b3 b4
  have HI5 := Lib.hid hi
  clear hi
  replace BA := Lib.hid (BA.out.new hn)
  replace BB := Lib.hid (BB.out.new hn)
  replace BP := Lib.hid (BP.out.new hn)
  replace HN := Lib.hid (HN.out.trans hn)
  clear hn
  obtain ⟨a0, a1, a2, a3, a4⟩ := BA.out.two
  obtain ⟨b0, b1, b2, b3, b4⟩ := BB.out.two
  refine hK.out _ _ (fun _ => ?_) ?_
  ·exact ⟨a0, a1, b0, b1⟩
  clear hK K
  try simp only [PT]
  refine wpT_one 3 rfl (by kernel_rfl) (fun K hK => ?_)
  go_simp
  refine (neg_calls _ y _ (HY.out.new HN.out)).mono ?_
  rintro e w6 ⟨v6, rfl, hn, hi⟩
  obtain ⟨s6, a6, l6, k6, rfl⟩ := hi.shape
  clear a0 a1 a2 a3 a4 b0 b1 b2 b3 b4
  have HI6 := Lib.hid hi
  clear hi
  replace BA := Lib.hid (BA.out.new hn)
  replace BB := Lib.hid (BB.out.new hn)
  replace BP := Lib.hid (BP.out.new hn)
  replace HI5 := Lib.hid (HI5.out.new hn)
  replace HN := Lib.hid (HN.out.trans hn)
  clear hn
  obtain ⟨a0, a1, a2, a3, a4⟩ := BA.out.two
  obtain ⟨b0, b1, b2, b3, b4⟩ := BB.out.two
  refine hK.out _ _ (fun _ => ?_) ?_
  ·exact ⟨a0, a1, b0, b1⟩
  clear hK K
  try simp only [PT]
  refine wpT_tail rfl (by kernel_rfl) ?_
  simp only [List.drop_succ_cons, List.drop_zero]
  go_wp2_with fail
  clear a0 a1 a2 a3 a4 b0 b1 b2 b3 b4
  have BB_ := BB.out.away BA.out (by omega) (.int .i64 s5) (.slice a5 l5 k5)
  have BP_ := BP.out.away BA.out (by omega) (.int .i64 s5) (.slice a5 l5 k5)
  have HI5_ := HI5.out.put2 BA.out s5 a5 l5 k5
  have HI6_ := HI6.out.put2 BA.out s5 a5 l5 k5
  have HN_ := HN.out.putAt BA.out (by omega) (.int .i64 s5) (.slice a5 l5 k5)
  have BA_ := BA.out.put2 (.int .i64 s5) (.slice a5 l5 k5)
  clear BB BP HI5 HI6 HN BA
  have BB := Lib.hid BB_
  have BP := Lib.hid BP_
  have HI5 := Lib.hid HI5_
  have HI6 := Lib.hid HI6_
  have HN := Lib.hid HN_
  have BA := Lib.hid BA_
  clear BB_ BP_ HI5_ HI6_ HN_ BA_
  have BA_ := BA.out.away BB.out (by omega) (.int .i64 s6) (.slice a6 l6 k6)
  have BP_ := BP.out.away BB.out (by omega) (.int .i64 s6) (.slice a6 l6 k6)
  have HI5_ := HI5.out.put2 BB.out s6 a6 l6 k6
  have HI6_ := HI6.out.put2 BB.out s6 a6 l6 k6
  have HN_ := HN.out.putAt BB.out (by omega) (.int .i64 s6) (.slice a6 l6 k6)
  have BB_ := BB.out.put2 (.int .i64 s6) (.slice a6 l6 k6)
  clear BA BP HI5 HI6 HN BB
  have BA := Lib.hid BA_
  have BP := Lib.hid BP_
  have HI5 := Lib.hid HI5_
  have HI6 := Lib.hid HI6_
  have HN := Lib.hid HN_
  have BB := Lib.hid BB_
  clear BA_ BP_ HI5_ HI6_ HN_ BB_
  have bi5 := BX.out.neg
  have bi6 := BY.out.neg
  have BI5 := Lib.hid bi5
  have BI6 := Lib.hid bi6
  clear bi5 bi6
  refine (divmod_calls _ _ (-x) (-y) _ HI5.out HI6.out BI5.out BI6.out (by omega)).mono ?_
  rintro e w9 ⟨v7, v8, rfl, hn, hi7, hi8⟩
  obtain ⟨s7, a7, l7, k7, rfl⟩ := hi7.shape
  obtain ⟨s8, a8, l8, k8, rfl⟩ := hi8.shape
  have HI7 := Lib.hid hi7
  clear hi7
  replace BP := Lib.hid (BP.out.new hn)
  replace HN := Lib.hid (HN.out.trans hn)
  clear hn
  obtain ⟨p0, p1, p2, p3, p4⟩ := BP.out.two
  clear hi8
  have p5 := Nat.lt_add_right 1 p4
  go_wp2_with fail
  refine bodyPost_ret (v := .agg #[.int .i64 s7, .slice a7 l7 k7]) (by simp [results, Tryz.results144, go_sem, p0, p1, p4, p5]) rfl ?_
  refine HEND.out _ _ (((HN.out.putAt BP.out (by omega) _ _).alloc _).alloc _) ?_
  rw [← HZ.out]
  unfold quo
  rw [if_pos hneg]
  exact (HI7.out.put2 BP.out _ _ _ _).new (((New.refl _).alloc _).alloc _)
 ·obtain ⟨t, ht, htn⟩ : ∃ t, y.sign = t ∧ 0 ≤ t := ⟨_, rfl, Int.sign_nonneg_iff.2 (by omega)⟩
  go_enter Tryz.func144, Tryz.ntmps144
  go_wp2_with fail
  have BA := Lib.hid ((Box.alloc w (w.heap.size) 138 #[.int .i64 sa, .slice aa la ca] (by simp)).new (((New.refl _).alloc (.cells #[.int .i64 sb, .slice ab lb cb] 138)).alloc (.cells #[.int .i64 0, .slice none 0 0] 138)))
  have BB := Lib.hid ((Box.alloc (w.alloc (.cells #[.int .i64 sa, .slice aa la ca] 138)) (w.heap.size + 1) 138 #[.int .i64 sb, .slice ab lb cb] (by simp)).new ((New.refl _).alloc (.cells #[.int .i64 0, .slice none 0 0] 138)))
  have BP := Lib.hid ((Box.alloc ((w.alloc (.cells #[.int .i64 sa, .slice aa la ca] 138)).alloc (.cells #[.int .i64 sb, .slice ab lb cb] 138)) (w.heap.size + 1 + 1) 138 #[.int .i64 0, .slice none 0 0] (by simp)).new (New.refl _))
  have HN := Lib.hid ((((New.refl w).alloc (.cells #[.int .i64 sa, .slice aa la ca] 138)).alloc (.cells #[.int .i64 sb, .slice ab lb cb] 138)).alloc (.cells #[.int .i64 0, .slice none 0 0] 138))
  refine (sign_calls _ y _ (HY.out.new HN.out)).mono ?_
  rintro e w4 ⟨rfl, hn⟩
  rw [ht]
  clear ht
  replace BA := Lib.hid (BA.out.new hn)
  replace BB := Lib.hid (BB.out.new hn)
  replace BP := Lib.hid (BP.out.new hn)
  replace HN := Lib.hid (HN.out.trans hn)
  clear hn
  have hi5 := HX.out.new HN.out
  have hi6 := HY.out.new HN.out
  have BI5 := BX
  have BI6 := BY
  have HI5 := Lib.hid hi5
  have HI6 := Lib.hid hi6
  clear hi5 hi6
  obtain ⟨a0, a1, a2, a3, a4⟩ := BA.out.two
  obtain ⟨b0, b1, b2, b3, b4⟩ := BB.out.two
  go_wp2_with fail
  clear a0 a1 a2 a3 a4 b0 b1 b2 b3 b4
  refine (divmod_calls _ _ x y _ HI5.out HI6.out BI5.out BI6.out (by omega)).mono ?_
  rintro e w9 ⟨v7, v8, rfl, hn, hi7, hi8⟩
  obtain ⟨s7, a7, l7, k7, rfl⟩ := hi7.shape
  obtain ⟨s8, a8, l8, k8, rfl⟩ := hi8.shape
  have HI7 := Lib.hid hi7
  clear hi7
  replace BP := Lib.hid (BP.out.new hn)
  replace HN := Lib.hid (HN.out.trans hn)
  clear hn
  obtain ⟨p0, p1, p2, p3, p4⟩ := BP.out.two
  clear hi8
  have p5 := Nat.lt_add_right 1 p4
  go_wp2_with fail
  refine bodyPost_ret (v := .agg #[.int .i64 s7, .slice a7 l7 k7]) (by simp [results, Tryz.results144, go_sem, p0, p1, p4, p5]) rfl ?_
  refine HEND.out _ _ (((HN.out.putAt BP.out (by omega) _ _).alloc _).alloc _) ?_
  rw [← HZ.out]
  unfold quo
  rw [if_neg (by omega)]
  exact (HI7.out.put2 BP.out _ _ _ _).new (((New.refl _).alloc _).alloc _)
end Go.Proofs.YtlfnibjmkfldgaaGreatDoor
namespace Go.Proofs.YtlfnibjmkfldgaaGreatDoor
open Go.RowKit Big
def GcdRel (w : World) (g k : Nat) (wr : World) : Prop := ∃ (a : Nat) (s1 s2 : Int) (a1 a2 : Option Addr) (l1 k1 l2 k2 : Nat),
 New w wr ∧ Box wr w.heap.size 138 #[.int .i64 s1, .slice a1 l1 k1] ∧ Box wr (w.heap.size + 1) 138 #[.int .i64 s2, .slice a2 l2 k2] ∧
 Box wr (w.heap.size + 1 + 1) 138 #[.int .i64 0, .slice none 0 0] ∧
 IsInt wr (.agg #[.int .i64 s1, .slice a1 l1 k1]) a ∧ IsInt wr (.agg #[.int .i64 s2, .slice a2 l2 k2]) k ∧ Bd a ∧ Bd k ∧ Nat.gcd a k = g
theorem Bd.natAbs {z : Int} (h : Bd z) : Bd (z.natAbs : Int) := h.le (by simp)
set_option maxRecDepth 100000 in
set_option maxHeartbeats 1000000 in
theorem gcd_calls (va vb : Value) (x y : Int) (w : World) (hx : IsInt w va x) (hy : IsInt w vb y) (bx : Bd x) (by' : Bd y) : Calls Tryz.prog 113 #[va, vb] w (IntPost w (Int.gcd x y)) := by
 obtain ⟨sa, aa, la, ca, rfl⟩ := hx.shape
 obtain ⟨sb, ab, lb, cb, rfl⟩ := hy.shape
 have hend : ∀ w' v, New w w' → IsInt w' v (Int.gcd x y) → IntPost w (Int.gcd x y) (.returned v) w' := fun w' v h1 h2 => ⟨v, rfl, h1, h2⟩
 obtain ⟨g, hg⟩ : ∃ g, Int.gcd x y = g := ⟨_, rfl⟩
 rw [hg] at hend ⊢
 have HX := Lib.hid hx
 have HY := Lib.hid hy
 have BX := Lib.hid bx
 have BY := Lib.hid by'
 have HEND := Lib.hid hend
 have HG := Lib.hid hg
 clear hx hy bx by' hend hg
 go_enter Tryz.func113, Tryz.ntmps113
 go_wp2_with fail
 have BA := Lib.hid ((Box.alloc w (w.heap.size) 138 #[.int .i64 sa, .slice aa la ca] (by simp)).new (((New.refl _).alloc (.cells #[.int .i64 sb, .slice ab lb cb] 138)).alloc (.cells #[.int .i64 0, .slice none 0 0] 138)))
 have BB := Lib.hid ((Box.alloc (w.alloc (.cells #[.int .i64 sa, .slice aa la ca] 138)) (w.heap.size + 1) 138 #[.int .i64 sb, .slice ab lb cb] (by simp)).new ((New.refl _).alloc (.cells #[.int .i64 0, .slice none 0 0] 138)))
 have BP := Lib.hid ((Box.alloc ((w.alloc (.cells #[.int .i64 sa, .slice aa la ca] 138)).alloc (.cells #[.int .i64 sb, .slice ab lb cb] 138)) (w.heap.size + 1 + 1) 138 #[.int .i64 0, .slice none 0 0] (by simp)).new (New.refl _))
 have HN := Lib.hid ((((New.refl w).alloc (.cells #[.int .i64 sa, .slice aa la ca] 138)).alloc (.cells #[.int .i64 sb, .slice ab lb cb] 138)).alloc (.cells #[.int .i64 0, .slice none 0 0] 138))
 obtain ⟨a0, a1, a2, a3, a4⟩ := BA.out.two
 obtain ⟨b0, b1, b2, b3, b4⟩ := BB.out.two
 refine wp_region_T 4 (fun W => W.cell? ⟨w.heap.size, 0, none⟩ = some (.int .i64 sa) ∧ W.cell? ⟨w.heap.size, 1, none⟩ = some (.slice aa la ca) ∧ W.cell? ⟨w.heap.size + 1, 0, none⟩ = some (.int .i64 sb) ∧ W.cell? ⟨w.heap.size + 1, 1, none⟩ = some (.slice ab lb cb)) 6 #[false, false, false, false, false, false] rfl (by kernel_rfl) (by kernel_rfl) ?_
 refine wpT_take 0 (v := ?_) rfl (by kernel_rfl) (fun _ _ _ h => h) (by exact ⟨a0, a1, b0, b1⟩) (Or.inl ⟨by first | kernel_rfl | rfl, ?_⟩) ?_
 rotate_left
 ·(intro W hW; (try dsimp only at hW); go_simp; try with_reducible rfl)
 try simp only [PT]
 refine wpT_take 2 (v := ?_) rfl (by kernel_rfl) (fun _ _ _ h => h) (by exact ⟨a0, a1, b0, b1⟩) (Or.inl ⟨by first | kernel_rfl | rfl, ?_⟩) ?_
 rotate_left
 ·(intro W hW; (try dsimp only at hW); go_simp; try with_reducible rfl)
 try simp only [PT]
 refine wpT_one 1 rfl (by kernel_rfl) (fun K hK => ?_)
 go_simp
 refine (abs_calls _ x _ (HX.out.new HN.out.drew)).mono ?_
 rintro e w5 ⟨v5, rfl, hn, hi⟩
 have hn := hn.undrew
 obtain ⟨s5, a5, l5, k5, rfl⟩ := hi.shape
 clear a0 a1 a2 a3 a4 b0 b1 b2 b3 b4
 have HI5 := Lib.hid hi
 clear hi
 replace BA := Lib.hid (BA.out.new hn)
 replace BB := Lib.hid (BB.out.new hn)
 replace BP := Lib.hid (BP.out.new hn)
 replace HN := Lib.hid (HN.out.trans hn)
 clear hn
 obtain ⟨a0, a1, a2, a3, a4⟩ := BA.out.two
 obtain ⟨b0, b1, b2, b3, b4⟩ := BB.out.two
 refine hK.out _ _ (fun _ => ?_) ?_
 ·exact ⟨a0, a1, b0, b1⟩
 clear hK K
 try simp only [PT]
 refine wpT_one 3 rfl (by kernel_rfl) (fun K hK => ?_)
 go_simp
 refine (abs_calls _ y _ (HY.out.new HN.out)).mono ?_
 rintro e w6 ⟨v6, rfl, hn, hi⟩
 obtain ⟨s6, a6, l6, k6, rfl⟩ := hi.shape
 clear a0 a1 a2 a3 a4 b0 b1 b2 b3 b4
 have HI6 := Lib.hid hi
 clear hi
 replace BA := Lib.hid (BA.out.new hn)
 replace BB := Lib.hid (BB.out.new hn)
 replace BP := Lib.hid (BP.out.new hn)
 replace HI5 := Lib.hid (HI5.out.new hn)
 replace HN := Lib.hid (HN.out.trans hn)
 clear hn
 obtain ⟨a0, a1, a2, a3, a4⟩ := BA.out.two
 obtain ⟨b0, b1, b2, b3, b4⟩ := BB.out.two
 refine hK.out _ _ (fun _ => ?_) ?_
 ·exact ⟨a0, a1, b0, b1⟩
 clear hK K
 try simp only [PT]
 refine wpT_tail rfl (by kernel_rfl) ?_
 simp only [List.drop_succ_cons, List.drop_zero]
 go_wp2_with fail
 clear a0 a1 a2 a3 a4 b0 b1 b2 b3 b4
 have BB_ := BB.out.away BA.out (by omega) (.int .i64 s5) (.slice a5 l5 k5)
 have BP_ := BP.out.away BA.out (by omega) (.int .i64 s5) (.slice a5 l5 k5)
 have HI5_ := HI5.out.put2 BA.out s5 a5 l5 k5
 have HI6_ := HI6.out.put2 BA.out s5 a5 l5 k5
 have HN_ := HN.out.putAt BA.out (by omega) (.int .i64 s5) (.slice a5 l5 k5)
 have BA_ := BA.out.put2 (.int .i64 s5) (.slice a5 l5 k5)
 clear BB BP HI5 HI6 HN BA
 have BB := Lib.hid BB_
 have BP := Lib.hid BP_
 have HI5 := Lib.hid HI5_
 have HI6 := Lib.hid HI6_
 have HN := Lib.hid HN_
 have BA := Lib.hid BA_
 clear BB_ BP_ HI5_ HI6_ HN_ BA_
 have BA_ := BA.out.away BB.out (by omega) (.int .i64 s6) (.slice a6 l6 k6)
 have BP_ := BP.out.away BB.out (by omega) (.int .i64 s6) (.slice a6 l6 k6)
 have HI5_ := HI5.out.put2 BB.out s6 a6 l6 k6
 have HI6_ := HI6.out.put2 BB.out s6 a6 l6 k6
 have HN_ := HN.out.putAt BB.out (by omega) (.int .i64 s6) (.slice a6 l6 k6)
 have BB_ := BB.out.put2 (.int .i64 s6) (.slice a6 l6 k6)
 clear BA BP HI5 HI6 HN BB
 have BA := Lib.hid BA_
 have BP := Lib.hid BP_
 have HI5 := Lib.hid HI5_
 have HI6 := Lib.hid HI6_
 have HN := Lib.hid HN_
 have BB := Lib.hid BB_
 clear BA_ BP_ HI5_ HI6_ HN_ BB_
 have hstart : GcdRel w g y.natAbs _ := ⟨x.natAbs, _, _, _, _, _, _, _, _, HN.out, BA.out, BB.out, BP.out, HI5.out, HI6.out, BX.out.natAbs, BY.out.natAbs, HG.out⟩
 clear HN BA BB BP HI5 HI6 BX BY HX HY HG
 have HS := Lib.hid hstart
 clear hstart
 go_loopg [] y.natAbs (fun k wr => GcdRel w g k wr)
 case atStart => exact HS.out
 case round =>
  clear HS
  obtain ⟨a, s1, s2, o1, o2, l1, k1, l2, k2, hN, hA, hB, hP, hi1, hi2, b1, b2, hgg⟩ := hrel
  have HN := Lib.hid hN
  have BA := Lib.hid hA
  have BB := Lib.hid hB
  have BP := Lib.hid hP
  have HI1 := Lib.hid hi1
  have HI2 := Lib.hid hi2
  have B1 := Lib.hid b1
  have B2 := Lib.hid b2
  have HG := Lib.hid hgg
  clear hN hA hB hP hi1 hi2 b1 b2 hgg
  by_cases hk : gk = 0
  ·obtain ⟨t, ht, htn⟩ : ∃ t, Int.sign (gk : Int) = t ∧ (t != 0) = false := ⟨_, rfl, by rw [hk]; rfl⟩
   have HK := Lib.hid hk
   clear hk
   obtain ⟨b0, b1, b2, b3, b4⟩ := BB.out.two
   go_wp2_with fail
   refine (sign_calls _ (gk : Int) _ HI2.out).mono ?_
   rintro e w7 ⟨rfl, hn⟩
   rw [ht]
   clear ht
   clear b0 b1 b2 b3 b4
   replace BA := Lib.hid (BA.out.new hn)
   replace BP := Lib.hid (BP.out.new hn)
   replace HI1 := Lib.hid (HI1.out.new hn)
   replace HN := Lib.hid (HN.out.trans hn)
   clear hn
   obtain ⟨b0, b1, b2, b3, b4⟩ := BA.out.two
   obtain ⟨p0, p1, p2, p3, p4⟩ := BP.out.two
   go_wp2_with fail
   refine bodyPost_ret (v := .agg #[.int .i64 s1, .slice o1 l1 k1]) (by simp [results, Tryz.results113, go_sem, p0, p1]) rfl ?_
   refine HEND.out _ _ (HN.out.putAt BP.out (by omega) _ _) ?_
   have e : (a : Int) = (g : Int) := by
    have := HG.out
    rw [HK.out, Nat.gcd_zero_right] at this
    rw [this]
   rw [← e]
   exact HI1.out.put2 BP.out _ _ _ _
  ·obtain ⟨t, ht, htn⟩ : ∃ t, Int.sign (gk : Int) = t ∧ (t != 0) = true := ⟨_, rfl, by rw [Int.sign_eq_one_of_pos (by omega)]; rfl⟩
   have hlt := Nat.mod_lt a (by omega : 0 < gk)
   have hdm : (a : Int) % (gk : Int) = ((a % gk : Nat) : Int) := rfl
   have HK := Lib.hid hk
   have HLT := Lib.hid hlt
   have HDM := Lib.hid hdm
   clear hk hlt hdm
   obtain ⟨b0, b1, b2, b3, b4⟩ := BB.out.two
   go_wp2_with fail
   refine (sign_calls _ (gk : Int) _ HI2.out).mono ?_
   rintro e w7 ⟨rfl, hn⟩
   rw [ht]
   clear ht
   clear b0 b1 b2 b3 b4
   replace BA := Lib.hid (BA.out.new hn)
   replace BB := Lib.hid (BB.out.new hn)
   replace BP := Lib.hid (BP.out.new hn)
   replace HI1 := Lib.hid (HI1.out.new hn)
   replace HI2 := Lib.hid (HI2.out.new hn)
   replace HN := Lib.hid (HN.out.trans hn)
   clear hn
   obtain ⟨a0, a1, a2, a3, a4⟩ := BA.out.two
   obtain ⟨b0, b1, b2, b3, b4⟩ := BB.out.two
   go_wp2_with fail
   clear a0 a1 a2 a3 a4 b0 b1 b2 b3 b4
   refine (divmod_calls _ _ (a : Int) (gk : Int) _ HI1.out HI2.out B1.out B2.out (by have := HK.out; omega)).mono ?_
   rintro e w8 ⟨v7, v8, rfl, hn, hi7, hi8⟩
   obtain ⟨s7, a7, l7, k7, rfl⟩ := hi7.shape
   obtain ⟨s8, a8, l8, k8, rfl⟩ := hi8.shape
   rw [HDM.out] at hi8
   have HI8 := Lib.hid hi8
   clear hi8
   clear hi7
   replace BA := Lib.hid (BA.out.new hn)
   replace BB := Lib.hid (BB.out.new hn)
   replace BP := Lib.hid (BP.out.new hn)
   replace HI2 := Lib.hid (HI2.out.new hn)
   replace HN := Lib.hid (HN.out.trans hn)
   clear hn
   obtain ⟨a0, a1, a2, a3, a4⟩ := BA.out.two
   obtain ⟨b0, b1, b2, b3, b4⟩ := BB.out.two
   have a5 := Nat.lt_add_right 1 a4
   have b5 := Nat.lt_add_right 1 b4
   go_wp2_with fail
   go_region
   go_wp2_with fail
   go_roundg (a % gk)
   case measure => exact HLT.out
   case rel =>
    have hg' : Nat.gcd gk (a % gk) = g := by rw [Nat.gcd_comm, ← Nat.gcd_rec, Nat.gcd_comm]; exact HG.out
    have hb' : Bd ((a % gk : Nat) : Int) := B1.out.le (by have := Nat.mod_le a gk; omega)
    have BB_ := BB.out.away BA.out (by omega) (.int .i64 s2) (.slice o2 l2 k2)
    have BP_ := BP.out.away BA.out (by omega) (.int .i64 s2) (.slice o2 l2 k2)
    have HI2_ := HI2.out.put2 BA.out s2 o2 l2 k2
    have HI8_ := HI8.out.put2 BA.out s2 o2 l2 k2
    have HN_ := HN.out.putAt BA.out (by omega) (.int .i64 s2) (.slice o2 l2 k2)
    have BA_ := BA.out.put2 (.int .i64 s2) (.slice o2 l2 k2)
    clear BB BP HI2 HI8 HN BA
    have BB := Lib.hid BB_
    have BP := Lib.hid BP_
    have HI2 := Lib.hid HI2_
    have HI8 := Lib.hid HI8_
    have HN := Lib.hid HN_
    have BA := Lib.hid BA_
    clear BB_ BP_ HI2_ HI8_ HN_ BA_
    have BA_ := BA.out.away BB.out (by omega) (.int .i64 s8) (.slice a8 l8 k8)
    have BP_ := BP.out.away BB.out (by omega) (.int .i64 s8) (.slice a8 l8 k8)
    have HI2_ := HI2.out.put2 BB.out s8 a8 l8 k8
    have HI8_ := HI8.out.put2 BB.out s8 a8 l8 k8
    have HN_ := HN.out.putAt BB.out (by omega) (.int .i64 s8) (.slice a8 l8 k8)
    have BB_ := BB.out.put2 (.int .i64 s8) (.slice a8 l8 k8)
    clear BA BP HI2 HI8 HN BB
    have BA := Lib.hid BA_
    have BP := Lib.hid BP_
    have HI2 := Lib.hid HI2_
    have HI8 := Lib.hid HI8_
    have HN := Lib.hid HN_
    have BB := Lib.hid BB_
    clear BA_ BP_ HI2_ HI8_ HN_ BB_
    have hx : ∀ W o o', New W (((W.alloc o).alloc o').drew) := fun W o o' => (((New.refl W).alloc o).alloc o').drew
    exact ⟨gk, s2, s8, o2, a8, l2, k2, l8, k8, HN.out.trans (hx _ _ _), BA.out.new (hx _ _ _), BB.out.new (hx _ _ _), BP.out.new (hx _ _ _), HI2.out.new (hx _ _ _), HI8.out.new (hx _ _ _), B2.out, hb', hg'⟩
end Go.Proofs.YtlfnibjmkfldgaaGreatDoor
namespace Go.Proofs.YtlfnibjmkfldgaaGreatDoor
open Go.RowKit Big
theorem bits_and_one (k : Nat) (hk : k < 9223372036854775808) : bits .and .i64 (k : Int) 1 = ((k % 2 : Nat) : Int) := by
 have h1 : (BitVec.ofInt 64 (k : Int)).toNat = k := by
  rw [BitVec.ofInt_natCast, BitVec.toNat_ofNat]; exact Nat.mod_eq_of_lt (by omega)
 have h2 : (BitVec.ofInt 64 1).toNat = 1 := by decide
 show IntKind.i64.wrap ((BitVec.ofInt 64 (k : Int) &&& BitVec.ofInt 64 1).toNat : Int) = _
 rw [BitVec.toNat_and, h1, h2, IntKind.wrap_i64, Nat.and_one_is_mod]
 omega
def BdK (m : Nat) (x : Int) : Prop := x.natAbs < 2 ^ m
theorem BdK.bd {m : Nat} {x : Int} (h : BdK m x) (hm : m ≤ 60000000) : Bd x := ⟨m, hm, h⟩
theorem BdK.pow {m : Nat} {x : Int} (h : BdK m x) (i : Nat) : BdK (m * i + 1) (x ^ i) := by
 unfold BdK at *
 rw [Int.natAbs_pow]
 have h1 : x.natAbs ^ i ≤ (2 ^ m) ^ i := Nat.pow_le_pow_left (by omega) i
 rw [← Nat.pow_mul] at h1
 have h2 : 2 ^ (m * i) < 2 ^ (m * i + 1) := Nat.pow_lt_pow_right (by omega) (by omega)
 omega
theorem hm_pow {m k0 i : Nat} {x : Int} (hm : BdK m x) (hk : m * k0 + 1 ≤ 60000000) (hi : i ≤ k0) : Bd (x ^ i) :=
 (hm.pow i).bd (by have := Nat.mul_le_mul_left m hi; omega)
def PowRel (w : World) (B : Nat) (x : Int) (k0 k : Nat) (u : Value) (wr : World) : Prop := ∃ (i j : Nat) (s1 s2 : Int) (o1 o2 : Option Addr) (l1 k1 l2 k2 : Nat),
 u = .int .i64 (k : Int) ∧ i + j * k = k0 ∧ 1 ≤ j ∧
 New w wr ∧ Box wr w.heap.size 138 #[.int .i64 s1, .slice o1 l1 k1] ∧ Box wr (w.heap.size + 1) 138 #[.int .i64 0, .slice none 0 0] ∧
 Box wr B 138 #[.int .i64 s2, .slice o2 l2 k2] ∧
 IsInt wr (.agg #[.int .i64 s1, .slice o1 l1 k1]) (x ^ j) ∧ IsInt wr (.agg #[.int .i64 s2, .slice o2 l2 k2]) (x ^ i)
set_option maxRecDepth 100000 in
set_option maxHeartbeats 1000000 in
theorem pow_calls (va : Value) (x : Int) (k0 m : Nat) (w : World) (hx : IsInt w va x) (hm : BdK m x) (hk : m * k0 + 1 ≤ 60000000) (hk0 : k0 < 9223372036854775808) : Calls Tryz.prog 139 #[va, .int .i64 (k0 : Int)] w (IntPost w (x ^ k0)) := by
 obtain ⟨sa, aa, la, ca, rfl⟩ := hx.shape
 obtain ⟨z, hz⟩ : ∃ z, x ^ k0 = z := ⟨_, rfl⟩
 rw [hz]
 have hend : ∀ w' v, New w w' → IsInt w' v z → IntPost w z (.returned v) w' := fun w' v h1 h2 => ⟨v, rfl, h1, h2⟩
 have HX := Lib.hid hx
 have HM := Lib.hid hm
 have HK := Lib.hid hk
 have HEND := Lib.hid hend
 have HZ := Lib.hid hz
 clear hx hm hk hend hz
 go_enter Tryz.func139, Tryz.ntmps139
 go_wp2_with fail
 have BA := Lib.hid ((Box.alloc w (w.heap.size) 138 #[.int .i64 sa, .slice aa la ca] (by simp)).new ((New.refl _).alloc (.cells #[.int .i64 0, .slice none 0 0] 138)))
 have BP := Lib.hid ((Box.alloc (w.alloc (.cells #[.int .i64 sa, .slice aa la ca] 138)) (w.heap.size + 1) 138 #[.int .i64 0, .slice none 0 0] (by simp)).new (New.refl _))
 have HN := Lib.hid (((New.refl w).alloc (.cells #[.int .i64 sa, .slice aa la ca] 138)).alloc (.cells #[.int .i64 0, .slice none 0 0] 138))
 refine (of_calls 1 _).mono ?_
 rintro e w1 ⟨rfl, hn⟩
 replace BA := Lib.hid (BA.out.new hn)
 replace BP := Lib.hid (BP.out.new hn)
 replace HN := Lib.hid (HN.out.trans hn)
 clear hn
 go_wp2_with fail
 have HN1 := HN
 have hB := BP.out.lt
 clear HN
 have BO := Lib.hid ((Box.alloc w1 (w1.heap.size) 138 #[.int .i64 1, .slice none 0 0] (by simp)).new (New.refl _))
 have HN := Lib.hid ((New.refl w1).alloc (.cells #[.int .i64 1, .slice none 0 0] 138))
 replace BA := Lib.hid (BA.out.new HN.out)
 replace BP := Lib.hid (BP.out.new HN.out)
 have hX := HX.out.new (HN1.out.trans HN.out)
 have hstart : PowRel w w1.heap.size x k0 k0 (.int .i64 (k0 : Int)) _ := ⟨0, 1, _, _, _, _, _, _, _, _, rfl, by omega, Nat.le_refl _, HN1.out.trans HN.out, BA.out, BP.out, BO.out, by rw [Int.pow_succ, Int.pow_zero, Int.one_mul]; exact hX, .small (by rw [Int.pow_zero]) (by rw [Int.pow_zero]; omega) (by rw [Int.pow_zero]; omega)⟩
 clear hX HN HN1 BA BP BO HX
 have HS := Lib.hid hstart
 clear hstart
 go_loopg [1] k0 (fun k u wr => PowRel w w1.heap.size x k0 k u wr)
 case atStart => exact HS.out
 case round =>
  clear HS
  obtain ⟨i, j, s1, s2, o1, o2, l1, k1, l2, k2, rfl, hij, hj0, hN, hA, hP, hO, hi1, hi2⟩ := hrel
  have hgk : gk ≤ k0 := by
   have := Nat.le_mul_of_pos_left gk (show 0 < j by omega)
   omega
  have hi0 : i ≤ k0 := by omega
  have HN := Lib.hid hN
  have BA := Lib.hid hA
  have BP := Lib.hid hP
  have BO := Lib.hid hO
  have HI1 := Lib.hid hi1
  have HI2 := Lib.hid hi2
  have HIJ := Lib.hid hij
  have HJ0 := Lib.hid hj0
  have HI0 := Lib.hid hi0
  clear hN hA hP hO hi1 hi2 hij hj0 hi0
  by_cases hk : gk = 0
  ·subst hk
   obtain ⟨b0, b1, b2, b3, b4⟩ := BO.out.two
   obtain ⟨p0, p1, p2, p3, p4⟩ := BP.out.two
   go_wp2_with fail
   refine bodyPost_ret (v := .agg #[.int .i64 s2, .slice o2 l2 k2]) (by simp [results, Tryz.results139, go_sem, p0, p1]) rfl ?_
   refine HEND.out _ _ (HN.out.putAt BP.out (by omega) _ _) ?_
   have e : i = k0 := by have := HIJ.out; simpa using this
   rw [← HZ.out, ← e]
   exact HI2.out.put2 BP.out _ _ _ _
  ·have hj : j ≤ k0 := by
    have h1 := HIJ.out
    have := Nat.le_mul_of_pos_right j (show 0 < gk by omega)
    omega
   have hbi := (hm_pow HM.out HK.out HI0.out)
   have hbj := (hm_pow HM.out HK.out hj)
   have BI := Lib.hid hbi
   have BJ := Lib.hid hbj
   have HJ := Lib.hid hj
   clear hbi hbj hj
   have hb := bits_and_one gk (by omega)
   by_cases h1 : gk = 1
   ·subst h1
    rw [show ((1 % 2 : Nat) : Int) = 1 from rfl] at hb
    obtain ⟨b0, b1, b2, b3, b4⟩ := BO.out.two
    obtain ⟨c0, c1, c2, c3, c4⟩ := BA.out.two
    go_wp2_with fail
    refine (mul_calls _ _ (x ^ i) (x ^ j) _ HI2.out HI1.out BI.out BJ.out).mono ?_
    rintro e w2 ⟨v5, rfl, hn, hi⟩
    obtain ⟨s5, a5, l5, k5, rfl⟩ := hi.shape
    clear b0 b1 b2 b3 b4 c0 c1 c2 c3 c4
    have HI5 := Lib.hid hi
    clear hi
    replace BA := Lib.hid (BA.out.new hn)
    replace BP := Lib.hid (BP.out.new hn)
    replace BO := Lib.hid (BO.out.new hn)
    replace HI1 := Lib.hid (HI1.out.new hn)
    replace HN := Lib.hid (HN.out.trans hn)
    clear hn
    obtain ⟨b0, b1, b2, b3, b4⟩ := BO.out.two
    obtain ⟨c0, c1, c2, c3, c4⟩ := BA.out.two
    go_wp2_with fail
    clear b0 b1 b2 b3 b4
    have BA_ := BA.out.away BO.out (by omega) (.int .i64 s5) (.slice a5 l5 k5)
    have BP_ := BP.out.away BO.out (by omega) (.int .i64 s5) (.slice a5 l5 k5)
    have HI1_ := HI1.out.put2 BO.out s5 a5 l5 k5
    have HI5_ := HI5.out.put2 BO.out s5 a5 l5 k5
    have HN_ := HN.out.putAt BO.out (by omega) (.int .i64 s5) (.slice a5 l5 k5)
    have BO_ := BO.out.put2 (.int .i64 s5) (.slice a5 l5 k5)
    clear BA BP HI1 HI5 HN BO
    have BA := Lib.hid BA_
    have BP := Lib.hid BP_
    have HI1 := Lib.hid HI1_
    have HI5 := Lib.hid HI5_
    have HN := Lib.hid HN_
    have BO := Lib.hid BO_
    clear BA_ BP_ HI1_ HI5_ HN_ BO_
    go_roundg 0
    case measure => omega
    case rel => exact ⟨i + j, j, _, _, _, _, _, _, _, _, rfl, by have := HIJ.out; omega, HJ0.out, HN.out, BA.out, BP.out, BO.out, HI1.out, by rw [Int.pow_add]; exact HI5.out⟩
   ·have h2 : (1 : Int) < (gk : Int) := by omega
    have hlt : gk / 2 < gk := by omega
    have HLT := Lib.hid hlt
    clear hlt
    rcases Nat.mod_two_eq_zero_or_one gk with ho | ho
    ·have hh : i + (j + j) * (gk / 2) = k0 := by
      have h3 := HIJ.out
      have h4 : gk = 2 * (gk / 2) := by omega
      rw [← h3, ← Nat.two_mul, Nat.mul_comm 2 j, Nat.mul_assoc, ← h4]
     rw [ho, show ((0 : Nat) : Int) = 0 from rfl] at hb
     have HH := Lib.hid hh
     have HO := Lib.hid ho
     clear hh ho
     obtain ⟨b0, b1, b2, b3, b4⟩ := BO.out.two
     obtain ⟨c0, c1, c2, c3, c4⟩ := BA.out.two
     go_wp2_with fail
     refine (mul_calls _ _ (x ^ j) (x ^ j) _ HI1.out HI1.out BJ.out BJ.out).mono ?_
     rintro e w3 ⟨v6, rfl, hn, hi⟩
     obtain ⟨s6, a6, l6, k6, rfl⟩ := hi.shape
     have HI6 := Lib.hid hi
     clear hi
     replace BA := Lib.hid (BA.out.new hn)
     replace BP := Lib.hid (BP.out.new hn)
     replace BO := Lib.hid (BO.out.new hn)
     replace HI2 := Lib.hid (HI2.out.new hn)
     replace HN := Lib.hid (HN.out.trans hn)
     clear hn
     obtain ⟨d0, d1, d2, d3, d4⟩ := BA.out.two
     go_wp2_with fail
     clear d0 d1 d2 d3 d4
     have BO_ := BO.out.away BA.out (by omega) (.int .i64 s6) (.slice a6 l6 k6)
     have BP_ := BP.out.away BA.out (by omega) (.int .i64 s6) (.slice a6 l6 k6)
     have HI2_ := HI2.out.put2 BA.out s6 a6 l6 k6
     have HI6_ := HI6.out.put2 BA.out s6 a6 l6 k6
     have HN_ := HN.out.putAt BA.out (by omega) (.int .i64 s6) (.slice a6 l6 k6)
     have BA_ := BA.out.put2 (.int .i64 s6) (.slice a6 l6 k6)
     clear BO BP HI2 HI6 HN BA
     have BO := Lib.hid BO_
     have BP := Lib.hid BP_
     have HI2 := Lib.hid HI2_
     have HI6 := Lib.hid HI6_
     have HN := Lib.hid HN_
     have BA := Lib.hid BA_
     clear BO_ BP_ HI2_ HI6_ HN_ BA_
     go_roundg (gk / 2)
     case measure => exact HLT.out
     case rel => exact ⟨i, j + j, _, _, _, _, _, _, _, _, rfl, HH.out, by have := HJ0.out; omega, HN.out, BA.out, BP.out, BO.out, by rw [Int.pow_add]; exact HI6.out, HI2.out⟩
    ·have hh : i + j + (j + j) * (gk / 2) = k0 := by
      have h3 := HIJ.out
      have h4 : gk = 2 * (gk / 2) + 1 := by omega
      rw [← h3, ← Nat.two_mul, Nat.mul_comm 2 j, Nat.mul_assoc]
      have h5 : j * gk = j * (2 * (gk / 2)) + j := by
       have := congrArg (j * ·) h4
       simp only [Nat.mul_add, Nat.mul_one] at this
       exact this
      omega
     rw [ho, show ((1 : Nat) : Int) = 1 from rfl] at hb
     have HH := Lib.hid hh
     have HO := Lib.hid ho
     clear hh ho
     obtain ⟨b0, b1, b2, b3, b4⟩ := BO.out.two
     obtain ⟨c0, c1, c2, c3, c4⟩ := BA.out.two
     go_wp2_with fail
     refine (mul_calls _ _ (x ^ i) (x ^ j) _ HI2.out HI1.out BI.out BJ.out).mono ?_
     rintro e w2 ⟨v5, rfl, hn, hi⟩
     obtain ⟨s5, a5, l5, k5, rfl⟩ := hi.shape
     clear b0 b1 b2 b3 b4 c0 c1 c2 c3 c4
     have HI5 := Lib.hid hi
     clear hi
     replace BA := Lib.hid (BA.out.new hn)
     replace BP := Lib.hid (BP.out.new hn)
     replace BO := Lib.hid (BO.out.new hn)
     replace HI1 := Lib.hid (HI1.out.new hn)
     replace HN := Lib.hid (HN.out.trans hn)
     clear hn
     obtain ⟨b0, b1, b2, b3, b4⟩ := BO.out.two
     obtain ⟨c0, c1, c2, c3, c4⟩ := BA.out.two
     go_wp2_with fail
     clear b0 b1 b2 b3 b4 c0 c1 c2 c3 c4
     have BA_ := BA.out.away BO.out (by omega) (.int .i64 s5) (.slice a5 l5 k5)
     have BP_ := BP.out.away BO.out (by omega) (.int .i64 s5) (.slice a5 l5 k5)
     have HI1_ := HI1.out.put2 BO.out s5 a5 l5 k5
     have HI5_ := HI5.out.put2 BO.out s5 a5 l5 k5
     have HN_ := HN.out.putAt BO.out (by omega) (.int .i64 s5) (.slice a5 l5 k5)
     have BO_ := BO.out.put2 (.int .i64 s5) (.slice a5 l5 k5)
     clear BA BP HI1 HI5 HN BO
     have BA := Lib.hid BA_
     have BP := Lib.hid BP_
     have HI1 := Lib.hid HI1_
     have HI5 := Lib.hid HI5_
     have HN := Lib.hid HN_
     have BO := Lib.hid BO_
     clear BA_ BP_ HI1_ HI5_ HN_ BO_
     refine (mul_calls _ _ (x ^ j) (x ^ j) _ HI1.out HI1.out BJ.out BJ.out).mono ?_
     rintro e w3 ⟨v6, rfl, hn, hi⟩
     obtain ⟨s6, a6, l6, k6, rfl⟩ := hi.shape
     have HI6 := Lib.hid hi
     clear hi
     replace BA := Lib.hid (BA.out.new hn)
     replace BP := Lib.hid (BP.out.new hn)
     replace BO := Lib.hid (BO.out.new hn)
     replace HI5 := Lib.hid (HI5.out.new hn)
     replace HN := Lib.hid (HN.out.trans hn)
     clear hn
     obtain ⟨d0, d1, d2, d3, d4⟩ := BA.out.two
     go_wp2_with fail
     clear d0 d1 d2 d3 d4
     have BO_ := BO.out.away BA.out (by omega) (.int .i64 s6) (.slice a6 l6 k6)
     have BP_ := BP.out.away BA.out (by omega) (.int .i64 s6) (.slice a6 l6 k6)
     have HI5_ := HI5.out.put2 BA.out s6 a6 l6 k6
     have HI6_ := HI6.out.put2 BA.out s6 a6 l6 k6
     have HN_ := HN.out.putAt BA.out (by omega) (.int .i64 s6) (.slice a6 l6 k6)
     have BA_ := BA.out.put2 (.int .i64 s6) (.slice a6 l6 k6)
     clear BO BP HI5 HI6 HN BA
     have BO := Lib.hid BO_
     have BP := Lib.hid BP_
     have HI5 := Lib.hid HI5_
     have HI6 := Lib.hid HI6_
     have HN := Lib.hid HN_
     have BA := Lib.hid BA_
     clear BO_ BP_ HI5_ HI6_ HN_ BA_
     go_roundg (gk / 2)
     case measure => exact HLT.out
     case rel => exact ⟨i + j, j + j, _, _, _, _, _, _, _, _, rfl, HH.out, by have := HJ0.out; omega, HN.out, BA.out, BP.out, BO.out, by rw [Int.pow_add]; exact HI6.out, by rw [Int.pow_add]; exact HI5.out⟩
end Go.Proofs.YtlfnibjmkfldgaaGreatDoor
namespace Go.Proofs.YtlfnibjmkfldgaaGreatDoor
open Go.RowKit Big
structure IsBits (x b : Nat) : Prop where
 lt : x < 2 ^ b
 ge : b = 0 ∨ 2 ^ (b - 1) ≤ x
theorem IsBits.le {x b k : Nat} (h : IsBits x b) (hk : x < 2 ^ k) : b ≤ k := by
 rcases h.ge with h1 | h1
 ·omega
 ·have := (Nat.pow_lt_pow_iff_right (by omega : 1 < 2)).1 (Nat.lt_of_le_of_lt h1 hk)
  omega
theorem isBits_top {f : Nat → Nat} {k b x : Nat} (hc : Canon W64 f (k + 1)) (h1 : 1 ≤ b) (h2 : 2 ^ (b - 1) ≤ f k) (h3 : f k < 2 ^ b) (hx : vf W64 f (k + 1) = x) : IsBits x (64 * k + b) := by
 subst hx
 have e : W64 ^ k = 2 ^ (64 * k) := by rw [Nat.pow_mul]
 have hlow : vf W64 f k < W64 ^ k := vf_lt fun i hi => hc.lt i (by omega)
 rw [vf_succ]
 constructor
 ·rw [Nat.pow_add, ← e]
  have h4 : (f k + 1) * W64 ^ k ≤ 2 ^ b * W64 ^ k := Nat.mul_le_mul_right _ (by omega)
  rw [Nat.add_mul, Nat.one_mul] at h4
  rw [Nat.mul_comm (W64 ^ k)]
  omega
 ·right
  rw [show 64 * k + b - 1 = 64 * k + (b - 1) by omega, Nat.pow_add, ← e]
  have h4 : 2 ^ (b - 1) * W64 ^ k ≤ f k * W64 ^ k := Nat.mul_le_mul_right _ h2
  rw [Nat.mul_comm (W64 ^ k)]
  omega
def BitsPost (w : World) (x : Nat) (e : Ending) (w' : World) : Prop := ∃ b : Nat, e = .returned (.int .i64 (b : Int)) ∧ New w w' ∧ IsBits x b
set_option maxRecDepth 100000 in
theorem bits_calls (va : Value) (x : Int) (w : World) (hx : IsInt w va x) (bx : Bd x) : Calls Tryz.prog 150 #[va] w (BitsPost w x.natAbs) := by
 obtain ⟨sa, aa, la, ca, rfl⟩ := hx.shape
 have HX := Lib.hid hx
 have BX := Lib.hid bx
 clear hx bx
 go_enter Tryz.func150, Tryz.ntmps150
 go_wp2_with fail
 have BA := Lib.hid ((Box.alloc w (w.heap.size) 138 #[.int .i64 sa, .slice aa la ca] (by simp)).new (New.refl _))
 have HN := Lib.hid ((New.refl w).alloc (.cells #[.int .i64 sa, .slice aa la ca] 138))
 refine (parts_calls _ x _ (HX.out.new HN.out)).mono ?_
 rintro e w1 ⟨v1, n, f, rfl, hn, hw, hv⟩
 have hle := hw.le BX.out hv
 obtain ⟨a, cap, ⟨rfl, c1, c2, c3⟩, hr, cf⟩ := hw
 have HV := Lib.hid hv
 have CF := Lib.hid cf
 clear hv cf
 replace HN := Lib.hid (HN.out.trans hn)
 clear hn
 rcases Nat.eq_zero_or_pos n with h0 | h0
 ·subst h0
  go_wp2_with fail
  go_ret
  exact ⟨0, rfl, HN.out, ⟨by rw [← HV.out]; simp [vf], .inl rfl⟩⟩
 ·obtain ⟨k, rfl⟩ : ∃ k, n = k + 1 := ⟨n - 1, by omega⟩
  obtain ⟨b, off, rfl, hc⟩ := hr k (by omega)
  have ht := CF.out.top (by omega)
  have hl := CF.out.lt k (by omega)
  obtain ⟨b1, b2, b3, b4⟩ := bitLen_bounds hl ht
  have hlen := len_calls (f k) hl
  have hbits := isBits_top CF.out b1 b3 b4 HV.out
  have HL := Lib.hid hlen
  have HB := Lib.hid hbits
  have HT := Lib.hid ht
  have HLT := Lib.hid hl
  have B3 := Lib.hid b3
  have B4 := Lib.hid b4
  have HR := Lib.hid hr
  clear hlen hbits ht hl b3 b4 hr
  have hk1 : ((k : Int) + 1 == 0) = false := by simp; omega
  go_wp2_with fail
  clear hc
  refine (HL.out _).mono ?_
  rintro e w2 ⟨rfl, rfl⟩
  go_wp2_with fail
  go_ret
  exact ⟨64 * k + Lib.bitLen (f k), by rw [Int.natCast_add, Int.natCast_mul]; rfl, HN.out, HB.out⟩
set_option maxRecDepth 100000 in
theorem long_calls (va : Value) (x : Int) (w : World) (hx : IsInt w va x) (hs : x.natAbs < 2 ^ 1800) : Calls Tryz.prog 127 #[va] w fun e w' => e = .returned (.bool false) ∧ New w w' := by
 obtain ⟨sa, aa, la, ca, rfl⟩ := hx.shape
 have bx : Bd x := ⟨1800, by omega, hs⟩
 have HX := Lib.hid hx
 have BX := Lib.hid bx
 have HS := Lib.hid hs
 clear hx bx hs
 go_enter Tryz.func127, Tryz.ntmps127
 go_wp2_with fail
 have BA := Lib.hid ((Box.alloc w (w.heap.size) 138 #[.int .i64 sa, .slice aa la ca] (by simp)).new (New.refl _))
 have HN := Lib.hid ((New.refl w).alloc (.cells #[.int .i64 sa, .slice aa la ca] 138))
 refine (bits_calls _ x _ (HX.out.new HN.out) BX.out).mono ?_
 rintro e w1 ⟨b, rfl, hn, hb⟩
 have hb := hb.le HS.out
 have hb : (b : Int) ≤ 1800 := by omega
 replace HN := Lib.hid (HN.out.trans hn)
 clear hn
 go_wp2_with fail
 go_ret
 exact ⟨rfl, HN.out⟩
end Go.Proofs.YtlfnibjmkfldgaaGreatDoor
