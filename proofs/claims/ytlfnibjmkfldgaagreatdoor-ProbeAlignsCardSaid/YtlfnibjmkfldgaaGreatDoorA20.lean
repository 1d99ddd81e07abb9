/- Part A20. -/
import Derived.Test.YtlfnibjmkfldgaaGreatDoorA19
namespace Go.Proofs.YtlfnibjmkfldgaaGreatDoor
open Go.RowKit Big
theorem pow_bd20 {n : Nat} (h : n ≤ 20) : BdK 21 (2 ^ n) := by
 have key : ∀ n, n ≤ 20 → BdK 21 (2 ^ n) := by unfold BdK; decide +kernel
 exact key n h
theorem stepQ_fb21 {s : Int} (lo : -20 ≤ s) (hi : s ≤ 4) : FB 21 (stepQ s) := by
 unfold stepQ
 split
 ·exact (FB.int (pow_bd20 (by omega)) (by omega)).inv (powRat_ne (by omega))
 ·exact FB.int (pow_bd20 (by omega)) (by omega)
theorem diff_fb {d : Int} (lo : -4095 ≤ d) (hi : d ≤ 4095) : FB 12 (d : Rat) :=
 FB.int (by unfold BdK; exact Nat.lt_of_le_of_lt (show d.natAbs ≤ 4095 by omega) (by decide)) (by omega)
theorem BdK.sm {z : Int} (h : BdK 62 z) : Sm z := by
 unfold BdK at h
 have : (2 : Nat) ^ 62 = 4611686018427387904 := by decide
 rw [this] at h
 constructor <;> omega
theorem FB.sm {q : Rat} (h : FB 62 q) : SmF q := ⟨h.num.sm, h.den.sm⟩
def nomQ (s z code : Int) : Rat := stepQ s * ((code - z : Int) : Rat)
def halfQ (s : Int) : Rat := stepQ s / ((2 : Int) : Rat)
theorem two_fb : FB 2 ((2 : Int) : Rat) := FB.int (by unfold BdK; decide) (by omega)
theorem two_ne : ((2 : Int) : Rat) ≠ 0 := by decide
theorem halfQ_fb {s : Int} (lo : -20 ≤ s) (hi : s ≤ 4) : FB 23 (halfQ s) := (stepQ_fb21 lo hi).div two_fb two_ne
theorem nomQ_fb {b s z : Int} {g o : ByteArray} {qg qo : Rat} (h : AdcOk b s z g o qg qo) {code : Int} (lo : 0 ≤ code) (hi : code ≤ 4095) : FB 33 (nomQ s z code) := by
 have hz1 := h.zlo
 have hz2 := h.zhi
 have hz3 := (top_bd h.blo h.bhi).2
 exact (stepQ_fb21 h.slo h.shi).mul (diff_fb (by omega) (by omega))
set_option maxRecDepth 100000 in
set_option maxHeartbeats 1000000 in
theorem full_calls {b s z : Int} {g o : ByteArray} {qg qo : Rat} (h : AdcOk b s z g o qg qo) (w : World) (he : Env w) :
  Calls Tryz.prog 47 #[.agg #[.int .i64 b, .int .i64 s, .int .i64 z, .string g, .string o]] w (SpanPost w (nomQ s z 0) (nomQ s z (2 ^ b.toNat - 1)) 0) := by
 have hc := fun W hW => checkAdc_ok h W hW
 have hnm := fun code W lo hi => nominal_calls h code W lo hi
 have hlo := h.blo
 have hhi := h.bhi
 obtain ⟨tp, htp⟩ : ∃ tp : Int, 2 ^ b.toNat - 1 = tp := ⟨_, rfl⟩
 have htp1 := top_bd hlo hhi
 rw [htp] at htp1 ⊢
 have sx := (nomQ_fb h (code := 0) (by omega) (by omega)).mono (show 33 ≤ 62 by omega) |>.sm
 have sy := (nomQ_fb h (code := tp) (by omega) (by omega)).mono (show 33 ≤ 62 by omega) |>.sm
 obtain ⟨x, hx⟩ : ∃ x, nomQ s z 0 = x := ⟨_, rfl⟩
 obtain ⟨y, hy⟩ : ∃ y, nomQ s z tp = y := ⟨_, rfl⟩
 have hx' : stepQ s * ((0 - z : Int) : Rat) = x := hx
 have hy' : stepQ s * ((tp - z : Int) : Rat) = y := hy
 rw [hx] at sx ⊢
 rw [hy] at sy ⊢
 have hsp := fun (W : World) va vb h1 h2 hW => span_calls va vb x y W h1 h2 sx sy hW
 unfold SpanPost spanV at hsp ⊢
 obtain ⟨X, hX⟩ : ∃ X, rtext x = X := ⟨_, rfl⟩
 obtain ⟨Y, hY⟩ : ∃ Y, rtext y = Y := ⟨_, rfl⟩
 rw [hX, hY] at hsp ⊢
 clear h hx hy sx sy hX hY
 have HC := Lib.hid hc
 have HNM := Lib.hid hnm
 have HLO := Lib.hid hlo
 have HHI := Lib.hid hhi
 have HTP := Lib.hid htp
 have HTP1 := Lib.hid htp1
 have HX := Lib.hid hx'
 have HY := Lib.hid hy'
 have HSP := Lib.hid hsp
 have HE := Lib.hid he
 clear hc hnm hlo hhi htp htp1 hx' hy' hsp he
 go_enter Tryz.func47, Tryz.ntmps47
 go_wp2_with fail
 have BA := Lib.hid ((Box.alloc w (w.heap.size) 91 #[.int .i64 b, .int .i64 s, .int .i64 z, .string g, .string o] (by simp)).new ((New.refl _).alloc (.cells #[.string ⟨#[]⟩, .string ⟨#[]⟩] 94)))
 have BP := Lib.hid ((Box.alloc (w.alloc (.cells #[.int .i64 b, .int .i64 s, .int .i64 z, .string g, .string o] 91)) (w.heap.size + 1) 94 #[.string ⟨#[]⟩, .string ⟨#[]⟩] (by simp)).new (New.refl _))
 have HN := Lib.hid (((New.refl w).alloc (.cells #[.int .i64 b, .int .i64 s, .int .i64 z, .string g, .string o] 91)).alloc (.cells #[.string ⟨#[]⟩, .string ⟨#[]⟩] 94))
 refine (HC.out _ (HE.out.new HN.out)).mono ?_
 rintro e w1 ⟨rfl, hn⟩
 replace BA := Lib.hid (BA.out.new hn)
 replace BP := Lib.hid (BP.out.new hn)
 replace HN := Lib.hid (HN.out.trans hn)
 clear hn
 obtain ⟨⟨pa0, pa1, pa2, pa3, pa4⟩, pa5⟩ := BA.out.five
 go_wp2_with fail
 refine wp_region_T 9 (fun W => W.cell? ⟨w.heap.size, 0, none⟩ = some (.int .i64 b) ∧ W.cell? ⟨w.heap.size, 1, none⟩ = some (.int .i64 s) ∧ W.cell? ⟨w.heap.size, 2, none⟩ = some (.int .i64 z) ∧ W.cell? ⟨w.heap.size, 3, none⟩ = some (.string g) ∧ W.cell? ⟨w.heap.size, 4, none⟩ = some (.string o)) 11 #[false, false, false, false, false, false, false, false, false, false, false] rfl (by kernel_rfl) (by kernel_rfl) ?_
 refine wpT_take 0 (v := ?_) rfl (by kernel_rfl) (fun _ _ _ h => h) (by exact ⟨pa0, pa1, pa2, pa3, pa4⟩) (Or.inl ⟨by first | kernel_rfl | rfl, ?_⟩) ?_
 rotate_left
 ·(intro W hW; (try dsimp only at hW); go_simp; try with_reducible rfl)
 try simp only [PT]
 refine wpT_take 2 (v := ?_) rfl (by kernel_rfl) (fun _ _ _ h => h) (by exact ⟨pa0, pa1, pa2, pa3, pa4⟩) (Or.inl ⟨by first | kernel_rfl | rfl, ?_⟩) ?_
 rotate_left
 ·(intro W hW; (try dsimp only at hW); go_simp; try with_reducible rfl)
 try simp only [PT]
 refine wpT_take 3 (v := ?_) rfl (by kernel_rfl) (fun _ _ _ h => h) (by exact ⟨pa0, pa1, pa2, pa3, pa4⟩) (Or.inl ⟨by first | kernel_rfl | rfl, ?_⟩) ?_
 rotate_left
 ·(intro W hW; (try dsimp only at hW); go_simp; try with_reducible rfl)
 try simp only [PT]
 refine wpT_one 1 rfl (by kernel_rfl) (fun K hK => ?_)
 go_simp
 refine (HNM.out 0 _ (by omega) (by omega)).mono ?_
 rintro e w2 ⟨v2, rfl, hn, hf⟩
 rw [HX.out] at hf
 have hn := hn.undrew
 have HF2 := Lib.hid hf
 clear hf
 clear pa0 pa1 pa2 pa3 pa4 pa5
 replace BA := Lib.hid (BA.out.new hn)
 replace BP := Lib.hid (BP.out.new hn)
 replace HN := Lib.hid (HN.out.trans hn)
 clear hn
 obtain ⟨⟨pa0, pa1, pa2, pa3, pa4⟩, pa5⟩ := BA.out.five
 refine hK.out _ _ (fun _ => ?_) ?_
 ·exact ⟨pa0, pa1, pa2, pa3, pa4⟩
 clear hK K
 try simp only [PT]
 refine wpT_one 4 rfl (by kernel_rfl) (fun K hK => ?_)
 go_simp
 refine (top_calls b s z g o _ HLO.out HHI.out).mono ?_
 rintro e w3 ⟨rfl, hn⟩
 rw [HTP.out]
 have HF2' := Lib.hid (HF2.out.new hn)
 clear HF2
 clear pa0 pa1 pa2 pa3 pa4 pa5
 replace BA := Lib.hid (BA.out.new hn)
 replace BP := Lib.hid (BP.out.new hn)
 replace HN := Lib.hid (HN.out.trans hn)
 clear hn
 obtain ⟨⟨pa0, pa1, pa2, pa3, pa4⟩, pa5⟩ := BA.out.five
 refine hK.out _ _ (fun _ => ?_) ?_
 ·exact ⟨pa0, pa1, pa2, pa3, pa4⟩
 clear hK K
 try simp only [PT]
 refine wpT_one 5 rfl (by kernel_rfl) (fun K hK => ?_)
 go_simp
 refine (HNM.out tp _ (by have := HTP1.out; omega) (by have := HTP1.out; omega)).mono ?_
 rintro e w4 ⟨v4, rfl, hn, hf⟩
 rw [HY.out] at hf
 have HF2 := Lib.hid (HF2'.out.new hn)
 clear HF2'
 have HF4 := Lib.hid hf
 clear hf
 clear pa0 pa1 pa2 pa3 pa4 pa5
 replace BA := Lib.hid (BA.out.new hn)
 replace BP := Lib.hid (BP.out.new hn)
 replace HN := Lib.hid (HN.out.trans hn)
 clear hn
 obtain ⟨⟨pa0, pa1, pa2, pa3, pa4⟩, pa5⟩ := BA.out.five
 refine hK.out _ _ (fun _ => ?_) ?_
 ·exact ⟨pa0, pa1, pa2, pa3, pa4⟩
 clear hK K
 try simp only [PT]
 refine wpT_one 6 rfl (by kernel_rfl) (fun K hK => ?_)
 go_simp
 refine (HSP.out _ _ _ HF2.out HF4.out (HE.out.new HN.out)).mono ?_
 rintro e w5 ⟨rfl, hn⟩
 clear HF2 HF4
 clear pa0 pa1 pa2 pa3 pa4 pa5
 replace BA := Lib.hid (BA.out.new hn)
 replace BP := Lib.hid (BP.out.new hn)
 replace HN := Lib.hid (HN.out.trans hn)
 clear hn
 obtain ⟨⟨pa0, pa1, pa2, pa3, pa4⟩, pa5⟩ := BA.out.five
 refine hK.out _ _ (fun _ => ?_) ?_
 ·exact ⟨pa0, pa1, pa2, pa3, pa4⟩
 clear hK K
 try simp only [PT]
 refine wpT_take 7 (v := ?_) rfl (by kernel_rfl) (fun _ _ _ h => h) (by exact ⟨pa0, pa1, pa2, pa3, pa4⟩) (Or.inl ⟨by first | kernel_rfl | rfl, ?_⟩) ?_
 rotate_left
 ·(intro W hW; (try dsimp only at hW); go_simp; try with_reducible rfl)
 try simp only [PT]
 refine wpT_take 8 (v := ?_) rfl (by kernel_rfl) (fun _ _ _ h => h) (by exact ⟨pa0, pa1, pa2, pa3, pa4⟩) (Or.inl ⟨by first | kernel_rfl | rfl, ?_⟩) ?_
 rotate_left
 ·(intro W hW; (try dsimp only at hW); go_simp; try with_reducible rfl)
 try simp only [PT]
 refine wpT_tail rfl (by kernel_rfl) ?_
 simp only [List.drop_succ_cons, List.drop_zero]
 obtain ⟨p0, p1, p2, p3, p4⟩ := BP.out.two
 go_wp2_with fail
 refine bodyPost_ret (v := .tuple #[.agg #[.string X, .string Y], .int .i64 0]) (by simp [results, Tryz.results47, go_sem, p0, p1]) rfl ?_
 exact ⟨rfl, HN.out.putAt BP.out (by omega) _ _⟩
end Go.Proofs.YtlfnibjmkfldgaaGreatDoor
