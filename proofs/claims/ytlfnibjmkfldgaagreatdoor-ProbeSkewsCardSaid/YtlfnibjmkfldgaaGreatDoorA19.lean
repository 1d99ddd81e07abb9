/- Part A19. -/
import Derived.Test.YtlfnibjmkfldgaaGreatDoorA17
namespace Go.Proofs.YtlfnibjmkfldgaaGreatDoor
open Go.RowKit Big
def NoSpan (w : World) (n : Int) (e : Ending) (w' : World) : Prop := e = .returned (.tuple #[.agg #[.string ⟨#[]⟩, .string ⟨#[]⟩], .int .i64 n]) ∧ New w w'
set_option maxRecDepth 100000 in
set_option maxHeartbeats 1000000 in
theorem interval_clip (adc : Value) (b s z : Int) (g o : ByteArray) (code : Int) (x y : Rat) (n : Int) (h0 : n ≠ 0) (w : World) (he : Env w) (hadc : adc = .agg #[.int .i64 b, .int .i64 s, .int .i64 z, .string g, .string o])
  (hen : ∀ W, Env W → Calls Tryz.prog 96 #[adc, .int .i64 code] W (EndsPost W x y n)) :
  Calls Tryz.prog 56 #[adc, .int .i64 code] w (NoSpan w n) := by
 subst hadc
 have ht : (n != 0) = true := by simpa using h0
 have HEN := Lib.hid hen
 have HE := Lib.hid he
 have H0 := Lib.hid h0
 clear hen he h0
 go_enter Tryz.func56, Tryz.ntmps56
 go_wp2_with fail
 have BA := Lib.hid ((Box.alloc w (w.heap.size) 91 #[.int .i64 b, .int .i64 s, .int .i64 z, .string g, .string o] (by simp)).new ((New.refl _).alloc (.cells #[.string ⟨#[]⟩, .string ⟨#[]⟩] 94)))
 have BP := Lib.hid ((Box.alloc (w.alloc (.cells #[.int .i64 b, .int .i64 s, .int .i64 z, .string g, .string o] 91)) (w.heap.size + 1) 94 #[.string ⟨#[]⟩, .string ⟨#[]⟩] (by simp)).new (New.refl _))
 have HN := Lib.hid (((New.refl w).alloc (.cells #[.int .i64 b, .int .i64 s, .int .i64 z, .string g, .string o] 91)).alloc (.cells #[.string ⟨#[]⟩, .string ⟨#[]⟩] 94))
 refine (HEN.out _ (HE.out.new HN.out)).mono ?_
 rintro e w1 ⟨v1, v2, rfl, hn, hf, hf2⟩
 obtain ⟨s5, a5, l5, k5, t5, b5, m5, n5, rfl⟩ := hf.shape
 obtain ⟨s6, a6, l6, k6, t6, b6, m6, n6, rfl⟩ := hf2.shape
 clear hf hf2
 replace BP := Lib.hid (BP.out.new hn)
 replace HN := Lib.hid (HN.out.trans hn)
 clear hn
 obtain ⟨p0, p1, p2, p3, p4⟩ := BP.out.two
 have p5 := Nat.lt_add_right 1 p4
 have p6 := Nat.lt_add_right 1 p5
 go_wp2_with fail
 refine bodyPost_ret (v := .tuple #[.agg #[.string ⟨#[]⟩, .string ⟨#[]⟩], .int .i64 n]) (by simp [results, Tryz.results56, go_sem, p0, p1, p4, p5]) rfl ?_
 refine ⟨rfl, ?_⟩
 have hN := HN.out
 repeat first
  | with_reducible exact New.refl _
  | with_reducible refine New.drewN ?_ _
  | with_reducible refine New.drew ?_
  | with_reducible refine New.alloc ?_ _
  | (with_reducible refine New.setCell ?_ ?_ _; rotate_left; (show _ ≤ _ + _); omega)
  | with_reducible assumption
end Go.Proofs.YtlfnibjmkfldgaaGreatDoor
namespace Go.Proofs.YtlfnibjmkfldgaaGreatDoor
open Go.RowKit Big
theorem ten_le (k a b : Nat) (ha : a = 6 * k) (hb : b = 20 * k) : (10 : Nat) ^ a ≤ 2 ^ b := by
 subst ha hb
 rw [Nat.pow_mul, Nat.pow_mul]
 exact Nat.pow_le_pow_left (by decide) k
theorem Fits.fb {q : Rat} (h : Fits q) : FB 2000 q := by
 have h1 := Fits.iff.1 h
 have h2 : (10 : Nat) ^ 600 ≤ 2 ^ 2000 := ten_le 100 600 2000 rfl rfl
 have h3 : ∀ M : Nat, q.den < M → ((q.den : Int)).natAbs < M := fun M h => by simpa using h
 exact ⟨Nat.lt_of_lt_of_le h1.1 h2, Nat.lt_of_lt_of_le (h3 _ h1.2) h2⟩
set_option maxRecDepth 100000 in
set_option maxHeartbeats 1000000 in
theorem true1_calls (va : Value) (x : Rat) (k : Nat) (B : Nat) (t : TypeId) (b s z : Int) (g o : ByteArray) (qg qo : Rat) (w : World) (he : Env w) (hx : IsFrac w va x) (bx : FB k x) (hk : k ≤ 1000) (hb : Box w B t #[.int .i64 b, .int .i64 s, .int .i64 z, .string g, .string o])
  (hg : g.data.toList = ratText qg) (fg : FB 2000 qg) (gl : g.size ≤ 100000) (ho : o.data.toList = ratText qo) (fo : FB 2000 qo) (ol : o.size ≤ 100000) :
  Calls Tryz.prog 97 #[va, .pointer (some ⟨B, 0, none⟩)] w (FracPost w (x * qg + qo)) := by
 obtain ⟨sa, aa, la, ca, ta, ba, ma, na, rfl⟩ := hx.shape
 have hB := hb.lt
 have fm := bx.mul fg
 obtain ⟨m, hm⟩ : ∃ m, x * qg = m := ⟨_, rfl⟩
 obtain ⟨r, hr⟩ : ∃ r, m + qo = r := ⟨_, rfl⟩
 rw [hm] at fm ⊢
 rw [hr]
 have HE := Lib.hid he
 have HX := Lib.hid hx
 have BX := Lib.hid bx
 have HK := Lib.hid hk
 have HB := Lib.hid hb
 have HG := Lib.hid hg
 have FG := Lib.hid fg
 have GL := Lib.hid gl
 have HO := Lib.hid ho
 have FO := Lib.hid fo
 have OL := Lib.hid ol
 have HM := Lib.hid hm
 have HR := Lib.hid hr
 have FM := Lib.hid fm
 clear he hx bx hk hb hg fg gl ho fo ol hm hr fm
 go_enter Tryz.func97, Tryz.ntmps97
 go_wp2_with fail
 have BC := Lib.hid ((Box.alloc w (w.heap.size) 140 #[.int .i64 sa, .slice aa la ca, .int .i64 ta, .slice ba ma na] (by simp)).new ((New.refl _).alloc (.cells #[.int .i64 0, .slice none 0 0, .int .i64 0, .slice none 0 0] 140)))
 have BP := Lib.hid ((Box.alloc (w.alloc (.cells #[.int .i64 sa, .slice aa la ca, .int .i64 ta, .slice ba ma na] 140)) (w.heap.size + 1) 140 #[.int .i64 0, .slice none 0 0, .int .i64 0, .slice none 0 0] (by simp)).new (New.refl _))
 have HN := Lib.hid (((New.refl w).alloc (.cells #[.int .i64 sa, .slice aa la ca, .int .i64 ta, .slice ba ma na] 140)).alloc (.cells #[.int .i64 0, .slice none 0 0, .int .i64 0, .slice none 0 0] 140))
 have BA_ := HB.out.new HN.out
 clear HB
 have BA := Lib.hid BA_
 clear BA_
 obtain ⟨⟨pa0, pa1, pa2, pa3, pa4⟩, pa5⟩ := BA.out.five
 obtain ⟨⟨g0, g1, g2, g3⟩, g4, g5, g6, g7, g8⟩ := BC.out.four
 refine wp_region_T 9 (fun W => W.cell? ⟨B, 0, none⟩ = some (.int .i64 b) ∧ W.cell? ⟨B, 1, none⟩ = some (.int .i64 s) ∧ W.cell? ⟨B, 2, none⟩ = some (.int .i64 z) ∧ W.cell? ⟨B, 3, none⟩ = some (.string g) ∧ W.cell? ⟨B, 4, none⟩ = some (.string o) ∧ W.cell? ⟨w.heap.size, 0, none⟩ = some (.int .i64 sa) ∧ W.cell? ⟨w.heap.size, 1, none⟩ = some (.slice aa la ca) ∧ W.cell? ⟨w.heap.size, 2, none⟩ = some (.int .i64 ta) ∧ W.cell? ⟨w.heap.size, 3, none⟩ = some (.slice ba ma na)) 10 #[false, false, false, false, false, false, false, false, false, false] rfl (by kernel_rfl) (by kernel_rfl) ?_
 refine wpT_take 0 (v := ?_) rfl (by kernel_rfl) (fun _ _ _ h => h) (by exact ⟨pa0, pa1, pa2, pa3, pa4, g0, g1, g2, g3⟩) (Or.inl ⟨by first | kernel_rfl | rfl, ?_⟩) ?_
 rotate_left
 ·(intro W hW; (try dsimp only at hW); go_simp; try with_reducible rfl)
 try simp only [PT]
 refine wpT_take 1 (v := ?_) rfl (by kernel_rfl) (fun _ _ _ h => h) (by exact ⟨pa0, pa1, pa2, pa3, pa4, g0, g1, g2, g3⟩) (Or.inl ⟨by first | kernel_rfl | rfl, ?_⟩) ?_
 rotate_left
 ·(intro W hW; (try dsimp only at hW); go_simp; try with_reducible rfl)
 try simp only [PT]
 refine wpT_take 2 (v := ?_) rfl (by kernel_rfl) (fun _ _ _ h => h) (by exact ⟨pa0, pa1, pa2, pa3, pa4, g0, g1, g2, g3⟩) (Or.inl ⟨by first | kernel_rfl | rfl, ?_⟩) ?_
 rotate_left
 ·(intro W hW; (try dsimp only at hW); go_simp; try with_reducible rfl)
 try simp only [PT]
 refine wpT_take 5 (v := ?_) rfl (by kernel_rfl) (fun _ _ _ h => h) (by exact ⟨pa0, pa1, pa2, pa3, pa4, g0, g1, g2, g3⟩) (Or.inl ⟨by first | kernel_rfl | rfl, ?_⟩) ?_
 rotate_left
 ·(intro W hW; (try dsimp only at hW); go_simp; try with_reducible rfl)
 try simp only [PT]
 refine wpT_take 6 (v := ?_) rfl (by kernel_rfl) (fun _ _ _ h => h) (by exact ⟨pa0, pa1, pa2, pa3, pa4, g0, g1, g2, g3⟩) (Or.inl ⟨by first | kernel_rfl | rfl, ?_⟩) ?_
 rotate_left
 ·(intro W hW; (try dsimp only at hW); go_simp; try with_reducible rfl)
 try simp only [PT]
 refine wpT_one 3 rfl (by kernel_rfl) (fun K hK => ?_)
 go_simp
 refine (from_calls g qg _ (HE.out.new HN.out.drew) HG.out (by have := GL.out; omega)).mono ?_
 rintro e w1 ⟨v1, rfl, hn, hf⟩
 have hn := hn.undrew
 have HF1 := Lib.hid hf
 clear hf
 clear pa0 pa1 pa2 pa3 pa4 pa5
 clear g0 g1 g2 g3 g4 g5 g6 g7 g8
 replace BA := Lib.hid (BA.out.new hn)
 replace BC := Lib.hid (BC.out.new hn)
 replace BP := Lib.hid (BP.out.new hn)
 replace HN := Lib.hid (HN.out.trans hn)
 clear hn
 obtain ⟨⟨pa0, pa1, pa2, pa3, pa4⟩, pa5⟩ := BA.out.five
 obtain ⟨⟨g0, g1, g2, g3⟩, g4, g5, g6, g7, g8⟩ := BC.out.four
 refine hK.out _ _ (fun _ => ?_) ?_
 ·exact ⟨pa0, pa1, pa2, pa3, pa4, g0, g1, g2, g3⟩
 clear hK K
 try simp only [PT]
 refine wpT_one 4 rfl (by kernel_rfl) (fun K hK => ?_)
 go_simp
 refine (fmul_calls _ _ x qg k 2000 _ (HX.out.new HN.out) HF1.out BX.out FG.out (by have := HK.out; omega)).mono ?_
 rintro e w2 ⟨v2, rfl, hn, hf⟩
 rw [HM.out] at hf
 clear HF1
 have HF2 := Lib.hid hf
 clear hf
 clear pa0 pa1 pa2 pa3 pa4 pa5
 clear g0 g1 g2 g3 g4 g5 g6 g7 g8
 replace BA := Lib.hid (BA.out.new hn)
 replace BC := Lib.hid (BC.out.new hn)
 replace BP := Lib.hid (BP.out.new hn)
 replace HN := Lib.hid (HN.out.trans hn)
 clear hn
 obtain ⟨⟨pa0, pa1, pa2, pa3, pa4⟩, pa5⟩ := BA.out.five
 obtain ⟨⟨g0, g1, g2, g3⟩, g4, g5, g6, g7, g8⟩ := BC.out.four
 refine hK.out _ _ (fun _ => ?_) ?_
 ·exact ⟨pa0, pa1, pa2, pa3, pa4, g0, g1, g2, g3⟩
 clear hK K
 try simp only [PT]
 refine wpT_one 7 rfl (by kernel_rfl) (fun K hK => ?_)
 go_simp
 refine (from_calls o qo _ (HE.out.new HN.out) HO.out (by have := OL.out; omega)).mono ?_
 rintro e w3 ⟨v3, rfl, hn, hf⟩
 have HF3 := Lib.hid hf
 clear hf
 replace HF2 := Lib.hid (HF2.out.new hn)
 clear pa0 pa1 pa2 pa3 pa4 pa5
 clear g0 g1 g2 g3 g4 g5 g6 g7 g8
 replace BA := Lib.hid (BA.out.new hn)
 replace BC := Lib.hid (BC.out.new hn)
 replace BP := Lib.hid (BP.out.new hn)
 replace HN := Lib.hid (HN.out.trans hn)
 clear hn
 obtain ⟨⟨pa0, pa1, pa2, pa3, pa4⟩, pa5⟩ := BA.out.five
 obtain ⟨⟨g0, g1, g2, g3⟩, g4, g5, g6, g7, g8⟩ := BC.out.four
 refine hK.out _ _ (fun _ => ?_) ?_
 ·exact ⟨pa0, pa1, pa2, pa3, pa4, g0, g1, g2, g3⟩
 clear hK K
 try simp only [PT]
 refine wpT_one 8 rfl (by kernel_rfl) (fun K hK => ?_)
 go_simp
 refine (fadd_calls _ _ m qo (k + 2000) 2000 _ HF2.out HF3.out FM.out FO.out (by have := HK.out; omega)).mono ?_
 rintro e w4 ⟨v4, rfl, hn, hf⟩
 rw [HR.out] at hf
 clear HF2 HF3
 obtain ⟨s9, a9, l9, k9, t9, b9, m9, n9, rfl⟩ := hf.shape
 have HF := Lib.hid hf
 clear hf
 clear pa0 pa1 pa2 pa3 pa4 pa5
 clear g0 g1 g2 g3 g4 g5 g6 g7 g8
 replace BA := Lib.hid (BA.out.new hn)
 replace BC := Lib.hid (BC.out.new hn)
 replace BP := Lib.hid (BP.out.new hn)
 replace HN := Lib.hid (HN.out.trans hn)
 clear hn
 obtain ⟨⟨pa0, pa1, pa2, pa3, pa4⟩, pa5⟩ := BA.out.five
 obtain ⟨⟨g0, g1, g2, g3⟩, g4, g5, g6, g7, g8⟩ := BC.out.four
 refine hK.out _ _ (fun _ => ?_) ?_
 ·exact ⟨pa0, pa1, pa2, pa3, pa4, g0, g1, g2, g3⟩
 clear hK K
 try simp only [PT]
 refine wpT_tail rfl (by kernel_rfl) ?_
 simp only [List.drop_succ_cons, List.drop_zero]
 obtain ⟨⟨p0, p1, p2, p3⟩, p4, p5, p6, p7, p8⟩ := BP.out.four
 go_wp2_with fail
 refine bodyPost_ret (v := .agg #[.int .i64 s9, .slice a9 l9 k9, .int .i64 t9, .slice b9 m9 n9]) (by simp [results, Tryz.results97, go_sem, p0, p1, p2, p3]) rfl ?_
 exact frac_ret HN.out BP.out (by omega) HF.out.parts.1 HF.out.parts.2
set_option maxRecDepth 100000 in
set_option maxHeartbeats 1000000 in
theorem true_mid (adc : Value) (b s z : Int) (g o : ByteArray) (code : Int) (x y qg qo : Rat) (bx : FB 1000 x) (by' : FB 1000 y) (sx : SmF (x * qg + qo)) (sy : SmF (y * qg + qo)) (w : World) (he : Env w) (hadc : adc = .agg #[.int .i64 b, .int .i64 s, .int .i64 z, .string g, .string o])
  (hg : g.data.toList = ratText qg) (fg : FB 2000 qg) (gl : g.size ≤ 100000) (ho : o.data.toList = ratText qo) (fo : FB 2000 qo) (ol : o.size ≤ 100000)
  (hen : ∀ W, Env W → Calls Tryz.prog 96 #[adc, .int .i64 code] W (EndsPost W x y 0)) :
  Calls Tryz.prog 55 #[adc, .int .i64 code] w (SpanPost w (x * qg + qo) (y * qg + qo) 0) := by
 subst hadc
 have hsp := fun (W : World) va vb h1 h2 hW => span_calls va vb (x * qg + qo) (y * qg + qo) W h1 h2 sx sy hW
 unfold SpanPost spanV at hsp ⊢
 obtain ⟨X, hX⟩ : ∃ X, rtext (x * qg + qo) = X := ⟨_, rfl⟩
 obtain ⟨Y, hY⟩ : ∃ Y, rtext (y * qg + qo) = Y := ⟨_, rfl⟩
 rw [hX, hY] at hsp ⊢
 clear hX hY
 have hc := fun va q W B (hW : Env W) (h1 : IsFrac W va q) (h2 : FB 1000 q) hb => true1_calls va q 1000 B 91 b s z g o qg qo W hW h1 h2 (Nat.le_refl _) hb hg fg gl ho fo ol
 have HEN := Lib.hid hen
 have HE := Lib.hid he
 have HSP := Lib.hid hsp
 have HC := Lib.hid hc
 have BX := Lib.hid bx
 have BY := Lib.hid by'
 clear hen he hsp hc bx by'
 clear sx sy hg fg gl ho fo ol
 go_enter Tryz.func55, Tryz.ntmps55
 go_wp2_with fail
 have BA := Lib.hid ((Box.alloc w (w.heap.size) 91 #[.int .i64 b, .int .i64 s, .int .i64 z, .string g, .string o] (by simp)).new ((New.refl _).alloc (.cells #[.string ⟨#[]⟩, .string ⟨#[]⟩] 94)))
 have BP := Lib.hid ((Box.alloc (w.alloc (.cells #[.int .i64 b, .int .i64 s, .int .i64 z, .string g, .string o] 91)) (w.heap.size + 1) 94 #[.string ⟨#[]⟩, .string ⟨#[]⟩] (by simp)).new (New.refl _))
 have HN := Lib.hid (((New.refl w).alloc (.cells #[.int .i64 b, .int .i64 s, .int .i64 z, .string g, .string o] 91)).alloc (.cells #[.string ⟨#[]⟩, .string ⟨#[]⟩] 94))
 refine (HEN.out _ (HE.out.new HN.out)).mono ?_
 rintro e w1 ⟨v1, v2, rfl, hn, hf, hf2⟩
 obtain ⟨s5, a5, l5, k5, t5, b5, m5, n5, rfl⟩ := hf.shape
 obtain ⟨s6, a6, l6, k6, t6, b6, m6, n6, rfl⟩ := hf2.shape
 have HF1 := Lib.hid hf
 have HF2 := Lib.hid hf2
 clear hf hf2
 replace BA := Lib.hid (BA.out.new hn)
 replace BP := Lib.hid (BP.out.new hn)
 replace HN := Lib.hid (HN.out.trans hn)
 clear hn
 go_wp2_with fail
 have HN0 := HN
 clear HN
 have BG := Lib.hid ((Box.alloc w1 (w1.heap.size) 140 #[.int .i64 s5, .slice a5 l5 k5, .int .i64 t5, .slice b5 m5 n5] (by simp)).new ((New.refl _).alloc (.cells #[.int .i64 s6, .slice a6 l6 k6, .int .i64 t6, .slice b6 m6 n6] 140)))
 have BH := Lib.hid ((Box.alloc (w1.alloc (.cells #[.int .i64 s5, .slice a5 l5 k5, .int .i64 t5, .slice b5 m5 n5] 140)) (w1.heap.size + 1) 140 #[.int .i64 s6, .slice a6 l6 k6, .int .i64 t6, .slice b6 m6 n6] (by simp)).new (New.refl _))
 have HN := Lib.hid (((New.refl w1).alloc (.cells #[.int .i64 s5, .slice a5 l5 k5, .int .i64 t5, .slice b5 m5 n5] 140)).alloc (.cells #[.int .i64 s6, .slice a6 l6 k6, .int .i64 t6, .slice b6 m6 n6] 140))
 replace BA := Lib.hid (BA.out.new HN.out)
 replace BP := Lib.hid (BP.out.new HN.out)
 replace HF1 := Lib.hid (HF1.out.new HN.out)
 replace HF2 := Lib.hid (HF2.out.new HN.out)
 have HN_ := HN0.out.trans HN.out
 clear HN HN0
 have HN := Lib.hid HN_
 clear HN_
 obtain ⟨⟨g0, g1, g2, g3⟩, g4, g5, g6, g7, g8⟩ := BG.out.four
 obtain ⟨⟨h0, h1, h2, h3⟩, h4, h5, h6, h7, h8⟩ := BH.out.four
 refine wp_region_T 9 (fun W => W.cell? ⟨w1.heap.size, 0, none⟩ = some (.int .i64 s5) ∧ W.cell? ⟨w1.heap.size, 1, none⟩ = some (.slice a5 l5 k5) ∧ W.cell? ⟨w1.heap.size, 2, none⟩ = some (.int .i64 t5) ∧ W.cell? ⟨w1.heap.size, 3, none⟩ = some (.slice b5 m5 n5) ∧ W.cell? ⟨w1.heap.size + 1, 0, none⟩ = some (.int .i64 s6) ∧ W.cell? ⟨w1.heap.size + 1, 1, none⟩ = some (.slice a6 l6 k6) ∧ W.cell? ⟨w1.heap.size + 1, 2, none⟩ = some (.int .i64 t6) ∧ W.cell? ⟨w1.heap.size + 1, 3, none⟩ = some (.slice b6 m6 n6)) 11 #[false, false, false, false, false, false, false, false, false, false, false] rfl (by kernel_rfl) (by kernel_rfl) ?_
 refine wpT_take 0 (v := ?_) rfl (by kernel_rfl) (fun _ _ _ h => h) (by exact ⟨g0, g1, g2, g3, h0, h1, h2, h3⟩) (Or.inl ⟨by first | kernel_rfl | rfl, ?_⟩) ?_
 rotate_left
 ·(intro W hW; (try dsimp only at hW); go_simp; try with_reducible rfl)
 try simp only [PT]
 refine wpT_take 1 (v := ?_) rfl (by kernel_rfl) (fun _ _ _ h => h) (by exact ⟨g0, g1, g2, g3, h0, h1, h2, h3⟩) (Or.inl ⟨by first | kernel_rfl | rfl, ?_⟩) ?_
 rotate_left
 ·(intro W hW; (try dsimp only at hW); go_simp; try with_reducible rfl)
 try simp only [PT]
 refine wpT_take 3 (v := ?_) rfl (by kernel_rfl) (fun _ _ _ h => h) (by exact ⟨g0, g1, g2, g3, h0, h1, h2, h3⟩) (Or.inl ⟨by first | kernel_rfl | rfl, ?_⟩) ?_
 rotate_left
 ·(intro W hW; (try dsimp only at hW); go_simp; try with_reducible rfl)
 try simp only [PT]
 refine wpT_take 4 (v := ?_) rfl (by kernel_rfl) (fun _ _ _ h => h) (by exact ⟨g0, g1, g2, g3, h0, h1, h2, h3⟩) (Or.inl ⟨by first | kernel_rfl | rfl, ?_⟩) ?_
 rotate_left
 ·(intro W hW; (try dsimp only at hW); go_simp; try with_reducible rfl)
 try simp only [PT]
 refine wpT_one 2 rfl (by kernel_rfl) (fun K hK => ?_)
 go_simp
 refine (HC.out _ x _ _ (HE.out.new HN.out.drew) (HF1.out.new (New.refl _).drew) BX.out (BA.out.new (New.refl _).drew)).mono ?_
 rintro e w2 ⟨v3, rfl, hn, hf⟩
 have hn := hn.undrew
 clear HF1
 have HF3 := Lib.hid hf
 clear hf
 replace HF2 := Lib.hid (HF2.out.new hn)
 clear g0 g1 g2 g3 g4 g5 g6 g7 g8 h0 h1 h2 h3 h4 h5 h6 h7 h8
 replace BA := Lib.hid (BA.out.new hn)
 replace BP := Lib.hid (BP.out.new hn)
 replace BG := Lib.hid (BG.out.new hn)
 replace BH := Lib.hid (BH.out.new hn)
 replace HN := Lib.hid (HN.out.trans hn)
 clear hn
 obtain ⟨⟨g0, g1, g2, g3⟩, g4, g5, g6, g7, g8⟩ := BG.out.four
 obtain ⟨⟨h0, h1, h2, h3⟩, h4, h5, h6, h7, h8⟩ := BH.out.four
 refine hK.out _ _ (fun _ => ?_) ?_
 ·exact ⟨g0, g1, g2, g3, h0, h1, h2, h3⟩
 clear hK K
 try simp only [PT]
 refine wpT_one 5 rfl (by kernel_rfl) (fun K hK => ?_)
 go_simp
 refine (HC.out _ y _ _ (HE.out.new HN.out) HF2.out BY.out BA.out).mono ?_
 rintro e w3 ⟨v4, rfl, hn, hf⟩
 clear HF2
 have HF4 := Lib.hid hf
 clear hf
 replace HF3 := Lib.hid (HF3.out.new hn)
 clear g0 g1 g2 g3 g4 g5 g6 g7 g8 h0 h1 h2 h3 h4 h5 h6 h7 h8
 replace BA := Lib.hid (BA.out.new hn)
 replace BP := Lib.hid (BP.out.new hn)
 replace BG := Lib.hid (BG.out.new hn)
 replace BH := Lib.hid (BH.out.new hn)
 replace HN := Lib.hid (HN.out.trans hn)
 clear hn
 obtain ⟨⟨g0, g1, g2, g3⟩, g4, g5, g6, g7, g8⟩ := BG.out.four
 obtain ⟨⟨h0, h1, h2, h3⟩, h4, h5, h6, h7, h8⟩ := BH.out.four
 refine hK.out _ _ (fun _ => ?_) ?_
 ·exact ⟨g0, g1, g2, g3, h0, h1, h2, h3⟩
 clear hK K
 try simp only [PT]
 refine wpT_one 6 rfl (by kernel_rfl) (fun K hK => ?_)
 go_simp
 refine (HSP.out _ _ _ HF3.out HF4.out (HE.out.new HN.out)).mono ?_
 rintro e w4 ⟨rfl, hn⟩
 clear HF3 HF4
 clear g0 g1 g2 g3 g4 g5 g6 g7 g8 h0 h1 h2 h3 h4 h5 h6 h7 h8
 replace BA := Lib.hid (BA.out.new hn)
 replace BP := Lib.hid (BP.out.new hn)
 replace BG := Lib.hid (BG.out.new hn)
 replace BH := Lib.hid (BH.out.new hn)
 replace HN := Lib.hid (HN.out.trans hn)
 clear hn
 obtain ⟨⟨g0, g1, g2, g3⟩, g4, g5, g6, g7, g8⟩ := BG.out.four
 obtain ⟨⟨h0, h1, h2, h3⟩, h4, h5, h6, h7, h8⟩ := BH.out.four
 refine hK.out _ _ (fun _ => ?_) ?_
 ·exact ⟨g0, g1, g2, g3, h0, h1, h2, h3⟩
 clear hK K
 try simp only [PT]
 refine wpT_take 7 (v := ?_) rfl (by kernel_rfl) (fun _ _ _ h => h) (by exact ⟨g0, g1, g2, g3, h0, h1, h2, h3⟩) (Or.inl ⟨by first | kernel_rfl | rfl, ?_⟩) ?_
 rotate_left
 ·(intro W hW; (try dsimp only at hW); go_simp; try with_reducible rfl)
 try simp only [PT]
 refine wpT_take 8 (v := ?_) rfl (by kernel_rfl) (fun _ _ _ h => h) (by exact ⟨g0, g1, g2, g3, h0, h1, h2, h3⟩) (Or.inl ⟨by first | kernel_rfl | rfl, ?_⟩) ?_
 rotate_left
 ·(intro W hW; (try dsimp only at hW); go_simp; try with_reducible rfl)
 try simp only [PT]
 refine wpT_tail rfl (by kernel_rfl) ?_
 simp only [List.drop_succ_cons, List.drop_zero]
 obtain ⟨p0, p1, p2, p3, p4⟩ := BP.out.two
 go_wp2_with fail
 refine bodyPost_ret (v := .tuple #[.agg #[.string X, .string Y], .int .i64 0]) (by simp [results, Tryz.results55, go_sem, p0, p1]) rfl ?_
 exact ⟨rfl, HN.out.putAt BP.out (by omega) _ _⟩
end Go.Proofs.YtlfnibjmkfldgaaGreatDoor
