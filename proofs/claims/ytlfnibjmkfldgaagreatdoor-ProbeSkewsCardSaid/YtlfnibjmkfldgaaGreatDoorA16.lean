/- Part A16. -/
import Derived.Test.YtlfnibjmkfldgaaGreatDoorA15
namespace Go.Proofs.YtlfnibjmkfldgaaGreatDoor
open Go.RowKit Big
theorem New.of_eq {w w' : World} (h : w = w') : New w w' := h ▸ New.refl w
theorem pwithin_new (n lo hi : Int) (w : World) : Calls Tryz.prog 64 #[.int .i64 n, .int .i64 lo, .int .i64 hi] w fun e w' => e = .returned (.int .i64 (if outside n lo hi then 3 else 0)) ∧ New w w' :=
 (pwithin_calls n lo hi w).mono fun _ _ h => ⟨h.1, .of_eq h.2⟩
theorem pwhen_new (b : Bool) (n : Int) (w : World) : Calls Tryz.prog 63 #[.bool b, .int .i64 n] w fun e w' => e = .returned (.int .i64 (if b then n else 0)) ∧ New w w' :=
 (pwhen_calls b n w).mono fun _ _ h => ⟨h.1, .of_eq h.2⟩
theorem pfirst2_new (x y : Int) (b cap : Nat) (t : TypeId) (w : World) (h : Box w b t #[.int .i64 x, .int .i64 y]) :
  Calls Tryz.prog 57 #[.slice (some ⟨b, 0, none⟩) 2 cap] w fun e w' => e = .returned (.int .i64 (if x = 0 then y else x)) ∧ New w w' :=
 (pfirst2 x y b cap t w h).mono fun _ _ h => ⟨h.1, .of_eq h.2⟩
def RetNew (w : World) (r : Int) (e : Ending) (w' : World) : Prop := e = .returned (.int .i64 r) ∧ New w w'
set_option maxRecDepth 100000 in
set_option maxHeartbeats 1000000 in
theorem checkAdc_c (b s z : Int) (g o : ByteArray) (w : World) (he : Env w) (hgl : g.size ≤ 100000) (hol : o.size ≤ 100000) (hb : outside b 8 12 = false) (hs : outside s (-20) 4 = false)
  (hz : outside z 0 (2 ^ b.toNat - 1) = false) (q : Rat) (hf : Fits q) (hg : g.data.toList = ratText q) :
  Calls Tryz.prog 79 #[.agg #[.int .i64 b, .int .i64 s, .int .i64 z, .string g, .string o]] w (RetNew w (if q.num.sign ≤ 0 then 3 else ratErr o.data.toList)) := by
 obtain ⟨e1, he1⟩ : ∃ e1 : Int, (if outside b 8 12 then 3 else 0) = e1 := ⟨_, rfl⟩
 obtain ⟨e2, he2⟩ : ∃ e2 : Int, (if outside s (-20) 4 then 3 else 0) = e2 := ⟨_, rfl⟩
 obtain ⟨r1, hr1⟩ : ∃ r, (if e1 = 0 then e2 else e1) = r := ⟨_, rfl⟩
 obtain ⟨tp, htp⟩ : ∃ tp : Int, 2 ^ b.toNat - 1 = tp := ⟨_, rfl⟩
 rw [htp] at hz
 obtain ⟨e3, he3⟩ : ∃ e3 : Int, (if outside z 0 tp then 3 else 0) = e3 := ⟨_, rfl⟩
 obtain ⟨e4, he4⟩ : ∃ e4 : Int, ratErr g.data.toList = e4 := ⟨_, rfl⟩
 obtain ⟨r2, hr2⟩ : ∃ r, (if e3 = 0 then e4 else e3) = r := ⟨_, rfl⟩
 have ht1 : (r1 != 0) = false := by rw [← hr1, ← he1, ← he2, hb, hs]; rfl
 have hlo : 8 ≤ b := by simp [outside] at hb; omega
 have hhi : b ≤ 12 := by simp [outside] at hb; omega
 clear hb hs
 have ht2 : (r2 != 0) = false := by rw [← hr2, ← he3, ← he4, hz, hg, ratErr_ratText hf]; rfl
 clear hz hf
 obtain ⟨sg, hsg⟩ : ∃ sg, q.num.sign = sg := ⟨_, rfl⟩
 obtain ⟨e5, he5⟩ : ∃ e5 : Int, (if decide (sg ≤ 0) = true then 3 else 0) = e5 := ⟨_, rfl⟩
 obtain ⟨e6, he6⟩ : ∃ e6 : Int, ratErr o.data.toList = e6 := ⟨_, rfl⟩
 obtain ⟨r, hr⟩ : ∃ r, (if e5 = 0 then e6 else e5) = r := ⟨_, rfl⟩
 have hrr : (if q.num.sign ≤ 0 then 3 else ratErr o.data.toList) = r := by
  rw [← hr, ← he5, ← he6, hsg]
  by_cases h : sg ≤ 0
  ·simp [h]
  ·simp [h]
 rw [hrr]
 clear hrr
 have HE1 := Lib.hid he1
 have HE2 := Lib.hid he2
 have HR1 := Lib.hid hr1
 have HTP := Lib.hid htp
 have HE3 := Lib.hid he3
 have HE4 := Lib.hid he4
 have HR2 := Lib.hid hr2
 have HLO := Lib.hid hlo
 have HHI := Lib.hid hhi
 have HE := Lib.hid he
 have HGL := Lib.hid hgl
 have HOL := Lib.hid hol
 have HG := Lib.hid hg
 have HSG := Lib.hid hsg
 have HE5 := Lib.hid he5
 have HE6 := Lib.hid he6
 have HR3 := Lib.hid hr
 clear he1 he2 hr1 htp he3 he4 hr2 hlo hhi he hgl hol hg hsg he5 he6 hr
 go_enter Tryz.func79, Tryz.ntmps79
 go_wp2_with fail
 have BA := Lib.hid ((Box.alloc w (w.heap.size) 91 #[.int .i64 b, .int .i64 s, .int .i64 z, .string g, .string o] (by simp)).new (New.refl _))
 have HN := Lib.hid ((New.refl w).alloc (.cells #[.int .i64 b, .int .i64 s, .int .i64 z, .string g, .string o] 91))
 obtain ⟨⟨pa0, pa1, pa2, pa3, pa4⟩, pa5⟩ := BA.out.five
 refine wp_region_T 8 (fun W => W.cell? ⟨w.heap.size, 0, none⟩ = some (.int .i64 b) ∧ W.cell? ⟨w.heap.size, 1, none⟩ = some (.int .i64 s) ∧ W.cell? ⟨w.heap.size, 2, none⟩ = some (.int .i64 z) ∧ W.cell? ⟨w.heap.size, 3, none⟩ = some (.string g) ∧ W.cell? ⟨w.heap.size, 4, none⟩ = some (.string o)) 9 #[false, false, false, false, false, false, false, false, false] rfl (by kernel_rfl) (by kernel_rfl) ?_
 refine wpT_take 0 (v := ?_) rfl (by kernel_rfl) (fun _ _ _ h => h) (by exact ⟨pa0, pa1, pa2, pa3, pa4⟩) (Or.inl ⟨by first | kernel_rfl | rfl, ?_⟩) ?_
 rotate_left
 ·(intro W hW; (try dsimp only at hW); go_simp; try with_reducible rfl)
 try simp only [PT]
 refine wpT_take 1 (v := ?_) rfl (by kernel_rfl) (fun _ _ _ h => h) (by exact ⟨pa0, pa1, pa2, pa3, pa4⟩) (Or.inl ⟨by first | kernel_rfl | rfl, ?_⟩) ?_
 rotate_left
 ·(intro W hW; (try dsimp only at hW); go_simp; try with_reducible rfl)
 try simp only [PT]
 refine wpT_take 3 (v := ?_) rfl (by kernel_rfl) (fun _ _ _ h => h) (by exact ⟨pa0, pa1, pa2, pa3, pa4⟩) (Or.inl ⟨by first | kernel_rfl | rfl, ?_⟩) ?_
 rotate_left
 ·(intro W hW; (try dsimp only at hW); go_simp; try with_reducible rfl)
 try simp only [PT]
 refine wpT_take 4 (v := ?_) rfl (by kernel_rfl) (fun _ _ _ h => h) (by exact ⟨pa0, pa1, pa2, pa3, pa4⟩) (Or.inl ⟨by first | kernel_rfl | rfl, ?_⟩) ?_
 rotate_left
 ·(intro W hW; (try dsimp only at hW); go_simp; try with_reducible rfl)
 try simp only [PT]
 refine wpT_one 2 rfl (by kernel_rfl) (fun K hK => ?_)
 go_simp
 refine (pwithin_new b 8 12 _).mono ?_
 rintro e w1 ⟨rfl, hn⟩
 rw [HE1.out]
 have hn := hn.undrew
 clear pa0 pa1 pa2 pa3 pa4 pa5
 replace BA := Lib.hid (BA.out.new hn)
 replace HN := Lib.hid (HN.out.trans hn)
 clear hn
 obtain ⟨⟨pa0, pa1, pa2, pa3, pa4⟩, pa5⟩ := BA.out.five
 refine hK.out _ _ (fun _ => ?_) ?_
 ·exact ⟨pa0, pa1, pa2, pa3, pa4⟩
 clear hK K
 try simp only [PT]
 refine wpT_one 5 rfl (by kernel_rfl) (fun K hK => ?_)
 go_simp
 refine (pwithin_new s (-20) 4 _).mono ?_
 rintro e w2 ⟨rfl, hn⟩
 rw [HE2.out]
 clear pa0 pa1 pa2 pa3 pa4 pa5
 replace BA := Lib.hid (BA.out.new hn)
 replace HN := Lib.hid (HN.out.trans hn)
 clear hn
 obtain ⟨⟨pa0, pa1, pa2, pa3, pa4⟩, pa5⟩ := BA.out.five
 refine hK.out _ _ (fun _ => ?_) ?_
 ·exact ⟨pa0, pa1, pa2, pa3, pa4⟩
 clear hK K
 try simp only [PT]
 refine wpT_one 6 rfl (by kernel_rfl) (fun K hK => ?_)
 go_simp
 clear pa0 pa1 pa2 pa3 pa4 pa5
 have HN0 := HN
 clear HN
 have BG := Lib.hid ((Box.alloc w2 (w2.heap.size) 29 #[.int .i64 e1, .int .i64 e2] (by simp)).new (New.refl _))
 have HN := Lib.hid ((New.refl w2).alloc (.cells #[.int .i64 e1, .int .i64 e2] 29))
 replace BA := Lib.hid (BA.out.new HN.out)
 have HN_ := HN0.out.trans HN.out
 clear HN HN0
 have HN := Lib.hid HN_
 clear HN_
 obtain ⟨⟨pa0, pa1, pa2, pa3, pa4⟩, pa5⟩ := BA.out.five
 refine hK.out _ _ (fun _ => ?_) ?_
 ·exact ⟨pa0, pa1, pa2, pa3, pa4⟩
 clear hK K
 try simp only [PT]
 refine wpT_one 7 rfl (by kernel_rfl) (fun K hK => ?_)
 go_simp
 refine (pfirst2_new e1 e2 _ _ 29 _ BG.out).mono ?_
 rintro e w3 ⟨rfl, hn⟩
 rw [HR1.out]
 clear pa0 pa1 pa2 pa3 pa4 pa5
 replace BA := Lib.hid (BA.out.new hn)
 replace HN := Lib.hid (HN.out.trans hn)
 clear hn
 obtain ⟨⟨pa0, pa1, pa2, pa3, pa4⟩, pa5⟩ := BA.out.five
 refine hK.out _ _ (fun _ => ?_) ?_
 ·exact ⟨pa0, pa1, pa2, pa3, pa4⟩
 clear hK K
 try simp only [PT]
 refine wpT_tail rfl (by kernel_rfl) ?_
 simp only [List.drop_succ_cons, List.drop_zero]
 go_wp2_with fail
 refine wp_region_T 10 (fun W => W.cell? ⟨w.heap.size, 0, none⟩ = some (.int .i64 b) ∧ W.cell? ⟨w.heap.size, 1, none⟩ = some (.int .i64 s) ∧ W.cell? ⟨w.heap.size, 2, none⟩ = some (.int .i64 z) ∧ W.cell? ⟨w.heap.size, 3, none⟩ = some (.string g) ∧ W.cell? ⟨w.heap.size, 4, none⟩ = some (.string o)) 11 #[false, false, false, false, false, false, false, false, false, false, false] rfl (by kernel_rfl) (by kernel_rfl) ?_
 refine wpT_take 0 (v := ?_) rfl (by kernel_rfl) (fun _ _ _ h => h) (by exact ⟨pa0, pa1, pa2, pa3, pa4⟩) (Or.inl ⟨by first | kernel_rfl | rfl, ?_⟩) ?_
 rotate_left
 ·(intro W hW; (try dsimp only at hW); go_simp; try with_reducible rfl)
 try simp only [PT]
 refine wpT_take 1 (v := ?_) rfl (by kernel_rfl) (fun _ _ _ h => h) (by exact ⟨pa0, pa1, pa2, pa3, pa4⟩) (Or.inl ⟨by first | kernel_rfl | rfl, ?_⟩) ?_
 rotate_left
 ·(intro W hW; (try dsimp only at hW); go_simp; try with_reducible rfl)
 try simp only [PT]
 refine wpT_take 2 (v := ?_) rfl (by kernel_rfl) (fun _ _ _ h => h) (by exact ⟨pa0, pa1, pa2, pa3, pa4⟩) (Or.inl ⟨by first | kernel_rfl | rfl, ?_⟩) ?_
 rotate_left
 ·(intro W hW; (try dsimp only at hW); go_simp; try with_reducible rfl)
 try simp only [PT]
 refine wpT_take 5 (v := ?_) rfl (by kernel_rfl) (fun _ _ _ h => h) (by exact ⟨pa0, pa1, pa2, pa3, pa4⟩) (Or.inl ⟨by first | kernel_rfl | rfl, ?_⟩) ?_
 rotate_left
 ·(intro W hW; (try dsimp only at hW); go_simp; try with_reducible rfl)
 try simp only [PT]
 refine wpT_take 6 (v := ?_) rfl (by kernel_rfl) (fun _ _ _ h => h) (by exact ⟨pa0, pa1, pa2, pa3, pa4⟩) (Or.inl ⟨by first | kernel_rfl | rfl, ?_⟩) ?_
 rotate_left
 ·(intro W hW; (try dsimp only at hW); go_simp; try with_reducible rfl)
 try simp only [PT]
 refine wpT_one 3 rfl (by kernel_rfl) (fun K hK => ?_)
 go_simp
 refine (top_calls b s z g o _ HLO.out HHI.out).mono ?_
 rintro e w4 ⟨rfl, hn⟩
 rw [HTP.out]
 have hn := hn.undrew
 clear pa0 pa1 pa2 pa3 pa4 pa5
 replace BA := Lib.hid (BA.out.new hn)
 replace HN := Lib.hid (HN.out.trans hn)
 clear hn
 obtain ⟨⟨pa0, pa1, pa2, pa3, pa4⟩, pa5⟩ := BA.out.five
 refine hK.out _ _ (fun _ => ?_) ?_
 ·exact ⟨pa0, pa1, pa2, pa3, pa4⟩
 clear hK K
 try simp only [PT]
 refine wpT_one 4 rfl (by kernel_rfl) (fun K hK => ?_)
 go_simp
 refine (pwithin_new z 0 tp _).mono ?_
 rintro e w5 ⟨rfl, hn⟩
 rw [HE3.out]
 clear pa0 pa1 pa2 pa3 pa4 pa5
 replace BA := Lib.hid (BA.out.new hn)
 replace HN := Lib.hid (HN.out.trans hn)
 clear hn
 obtain ⟨⟨pa0, pa1, pa2, pa3, pa4⟩, pa5⟩ := BA.out.five
 refine hK.out _ _ (fun _ => ?_) ?_
 ·exact ⟨pa0, pa1, pa2, pa3, pa4⟩
 clear hK K
 try simp only [PT]
 refine wpT_one 7 rfl (by kernel_rfl) (fun K hK => ?_)
 go_simp
 refine (check_calls g _ (HE.out.new HN.out) HGL.out).mono ?_
 rintro e w6 ⟨rfl, hn⟩
 rw [HE4.out]
 clear pa0 pa1 pa2 pa3 pa4 pa5
 replace BA := Lib.hid (BA.out.new hn)
 replace HN := Lib.hid (HN.out.trans hn)
 clear hn
 obtain ⟨⟨pa0, pa1, pa2, pa3, pa4⟩, pa5⟩ := BA.out.five
 refine hK.out _ _ (fun _ => ?_) ?_
 ·exact ⟨pa0, pa1, pa2, pa3, pa4⟩
 clear hK K
 try simp only [PT]
 refine wpT_one 8 rfl (by kernel_rfl) (fun K hK => ?_)
 go_simp
 clear pa0 pa1 pa2 pa3 pa4 pa5
 have HN0 := HN
 clear HN
 have BH := Lib.hid ((Box.alloc w6 (w6.heap.size) 29 #[.int .i64 e3, .int .i64 e4] (by simp)).new (New.refl _))
 have HN := Lib.hid ((New.refl w6).alloc (.cells #[.int .i64 e3, .int .i64 e4] 29))
 replace BA := Lib.hid (BA.out.new HN.out)
 have HN_ := HN0.out.trans HN.out
 clear HN HN0
 have HN := Lib.hid HN_
 clear HN_
 obtain ⟨⟨pa0, pa1, pa2, pa3, pa4⟩, pa5⟩ := BA.out.five
 refine hK.out _ _ (fun _ => ?_) ?_
 ·exact ⟨pa0, pa1, pa2, pa3, pa4⟩
 clear hK K
 try simp only [PT]
 refine wpT_one 9 rfl (by kernel_rfl) (fun K hK => ?_)
 go_simp
 refine (pfirst2_new e3 e4 _ _ 29 _ BH.out).mono ?_
 rintro e w7 ⟨rfl, hn⟩
 rw [HR2.out]
 clear pa0 pa1 pa2 pa3 pa4 pa5
 replace BA := Lib.hid (BA.out.new hn)
 replace HN := Lib.hid (HN.out.trans hn)
 clear hn
 obtain ⟨⟨pa0, pa1, pa2, pa3, pa4⟩, pa5⟩ := BA.out.five
 refine hK.out _ _ (fun _ => ?_) ?_
 ·exact ⟨pa0, pa1, pa2, pa3, pa4⟩
 clear hK K
 try simp only [PT]
 refine wpT_tail rfl (by kernel_rfl) ?_
 simp only [List.drop_succ_cons, List.drop_zero]
 go_wp2_with fail
 refine wp_region_T 11 (fun W => W.cell? ⟨w.heap.size, 0, none⟩ = some (.int .i64 b) ∧ W.cell? ⟨w.heap.size, 1, none⟩ = some (.int .i64 s) ∧ W.cell? ⟨w.heap.size, 2, none⟩ = some (.int .i64 z) ∧ W.cell? ⟨w.heap.size, 3, none⟩ = some (.string g) ∧ W.cell? ⟨w.heap.size, 4, none⟩ = some (.string o)) 12 #[false, false, false, false, false, false, false, false, false, false, false, false] rfl (by kernel_rfl) (by kernel_rfl) ?_
 refine wpT_take 0 (v := ?_) rfl (by kernel_rfl) (fun _ _ _ h => h) (by exact ⟨pa0, pa1, pa2, pa3, pa4⟩) (Or.inl ⟨by first | kernel_rfl | rfl, ?_⟩) ?_
 rotate_left
 ·(intro W hW; (try dsimp only at hW); go_simp; try with_reducible rfl)
 try simp only [PT]
 refine wpT_take 1 (v := ?_) rfl (by kernel_rfl) (fun _ _ _ h => h) (by exact ⟨pa0, pa1, pa2, pa3, pa4⟩) (Or.inl ⟨by first | kernel_rfl | rfl, ?_⟩) ?_
 rotate_left
 ·(intro W hW; (try dsimp only at hW); go_simp; try with_reducible rfl)
 try simp only [PT]
 refine wpT_take 6 (v := ?_) rfl (by kernel_rfl) (fun _ _ _ h => h) (by exact ⟨pa0, pa1, pa2, pa3, pa4⟩) (Or.inl ⟨by first | kernel_rfl | rfl, ?_⟩) ?_
 rotate_left
 ·(intro W hW; (try dsimp only at hW); go_simp; try with_reducible rfl)
 try simp only [PT]
 refine wpT_take 7 (v := ?_) rfl (by kernel_rfl) (fun _ _ _ h => h) (by exact ⟨pa0, pa1, pa2, pa3, pa4⟩) (Or.inl ⟨by first | kernel_rfl | rfl, ?_⟩) ?_
 rotate_left
 ·(intro W hW; (try dsimp only at hW); go_simp; try with_reducible rfl)
 try simp only [PT]
 refine wpT_one 2 rfl (by kernel_rfl) (fun K hK => ?_)
 go_simp
 refine (from_calls g q _ (HE.out.new HN.out.drew) HG.out (by have := HGL.out; omega)).mono ?_
 rintro e w8 ⟨v8, rfl, hn, hf⟩
 have hn := hn.undrew
 have HF := Lib.hid hf
 clear hf
 clear pa0 pa1 pa2 pa3 pa4 pa5
 replace BA := Lib.hid (BA.out.new hn)
 replace HN := Lib.hid (HN.out.trans hn)
 clear hn
 obtain ⟨⟨pa0, pa1, pa2, pa3, pa4⟩, pa5⟩ := BA.out.five
 refine hK.out _ _ (fun _ => ?_) ?_
 ·exact ⟨pa0, pa1, pa2, pa3, pa4⟩
 clear hK K
 try simp only [PT]
 refine wpT_one 3 rfl (by kernel_rfl) (fun K hK => ?_)
 go_simp
 refine (fsign_calls v8 q _ HF.out).mono ?_
 rintro e w9 ⟨rfl, hn⟩
 rw [HSG.out]
 clear HF
 clear pa0 pa1 pa2 pa3 pa4 pa5
 replace BA := Lib.hid (BA.out.new hn)
 replace HN := Lib.hid (HN.out.trans hn)
 clear hn
 obtain ⟨⟨pa0, pa1, pa2, pa3, pa4⟩, pa5⟩ := BA.out.five
 refine hK.out _ _ (fun _ => ?_) ?_
 ·exact ⟨pa0, pa1, pa2, pa3, pa4⟩
 clear hK K
 try simp only [PT]
 refine wpT_take 4 (v := ?_) rfl (by kernel_rfl) (fun _ _ _ h => h) (by exact ⟨pa0, pa1, pa2, pa3, pa4⟩) (Or.inl ⟨by first | kernel_rfl | rfl, ?_⟩) ?_
 rotate_left
 ·(intro W hW; (try dsimp only at hW); go_simp; try with_reducible rfl)
 try simp only [PT]
 refine wpT_one 5 rfl (by kernel_rfl) (fun K hK => ?_)
 go_simp
 refine (pwhen_new _ 3 _).mono ?_
 rintro e w10 ⟨rfl, hn⟩
 rw [HE5.out]
 clear pa0 pa1 pa2 pa3 pa4 pa5
 replace BA := Lib.hid (BA.out.new hn)
 replace HN := Lib.hid (HN.out.trans hn)
 clear hn
 obtain ⟨⟨pa0, pa1, pa2, pa3, pa4⟩, pa5⟩ := BA.out.five
 refine hK.out _ _ (fun _ => ?_) ?_
 ·exact ⟨pa0, pa1, pa2, pa3, pa4⟩
 clear hK K
 try simp only [PT]
 refine wpT_one 8 rfl (by kernel_rfl) (fun K hK => ?_)
 go_simp
 refine (check_calls o _ (HE.out.new HN.out) HOL.out).mono ?_
 rintro e w11 ⟨rfl, hn⟩
 rw [HE6.out]
 clear pa0 pa1 pa2 pa3 pa4 pa5
 replace BA := Lib.hid (BA.out.new hn)
 replace HN := Lib.hid (HN.out.trans hn)
 clear hn
 obtain ⟨⟨pa0, pa1, pa2, pa3, pa4⟩, pa5⟩ := BA.out.five
 refine hK.out _ _ (fun _ => ?_) ?_
 ·exact ⟨pa0, pa1, pa2, pa3, pa4⟩
 clear hK K
 try simp only [PT]
 refine wpT_one 9 rfl (by kernel_rfl) (fun K hK => ?_)
 go_simp
 clear pa0 pa1 pa2 pa3 pa4 pa5
 have HN0 := HN
 clear HN
 have BJ := Lib.hid ((Box.alloc w11 (w11.heap.size) 29 #[.int .i64 e5, .int .i64 e6] (by simp)).new (New.refl _))
 have HN := Lib.hid ((New.refl w11).alloc (.cells #[.int .i64 e5, .int .i64 e6] 29))
 replace BA := Lib.hid (BA.out.new HN.out)
 have HN_ := HN0.out.trans HN.out
 clear HN HN0
 have HN := Lib.hid HN_
 clear HN_
 obtain ⟨⟨pa0, pa1, pa2, pa3, pa4⟩, pa5⟩ := BA.out.five
 refine hK.out _ _ (fun _ => ?_) ?_
 ·exact ⟨pa0, pa1, pa2, pa3, pa4⟩
 clear hK K
 try simp only [PT]
 refine wpT_one 10 rfl (by kernel_rfl) (fun K hK => ?_)
 go_simp
 refine (pfirst2_new e5 e6 _ _ 29 _ BJ.out).mono ?_
 rintro e w12 ⟨rfl, hn⟩
 rw [HR3.out]
 clear pa0 pa1 pa2 pa3 pa4 pa5
 replace BA := Lib.hid (BA.out.new hn)
 replace HN := Lib.hid (HN.out.trans hn)
 clear hn
 obtain ⟨⟨pa0, pa1, pa2, pa3, pa4⟩, pa5⟩ := BA.out.five
 refine hK.out _ _ (fun _ => ?_) ?_
 ·exact ⟨pa0, pa1, pa2, pa3, pa4⟩
 clear hK K
 try simp only [PT]
 refine wpT_tail rfl (by kernel_rfl) ?_
 simp only [List.drop_succ_cons, List.drop_zero]
 go_wp2_with fail
 go_ret
 exact ⟨rfl, HN.out⟩
end Go.Proofs.YtlfnibjmkfldgaaGreatDoor
namespace Go.Proofs.YtlfnibjmkfldgaaGreatDoor
open Go.RowKit Big
structure AdcOk (b s z : Int) (g o : ByteArray) (qg qo : Rat) : Prop where
 blo : 8 ≤ b
 bhi : b ≤ 12
 slo : -20 ≤ s
 shi : s ≤ 4
 zlo : 0 ≤ z
 zhi : z ≤ 2 ^ b.toNat - 1
 gt : g.data.toList = ratText qg
 gf : Fits qg
 gpos : 0 < qg.num
 gl : g.size ≤ 100000
 ot : o.data.toList = ratText qo
 of : Fits qo
 ol : o.size ≤ 100000
theorem checkAdc_ok {b s z : Int} {g o : ByteArray} {qg qo : Rat} (h : AdcOk b s z g o qg qo) (w : World) (he : Env w) :
  Calls Tryz.prog 79 #[.agg #[.int .i64 b, .int .i64 s, .int .i64 z, .string g, .string o]] w (RetNew w 0) := by
 have h1 := h.blo; have h2 := h.bhi; have h3 := h.slo; have h4 := h.shi; have h5 := h.zlo; have h6 := h.zhi
 have := checkAdc_c b s z g o w he h.gl h.ol (by simp [outside]; omega) (by simp [outside]; omega) (by simp only [outside, Bool.or_eq_false_iff, decide_eq_false_iff_not]; omega) qg h.gf h.gt
 rw [if_neg (by have := Int.sign_pos_iff.2 h.gpos; omega), h.ot, ratErr_ratText h.of] at this
 exact this
theorem top_bd {b : Int} (lo : 8 ≤ b) (hi : b ≤ 12) : (255 : Int) ≤ 2 ^ b.toNat - 1 ∧ (2 : Int) ^ b.toNat - 1 ≤ 4095 := by
 obtain rfl | rfl | rfl | rfl | rfl : b = 8 ∨ b = 9 ∨ b = 10 ∨ b = 11 ∨ b = 12 := by omega
 all_goals decide
set_option maxRecDepth 100000 in
theorem checkCode_calls {b s z : Int} {g o : ByteArray} {qg qo : Rat} (h : AdcOk b s z g o qg qo) (code : Int) (w : World) (he : Env w) :
  Calls Tryz.prog 86 #[.agg #[.int .i64 b, .int .i64 s, .int .i64 z, .string g, .string o], .int .i64 code] w (RetNew w (if outside code 0 (2 ^ b.toNat - 1) then 3 else 0)) := by
 have hc := fun W hW => checkAdc_ok h W hW
 have hlo := h.blo
 have hhi := h.bhi
 obtain ⟨tp, htp⟩ : ∃ tp : Int, 2 ^ b.toNat - 1 = tp := ⟨_, rfl⟩
 rw [htp]
 obtain ⟨r, hr⟩ : ∃ r : Int, (if outside code 0 tp then 3 else 0) = r := ⟨_, rfl⟩
 rw [hr]
 clear h
 have HC := Lib.hid hc
 have HLO := Lib.hid hlo
 have HHI := Lib.hid hhi
 have HTP := Lib.hid htp
 have HR := Lib.hid hr
 have HE := Lib.hid he
 clear hc hlo hhi htp hr he
 go_enter Tryz.func86, Tryz.ntmps86
 go_wp2_with fail
 have BA := Lib.hid ((Box.alloc w (w.heap.size) 91 #[.int .i64 b, .int .i64 s, .int .i64 z, .string g, .string o] (by simp)).new (New.refl _))
 have HN := Lib.hid ((New.refl w).alloc (.cells #[.int .i64 b, .int .i64 s, .int .i64 z, .string g, .string o] 91))
 refine (HC.out _ (HE.out.new HN.out)).mono ?_
 rintro e w1 ⟨rfl, hn⟩
 replace BA := Lib.hid (BA.out.new hn)
 replace HN := Lib.hid (HN.out.trans hn)
 clear hn
 obtain ⟨⟨pa0, pa1, pa2, pa3, pa4⟩, pa5⟩ := BA.out.five
 go_wp2_with fail
 refine (top_calls b s z g o _ HLO.out HHI.out).mono ?_
 rintro e w2 ⟨rfl, hn⟩
 rw [HTP.out]
 clear pa0 pa1 pa2 pa3 pa4 pa5
 replace BA := Lib.hid (BA.out.new hn)
 replace HN := Lib.hid (HN.out.trans hn)
 clear hn
 go_wp2_with fail
 refine (pwithin_new code 0 tp _).mono ?_
 rintro e w3 ⟨rfl, hn⟩
 rw [HR.out]
 replace BA := Lib.hid (BA.out.new hn)
 replace HN := Lib.hid (HN.out.trans hn)
 clear hn
 go_wp2_with fail
 go_ret
 exact ⟨rfl, HN.out⟩
theorem diff_bd {d : Int} (lo : -1000000 ≤ d) (hi : d ≤ 1000000) : FB 20 (d : Rat) :=
 FB.int (by unfold BdK; exact Nat.lt_of_le_of_lt (show d.natAbs ≤ 1000000 by omega) (by decide)) (by omega)
set_option maxRecDepth 100000 in
theorem nominal_calls {b s z : Int} {g o : ByteArray} {qg qo : Rat} (h : AdcOk b s z g o qg qo) (code : Int) (w : World) (lo : 0 ≤ code) (hi : code ≤ 4095) :
  Calls Tryz.prog 81 #[.agg #[.int .i64 b, .int .i64 s, .int .i64 z, .string g, .string o], .int .i64 code] w (FracPost w (stepQ s * ((code - z : Int) : Rat))) := by
 have hst := fun W => step_calls b s z g o W h.slo h.shi
 have hfb := stepQ_fb h.slo h.shi
 obtain ⟨t, ht⟩ : ∃ t, stepQ s = t := ⟨_, rfl⟩
 rw [ht] at hfb ⊢
 simp only [ht] at hst
 have hz1 := h.zlo
 have hz2 := h.zhi
 have hz3 := (top_bd h.blo h.bhi).2
 obtain ⟨d, hd⟩ : ∃ d, code - z = d := ⟨_, rfl⟩
 have hd1 : -9223372036854775808 ≤ code - z := by omega
 have hd2 : code - z ≤ 9223372036854775807 := by omega
 have hw : IntKind.i64.wrap (code - z) = d := by rw [IntKind.wrap_i64, ← hd]; omega
 rw [hd] at hd1 hd2
 have hdb : FB 20 (d : Rat) := diff_bd (by omega) (by omega)
 rw [hd]
 clear hz1 hz2 hz3 h lo hi
 have HST := Lib.hid hst
 have HFB := Lib.hid hfb
 have HT := Lib.hid ht
 have HD := Lib.hid hd
 have HDB := Lib.hid hdb
 have HW := Lib.hid hw
 clear hst hfb ht hd hdb hw
 go_enter Tryz.func81, Tryz.ntmps81
 go_wp2_with fail
 have BA := Lib.hid ((Box.alloc w (w.heap.size) 91 #[.int .i64 b, .int .i64 s, .int .i64 z, .string g, .string o] (by simp)).new ((New.refl _).alloc (.cells #[.int .i64 0, .slice none 0 0, .int .i64 0, .slice none 0 0] 140)))
 have BP := Lib.hid ((Box.alloc (w.alloc (.cells #[.int .i64 b, .int .i64 s, .int .i64 z, .string g, .string o] 91)) (w.heap.size + 1) 140 #[.int .i64 0, .slice none 0 0, .int .i64 0, .slice none 0 0] (by simp)).new (New.refl _))
 have HN := Lib.hid (((New.refl w).alloc (.cells #[.int .i64 b, .int .i64 s, .int .i64 z, .string g, .string o] 91)).alloc (.cells #[.int .i64 0, .slice none 0 0, .int .i64 0, .slice none 0 0] 140))
 obtain ⟨⟨pa0, pa1, pa2, pa3, pa4⟩, pa5⟩ := BA.out.five
 refine wp_region_T 8 (fun W => W.cell? ⟨w.heap.size, 0, none⟩ = some (.int .i64 b) ∧ W.cell? ⟨w.heap.size, 1, none⟩ = some (.int .i64 s) ∧ W.cell? ⟨w.heap.size, 2, none⟩ = some (.int .i64 z) ∧ W.cell? ⟨w.heap.size, 3, none⟩ = some (.string g) ∧ W.cell? ⟨w.heap.size, 4, none⟩ = some (.string o)) 9 #[false, false, false, false, false, false, false, false, false] rfl (by kernel_rfl) (by kernel_rfl) ?_
 refine wpT_take 0 (v := ?_) rfl (by kernel_rfl) (fun _ _ _ h => h) (by exact ⟨pa0, pa1, pa2, pa3, pa4⟩) (Or.inl ⟨by first | kernel_rfl | rfl, ?_⟩) ?_
 rotate_left
 ·(intro W hW; (try dsimp only at hW); go_simp; try with_reducible rfl)
 try simp only [PT]
 refine wpT_take 2 (v := ?_) rfl (by kernel_rfl) (fun _ _ _ h => h) (by exact ⟨pa0, pa1, pa2, pa3, pa4⟩) (Or.inl ⟨by first | kernel_rfl | rfl, ?_⟩) ?_
 rotate_left
 ·(intro W hW; (try dsimp only at hW); go_simp; try with_reducible rfl)
 try simp only [PT]
 refine wpT_take 3 (v := ?_) rfl (by kernel_rfl) (fun _ _ _ h => h) (by exact ⟨pa0, pa1, pa2, pa3, pa4⟩) (Or.inl ⟨by first | kernel_rfl | rfl, ?_⟩) ?_
 rotate_left
 ·(intro W hW; (try dsimp only at hW); go_simp; try with_reducible rfl)
 try simp only [PT]
 refine wpT_take 4 (v := ?_) rfl (by kernel_rfl) (fun _ _ _ h => h) (by exact ⟨pa0, pa1, pa2, pa3, pa4⟩) (Or.inl ⟨by first | kernel_rfl | rfl, ?_⟩) ?_
 rotate_left
 ·(intro W hW; (try dsimp only at hW); go_simp; try with_reducible rfl)
 try simp only [PT]
 refine wpT_take 5 (v := ?_) rfl (by kernel_rfl) (fun _ _ _ h => h) (by exact ⟨pa0, pa1, pa2, pa3, pa4⟩) (Or.inl ⟨by first | kernel_rfl | rfl, ?_⟩) ?_
 rotate_left
 ·(intro W hW; (try dsimp only at hW); go_simp; try with_reducible rfl)
 try simp only [PT]
 refine wpT_one 1 rfl (by kernel_rfl) (fun K hK => ?_)
 go_simp
 refine (HST.out _).mono ?_
 rintro e w1 ⟨v1, rfl, hn, hf⟩
 have hn := hn.undrew
 have HF1 := Lib.hid hf
 clear hf
 clear pa0 pa1 pa2 pa3 pa4 pa5
 replace BA := Lib.hid (BA.out.new hn)
 replace BP := Lib.hid (BP.out.new hn)
 replace HN := Lib.hid (HN.out.trans hn)
 clear hn
 obtain ⟨⟨pa0, pa1, pa2, pa3, pa4⟩, pa5⟩ := BA.out.five
 refine hK.out _ _ (fun _ => ?_) ?_
 ·exact ⟨pa0, pa1, pa2, pa3, pa4⟩
 clear hK K
 try simp only [PT]
 refine wpT_one 6 rfl (by kernel_rfl) (fun K hK => ?_)
 go_simp
 rw [HW.out]
 refine (f_calls d _ hd1 hd2).mono ?_
 rintro e w2 ⟨v2, rfl, hn, hf⟩
 have HF2 := Lib.hid hf
 clear hf
 clear pa0 pa1 pa2 pa3 pa4 pa5
 replace BA := Lib.hid (BA.out.new hn)
 replace BP := Lib.hid (BP.out.new hn)
 replace HF1 := Lib.hid (HF1.out.new hn)
 replace HN := Lib.hid (HN.out.trans hn)
 clear hn
 obtain ⟨⟨pa0, pa1, pa2, pa3, pa4⟩, pa5⟩ := BA.out.five
 refine hK.out _ _ (fun _ => ?_) ?_
 ·exact ⟨pa0, pa1, pa2, pa3, pa4⟩
 clear hK K
 try simp only [PT]
 refine wpT_one 7 rfl (by kernel_rfl) (fun K hK => ?_)
 go_simp
 refine (fmul_calls _ _ t (d : Rat) 41 20 _ HF1.out HF2.out HFB.out HDB.out (by omega)).mono ?_
 rintro e w3 ⟨v3, rfl, hn, hf⟩
 obtain ⟨s9, a9, l9, k9, t9, b9, m9, n9, rfl⟩ := hf.shape
 have HF := Lib.hid hf
 clear hf
 clear pa0 pa1 pa2 pa3 pa4 pa5
 replace BA := Lib.hid (BA.out.new hn)
 replace BP := Lib.hid (BP.out.new hn)
 replace HN := Lib.hid (HN.out.trans hn)
 clear hn
 obtain ⟨⟨pa0, pa1, pa2, pa3, pa4⟩, pa5⟩ := BA.out.five
 refine hK.out _ _ (fun _ => ?_) ?_
 ·exact ⟨pa0, pa1, pa2, pa3, pa4⟩
 clear hK K
 try simp only [PT]
 refine wpT_tail rfl (by kernel_rfl) ?_
 simp only [List.drop_succ_cons, List.drop_zero]
 obtain ⟨⟨p0, p1, p2, p3⟩, p4, p5, p6, p7, p8⟩ := BP.out.four
 go_wp2_with fail
 refine bodyPost_ret (v := .agg #[.int .i64 s9, .slice a9 l9 k9, .int .i64 t9, .slice b9 m9 n9]) (by simp [results, Tryz.results81, go_sem, p0, p1, p2, p3]) rfl ?_
 exact frac_ret HN.out BP.out (by omega) HF.out.parts.1 HF.out.parts.2
end Go.Proofs.YtlfnibjmkfldgaaGreatDoor
namespace Go.Proofs.YtlfnibjmkfldgaaGreatDoor
open Go.RowKit Big
theorem two_mono (a b : Nat) (h : a ≤ b) : (2 : Nat) ^ a ≤ 2 ^ b := Nat.pow_le_pow_right (by decide) h
theorem Sm.bdk {z : Int} (h : Sm z) : BdK 1800 z := by
 obtain ⟨lo, hi⟩ := h
 unfold BdK
 exact Nat.lt_of_lt_of_le (show z.natAbs < 2 ^ 64 by omega) (two_mono 64 1800 (by decide))
theorem SmF.fb {q : Rat} (h : SmF q) : FB 1800 q := ⟨h.1.bdk, h.2.bdk⟩
def rtext (q : Rat) : ByteArray := ⟨(ratText q).toArray⟩
def spanV (x y : Rat) : Value := .agg #[.string (rtext x), .string (rtext y)]
def SpanPost (w : World) (x y : Rat) (n : Int) (e : Ending) (w' : World) : Prop := e = .returned (.tuple #[spanV x y, .int .i64 n]) ∧ New w w'
set_option maxRecDepth 100000 in
set_option maxHeartbeats 1000000 in
theorem span_calls (va vb : Value) (x y : Rat) (w : World) (hx : IsFrac w va x) (hy : IsFrac w vb y) (sx : SmF x) (sy : SmF y) (he : Env w) : Calls Tryz.prog 80 #[va, vb] w (SpanPost w x y 0) := by
 obtain ⟨sa, aa, la, ca, ta, ba, ma, na, rfl⟩ := hx.shape
 obtain ⟨sb, ab, lb, cb, tb, bb, mb, nb, rfl⟩ := hy.shape
 unfold SpanPost spanV rtext
 have htx := fun (W : World) v h hW => text_small v x W h sx hW
 have hty := fun (W : World) v h hW => text_small v y W h sy hW
 obtain ⟨X, hX⟩ : ∃ X : ByteArray, ⟨(ratText x).toArray⟩ = X := ⟨_, rfl⟩
 obtain ⟨Y, hY⟩ : ∃ Y : ByteArray, ⟨(ratText y).toArray⟩ = Y := ⟨_, rfl⟩
 simp only [hX] at htx
 simp only [hY] at hty
 rw [hX, hY]
 have HX := Lib.hid hx
 have HY := Lib.hid hy
 have SX := Lib.hid sx
 have SY := Lib.hid sy
 have HE := Lib.hid he
 have HTX := Lib.hid htx
 have HTY := Lib.hid hty
 have HXX := Lib.hid hX
 have HYY := Lib.hid hY
 clear hx hy sx sy he htx hty hX hY
 go_enter Tryz.func80, Tryz.ntmps80
 go_wp2_with fail
 have BA := Lib.hid ((Box.alloc w (w.heap.size) 140 #[.int .i64 sa, .slice aa la ca, .int .i64 ta, .slice ba ma na] (by simp)).new (((New.refl _).alloc (.cells #[.int .i64 sb, .slice ab lb cb, .int .i64 tb, .slice bb mb nb] 140)).alloc (.cells #[.string ⟨#[]⟩, .string ⟨#[]⟩] 94)))
 have BB := Lib.hid ((Box.alloc (w.alloc (.cells #[.int .i64 sa, .slice aa la ca, .int .i64 ta, .slice ba ma na] 140)) (w.heap.size + 1) 140 #[.int .i64 sb, .slice ab lb cb, .int .i64 tb, .slice bb mb nb] (by simp)).new ((New.refl _).alloc (.cells #[.string ⟨#[]⟩, .string ⟨#[]⟩] 94)))
 have BP := Lib.hid ((Box.alloc ((w.alloc (.cells #[.int .i64 sa, .slice aa la ca, .int .i64 ta, .slice ba ma na] 140)).alloc (.cells #[.int .i64 sb, .slice ab lb cb, .int .i64 tb, .slice bb mb nb] 140)) (w.heap.size + 1 + 1) 94 #[.string ⟨#[]⟩, .string ⟨#[]⟩] (by simp)).new (New.refl _))
 have HN := Lib.hid ((((New.refl w).alloc (.cells #[.int .i64 sa, .slice aa la ca, .int .i64 ta, .slice ba ma na] 140)).alloc (.cells #[.int .i64 sb, .slice ab lb cb, .int .i64 tb, .slice bb mb nb] 140)).alloc (.cells #[.string ⟨#[]⟩, .string ⟨#[]⟩] 94))
 refine (large_calls _ x _ (HX.out.new HN.out) SX.out.fb).mono ?_
 rintro e w1 ⟨rfl, hn⟩
 replace BA := Lib.hid (BA.out.new hn)
 replace BB := Lib.hid (BB.out.new hn)
 replace BP := Lib.hid (BP.out.new hn)
 replace HN := Lib.hid (HN.out.trans hn)
 clear hn
 obtain ⟨⟨pa0, pa1, pa2, pa3⟩, pa4, pa5, pa6, pa7, pa8⟩ := BA.out.four
 obtain ⟨⟨pb0, pb1, pb2, pb3⟩, pb4, pb5, pb6, pb7, pb8⟩ := BB.out.four
 go_wp2_with fail
 refine (large_calls _ y _ (HY.out.new HN.out) SY.out.fb).mono ?_
 rintro e w2 ⟨rfl, hn⟩
 clear pa0 pa1 pa2 pa3 pa4 pa5 pa6 pa7 pa8 pb0 pb1 pb2 pb3 pb4 pb5 pb6 pb7 pb8
 replace BA := Lib.hid (BA.out.new hn)
 replace BB := Lib.hid (BB.out.new hn)
 replace BP := Lib.hid (BP.out.new hn)
 replace HN := Lib.hid (HN.out.trans hn)
 clear hn
 obtain ⟨⟨pa0, pa1, pa2, pa3⟩, pa4, pa5, pa6, pa7, pa8⟩ := BA.out.four
 obtain ⟨⟨pb0, pb1, pb2, pb3⟩, pb4, pb5, pb6, pb7, pb8⟩ := BB.out.four
 go_wp2_with fail
 refine wp_region_T 5 (fun W => W.cell? ⟨w.heap.size, 0, none⟩ = some (.int .i64 sa) ∧ W.cell? ⟨w.heap.size, 1, none⟩ = some (.slice aa la ca) ∧ W.cell? ⟨w.heap.size, 2, none⟩ = some (.int .i64 ta) ∧ W.cell? ⟨w.heap.size, 3, none⟩ = some (.slice ba ma na) ∧ W.cell? ⟨w.heap.size + 1, 0, none⟩ = some (.int .i64 sb) ∧ W.cell? ⟨w.heap.size + 1, 1, none⟩ = some (.slice ab lb cb) ∧ W.cell? ⟨w.heap.size + 1, 2, none⟩ = some (.int .i64 tb) ∧ W.cell? ⟨w.heap.size + 1, 3, none⟩ = some (.slice bb mb nb)) 7 #[false, false, false, false, false, false, false] rfl (by kernel_rfl) (by kernel_rfl) ?_
 refine wpT_take 0 (v := ?_) rfl (by kernel_rfl) (fun _ _ _ h => h) (by exact ⟨pa0, pa1, pa2, pa3, pb0, pb1, pb2, pb3⟩) (Or.inl ⟨by first | kernel_rfl | rfl, ?_⟩) ?_
 rotate_left
 ·(intro W hW; (try dsimp only at hW); go_simp; try with_reducible rfl)
 try simp only [PT]
 refine wpT_take 2 (v := ?_) rfl (by kernel_rfl) (fun _ _ _ h => h) (by exact ⟨pa0, pa1, pa2, pa3, pb0, pb1, pb2, pb3⟩) (Or.inl ⟨by first | kernel_rfl | rfl, ?_⟩) ?_
 rotate_left
 ·(intro W hW; (try dsimp only at hW); go_simp; try with_reducible rfl)
 try simp only [PT]
 refine wpT_one 1 rfl (by kernel_rfl) (fun K hK => ?_)
 go_simp
 refine (HTX.out _ _ (HX.out.new HN.out.drew) (HE.out.new HN.out.drew)).mono ?_
 rintro e w3 ⟨rfl, hn⟩
 have hn := hn.undrew
 clear pa0 pa1 pa2 pa3 pa4 pa5 pa6 pa7 pa8 pb0 pb1 pb2 pb3 pb4 pb5 pb6 pb7 pb8
 replace BA := Lib.hid (BA.out.new hn)
 replace BB := Lib.hid (BB.out.new hn)
 replace BP := Lib.hid (BP.out.new hn)
 replace HN := Lib.hid (HN.out.trans hn)
 clear hn
 obtain ⟨⟨pa0, pa1, pa2, pa3⟩, pa4, pa5, pa6, pa7, pa8⟩ := BA.out.four
 obtain ⟨⟨pb0, pb1, pb2, pb3⟩, pb4, pb5, pb6, pb7, pb8⟩ := BB.out.four
 refine hK.out _ _ (fun _ => ?_) ?_
 ·exact ⟨pa0, pa1, pa2, pa3, pb0, pb1, pb2, pb3⟩
 clear hK K
 try simp only [PT]
 refine wpT_one 3 rfl (by kernel_rfl) (fun K hK => ?_)
 go_simp
 refine (HTY.out _ _ (HY.out.new HN.out) (HE.out.new HN.out)).mono ?_
 rintro e w4 ⟨rfl, hn⟩
 clear pa0 pa1 pa2 pa3 pa4 pa5 pa6 pa7 pa8 pb0 pb1 pb2 pb3 pb4 pb5 pb6 pb7 pb8
 replace BA := Lib.hid (BA.out.new hn)
 replace BB := Lib.hid (BB.out.new hn)
 replace BP := Lib.hid (BP.out.new hn)
 replace HN := Lib.hid (HN.out.trans hn)
 clear hn
 obtain ⟨⟨pa0, pa1, pa2, pa3⟩, pa4, pa5, pa6, pa7, pa8⟩ := BA.out.four
 obtain ⟨⟨pb0, pb1, pb2, pb3⟩, pb4, pb5, pb6, pb7, pb8⟩ := BB.out.four
 refine hK.out _ _ (fun _ => ?_) ?_
 ·exact ⟨pa0, pa1, pa2, pa3, pb0, pb1, pb2, pb3⟩
 clear hK K
 try simp only [PT]
 refine wpT_take 4 (v := ?_) rfl (by kernel_rfl) (fun _ _ _ h => h) (by exact ⟨pa0, pa1, pa2, pa3, pb0, pb1, pb2, pb3⟩) (Or.inl ⟨by first | kernel_rfl | rfl, ?_⟩) ?_
 rotate_left
 ·(intro W hW; (try dsimp only at hW); go_simp; try with_reducible rfl)
 try simp only [PT]
 refine wpT_tail rfl (by kernel_rfl) ?_
 simp only [List.drop_succ_cons, List.drop_zero]
 obtain ⟨p0, p1, p2, p3, p4⟩ := BP.out.two
 go_wp2_with fail
 refine bodyPost_ret (v := .tuple #[.agg #[.string X, .string Y], .int .i64 0]) (by simp [results, Tryz.results80, go_sem, p0, p1]) rfl ?_
 exact ⟨rfl, HN.out.putAt BP.out (by omega) _ _⟩
end Go.Proofs.YtlfnibjmkfldgaaGreatDoor
namespace Go.Proofs.YtlfnibjmkfldgaaGreatDoor
open Go.RowKit Big
theorem pow_bd20 {n : Nat} (h : n ≤ 20) : BdK 21 (2 ^ n) := by
 have key : ∀ n, n ≤ 20 → BdK 21 (2 ^ n) := by unfold BdK; decide +kernel
 exact key n h
theorem stepQ_fb21 {s : Int} (lo : -20 ≤ s) (hi : s ≤ 4) : FB 21 (stepQ s) := by
 unfold stepQ
 split
 ·exact (FB.int (pow_bd20 (by omega)) (by omega)).inv (powRat_ne (by omega))
 ·exact FB.int (pow_bd20 (by omega)) (by omega)
theorem diff_fb {d : Int} (lo : -4095 ≤ d) (hi : d ≤ 4095) : FB 12 (d : Rat) :=
 FB.int (by unfold BdK; exact Nat.lt_of_le_of_lt (show d.natAbs ≤ 4095 by omega) (by decide)) (by omega)
theorem BdK.sm {z : Int} (h : BdK 62 z) : Sm z := by
 unfold BdK at h
 have : (2 : Nat) ^ 62 = 4611686018427387904 := by decide
 rw [this] at h
 constructor <;> omega
theorem FB.sm {q : Rat} (h : FB 62 q) : SmF q := ⟨h.num.sm, h.den.sm⟩
def nomQ (s z code : Int) : Rat := stepQ s * ((code - z : Int) : Rat)
def halfQ (s : Int) : Rat := stepQ s / ((2 : Int) : Rat)
theorem two_fb : FB 2 ((2 : Int) : Rat) := FB.int (by unfold BdK; decide) (by omega)
theorem two_ne : ((2 : Int) : Rat) ≠ 0 := by decide
theorem halfQ_fb {s : Int} (lo : -20 ≤ s) (hi : s ≤ 4) : FB 23 (halfQ s) := (stepQ_fb21 lo hi).div two_fb two_ne
theorem nomQ_fb {b s z : Int} {g o : ByteArray} {qg qo : Rat} (h : AdcOk b s z g o qg qo) {code : Int} (lo : 0 ≤ code) (hi : code ≤ 4095) : FB 33 (nomQ s z code) := by
 have hz1 := h.zlo
 have hz2 := h.zhi
 have hz3 := (top_bd h.blo h.bhi).2
 exact (stepQ_fb21 h.slo h.shi).mul (diff_fb (by omega) (by omega))
set_option maxRecDepth 100000 in
set_option maxHeartbeats 1000000 in
theorem full_calls {b s z : Int} {g o : ByteArray} {qg qo : Rat} (h : AdcOk b s z g o qg qo) (w : World) (he : Env w) :
  Calls Tryz.prog 47 #[.agg #[.int .i64 b, .int .i64 s, .int .i64 z, .string g, .string o]] w (SpanPost w (nomQ s z 0) (nomQ s z (2 ^ b.toNat - 1)) 0) := by
 have hc := fun W hW => checkAdc_ok h W hW
 have hnm := fun code W lo hi => nominal_calls h code W lo hi
 have hlo := h.blo
 have hhi := h.bhi
 obtain ⟨tp, htp⟩ : ∃ tp : Int, 2 ^ b.toNat - 1 = tp := ⟨_, rfl⟩
 have htp1 := top_bd hlo hhi
 rw [htp] at htp1 ⊢
 have sx := (nomQ_fb h (code := 0) (by omega) (by omega)).mono (show 33 ≤ 62 by omega) |>.sm
 have sy := (nomQ_fb h (code := tp) (by omega) (by omega)).mono (show 33 ≤ 62 by omega) |>.sm
 obtain ⟨x, hx⟩ : ∃ x, nomQ s z 0 = x := ⟨_, rfl⟩
 obtain ⟨y, hy⟩ : ∃ y, nomQ s z tp = y := ⟨_, rfl⟩
 have hx' : stepQ s * ((0 - z : Int) : Rat) = x := hx
 have hy' : stepQ s * ((tp - z : Int) : Rat) = y := hy
 rw [hx] at sx ⊢
 rw [hy] at sy ⊢
 have hsp := fun (W : World) va vb h1 h2 hW => span_calls va vb x y W h1 h2 sx sy hW
 unfold SpanPost spanV at hsp ⊢
 obtain ⟨X, hX⟩ : ∃ X, rtext x = X := ⟨_, rfl⟩
 obtain ⟨Y, hY⟩ : ∃ Y, rtext y = Y := ⟨_, rfl⟩
 rw [hX, hY] at hsp ⊢
 clear h hx hy sx sy hX hY
 have HC := Lib.hid hc
 have HNM := Lib.hid hnm
 have HLO := Lib.hid hlo
 have HHI := Lib.hid hhi
 have HTP := Lib.hid htp
 have HTP1 := Lib.hid htp1
 have HX := Lib.hid hx'
 have HY := Lib.hid hy'
 have HSP := Lib.hid hsp
 have HE := Lib.hid he
 clear hc hnm hlo hhi htp htp1 hx' hy' hsp he
 go_enter Tryz.func47, Tryz.ntmps47
 go_wp2_with fail
 have BA := Lib.hid ((Box.alloc w (w.heap.size) 91 #[.int .i64 b, .int .i64 s, .int .i64 z, .string g, .string o] (by simp)).new ((New.refl _).alloc (.cells #[.string ⟨#[]⟩, .string ⟨#[]⟩] 94)))
 have BP := Lib.hid ((Box.alloc (w.alloc (.cells #[.int .i64 b, .int .i64 s, .int .i64 z, .string g, .string o] 91)) (w.heap.size + 1) 94 #[.string ⟨#[]⟩, .string ⟨#[]⟩] (by simp)).new (New.refl _))
 have HN := Lib.hid (((New.refl w).alloc (.cells #[.int .i64 b, .int .i64 s, .int .i64 z, .string g, .string o] 91)).alloc (.cells #[.string ⟨#[]⟩, .string ⟨#[]⟩] 94))
 refine (HC.out _ (HE.out.new HN.out)).mono ?_
 rintro e w1 ⟨rfl, hn⟩
 replace BA := Lib.hid (BA.out.new hn)
 replace BP := Lib.hid (BP.out.new hn)
 replace HN := Lib.hid (HN.out.trans hn)
 clear hn
 obtain ⟨⟨pa0, pa1, pa2, pa3, pa4⟩, pa5⟩ := BA.out.five
 go_wp2_with fail
 refine wp_region_T 9 (fun W => W.cell? ⟨w.heap.size, 0, none⟩ = some (.int .i64 b) ∧ W.cell? ⟨w.heap.size, 1, none⟩ = some (.int .i64 s) ∧ W.cell? ⟨w.heap.size, 2, none⟩ = some (.int .i64 z) ∧ W.cell? ⟨w.heap.size, 3, none⟩ = some (.string g) ∧ W.cell? ⟨w.heap.size, 4, none⟩ = some (.string o)) 11 #[false, false, false, false, false, false, false, false, false, false, false] rfl (by kernel_rfl) (by kernel_rfl) ?_
 refine wpT_take 0 (v := ?_) rfl (by kernel_rfl) (fun _ _ _ h => h) (by exact ⟨pa0, pa1, pa2, pa3, pa4⟩) (Or.inl ⟨by first | kernel_rfl | rfl, ?_⟩) ?_
 rotate_left
 ·(intro W hW; (try dsimp only at hW); go_simp; try with_reducible rfl)
 try simp only [PT]
 refine wpT_take 2 (v := ?_) rfl (by kernel_rfl) (fun _ _ _ h => h) (by exact ⟨pa0, pa1, pa2, pa3, pa4⟩) (Or.inl ⟨by first | kernel_rfl | rfl, ?_⟩) ?_
 rotate_left
 ·(intro W hW; (try dsimp only at hW); go_simp; try with_reducible rfl)
 try simp only [PT]
 refine wpT_take 3 (v := ?_) rfl (by kernel_rfl) (fun _ _ _ h => h) (by exact ⟨pa0, pa1, pa2, pa3, pa4⟩) (Or.inl ⟨by first | kernel_rfl | rfl, ?_⟩) ?_
 rotate_left
 ·(intro W hW; (try dsimp only at hW); go_simp; try with_reducible rfl)
 try simp only [PT]
 refine wpT_one 1 rfl (by kernel_rfl) (fun K hK => ?_)
 go_simp
 refine (HNM.out 0 _ (by omega) (by omega)).mono ?_
 rintro e w2 ⟨v2, rfl, hn, hf⟩
 rw [HX.out] at hf
 have hn := hn.undrew
 have HF2 := Lib.hid hf
 clear hf
 clear pa0 pa1 pa2 pa3 pa4 pa5
 replace BA := Lib.hid (BA.out.new hn)
 replace BP := Lib.hid (BP.out.new hn)
 replace HN := Lib.hid (HN.out.trans hn)
 clear hn
 obtain ⟨⟨pa0, pa1, pa2, pa3, pa4⟩, pa5⟩ := BA.out.five
 refine hK.out _ _ (fun _ => ?_) ?_
 ·exact ⟨pa0, pa1, pa2, pa3, pa4⟩
 clear hK K
 try simp only [PT]
 refine wpT_one 4 rfl (by kernel_rfl) (fun K hK => ?_)
 go_simp
 refine (top_calls b s z g o _ HLO.out HHI.out).mono ?_
 rintro e w3 ⟨rfl, hn⟩
 rw [HTP.out]
 have HF2' := Lib.hid (HF2.out.new hn)
 clear HF2
 clear pa0 pa1 pa2 pa3 pa4 pa5
 replace BA := Lib.hid (BA.out.new hn)
 replace BP := Lib.hid (BP.out.new hn)
 replace HN := Lib.hid (HN.out.trans hn)
 clear hn
 obtain ⟨⟨pa0, pa1, pa2, pa3, pa4⟩, pa5⟩ := BA.out.five
 refine hK.out _ _ (fun _ => ?_) ?_
 ·exact ⟨pa0, pa1, pa2, pa3, pa4⟩
 clear hK K
 try simp only [PT]
 refine wpT_one 5 rfl (by kernel_rfl) (fun K hK => ?_)
 go_simp
 refine (HNM.out tp _ (by have := HTP1.out; omega) (by have := HTP1.out; omega)).mono ?_
 rintro e w4 ⟨v4, rfl, hn, hf⟩
 rw [HY.out] at hf
 have HF2 := Lib.hid (HF2'.out.new hn)
 clear HF2'
 have HF4 := Lib.hid hf
 clear hf
 clear pa0 pa1 pa2 pa3 pa4 pa5
 replace BA := Lib.hid (BA.out.new hn)
 replace BP := Lib.hid (BP.out.new hn)
 replace HN := Lib.hid (HN.out.trans hn)
 clear hn
 obtain ⟨⟨pa0, pa1, pa2, pa3, pa4⟩, pa5⟩ := BA.out.five
 refine hK.out _ _ (fun _ => ?_) ?_
 ·exact ⟨pa0, pa1, pa2, pa3, pa4⟩
 clear hK K
 try simp only [PT]
 refine wpT_one 6 rfl (by kernel_rfl) (fun K hK => ?_)
 go_simp
 refine (HSP.out _ _ _ HF2.out HF4.out (HE.out.new HN.out)).mono ?_
 rintro e w5 ⟨rfl, hn⟩
 clear HF2 HF4
 clear pa0 pa1 pa2 pa3 pa4 pa5
 replace BA := Lib.hid (BA.out.new hn)
 replace BP := Lib.hid (BP.out.new hn)
 replace HN := Lib.hid (HN.out.trans hn)
 clear hn
 obtain ⟨⟨pa0, pa1, pa2, pa3, pa4⟩, pa5⟩ := BA.out.five
 refine hK.out _ _ (fun _ => ?_) ?_
 ·exact ⟨pa0, pa1, pa2, pa3, pa4⟩
 clear hK K
 try simp only [PT]
 refine wpT_take 7 (v := ?_) rfl (by kernel_rfl) (fun _ _ _ h => h) (by exact ⟨pa0, pa1, pa2, pa3, pa4⟩) (Or.inl ⟨by first | kernel_rfl | rfl, ?_⟩) ?_
 rotate_left
 ·(intro W hW; (try dsimp only at hW); go_simp; try with_reducible rfl)
 try simp only [PT]
 refine wpT_take 8 (v := ?_) rfl (by kernel_rfl) (fun _ _ _ h => h) (by exact ⟨pa0, pa1, pa2, pa3, pa4⟩) (Or.inl ⟨by first | kernel_rfl | rfl, ?_⟩) ?_
 rotate_left
 ·(intro W hW; (try dsimp only at hW); go_simp; try with_reducible rfl)
 try simp only [PT]
 refine wpT_tail rfl (by kernel_rfl) ?_
 simp only [List.drop_succ_cons, List.drop_zero]
 obtain ⟨p0, p1, p2, p3, p4⟩ := BP.out.two
 go_wp2_with fail
 refine bodyPost_ret (v := .tuple #[.agg #[.string X, .string Y], .int .i64 0]) (by simp [results, Tryz.results47, go_sem, p0, p1]) rfl ?_
 exact ⟨rfl, HN.out.putAt BP.out (by omega) _ _⟩
end Go.Proofs.YtlfnibjmkfldgaaGreatDoor
