/- Part CardLines03. -/
import Derived.Deep.DeepCutAuto
import Derived.Laws.AppendOwnNone
import Derived.Test.YtlfnibjmkfldgaaGreatDoorA24
import Derived.Test.YtlfnibjmkfldgaaGreatDoorA29
import Derived.Test.YtlfnibjmkfldgaaGreatDoorA32
import Derived.Test.YtlfnibjmkfldgaaGreatDoorA33
import Derived.Test.YtlfnibjmkfldgaaGreatDoorCardLines01
import Derived.Test.YtlfnibjmkfldgaaGreatDoorCardLines02
namespace Go.Proofs.YtlfnibjmkfldgaaGreatDoor
open Go.RowKit Big
def AwakeOk : Prop := ∀ w, Env w → Calls Tryz.prog 12 #[] w fun e w' => e = .returned (.bool true) ∧ New w w'
set_option maxRecDepth 100000 in
set_option maxHeartbeats 4000000 in
theorem lines_long (haw : AwakeOk) (n m : Nat) (a b : Option Addr) (ca cb : Nat) (lo hi : Nat) (w : World) (he : Env w)
  (h : ((n : Int) ≤ 64 || (4096 < (n : Int) && (n : Int) ≤ 4098)) = false ∨ ((m : Int) ≤ 64 || (4096 < (m : Int) && (m : Int) ≤ 4098)) = false) :
  Calls Tryz.prog 3 #[.slice a n ca, .agg #[.float .f32 lo, .float .f32 hi], .slice b m cb] w fun e w' => e = .returned (.bool true) ∧ New w w' := by
 have h1 := fun W => Length_calls n 64 W
 have h2 := fun W => Length_calls m 64 W
 obtain ⟨p, hp⟩ : ∃ p : Bool, ((n : Int) ≤ 64 || (4096 < (n : Int) && (n : Int) ≤ 4098)) = p := ⟨_, rfl⟩
 obtain ⟨q, hq⟩ : ∃ q : Bool, ((m : Int) ≤ 64 || (4096 < (m : Int) && (m : Int) ≤ 4098)) = q := ⟨_, rfl⟩
 simp only [hp] at h1 h
 simp only [hq] at h2 h
 clear hp hq
 have H1 := Lib.hid h1
 have H2 := Lib.hid h2
 have HE := Lib.hid he
 have HAW := Lib.hid haw
 clear h1 h2 he haw
 cases p with
 | false =>
  clear h
  go_enter Tryz.func3, Tryz.ntmps3
  go_wp2_with fail
  have BA := Lib.hid ((Box.alloc w (w.heap.size) 25 #[.float .f32 lo, .float .f32 hi] (by simp)).new (New.refl _))
  have HN := Lib.hid ((New.refl w).alloc (.cells #[.float .f32 lo, .float .f32 hi] 25))
  refine (H1.out _).mono ?_
  rintro e w' ⟨rfl, rfl⟩
  go_wp2_with fail
  refine (HAW.out _ (HE.out.new HN.out)).mono ?_
  rintro e w' ⟨rfl, hn⟩
  replace BA := Lib.hid (BA.out.new hn)
  replace HN := Lib.hid (HN.out.trans hn)
  clear hn
  go_wp2_with fail
  go_ret
  exact ⟨rfl, HN.out⟩
 | true =>
  obtain rfl : q = false := by simpa using h
  clear h
  go_enter Tryz.func3, Tryz.ntmps3
  go_wp2_with fail
  have BA := Lib.hid ((Box.alloc w (w.heap.size) 25 #[.float .f32 lo, .float .f32 hi] (by simp)).new (New.refl _))
  have HN := Lib.hid ((New.refl w).alloc (.cells #[.float .f32 lo, .float .f32 hi] 25))
  refine (H1.out _).mono ?_
  rintro e w' ⟨rfl, rfl⟩
  go_wp2_with fail
  refine (H2.out _).mono ?_
  rintro e w' ⟨rfl, rfl⟩
  go_wp2_with fail
  refine (HAW.out _ (HE.out.new HN.out)).mono ?_
  rintro e w' ⟨rfl, hn⟩
  replace BA := Lib.hid (BA.out.new hn)
  replace HN := Lib.hid (HN.out.trans hn)
  clear hn
  go_wp2_with fail
  go_ret
  exact ⟨rfl, HN.out⟩
theorem flts_one (xs : List Nat) : ∀ u ∈ flts xs, u.oneCell' = true := by intro u hu; simp [flts] at hu; obtain ⟨x, -, rfl⟩ := hu; rfl
theorem bools_one (xs : List Bool) : ∀ u ∈ bools xs, u.oneCell' = true := by intro u hu; simp [bools] at hu; rcases hu with ⟨-, rfl⟩ | ⟨-, rfl⟩ <;> rfl
theorem samei_nil (a : Option Addr) (cap : Nat) (xs : List Int) (w : World) (h : xs = []) :
  Calls Tryz.prog 23 #[.slice a xs.length cap, .slice none 0 0] w fun e w' => e = .returned (.bool true) ∧ New w w' := by
 subst h
 exact same_ints a none cap 0 [] [] w (by simp) rfl (rdl_nil _ _) (rdl_nil _ _) (by intro k h; simp at h)
theorem sameb_nil (a : Option Addr) (cap : Nat) (xs : List Bool) (w : World) (h : xs = []) :
  Calls Tryz.prog 22 #[.slice a xs.length cap, .slice none 0 0] w fun e w' => e = .returned (.bool true) ∧ New w w' := by
 subst h
 exact same_bools a none cap 0 [] [] w (by simp) rfl (rdl_nil _ _) (rdl_nil _ _) (by intro k h; simp at h)
theorem chg_len2 (l : List Bool) : ∀ (b : Bool) (k : Nat), (chg b k l).length ≤ l.length := by
 intro b k; exact chg_len l b k
set_option maxRecDepth 100000 in
set_option maxHeartbeats 8000000 in
theorem lines_main (haw : AwakeOk) (n m : Nat) (a b : Option Addr) (ca cb : Nat) (lo hi : Nat) (xs : List Nat) (ls : List Bool) (w : World) (he : Env w) (hn : xs.length = n) (hm : ls.length = m) (hn4 : n ≤ 4098) (hm4 : m ≤ 4098)
  (hp : ((n : Int) ≤ 64 || (4096 < (n : Int) && (n : Int) ≤ 4098)) = true) (hq : ((m : Int) ≤ 64 || (4096 < (m : Int) && (m : Int) ≤ 4098)) = true)
  (hr : RdL w a (flts xs)) (hrb : RdL w b (bools ls)) (hza : a = none → ca = 0) (hzb : b = none → cb = 0) :
  Calls Tryz.prog 3 #[.slice a n ca, .agg #[.float .f32 lo, .float .f32 hi], .slice b m cb] w fun e w' => e = .returned (.bool true) ∧ New w w' := by
 have h1 := fun W => Length_calls n 64 W
 have h2 := fun W => Length_calls m 64 W
 simp only [hp] at h1
 simp only [hq] at h2
 clear hp hq
 have hf : ∀ W, New w W → Calls Tryz.prog 14 #[.slice a n ca] W (RdPost W n (flts xs)) := by
  intro W hW
  have hl : (flts xs).length = n := by simp [flts, hn]
  have := floats_calls a ca (flts xs) W (by omega) (hr.new hW) hza (flts_one xs)
  rw [hl] at this
  exact this
 have hb : ∀ W, New w W → Calls Tryz.prog 16 #[.slice b m cb] W (RdPost W m (bools ls)) := by
  intro W hW
  have hl : (bools ls).length = m := by simp [bools, hm]
  have := bools_calls b cb (bools ls) W (by omega) (hrb.new hW) hzb (bools_one ls)
  rw [hl] at this
  exact this
 have hmi : (m : Int) ≤ 4098 := by omega
 obtain ⟨e1, he1⟩ : ∃ e1, digitalErr xs lo hi = e1 := ⟨_, rfl⟩
 obtain ⟨s, hs⟩ : ∃ s, samplesErr xs = s := ⟨_, rfl⟩
 obtain ⟨lv, hlv⟩ : ∃ lv, levelsErr lo hi = lv := ⟨_, rfl⟩
 have hsam : ∀ W, New w W → Calls Tryz.prog 17 #[.slice a n ca] W (RetNew W s) := by
  intro W hW
  have := rsamples_calls a ca xs W (by omega) (hr.new hW)
  rw [hn, hs] at this
  exact this
 have hle : ∀ W, Calls Tryz.prog 18 #[.agg #[.float .f32 lo, .float .f32 hi]] W (RetNew W lv) := by
  intro W
  have := rlevels_calls lo hi W
  rw [hlv] at this
  exact this
 have hpl : ∀ W, Calls Tryz.prog 21 #[.agg #[.float .f32 lo, .float .f32 hi]] W (RetNew W lv) := by
  intro W
  have := levels_calls lo hi W
  rw [← hlv]
  exact this
 have hE1 : e1 = if s = 0 then lv else s := by rw [← he1, ← hs, ← hlv]; rfl
 obtain ⟨e2, he2⟩ : ∃ e2, manyE m = e2 := ⟨_, rfl⟩
 have H1 := Lib.hid h1
 have H2 := Lib.hid h2
 have HE := Lib.hid he
 have HAW := Lib.hid haw
 have HF := Lib.hid hf
 have HB := Lib.hid hb
 have HNN := Lib.hid hn
 have HMM := Lib.hid hm
 have HN4 := Lib.hid hn4
 have HM4 := Lib.hid hm4
 have HR := Lib.hid hr
 have HRB := Lib.hid hrb
 have HE1 := Lib.hid he1
 have HE2 := Lib.hid he2
 have HSS := Lib.hid hs
 have HLV := Lib.hid hlv
 have HSAM := Lib.hid hsam
 have HLE := Lib.hid hle
 have HPL := Lib.hid hpl
 have HEE := Lib.hid hE1
 clear h1 h2 he haw hf hb hn hm hn4 hm4 hr hrb he1 he2 hs hlv hsam hle hpl hE1
 have sbl : ∀ v, (digL xs lo hi v).length ≤ 1000000 := by
  intro v; unfold digL; split
  ·rw [keepL_len]; have := HNN.out; have := HN4.out; omega
  ·simp
 have sil : ∀ v, (chgL ls v).length ≤ 1000000 := by
  intro v; unfold chgL; split
  ·simp
  ·have := chg_len2 ls v 0; have := HMM.out; have := HM4.out; omega
 have SBL := Lib.hid sbl
 have SIL := Lib.hid sil
 clear sbl sil
 clear hza hzb
 go_enter Tryz.func3, Tryz.ntmps3
 go_wp2_with fail
 have BA := Lib.hid ((Box.alloc w (w.heap.size) 25 #[.float .f32 lo, .float .f32 hi] (by simp)).new (New.refl _))
 have HN := Lib.hid ((New.refl w).alloc (.cells #[.float .f32 lo, .float .f32 hi] 25))
 refine (H1.out _).mono ?_
 rintro e w' ⟨rfl, rfl⟩
 go_wp2_with fail
 refine (H2.out _).mono ?_
 rintro e w' ⟨rfl, rfl⟩
 clear H1 H2
 go_wp2_with fail
 clear HN BA
 have BA := Lib.hid ((Box.alloc w (w.heap.size) 25 #[.float .f32 lo, .float .f32 hi] (by simp)).new ((New.refl _).alloc (.cells #[.bool false, .bool true] 4)))
 have BB := Lib.hid ((Box.alloc (w.alloc (.cells #[.float .f32 lo, .float .f32 hi] 25)) (w.heap.size + 1) 4 #[.bool false, .bool true] (by simp)).new (New.refl _))
 have HN := Lib.hid (((New.refl w).alloc (.cells #[.float .f32 lo, .float .f32 hi] 25)).alloc (.cells #[.bool false, .bool true] 4))
 generalize (w.alloc (.cells #[.float .f32 lo, .float .f32 hi] 25)).alloc (.cells #[.bool false, .bool true] 4) = w0 at *
 go_loopw [30] (fun i wr => ∃ (k : Nat), k ≤ 2 ∧ i = .int .i64 (k : Int) ∧ Hid (New w0 wr)) (fun i _ => 2 - (intOf i).toNat)
 case atStart => exact ⟨0, Nat.zero_le _, rfl, Lib.hid (New.refl _)⟩
 case round =>
  obtain ⟨k, hk, rfl, HM⟩ := hrel
  by_cases hlt : k < 2
  ·obtain ⟨y, hy⟩ : ∃ y : Bool, wr.cell? ⟨w.heap.size + 1, k, none⟩ = some (.bool y) := by
    match k, hlt with
    | 0, _ => exact ⟨false, HM.out.cell (BB.out.cell 0)⟩
    | 1, _ => exact ⟨true, HM.out.cell (BB.out.cell 1)⟩
   go_wp2_with fail
   have BAr := Lib.hid (BA.out.new HM.out)
   have HNr := Lib.hid (HN.out.trans HM.out)
   have BArr := BAr.out
   obtain ⟨pa0, pa1, pa2, pa3, pa4⟩ := BArr.two
   clear BArr
   refine wp_region_T 9 (fun W => W.cell? ⟨w.heap.size, 0, none⟩ = some (.float .f32 lo) ∧ W.cell? ⟨w.heap.size, 1, none⟩ = some (.float .f32 hi)) 10 #[false, false, false, false, false, false, false, false, false, false] rfl (by kernel_rfl) (by kernel_rfl) ?_
   refine wpT_take 0 (v := ?_) rfl (by kernel_rfl) (fun _ _ _ h => h) (by exact ⟨pa0, pa1⟩) (Or.inl ⟨by first | kernel_rfl | rfl, ?_⟩) ?_
   rotate_left
   ·(intro W hW; (try dsimp only at hW); go_simp; try with_reducible rfl)
   try simp only [PT]
   refine wpT_take 2 (v := ?_) rfl (by kernel_rfl) (fun _ _ _ h => h) (by exact ⟨pa0, pa1⟩) (Or.inl ⟨by first | kernel_rfl | rfl, ?_⟩) ?_
   rotate_left
   ·(intro W hW; (try dsimp only at hW); go_simp; try with_reducible rfl)
   try simp only [PT]
   refine wpT_take 3 (v := ?_) rfl (by kernel_rfl) (fun _ _ _ h => h) (by exact ⟨pa0, pa1⟩) (Or.inl ⟨by first | kernel_rfl | rfl, ?_⟩) ?_
   rotate_left
   ·(intro W hW; (try dsimp only at hW); go_simp; try with_reducible rfl)
   try simp only [PT]
   refine wpT_one 1 rfl (by kernel_rfl) (fun K hK => ?_)
   go_simp
   refine (HF.out _ (HNr.out.drew)).mono ?_
   rintro e w1 ⟨a6, c6, rfl, hn, hr6, -⟩
   have hn := hn.undrew
   have HN1 := Lib.hid (HM.out.trans hn)
   have hr6_ := hr6
   clear hr6 hn pa0 pa1 pa2 pa3 pa4
   have HR6 := Lib.hid hr6_
   clear hr6_
   have BA1 := Lib.hid (BA.out.new HN1.out)
   obtain ⟨pa0, pa1, pa2, pa3, pa4⟩ := BA1.out.two
   refine hK.out _ _ (fun _ => ?_) ?_
   ·exact ⟨pa0, pa1⟩
   clear hK K
   try simp only [PT]
   refine wpT_one 4 rfl (by kernel_rfl) (fun K hK => ?_)
   go_simp
   refine (pdig_calls _ _ n xs lo hi y _ HNN.out (by have := HN4.out; omega) HR6.out).mono ?_
   rintro e w2 ⟨a7, c7, rfl, hn, hr7⟩
   have HN2 := Lib.hid (HN1.out.trans hn)
   clear hn pa0 pa1 pa2 pa3 pa4 HN1 HR6 BA1
   rw [HE1.out]
   have HR7 := Lib.hid hr7
   clear hr7
   have BA2 := Lib.hid (BA.out.new HN2.out)
   obtain ⟨pa0, pa1, pa2, pa3, pa4⟩ := BA2.out.two
   refine hK.out _ _ (fun _ => ?_) ?_
   ·exact ⟨pa0, pa1⟩
   clear hK K
   try simp only [PT]
   refine wpT_take 5 (v := ?_) rfl (by kernel_rfl) (fun _ _ _ h => h) (by exact ⟨pa0, pa1⟩) (Or.inl ⟨by first | kernel_rfl | rfl, ?_⟩) ?_
   rotate_left
   ·(intro W hW; (try dsimp only at hW); go_simp; try with_reducible rfl)
   try simp only [PT]
   refine wpT_take 6 (v := ?_) rfl (by kernel_rfl) (fun _ _ _ h => h) (by exact ⟨pa0, pa1⟩) (Or.inl ⟨by first | kernel_rfl | rfl, ?_⟩) ?_
   rotate_left
   ·(intro W hW; (try dsimp only at hW); go_simp; try with_reducible rfl)
   try simp only [PT]
   refine wpT_take 7 (v := ?_) rfl (by kernel_rfl) (fun _ _ _ h => h) (by exact ⟨pa0, pa1⟩) (Or.inl ⟨by first | kernel_rfl | rfl, ?_⟩) ?_
   rotate_left
   ·(intro W hW; (try dsimp only at hW); go_simp; try with_reducible rfl)
   try simp only [PT]
   refine wpT_take 8 (v := ?_) rfl (by kernel_rfl) (fun _ _ _ h => h) (by exact ⟨pa0, pa1⟩) (Or.inl ⟨by first | kernel_rfl | rfl, ?_⟩) ?_
   rotate_left
   ·(intro W hW; (try dsimp only at hW); go_simp; try with_reducible rfl)
   try simp only [PT]
   refine wpT_tail rfl (by kernel_rfl) ?_
   simp only [List.drop_succ_cons, List.drop_zero]
   clear pa0 pa1 pa2 pa3 pa4 BAr HNr
   go_wp2_with fail
   refine (HB.out _ (HN.out.trans HN2.out)).mono ?_
   rintro e w3 ⟨a8, c8, rfl, hn, hr8, -⟩
   replace HR7 := Lib.hid (HR7.out.new hn)
   have HN3 := Lib.hid (HN2.out.trans hn)
   clear hn HN2 BA2
   go_wp2_with fail
   refine (pchg_calls _ _ m ls y _ HMM.out (by have := HM4.out; omega) hr8).mono ?_
   rintro e w4 ⟨a9, c9, rfl, hn, hr9⟩
   rw [HE2.out]
   replace HR7 := Lib.hid (HR7.out.new hn)
   have HN4' := Lib.hid (HN3.out.trans hn)
   clear hn HN3 hr8
   have HR9 := Lib.hid hr9
   clear hr9
   go_wp2_with fail
   refine (HSAM.out _ (HN.out.trans HN4'.out)).mono ?_
   rintro e w5 ⟨rfl, hn⟩
   replace HR7 := Lib.hid (HR7.out.new hn)
   replace HR9 := Lib.hid (HR9.out.new hn)
   have HN5 := Lib.hid (HN4'.out.trans hn)
   clear hn HN4'
   by_cases hs0 : s = 0
   ·have hee := HEE.out
    rw [if_pos hs0] at hee
    subst hs0
    obtain rfl := hee
    obtain ⟨⟨pa0, pa1, pa2, pa3, pa4⟩⟩ : Nonempty _ := ⟨(BA.out.new HN5.out).two⟩
    go_wp2_with fail
    clear pa0 pa1 pa2 pa3 pa4
    refine (HLE.out _).mono ?_
    rintro e w6 ⟨rfl, hn⟩
    replace HR7 := Lib.hid (HR7.out.new hn)
    replace HR9 := Lib.hid (HR9.out.new hn)
    have HN6 := Lib.hid (HN5.out.trans hn)
    clear hn HN5
    by_cases hl0 : e1 = 0
    ·obtain ⟨pa0, pa1, pa2, pa3, pa4⟩ := (BA.out.new HN6.out).two
     have HD0 := Lib.hid (HE1.out.trans hl0)
     subst hl0
     go_wp2_with fail
     clear pa0 pa1 pa2 pa3 pa4
     refine (rdig_calls a ca n xs lo hi y _ HNN.out (HR.out.new (HN.out.trans HN6.out)) HD0.out).mono ?_
     rintro e w7 ⟨a14, c14, rfl, hn, hr14⟩
     replace HR7 := Lib.hid (HR7.out.new hn)
     replace HR9 := Lib.hid (HR9.out.new hn)
     have HN7 := Lib.hid (HN6.out.trans hn)
     clear hn HN6
     have HR14 := Lib.hid hr14
     clear hr14
     by_cases h4 : (4096 : Int) < (m : Int)
     ·have he25 : e2 = 5 := by rw [← HE2.out]; unfold manyE; rw [if_pos (by omega)]
      subst he25
      have hcn : chgL ls y = [] := by unfold chgL; rw [if_pos (by rw [HMM.out]; omega)]
      have hsb := fun W hW => sameb_self a7 a14 c7 c14 (digL xs lo hi y) W (SBL.out y) (HR7.out.new hW) (HR14.out.new hW)
      have hsi : ∀ W, New w7 W → _ := fun W _ => samei_nil a9 c9 (chgL ls y) W hcn
      have HSB := Lib.hid hsb
      have HSI := Lib.hid hsi
      have HCN := Lib.hid hcn
      clear hsb hsi hcn
      clear HR7 HR14 HR9
      have HN8 := HN7
      clear HN7
      go_wp2_with fail
      obtain ⟨pa0, pa1, pa2, pa3, pa4⟩ := (BA.out.new HN8.out).two
      refine wp_region_T 26 (fun W => W.cell? ⟨w.heap.size, 0, none⟩ = some (.float .f32 lo) ∧ W.cell? ⟨w.heap.size, 1, none⟩ = some (.float .f32 hi)) 27 #[false, false, false, false, false, false, false, false, false, false, false, false, false, false, false, false, false, false, false, false, false, false, false, false, false, false, false] rfl (by kernel_rfl) (by kernel_rfl) ?_
      refine wpT_take 0 (v := ?_) rfl (by kernel_rfl) (fun _ _ _ h => h) (by exact ⟨pa0, pa1⟩) (Or.inl ⟨by first | kernel_rfl | rfl, ?_⟩) ?_
      rotate_left
      ·(intro W hW; (try dsimp only at hW); go_simp; try with_reducible rfl)
      try simp only [PT]
      refine wpT_take 2 (v := ?_) rfl (by kernel_rfl) (fun _ _ _ h => h) (by exact ⟨pa0, pa1⟩) (Or.inl ⟨by first | kernel_rfl | rfl, ?_⟩) ?_
      rotate_left
      ·(intro W hW; (try dsimp only at hW); go_simp; try with_reducible rfl)
      try simp only [PT]
      refine wpT_one 1 rfl (by kernel_rfl) (fun K hK => ?_)
      go_simp
      refine (HPL.out _).mono ?_
      rintro e z1 ⟨rfl, hn⟩
      have HZ := Lib.hid hn.undrew
      clear hn pa0 pa1 pa2 pa3 pa4
      obtain ⟨pa0, pa1, pa2, pa3, pa4⟩ := (BA.out.new (HN8.out.trans HZ.out)).two
      refine hK.out _ _ (fun _ => ?_) ?_
      ·exact ⟨pa0, pa1⟩
      clear hK K
      try simp only [PT]
      refine wpT_one 3 rfl (by kernel_rfl) (fun K hK => ?_)
      go_simp
      refine (HLE.out _).mono ?_
      rintro e z2 ⟨rfl, hn⟩
      have HZ2 := Lib.hid (HZ.out.trans hn)
      clear hn pa0 pa1 pa2 pa3 pa4 HZ
      obtain ⟨pa0, pa1, pa2, pa3, pa4⟩ := (BA.out.new (HN8.out.trans HZ2.out)).two
      refine hK.out _ _ (fun _ => ?_) ?_
      ·exact ⟨pa0, pa1⟩
      clear hK K
      try simp only [PT]
      refine wpT_take 4 (v := ?_) rfl (by kernel_rfl) (fun _ _ _ h => h) (by exact ⟨pa0, pa1⟩) (Or.inl ⟨by first | kernel_rfl | rfl, ?_⟩) ?_
      rotate_left
      ·(intro W hW; (try dsimp only at hW); go_simp; try with_reducible rfl)
      try simp only [PT]
      refine wpT_take 5 (v := ?_) rfl (by kernel_rfl) (fun _ _ _ h => h) (by exact ⟨pa0, pa1⟩) (Or.inl ⟨by first | kernel_rfl | rfl, ?_⟩) ?_
      rotate_left
      ·(intro W hW; (try dsimp only at hW); go_simp; try with_reducible rfl)
      try simp only [PT]
      refine wpT_take 6 (v := ?_) rfl (by kernel_rfl) (fun _ _ _ h => h) (by exact ⟨pa0, pa1⟩) (Or.inl ⟨by first | kernel_rfl | rfl, ?_⟩) ?_
      rotate_left
      ·(intro W hW; (try dsimp only at hW); go_simp; try with_reducible rfl)
      try simp only [PT]
      refine wpT_take 7 (v := ?_) rfl (by kernel_rfl) (fun _ _ _ h => h) (by exact ⟨pa0, pa1⟩) (Or.inl ⟨by first | kernel_rfl | rfl, ?_⟩) ?_
      rotate_left
      ·(intro W hW; (try dsimp only at hW); go_simp; try with_reducible rfl)
      try simp only [PT]
      refine wpT_one 8 rfl (by kernel_rfl) (fun K hK => ?_)
      go_simp
      refine (HSB.out _ HZ2.out).mono ?_
      rintro e z3 ⟨rfl, hn⟩
      have HZ3 := Lib.hid (HZ2.out.trans hn)
      clear hn pa0 pa1 pa2 pa3 pa4 HZ2
      obtain ⟨pa0, pa1, pa2, pa3, pa4⟩ := (BA.out.new (HN8.out.trans HZ3.out)).two
      refine hK.out _ _ (fun _ => ?_) ?_
      ·exact ⟨pa0, pa1⟩
      clear hK K
      try simp only [PT]
      refine wpT_take 9 (v := ?_) rfl (by kernel_rfl) (fun _ _ _ h => h) (by exact ⟨pa0, pa1⟩) (Or.inl ⟨by first | kernel_rfl | rfl, ?_⟩) ?_
      rotate_left
      ·(intro W hW; (try dsimp only at hW); go_simp; try with_reducible rfl)
      try simp only [PT]
      refine wpT_take 10 (v := ?_) rfl (by kernel_rfl) (fun _ _ _ h => h) (by exact ⟨pa0, pa1⟩) (Or.inl ⟨by first | kernel_rfl | rfl, ?_⟩) ?_
      rotate_left
      ·(intro W hW; (try dsimp only at hW); go_simp; try with_reducible rfl)
      try simp only [PT]
      refine wpT_take 11 (v := ?_) rfl (by kernel_rfl) (fun _ _ _ h => h) (by exact ⟨pa0, pa1⟩) (Or.inl ⟨by first | kernel_rfl | rfl, ?_⟩) ?_
      rotate_left
      ·(intro W hW; (try dsimp only at hW); go_simp; try with_reducible rfl)
      try simp only [PT]
      refine wpT_take 12 (v := ?_) rfl (by kernel_rfl) (fun _ _ _ h => h) (by exact ⟨pa0, pa1⟩) (Or.inl ⟨by first | kernel_rfl | rfl, ?_⟩) ?_
      rotate_left
      ·(intro W hW; (try dsimp only at hW); go_simp; try with_reducible rfl)
      try simp only [PT]
      refine wpT_take 13 (v := ?_) rfl (by kernel_rfl) (fun _ _ _ h => h) (by exact ⟨pa0, pa1⟩) (Or.inl ⟨by first | kernel_rfl | rfl, ?_⟩) ?_
      rotate_left
      ·(intro W hW; (try dsimp only at hW); go_simp; try with_reducible rfl)
      try simp only [PT]
      refine wpT_take 14 (v := ?_) rfl (by kernel_rfl) (fun _ _ _ h => h) (by exact ⟨pa0, pa1⟩) (Or.inl ⟨by first | kernel_rfl | rfl, ?_⟩) ?_
      rotate_left
      ·(intro W hW; (try dsimp only at hW); go_simp; try with_reducible rfl)
      try simp only [PT]
      refine wpT_take 15 (v := ?_) rfl (by kernel_rfl) (fun _ _ _ h => h) (by exact ⟨pa0, pa1⟩) (Or.inl ⟨by first | kernel_rfl | rfl, ?_⟩) ?_
      rotate_left
      ·(intro W hW; (try dsimp only at hW); go_simp; try with_reducible rfl)
      try simp only [PT]
      refine wpT_take 16 (v := ?_) rfl (by kernel_rfl) (fun _ _ _ h => h) (by exact ⟨pa0, pa1⟩) (Or.inl ⟨by first | kernel_rfl | rfl, ?_⟩) ?_
      rotate_left
      ·(intro W hW; (try dsimp only at hW); go_simp; try with_reducible rfl)
      try simp only [PT]
      refine wpT_take 17 (v := ?_) rfl (by kernel_rfl) (fun _ _ _ h => h) (by exact ⟨pa0, pa1⟩) (Or.inl ⟨by first | kernel_rfl | rfl, ?_⟩) ?_
      rotate_left
      ·(intro W hW; (try dsimp only at hW); go_simp; try with_reducible rfl)
      try simp only [PT]
      refine wpT_take 18 (v := ?_) rfl (by kernel_rfl) (fun _ _ _ h => h) (by exact ⟨pa0, pa1⟩) (Or.inl ⟨by first | kernel_rfl | rfl, ?_⟩) ?_
      rotate_left
      ·(intro W hW; (try dsimp only at hW); go_simp; try with_reducible rfl)
      try simp only [PT]
      refine wpT_one 19 rfl (by kernel_rfl) (fun K hK => ?_)
      go_simp
      refine (HSI.out _ HZ3.out).mono ?_
      rintro e z4 ⟨rfl, hn⟩
      have HZ4 := Lib.hid (HZ3.out.trans hn)
      clear hn pa0 pa1 pa2 pa3 pa4 HZ3
      obtain ⟨pa0, pa1, pa2, pa3, pa4⟩ := (BA.out.new (HN8.out.trans HZ4.out)).two
      refine hK.out _ _ (fun _ => ?_) ?_
      ·exact ⟨pa0, pa1⟩
      clear hK K
      try simp only [PT]
      refine wpT_take 20 (v := ?_) rfl (by kernel_rfl) (fun _ _ _ h => h) (by exact ⟨pa0, pa1⟩) (Or.inl ⟨by first | kernel_rfl | rfl, ?_⟩) ?_
      rotate_left
      ·(intro W hW; (try dsimp only at hW); go_simp; try with_reducible rfl)
      try simp only [PT]
      refine wpT_take 21 (v := ?_) rfl (by kernel_rfl) (fun _ _ _ h => h) (by exact ⟨pa0, pa1⟩) (Or.inl ⟨by first | kernel_rfl | rfl, ?_⟩) ?_
      rotate_left
      ·(intro W hW; (try dsimp only at hW); go_simp; try with_reducible rfl)
      try simp only [PT]
      refine wpT_take 22 (v := ?_) rfl (by kernel_rfl) (fun _ _ _ h => h) (by exact ⟨pa0, pa1⟩) (Or.inl ⟨by first | kernel_rfl | rfl, ?_⟩) ?_
      rotate_left
      ·(intro W hW; (try dsimp only at hW); go_simp; try with_reducible rfl)
      try simp only [PT]
      refine wpT_take 23 (v := ?_) rfl (by kernel_rfl) (fun _ _ _ h => h) (by exact ⟨pa0, pa1⟩) (Or.inl ⟨by first | kernel_rfl | rfl, ?_⟩) ?_
      rotate_left
      ·(intro W hW; (try dsimp only at hW); go_simp; try with_reducible rfl)
      try simp only [PT]
      refine wpT_take 24 (v := ?_) rfl (by kernel_rfl) (fun _ _ _ h => h) (by exact ⟨pa0, pa1⟩) (Or.inl ⟨by first | kernel_rfl | rfl, ?_⟩) ?_
      rotate_left
      ·(intro W hW; (try dsimp only at hW); go_simp; try with_reducible rfl)
      try simp only [PT]
      refine wpT_take 25 (v := ?_) rfl (by kernel_rfl) (fun _ _ _ h => h) (by exact ⟨pa0, pa1⟩) (Or.inl ⟨by first | kernel_rfl | rfl, ?_⟩) ?_
      rotate_left
      ·(intro W hW; (try dsimp only at hW); go_simp; try with_reducible rfl)
      try simp only [PT]
      refine wpT_tail rfl (by kernel_rfl) ?_
      simp only [List.drop_succ_cons, List.drop_zero]
      clear pa0 pa1 pa2 pa3 pa4
      have HN9 := Lib.hid (HN8.out.trans HZ4.out)
      go_wp2_with fail
      go_roundw
      case rel => exact ⟨k + 1, by omega, by go_num, HN9⟩
      case measure => simp [intOf]; omega
     ·go_wp2_with fail
      refine (rchg_calls b cb m ls y _ HMM.out (by omega) (HRB.out.new (HN.out.trans HN7.out))).mono ?_
      rintro e w8 ⟨a16, c16, rfl, hn, hr16⟩
      replace HR7 := Lib.hid (HR7.out.new hn)
      replace HR9 := Lib.hid (HR9.out.new hn)
      replace HR14 := Lib.hid (HR14.out.new hn)
      have HN8 := Lib.hid (HN7.out.trans hn)
      clear hn HN7
      have HR16 := Lib.hid hr16
      clear hr16
      have he20 : e2 = 0 := by rw [← HE2.out]; unfold manyE; rw [if_neg (by omega)]
      subst he20
      have hsb := fun W hW => sameb_self a7 a14 c7 c14 (digL xs lo hi y) W (SBL.out y) (HR7.out.new hW) (HR14.out.new hW)
      have hsi := fun W hW => samei_self a9 a16 c9 c16 (chgL ls y) W (SIL.out y) (HR9.out.new hW) (HR16.out.new hW)
      have HSB := Lib.hid hsb
      have HSI := Lib.hid hsi
      clear hsb hsi
      clear HR7 HR14 HR9 HR16
      go_wp2_with fail
      obtain ⟨pa0, pa1, pa2, pa3, pa4⟩ := (BA.out.new HN8.out).two
      refine wp_region_T 26 (fun W => W.cell? ⟨w.heap.size, 0, none⟩ = some (.float .f32 lo) ∧ W.cell? ⟨w.heap.size, 1, none⟩ = some (.float .f32 hi)) 27 #[false, false, false, false, false, false, false, false, false, false, false, false, false, false, false, false, false, false, false, false, false, false, false, false, false, false, false] rfl (by kernel_rfl) (by kernel_rfl) ?_
      refine wpT_take 0 (v := ?_) rfl (by kernel_rfl) (fun _ _ _ h => h) (by exact ⟨pa0, pa1⟩) (Or.inl ⟨by first | kernel_rfl | rfl, ?_⟩) ?_
      rotate_left
      ·(intro W hW; (try dsimp only at hW); go_simp; try with_reducible rfl)
      try simp only [PT]
      refine wpT_take 2 (v := ?_) rfl (by kernel_rfl) (fun _ _ _ h => h) (by exact ⟨pa0, pa1⟩) (Or.inl ⟨by first | kernel_rfl | rfl, ?_⟩) ?_
      rotate_left
      ·(intro W hW; (try dsimp only at hW); go_simp; try with_reducible rfl)
      try simp only [PT]
      refine wpT_one 1 rfl (by kernel_rfl) (fun K hK => ?_)
      go_simp
      refine (HPL.out _).mono ?_
      rintro e z1 ⟨rfl, hn⟩
      have HZ := Lib.hid hn.undrew
      clear hn pa0 pa1 pa2 pa3 pa4
      obtain ⟨pa0, pa1, pa2, pa3, pa4⟩ := (BA.out.new (HN8.out.trans HZ.out)).two
      refine hK.out _ _ (fun _ => ?_) ?_
      ·exact ⟨pa0, pa1⟩
      clear hK K
      try simp only [PT]
      refine wpT_one 3 rfl (by kernel_rfl) (fun K hK => ?_)
      go_simp
      refine (HLE.out _).mono ?_
      rintro e z2 ⟨rfl, hn⟩
      have HZ2 := Lib.hid (HZ.out.trans hn)
      clear hn pa0 pa1 pa2 pa3 pa4 HZ
      obtain ⟨pa0, pa1, pa2, pa3, pa4⟩ := (BA.out.new (HN8.out.trans HZ2.out)).two
      refine hK.out _ _ (fun _ => ?_) ?_
      ·exact ⟨pa0, pa1⟩
      clear hK K
      try simp only [PT]
      refine wpT_take 4 (v := ?_) rfl (by kernel_rfl) (fun _ _ _ h => h) (by exact ⟨pa0, pa1⟩) (Or.inl ⟨by first | kernel_rfl | rfl, ?_⟩) ?_
      rotate_left
      ·(intro W hW; (try dsimp only at hW); go_simp; try with_reducible rfl)
      try simp only [PT]
      refine wpT_take 5 (v := ?_) rfl (by kernel_rfl) (fun _ _ _ h => h) (by exact ⟨pa0, pa1⟩) (Or.inl ⟨by first | kernel_rfl | rfl, ?_⟩) ?_
      rotate_left
      ·(intro W hW; (try dsimp only at hW); go_simp; try with_reducible rfl)
      try simp only [PT]
      refine wpT_take 6 (v := ?_) rfl (by kernel_rfl) (fun _ _ _ h => h) (by exact ⟨pa0, pa1⟩) (Or.inl ⟨by first | kernel_rfl | rfl, ?_⟩) ?_
      rotate_left
      ·(intro W hW; (try dsimp only at hW); go_simp; try with_reducible rfl)
      try simp only [PT]
      refine wpT_take 7 (v := ?_) rfl (by kernel_rfl) (fun _ _ _ h => h) (by exact ⟨pa0, pa1⟩) (Or.inl ⟨by first | kernel_rfl | rfl, ?_⟩) ?_
      rotate_left
      ·(intro W hW; (try dsimp only at hW); go_simp; try with_reducible rfl)
      try simp only [PT]
      refine wpT_one 8 rfl (by kernel_rfl) (fun K hK => ?_)
      go_simp
      refine (HSB.out _ HZ2.out).mono ?_
      rintro e z3 ⟨rfl, hn⟩
      have HZ3 := Lib.hid (HZ2.out.trans hn)
      clear hn pa0 pa1 pa2 pa3 pa4 HZ2
      obtain ⟨pa0, pa1, pa2, pa3, pa4⟩ := (BA.out.new (HN8.out.trans HZ3.out)).two
      refine hK.out _ _ (fun _ => ?_) ?_
      ·exact ⟨pa0, pa1⟩
      clear hK K
      try simp only [PT]
      refine wpT_take 9 (v := ?_) rfl (by kernel_rfl) (fun _ _ _ h => h) (by exact ⟨pa0, pa1⟩) (Or.inl ⟨by first | kernel_rfl | rfl, ?_⟩) ?_
      rotate_left
      ·(intro W hW; (try dsimp only at hW); go_simp; try with_reducible rfl)
      try simp only [PT]
      refine wpT_take 10 (v := ?_) rfl (by kernel_rfl) (fun _ _ _ h => h) (by exact ⟨pa0, pa1⟩) (Or.inl ⟨by first | kernel_rfl | rfl, ?_⟩) ?_
      rotate_left
      ·(intro W hW; (try dsimp only at hW); go_simp; try with_reducible rfl)
      try simp only [PT]
      refine wpT_take 11 (v := ?_) rfl (by kernel_rfl) (fun _ _ _ h => h) (by exact ⟨pa0, pa1⟩) (Or.inl ⟨by first | kernel_rfl | rfl, ?_⟩) ?_
      rotate_left
      ·(intro W hW; (try dsimp only at hW); go_simp; try with_reducible rfl)
      try simp only [PT]
      refine wpT_take 12 (v := ?_) rfl (by kernel_rfl) (fun _ _ _ h => h) (by exact ⟨pa0, pa1⟩) (Or.inl ⟨by first | kernel_rfl | rfl, ?_⟩) ?_
      rotate_left
      ·(intro W hW; (try dsimp only at hW); go_simp; try with_reducible rfl)
      try simp only [PT]
      refine wpT_take 13 (v := ?_) rfl (by kernel_rfl) (fun _ _ _ h => h) (by exact ⟨pa0, pa1⟩) (Or.inl ⟨by first | kernel_rfl | rfl, ?_⟩) ?_
      rotate_left
      ·(intro W hW; (try dsimp only at hW); go_simp; try with_reducible rfl)
      try simp only [PT]
      refine wpT_take 14 (v := ?_) rfl (by kernel_rfl) (fun _ _ _ h => h) (by exact ⟨pa0, pa1⟩) (Or.inl ⟨by first | kernel_rfl | rfl, ?_⟩) ?_
      rotate_left
      ·(intro W hW; (try dsimp only at hW); go_simp; try with_reducible rfl)
      try simp only [PT]
      refine wpT_take 15 (v := ?_) rfl (by kernel_rfl) (fun _ _ _ h => h) (by exact ⟨pa0, pa1⟩) (Or.inl ⟨by first | kernel_rfl | rfl, ?_⟩) ?_
      rotate_left
      ·(intro W hW; (try dsimp only at hW); go_simp; try with_reducible rfl)
      try simp only [PT]
      refine wpT_take 16 (v := ?_) rfl (by kernel_rfl) (fun _ _ _ h => h) (by exact ⟨pa0, pa1⟩) (Or.inl ⟨by first | kernel_rfl | rfl, ?_⟩) ?_
      rotate_left
      ·(intro W hW; (try dsimp only at hW); go_simp; try with_reducible rfl)
      try simp only [PT]
      refine wpT_take 17 (v := ?_) rfl (by kernel_rfl) (fun _ _ _ h => h) (by exact ⟨pa0, pa1⟩) (Or.inl ⟨by first | kernel_rfl | rfl, ?_⟩) ?_
      rotate_left
      ·(intro W hW; (try dsimp only at hW); go_simp; try with_reducible rfl)
      try simp only [PT]
      refine wpT_take 18 (v := ?_) rfl (by kernel_rfl) (fun _ _ _ h => h) (by exact ⟨pa0, pa1⟩) (Or.inl ⟨by first | kernel_rfl | rfl, ?_⟩) ?_
      rotate_left
      ·(intro W hW; (try dsimp only at hW); go_simp; try with_reducible rfl)
      try simp only [PT]
      refine wpT_one 19 rfl (by kernel_rfl) (fun K hK => ?_)
      go_simp
      refine (HSI.out _ HZ3.out).mono ?_
      rintro e z4 ⟨rfl, hn⟩
      have HZ4 := Lib.hid (HZ3.out.trans hn)
      clear hn pa0 pa1 pa2 pa3 pa4 HZ3
      obtain ⟨pa0, pa1, pa2, pa3, pa4⟩ := (BA.out.new (HN8.out.trans HZ4.out)).two
      refine hK.out _ _ (fun _ => ?_) ?_
      ·exact ⟨pa0, pa1⟩
      clear hK K
      try simp only [PT]
      refine wpT_take 20 (v := ?_) rfl (by kernel_rfl) (fun _ _ _ h => h) (by exact ⟨pa0, pa1⟩) (Or.inl ⟨by first | kernel_rfl | rfl, ?_⟩) ?_
      rotate_left
      ·(intro W hW; (try dsimp only at hW); go_simp; try with_reducible rfl)
      try simp only [PT]
      refine wpT_take 21 (v := ?_) rfl (by kernel_rfl) (fun _ _ _ h => h) (by exact ⟨pa0, pa1⟩) (Or.inl ⟨by first | kernel_rfl | rfl, ?_⟩) ?_
      rotate_left
      ·(intro W hW; (try dsimp only at hW); go_simp; try with_reducible rfl)
      try simp only [PT]
      refine wpT_take 22 (v := ?_) rfl (by kernel_rfl) (fun _ _ _ h => h) (by exact ⟨pa0, pa1⟩) (Or.inl ⟨by first | kernel_rfl | rfl, ?_⟩) ?_
      rotate_left
      ·(intro W hW; (try dsimp only at hW); go_simp; try with_reducible rfl)
      try simp only [PT]
      refine wpT_take 23 (v := ?_) rfl (by kernel_rfl) (fun _ _ _ h => h) (by exact ⟨pa0, pa1⟩) (Or.inl ⟨by first | kernel_rfl | rfl, ?_⟩) ?_
      rotate_left
      ·(intro W hW; (try dsimp only at hW); go_simp; try with_reducible rfl)
      try simp only [PT]
      refine wpT_take 24 (v := ?_) rfl (by kernel_rfl) (fun _ _ _ h => h) (by exact ⟨pa0, pa1⟩) (Or.inl ⟨by first | kernel_rfl | rfl, ?_⟩) ?_
      rotate_left
      ·(intro W hW; (try dsimp only at hW); go_simp; try with_reducible rfl)
      try simp only [PT]
      refine wpT_take 25 (v := ?_) rfl (by kernel_rfl) (fun _ _ _ h => h) (by exact ⟨pa0, pa1⟩) (Or.inl ⟨by first | kernel_rfl | rfl, ?_⟩) ?_
      rotate_left
      ·(intro W hW; (try dsimp only at hW); go_simp; try with_reducible rfl)
      try simp only [PT]
      refine wpT_tail rfl (by kernel_rfl) ?_
      simp only [List.drop_succ_cons, List.drop_zero]
      clear pa0 pa1 pa2 pa3 pa4
      have HN9 := Lib.hid (HN8.out.trans HZ4.out)
      go_wp2_with fail
      go_roundw
      case rel => exact ⟨k + 1, by omega, by go_num, HN9⟩
      case measure => simp [intOf]; omega
    ·have hdn : digL xs lo hi y = [] := by unfold digL; rw [if_neg (by rw [HE1.out]; exact hl0)]
     have hsb : ∀ W, New w6 W → _ := fun W _ => sameb_nil a7 c7 (digL xs lo hi y) W hdn
     have HSB := Lib.hid hsb
     have HDN := Lib.hid hdn
     clear hsb hdn
     clear HR7
     by_cases h4 : (4096 : Int) < (m : Int)
     ·have he25 : e2 = 5 := by rw [← HE2.out]; unfold manyE; rw [if_pos (by omega)]
      subst he25
      have hcn : chgL ls y = [] := by unfold chgL; rw [if_pos (by rw [HMM.out]; omega)]
      have hsi : ∀ W, New w6 W → _ := fun W _ => samei_nil a9 c9 (chgL ls y) W hcn
      have HSI := Lib.hid hsi
      have HCN := Lib.hid hcn
      clear hsi hcn
      clear HR9
      have HN8 := HN6
      clear HN6
      go_wp2_with fail
      obtain ⟨pa0, pa1, pa2, pa3, pa4⟩ := (BA.out.new HN8.out).two
      refine wp_region_T 26 (fun W => W.cell? ⟨w.heap.size, 0, none⟩ = some (.float .f32 lo) ∧ W.cell? ⟨w.heap.size, 1, none⟩ = some (.float .f32 hi)) 27 #[false, false, false, false, false, false, false, false, false, false, false, false, false, false, false, false, false, false, false, false, false, false, false, false, false, false, false] rfl (by kernel_rfl) (by kernel_rfl) ?_
      refine wpT_take 0 (v := ?_) rfl (by kernel_rfl) (fun _ _ _ h => h) (by exact ⟨pa0, pa1⟩) (Or.inl ⟨by first | kernel_rfl | rfl, ?_⟩) ?_
      rotate_left
      ·(intro W hW; (try dsimp only at hW); go_simp; try with_reducible rfl)
      try simp only [PT]
      refine wpT_take 2 (v := ?_) rfl (by kernel_rfl) (fun _ _ _ h => h) (by exact ⟨pa0, pa1⟩) (Or.inl ⟨by first | kernel_rfl | rfl, ?_⟩) ?_
      rotate_left
      ·(intro W hW; (try dsimp only at hW); go_simp; try with_reducible rfl)
      try simp only [PT]
      refine wpT_one 1 rfl (by kernel_rfl) (fun K hK => ?_)
      go_simp
      refine (HPL.out _).mono ?_
      rintro e z1 ⟨rfl, hn⟩
      have HZ := Lib.hid hn.undrew
      clear hn pa0 pa1 pa2 pa3 pa4
      obtain ⟨pa0, pa1, pa2, pa3, pa4⟩ := (BA.out.new (HN8.out.trans HZ.out)).two
      refine hK.out _ _ (fun _ => ?_) ?_
      ·exact ⟨pa0, pa1⟩
      clear hK K
      try simp only [PT]
      refine wpT_one 3 rfl (by kernel_rfl) (fun K hK => ?_)
      go_simp
      refine (HLE.out _).mono ?_
      rintro e z2 ⟨rfl, hn⟩
      have HZ2 := Lib.hid (HZ.out.trans hn)
      clear hn pa0 pa1 pa2 pa3 pa4 HZ
      obtain ⟨pa0, pa1, pa2, pa3, pa4⟩ := (BA.out.new (HN8.out.trans HZ2.out)).two
      refine hK.out _ _ (fun _ => ?_) ?_
      ·exact ⟨pa0, pa1⟩
      clear hK K
      try simp only [PT]
      refine wpT_take 4 (v := ?_) rfl (by kernel_rfl) (fun _ _ _ h => h) (by exact ⟨pa0, pa1⟩) (Or.inl ⟨by first | kernel_rfl | rfl, ?_⟩) ?_
      rotate_left
      ·(intro W hW; (try dsimp only at hW); go_simp; try with_reducible rfl)
      try simp only [PT]
      refine wpT_take 5 (v := ?_) rfl (by kernel_rfl) (fun _ _ _ h => h) (by exact ⟨pa0, pa1⟩) (Or.inl ⟨by first | kernel_rfl | rfl, ?_⟩) ?_
      rotate_left
      ·(intro W hW; (try dsimp only at hW); go_simp; try with_reducible rfl)
      try simp only [PT]
      refine wpT_take 6 (v := ?_) rfl (by kernel_rfl) (fun _ _ _ h => h) (by exact ⟨pa0, pa1⟩) (Or.inl ⟨by first | kernel_rfl | rfl, ?_⟩) ?_
      rotate_left
      ·(intro W hW; (try dsimp only at hW); go_simp; try with_reducible rfl)
      try simp only [PT]
      refine wpT_take 7 (v := ?_) rfl (by kernel_rfl) (fun _ _ _ h => h) (by exact ⟨pa0, pa1⟩) (Or.inl ⟨by first | kernel_rfl | rfl, ?_⟩) ?_
      rotate_left
      ·(intro W hW; (try dsimp only at hW); go_simp; try with_reducible rfl)
      try simp only [PT]
      refine wpT_one 8 rfl (by kernel_rfl) (fun K hK => ?_)
      go_simp
      refine (HSB.out _ HZ2.out).mono ?_
      rintro e z3 ⟨rfl, hn⟩
      have HZ3 := Lib.hid (HZ2.out.trans hn)
      clear hn pa0 pa1 pa2 pa3 pa4 HZ2
      obtain ⟨pa0, pa1, pa2, pa3, pa4⟩ := (BA.out.new (HN8.out.trans HZ3.out)).two
      refine hK.out _ _ (fun _ => ?_) ?_
      ·exact ⟨pa0, pa1⟩
      clear hK K
      try simp only [PT]
      refine wpT_take 9 (v := ?_) rfl (by kernel_rfl) (fun _ _ _ h => h) (by exact ⟨pa0, pa1⟩) (Or.inl ⟨by first | kernel_rfl | rfl, ?_⟩) ?_
      rotate_left
      ·(intro W hW; (try dsimp only at hW); go_simp; try with_reducible rfl)
      try simp only [PT]
      refine wpT_take 10 (v := ?_) rfl (by kernel_rfl) (fun _ _ _ h => h) (by exact ⟨pa0, pa1⟩) (Or.inl ⟨by first | kernel_rfl | rfl, ?_⟩) ?_
      rotate_left
      ·(intro W hW; (try dsimp only at hW); go_simp; try with_reducible rfl)
      try simp only [PT]
      refine wpT_take 11 (v := ?_) rfl (by kernel_rfl) (fun _ _ _ h => h) (by exact ⟨pa0, pa1⟩) (Or.inl ⟨by first | kernel_rfl | rfl, ?_⟩) ?_
      rotate_left
      ·(intro W hW; (try dsimp only at hW); go_simp; try with_reducible rfl)
      try simp only [PT]
      refine wpT_take 12 (v := ?_) rfl (by kernel_rfl) (fun _ _ _ h => h) (by exact ⟨pa0, pa1⟩) (Or.inl ⟨by first | kernel_rfl | rfl, ?_⟩) ?_
      rotate_left
      ·(intro W hW; (try dsimp only at hW); go_simp; try with_reducible rfl)
      try simp only [PT]
      refine wpT_take 13 (v := ?_) rfl (by kernel_rfl) (fun _ _ _ h => h) (by exact ⟨pa0, pa1⟩) (Or.inl ⟨by first | kernel_rfl | rfl, ?_⟩) ?_
      rotate_left
      ·(intro W hW; (try dsimp only at hW); go_simp; try with_reducible rfl)
      try simp only [PT]
      refine wpT_take 14 (v := ?_) rfl (by kernel_rfl) (fun _ _ _ h => h) (by exact ⟨pa0, pa1⟩) (Or.inl ⟨by first | kernel_rfl | rfl, ?_⟩) ?_
      rotate_left
      ·(intro W hW; (try dsimp only at hW); go_simp; try with_reducible rfl)
      try simp only [PT]
      refine wpT_take 15 (v := ?_) rfl (by kernel_rfl) (fun _ _ _ h => h) (by exact ⟨pa0, pa1⟩) (Or.inl ⟨by first | kernel_rfl | rfl, ?_⟩) ?_
      rotate_left
      ·(intro W hW; (try dsimp only at hW); go_simp; try with_reducible rfl)
      try simp only [PT]
      refine wpT_take 16 (v := ?_) rfl (by kernel_rfl) (fun _ _ _ h => h) (by exact ⟨pa0, pa1⟩) (Or.inl ⟨by first | kernel_rfl | rfl, ?_⟩) ?_
      rotate_left
      ·(intro W hW; (try dsimp only at hW); go_simp; try with_reducible rfl)
      try simp only [PT]
      refine wpT_take 17 (v := ?_) rfl (by kernel_rfl) (fun _ _ _ h => h) (by exact ⟨pa0, pa1⟩) (Or.inl ⟨by first | kernel_rfl | rfl, ?_⟩) ?_
      rotate_left
      ·(intro W hW; (try dsimp only at hW); go_simp; try with_reducible rfl)
      try simp only [PT]
      refine wpT_take 18 (v := ?_) rfl (by kernel_rfl) (fun _ _ _ h => h) (by exact ⟨pa0, pa1⟩) (Or.inl ⟨by first | kernel_rfl | rfl, ?_⟩) ?_
      rotate_left
      ·(intro W hW; (try dsimp only at hW); go_simp; try with_reducible rfl)
      try simp only [PT]
      refine wpT_one 19 rfl (by kernel_rfl) (fun K hK => ?_)
      go_simp
      refine (HSI.out _ HZ3.out).mono ?_
      rintro e z4 ⟨rfl, hn⟩
      have HZ4 := Lib.hid (HZ3.out.trans hn)
      clear hn pa0 pa1 pa2 pa3 pa4 HZ3
      obtain ⟨pa0, pa1, pa2, pa3, pa4⟩ := (BA.out.new (HN8.out.trans HZ4.out)).two
      refine hK.out _ _ (fun _ => ?_) ?_
      ·exact ⟨pa0, pa1⟩
      clear hK K
      try simp only [PT]
      refine wpT_take 20 (v := ?_) rfl (by kernel_rfl) (fun _ _ _ h => h) (by exact ⟨pa0, pa1⟩) (Or.inl ⟨by first | kernel_rfl | rfl, ?_⟩) ?_
      rotate_left
      ·(intro W hW; (try dsimp only at hW); go_simp; try with_reducible rfl)
      try simp only [PT]
      refine wpT_take 21 (v := ?_) rfl (by kernel_rfl) (fun _ _ _ h => h) (by exact ⟨pa0, pa1⟩) (Or.inl ⟨by first | kernel_rfl | rfl, ?_⟩) ?_
      rotate_left
      ·(intro W hW; (try dsimp only at hW); go_simp; try with_reducible rfl)
      try simp only [PT]
      refine wpT_take 22 (v := ?_) rfl (by kernel_rfl) (fun _ _ _ h => h) (by exact ⟨pa0, pa1⟩) (Or.inl ⟨by first | kernel_rfl | rfl, ?_⟩) ?_
      rotate_left
      ·(intro W hW; (try dsimp only at hW); go_simp; try with_reducible rfl)
      try simp only [PT]
      refine wpT_take 23 (v := ?_) rfl (by kernel_rfl) (fun _ _ _ h => h) (by exact ⟨pa0, pa1⟩) (Or.inl ⟨by first | kernel_rfl | rfl, ?_⟩) ?_
      rotate_left
      ·(intro W hW; (try dsimp only at hW); go_simp; try with_reducible rfl)
      try simp only [PT]
      refine wpT_take 24 (v := ?_) rfl (by kernel_rfl) (fun _ _ _ h => h) (by exact ⟨pa0, pa1⟩) (Or.inl ⟨by first | kernel_rfl | rfl, ?_⟩) ?_
      rotate_left
      ·(intro W hW; (try dsimp only at hW); go_simp; try with_reducible rfl)
      try simp only [PT]
      refine wpT_take 25 (v := ?_) rfl (by kernel_rfl) (fun _ _ _ h => h) (by exact ⟨pa0, pa1⟩) (Or.inl ⟨by first | kernel_rfl | rfl, ?_⟩) ?_
      rotate_left
      ·(intro W hW; (try dsimp only at hW); go_simp; try with_reducible rfl)
      try simp only [PT]
      refine wpT_tail rfl (by kernel_rfl) ?_
      simp only [List.drop_succ_cons, List.drop_zero]
      clear pa0 pa1 pa2 pa3 pa4
      have HN9 := Lib.hid (HN8.out.trans HZ4.out)
      go_wp2_with fail
      go_roundw
      case rel => exact ⟨k + 1, by omega, by go_num, HN9⟩
      case measure => simp [intOf]; omega
     ·go_wp2_with fail
      refine (rchg_calls b cb m ls y _ HMM.out (by omega) (HRB.out.new (HN.out.trans HN6.out))).mono ?_
      rintro e w8 ⟨a16, c16, rfl, hn, hr16⟩
      replace HR9 := Lib.hid (HR9.out.new hn)
      have HN8 := Lib.hid (HN6.out.trans hn)
      have hsb := fun W hW => HSB.out W (hn.trans hW)
      clear hn HN6 HSB
      have he20 : e2 = 0 := by rw [← HE2.out]; unfold manyE; rw [if_neg (by omega)]
      subst he20
      have hsi := fun W hW => samei_self a9 a16 c9 c16 (chgL ls y) W (SIL.out y) (HR9.out.new hW) (hr16.new hW)
      have HSB := Lib.hid hsb
      have HSI := Lib.hid hsi
      have HR16 := Lib.hid hr16
      clear hsb hsi hr16
      clear HR9
      go_wp2_with fail
      obtain ⟨pa0, pa1, pa2, pa3, pa4⟩ := (BA.out.new HN8.out).two
      refine wp_region_T 26 (fun W => W.cell? ⟨w.heap.size, 0, none⟩ = some (.float .f32 lo) ∧ W.cell? ⟨w.heap.size, 1, none⟩ = some (.float .f32 hi)) 27 #[false, false, false, false, false, false, false, false, false, false, false, false, false, false, false, false, false, false, false, false, false, false, false, false, false, false, false] rfl (by kernel_rfl) (by kernel_rfl) ?_
      refine wpT_take 0 (v := ?_) rfl (by kernel_rfl) (fun _ _ _ h => h) (by exact ⟨pa0, pa1⟩) (Or.inl ⟨by first | kernel_rfl | rfl, ?_⟩) ?_
      rotate_left
      ·(intro W hW; (try dsimp only at hW); go_simp; try with_reducible rfl)
      try simp only [PT]
      refine wpT_take 2 (v := ?_) rfl (by kernel_rfl) (fun _ _ _ h => h) (by exact ⟨pa0, pa1⟩) (Or.inl ⟨by first | kernel_rfl | rfl, ?_⟩) ?_
      rotate_left
      ·(intro W hW; (try dsimp only at hW); go_simp; try with_reducible rfl)
      try simp only [PT]
      refine wpT_one 1 rfl (by kernel_rfl) (fun K hK => ?_)
      go_simp
      refine (HPL.out _).mono ?_
      rintro e z1 ⟨rfl, hn⟩
      have HZ := Lib.hid hn.undrew
      clear hn pa0 pa1 pa2 pa3 pa4
      obtain ⟨pa0, pa1, pa2, pa3, pa4⟩ := (BA.out.new (HN8.out.trans HZ.out)).two
      refine hK.out _ _ (fun _ => ?_) ?_
      ·exact ⟨pa0, pa1⟩
      clear hK K
      try simp only [PT]
      refine wpT_one 3 rfl (by kernel_rfl) (fun K hK => ?_)
      go_simp
      refine (HLE.out _).mono ?_
      rintro e z2 ⟨rfl, hn⟩
      have HZ2 := Lib.hid (HZ.out.trans hn)
      clear hn pa0 pa1 pa2 pa3 pa4 HZ
      obtain ⟨pa0, pa1, pa2, pa3, pa4⟩ := (BA.out.new (HN8.out.trans HZ2.out)).two
      refine hK.out _ _ (fun _ => ?_) ?_
      ·exact ⟨pa0, pa1⟩
      clear hK K
      try simp only [PT]
      refine wpT_take 4 (v := ?_) rfl (by kernel_rfl) (fun _ _ _ h => h) (by exact ⟨pa0, pa1⟩) (Or.inl ⟨by first | kernel_rfl | rfl, ?_⟩) ?_
      rotate_left
      ·(intro W hW; (try dsimp only at hW); go_simp; try with_reducible rfl)
      try simp only [PT]
      refine wpT_take 5 (v := ?_) rfl (by kernel_rfl) (fun _ _ _ h => h) (by exact ⟨pa0, pa1⟩) (Or.inl ⟨by first | kernel_rfl | rfl, ?_⟩) ?_
      rotate_left
      ·(intro W hW; (try dsimp only at hW); go_simp; try with_reducible rfl)
      try simp only [PT]
      refine wpT_take 6 (v := ?_) rfl (by kernel_rfl) (fun _ _ _ h => h) (by exact ⟨pa0, pa1⟩) (Or.inl ⟨by first | kernel_rfl | rfl, ?_⟩) ?_
      rotate_left
      ·(intro W hW; (try dsimp only at hW); go_simp; try with_reducible rfl)
      try simp only [PT]
      refine wpT_take 7 (v := ?_) rfl (by kernel_rfl) (fun _ _ _ h => h) (by exact ⟨pa0, pa1⟩) (Or.inl ⟨by first | kernel_rfl | rfl, ?_⟩) ?_
      rotate_left
      ·(intro W hW; (try dsimp only at hW); go_simp; try with_reducible rfl)
      try simp only [PT]
      refine wpT_one 8 rfl (by kernel_rfl) (fun K hK => ?_)
      go_simp
      refine (HSB.out _ HZ2.out).mono ?_
      rintro e z3 ⟨rfl, hn⟩
      have HZ3 := Lib.hid (HZ2.out.trans hn)
      clear hn pa0 pa1 pa2 pa3 pa4 HZ2
      obtain ⟨pa0, pa1, pa2, pa3, pa4⟩ := (BA.out.new (HN8.out.trans HZ3.out)).two
      refine hK.out _ _ (fun _ => ?_) ?_
      ·exact ⟨pa0, pa1⟩
      clear hK K
      try simp only [PT]
      refine wpT_take 9 (v := ?_) rfl (by kernel_rfl) (fun _ _ _ h => h) (by exact ⟨pa0, pa1⟩) (Or.inl ⟨by first | kernel_rfl | rfl, ?_⟩) ?_
      rotate_left
      ·(intro W hW; (try dsimp only at hW); go_simp; try with_reducible rfl)
      try simp only [PT]
      refine wpT_take 10 (v := ?_) rfl (by kernel_rfl) (fun _ _ _ h => h) (by exact ⟨pa0, pa1⟩) (Or.inl ⟨by first | kernel_rfl | rfl, ?_⟩) ?_
      rotate_left
      ·(intro W hW; (try dsimp only at hW); go_simp; try with_reducible rfl)
      try simp only [PT]
      refine wpT_take 11 (v := ?_) rfl (by kernel_rfl) (fun _ _ _ h => h) (by exact ⟨pa0, pa1⟩) (Or.inl ⟨by first | kernel_rfl | rfl, ?_⟩) ?_
      rotate_left
      ·(intro W hW; (try dsimp only at hW); go_simp; try with_reducible rfl)
      try simp only [PT]
      refine wpT_take 12 (v := ?_) rfl (by kernel_rfl) (fun _ _ _ h => h) (by exact ⟨pa0, pa1⟩) (Or.inl ⟨by first | kernel_rfl | rfl, ?_⟩) ?_
      rotate_left
      ·(intro W hW; (try dsimp only at hW); go_simp; try with_reducible rfl)
      try simp only [PT]
      refine wpT_take 13 (v := ?_) rfl (by kernel_rfl) (fun _ _ _ h => h) (by exact ⟨pa0, pa1⟩) (Or.inl ⟨by first | kernel_rfl | rfl, ?_⟩) ?_
      rotate_left
      ·(intro W hW; (try dsimp only at hW); go_simp; try with_reducible rfl)
      try simp only [PT]
      refine wpT_take 14 (v := ?_) rfl (by kernel_rfl) (fun _ _ _ h => h) (by exact ⟨pa0, pa1⟩) (Or.inl ⟨by first | kernel_rfl | rfl, ?_⟩) ?_
      rotate_left
      ·(intro W hW; (try dsimp only at hW); go_simp; try with_reducible rfl)
      try simp only [PT]
      refine wpT_take 15 (v := ?_) rfl (by kernel_rfl) (fun _ _ _ h => h) (by exact ⟨pa0, pa1⟩) (Or.inl ⟨by first | kernel_rfl | rfl, ?_⟩) ?_
      rotate_left
      ·(intro W hW; (try dsimp only at hW); go_simp; try with_reducible rfl)
      try simp only [PT]
      refine wpT_take 16 (v := ?_) rfl (by kernel_rfl) (fun _ _ _ h => h) (by exact ⟨pa0, pa1⟩) (Or.inl ⟨by first | kernel_rfl | rfl, ?_⟩) ?_
      rotate_left
      ·(intro W hW; (try dsimp only at hW); go_simp; try with_reducible rfl)
      try simp only [PT]
      refine wpT_take 17 (v := ?_) rfl (by kernel_rfl) (fun _ _ _ h => h) (by exact ⟨pa0, pa1⟩) (Or.inl ⟨by first | kernel_rfl | rfl, ?_⟩) ?_
      rotate_left
      ·(intro W hW; (try dsimp only at hW); go_simp; try with_reducible rfl)
      try simp only [PT]
      refine wpT_take 18 (v := ?_) rfl (by kernel_rfl) (fun _ _ _ h => h) (by exact ⟨pa0, pa1⟩) (Or.inl ⟨by first | kernel_rfl | rfl, ?_⟩) ?_
      rotate_left
      ·(intro W hW; (try dsimp only at hW); go_simp; try with_reducible rfl)
      try simp only [PT]
      refine wpT_one 19 rfl (by kernel_rfl) (fun K hK => ?_)
      go_simp
      refine (HSI.out _ HZ3.out).mono ?_
      rintro e z4 ⟨rfl, hn⟩
      have HZ4 := Lib.hid (HZ3.out.trans hn)
      clear hn pa0 pa1 pa2 pa3 pa4 HZ3
      obtain ⟨pa0, pa1, pa2, pa3, pa4⟩ := (BA.out.new (HN8.out.trans HZ4.out)).two
      refine hK.out _ _ (fun _ => ?_) ?_
      ·exact ⟨pa0, pa1⟩
      clear hK K
      try simp only [PT]
      refine wpT_take 20 (v := ?_) rfl (by kernel_rfl) (fun _ _ _ h => h) (by exact ⟨pa0, pa1⟩) (Or.inl ⟨by first | kernel_rfl | rfl, ?_⟩) ?_
      rotate_left
      ·(intro W hW; (try dsimp only at hW); go_simp; try with_reducible rfl)
      try simp only [PT]
      refine wpT_take 21 (v := ?_) rfl (by kernel_rfl) (fun _ _ _ h => h) (by exact ⟨pa0, pa1⟩) (Or.inl ⟨by first | kernel_rfl | rfl, ?_⟩) ?_
      rotate_left
      ·(intro W hW; (try dsimp only at hW); go_simp; try with_reducible rfl)
      try simp only [PT]
      refine wpT_take 22 (v := ?_) rfl (by kernel_rfl) (fun _ _ _ h => h) (by exact ⟨pa0, pa1⟩) (Or.inl ⟨by first | kernel_rfl | rfl, ?_⟩) ?_
      rotate_left
      ·(intro W hW; (try dsimp only at hW); go_simp; try with_reducible rfl)
      try simp only [PT]
      refine wpT_take 23 (v := ?_) rfl (by kernel_rfl) (fun _ _ _ h => h) (by exact ⟨pa0, pa1⟩) (Or.inl ⟨by first | kernel_rfl | rfl, ?_⟩) ?_
      rotate_left
      ·(intro W hW; (try dsimp only at hW); go_simp; try with_reducible rfl)
      try simp only [PT]
      refine wpT_take 24 (v := ?_) rfl (by kernel_rfl) (fun _ _ _ h => h) (by exact ⟨pa0, pa1⟩) (Or.inl ⟨by first | kernel_rfl | rfl, ?_⟩) ?_
      rotate_left
      ·(intro W hW; (try dsimp only at hW); go_simp; try with_reducible rfl)
      try simp only [PT]
      refine wpT_take 25 (v := ?_) rfl (by kernel_rfl) (fun _ _ _ h => h) (by exact ⟨pa0, pa1⟩) (Or.inl ⟨by first | kernel_rfl | rfl, ?_⟩) ?_
      rotate_left
      ·(intro W hW; (try dsimp only at hW); go_simp; try with_reducible rfl)
      try simp only [PT]
      refine wpT_tail rfl (by kernel_rfl) ?_
      simp only [List.drop_succ_cons, List.drop_zero]
      clear pa0 pa1 pa2 pa3 pa4
      have HN9 := Lib.hid (HN8.out.trans HZ4.out)
      go_wp2_with fail
      go_roundw
      case rel => exact ⟨k + 1, by omega, by go_num, HN9⟩
      case measure => simp [intOf]; omega
   ·have hee := HEE.out
    rw [if_neg hs0] at hee
    obtain rfl := hee
    have hdn : digL xs lo hi y = [] := by unfold digL; rw [if_neg (by rw [HE1.out]; exact hs0)]
    have hsb : ∀ W, New w5 W → _ := fun W _ => sameb_nil a7 c7 (digL xs lo hi y) W hdn
    have HSB := Lib.hid hsb
    have HDN := Lib.hid hdn
    clear hsb hdn
    clear HR7
    by_cases h4 : (4096 : Int) < (m : Int)
    ·have he25 : e2 = 5 := by rw [← HE2.out]; unfold manyE; rw [if_pos (by omega)]
     subst he25
     have hcn : chgL ls y = [] := by unfold chgL; rw [if_pos (by rw [HMM.out]; omega)]
     have hsi : ∀ W, New w5 W → _ := fun W _ => samei_nil a9 c9 (chgL ls y) W hcn
     have HSI := Lib.hid hsi
     have HCN := Lib.hid hcn
     clear hsi hcn
     clear HR9
     have HN8 := HN5
     clear HN5
     go_wp2_with fail
     obtain ⟨pa0, pa1, pa2, pa3, pa4⟩ := (BA.out.new HN8.out).two
     refine wp_region_T 26 (fun W => W.cell? ⟨w.heap.size, 0, none⟩ = some (.float .f32 lo) ∧ W.cell? ⟨w.heap.size, 1, none⟩ = some (.float .f32 hi)) 27 #[false, false, false, false, false, false, false, false, false, false, false, false, false, false, false, false, false, false, false, false, false, false, false, false, false, false, false] rfl (by kernel_rfl) (by kernel_rfl) ?_
     refine wpT_take 0 (v := ?_) rfl (by kernel_rfl) (fun _ _ _ h => h) (by exact ⟨pa0, pa1⟩) (Or.inl ⟨by first | kernel_rfl | rfl, ?_⟩) ?_
     rotate_left
     ·(intro W hW; (try dsimp only at hW); go_simp; try with_reducible rfl)
     try simp only [PT]
     refine wpT_take 2 (v := ?_) rfl (by kernel_rfl) (fun _ _ _ h => h) (by exact ⟨pa0, pa1⟩) (Or.inl ⟨by first | kernel_rfl | rfl, ?_⟩) ?_
     rotate_left
     ·(intro W hW; (try dsimp only at hW); go_simp; try with_reducible rfl)
     try simp only [PT]
     refine wpT_one 1 rfl (by kernel_rfl) (fun K hK => ?_)
     go_simp
     refine (HPL.out _).mono ?_
     rintro e z1 ⟨rfl, hn⟩
     have HZ := Lib.hid hn.undrew
     clear hn pa0 pa1 pa2 pa3 pa4
     obtain ⟨pa0, pa1, pa2, pa3, pa4⟩ := (BA.out.new (HN8.out.trans HZ.out)).two
     refine hK.out _ _ (fun _ => ?_) ?_
     ·exact ⟨pa0, pa1⟩
     clear hK K
     try simp only [PT]
     refine wpT_one 3 rfl (by kernel_rfl) (fun K hK => ?_)
     go_simp
     refine (HLE.out _).mono ?_
     rintro e z2 ⟨rfl, hn⟩
     have HZ2 := Lib.hid (HZ.out.trans hn)
     clear hn pa0 pa1 pa2 pa3 pa4 HZ
     obtain ⟨pa0, pa1, pa2, pa3, pa4⟩ := (BA.out.new (HN8.out.trans HZ2.out)).two
     refine hK.out _ _ (fun _ => ?_) ?_
     ·exact ⟨pa0, pa1⟩
     clear hK K
     try simp only [PT]
     refine wpT_take 4 (v := ?_) rfl (by kernel_rfl) (fun _ _ _ h => h) (by exact ⟨pa0, pa1⟩) (Or.inl ⟨by first | kernel_rfl | rfl, ?_⟩) ?_
     rotate_left
     ·(intro W hW; (try dsimp only at hW); go_simp; try with_reducible rfl)
     try simp only [PT]
     refine wpT_take 5 (v := ?_) rfl (by kernel_rfl) (fun _ _ _ h => h) (by exact ⟨pa0, pa1⟩) (Or.inl ⟨by first | kernel_rfl | rfl, ?_⟩) ?_
     rotate_left
     ·(intro W hW; (try dsimp only at hW); go_simp; try with_reducible rfl)
     try simp only [PT]
     refine wpT_take 6 (v := ?_) rfl (by kernel_rfl) (fun _ _ _ h => h) (by exact ⟨pa0, pa1⟩) (Or.inl ⟨by first | kernel_rfl | rfl, ?_⟩) ?_
     rotate_left
     ·(intro W hW; (try dsimp only at hW); go_simp; try with_reducible rfl)
     try simp only [PT]
     refine wpT_take 7 (v := ?_) rfl (by kernel_rfl) (fun _ _ _ h => h) (by exact ⟨pa0, pa1⟩) (Or.inl ⟨by first | kernel_rfl | rfl, ?_⟩) ?_
     rotate_left
     ·(intro W hW; (try dsimp only at hW); go_simp; try with_reducible rfl)
     try simp only [PT]
     refine wpT_one 8 rfl (by kernel_rfl) (fun K hK => ?_)
     go_simp
     refine (HSB.out _ HZ2.out).mono ?_
     rintro e z3 ⟨rfl, hn⟩
     have HZ3 := Lib.hid (HZ2.out.trans hn)
     clear hn pa0 pa1 pa2 pa3 pa4 HZ2
     obtain ⟨pa0, pa1, pa2, pa3, pa4⟩ := (BA.out.new (HN8.out.trans HZ3.out)).two
     refine hK.out _ _ (fun _ => ?_) ?_
     ·exact ⟨pa0, pa1⟩
     clear hK K
     try simp only [PT]
     refine wpT_take 9 (v := ?_) rfl (by kernel_rfl) (fun _ _ _ h => h) (by exact ⟨pa0, pa1⟩) (Or.inl ⟨by first | kernel_rfl | rfl, ?_⟩) ?_
     rotate_left
     ·(intro W hW; (try dsimp only at hW); go_simp; try with_reducible rfl)
     try simp only [PT]
     refine wpT_take 10 (v := ?_) rfl (by kernel_rfl) (fun _ _ _ h => h) (by exact ⟨pa0, pa1⟩) (Or.inl ⟨by first | kernel_rfl | rfl, ?_⟩) ?_
     rotate_left
     ·(intro W hW; (try dsimp only at hW); go_simp; try with_reducible rfl)
     try simp only [PT]
     refine wpT_take 11 (v := ?_) rfl (by kernel_rfl) (fun _ _ _ h => h) (by exact ⟨pa0, pa1⟩) (Or.inl ⟨by first | kernel_rfl | rfl, ?_⟩) ?_
     rotate_left
     ·(intro W hW; (try dsimp only at hW); go_simp; try with_reducible rfl)
     try simp only [PT]
     refine wpT_take 12 (v := ?_) rfl (by kernel_rfl) (fun _ _ _ h => h) (by exact ⟨pa0, pa1⟩) (Or.inl ⟨by first | kernel_rfl | rfl, ?_⟩) ?_
     rotate_left
     ·(intro W hW; (try dsimp only at hW); go_simp; try with_reducible rfl)
     try simp only [PT]
     refine wpT_take 13 (v := ?_) rfl (by kernel_rfl) (fun _ _ _ h => h) (by exact ⟨pa0, pa1⟩) (Or.inl ⟨by first | kernel_rfl | rfl, ?_⟩) ?_
     rotate_left
     ·(intro W hW; (try dsimp only at hW); go_simp; try with_reducible rfl)
     try simp only [PT]
     refine wpT_take 14 (v := ?_) rfl (by kernel_rfl) (fun _ _ _ h => h) (by exact ⟨pa0, pa1⟩) (Or.inl ⟨by first | kernel_rfl | rfl, ?_⟩) ?_
     rotate_left
     ·(intro W hW; (try dsimp only at hW); go_simp; try with_reducible rfl)
     try simp only [PT]
     refine wpT_take 15 (v := ?_) rfl (by kernel_rfl) (fun _ _ _ h => h) (by exact ⟨pa0, pa1⟩) (Or.inl ⟨by first | kernel_rfl | rfl, ?_⟩) ?_
     rotate_left
     ·(intro W hW; (try dsimp only at hW); go_simp; try with_reducible rfl)
     try simp only [PT]
     refine wpT_take 16 (v := ?_) rfl (by kernel_rfl) (fun _ _ _ h => h) (by exact ⟨pa0, pa1⟩) (Or.inl ⟨by first | kernel_rfl | rfl, ?_⟩) ?_
     rotate_left
     ·(intro W hW; (try dsimp only at hW); go_simp; try with_reducible rfl)
     try simp only [PT]
     refine wpT_take 17 (v := ?_) rfl (by kernel_rfl) (fun _ _ _ h => h) (by exact ⟨pa0, pa1⟩) (Or.inl ⟨by first | kernel_rfl | rfl, ?_⟩) ?_
     rotate_left
     ·(intro W hW; (try dsimp only at hW); go_simp; try with_reducible rfl)
     try simp only [PT]
     refine wpT_take 18 (v := ?_) rfl (by kernel_rfl) (fun _ _ _ h => h) (by exact ⟨pa0, pa1⟩) (Or.inl ⟨by first | kernel_rfl | rfl, ?_⟩) ?_
     rotate_left
     ·(intro W hW; (try dsimp only at hW); go_simp; try with_reducible rfl)
     try simp only [PT]
     refine wpT_one 19 rfl (by kernel_rfl) (fun K hK => ?_)
     go_simp
     refine (HSI.out _ HZ3.out).mono ?_
     rintro e z4 ⟨rfl, hn⟩
     have HZ4 := Lib.hid (HZ3.out.trans hn)
     clear hn pa0 pa1 pa2 pa3 pa4 HZ3
     obtain ⟨pa0, pa1, pa2, pa3, pa4⟩ := (BA.out.new (HN8.out.trans HZ4.out)).two
     refine hK.out _ _ (fun _ => ?_) ?_
     ·exact ⟨pa0, pa1⟩
     clear hK K
     try simp only [PT]
     refine wpT_take 20 (v := ?_) rfl (by kernel_rfl) (fun _ _ _ h => h) (by exact ⟨pa0, pa1⟩) (Or.inl ⟨by first | kernel_rfl | rfl, ?_⟩) ?_
     rotate_left
     ·(intro W hW; (try dsimp only at hW); go_simp; try with_reducible rfl)
     try simp only [PT]
     refine wpT_take 21 (v := ?_) rfl (by kernel_rfl) (fun _ _ _ h => h) (by exact ⟨pa0, pa1⟩) (Or.inl ⟨by first | kernel_rfl | rfl, ?_⟩) ?_
     rotate_left
     ·(intro W hW; (try dsimp only at hW); go_simp; try with_reducible rfl)
     try simp only [PT]
     refine wpT_take 22 (v := ?_) rfl (by kernel_rfl) (fun _ _ _ h => h) (by exact ⟨pa0, pa1⟩) (Or.inl ⟨by first | kernel_rfl | rfl, ?_⟩) ?_
     rotate_left
     ·(intro W hW; (try dsimp only at hW); go_simp; try with_reducible rfl)
     try simp only [PT]
     refine wpT_take 23 (v := ?_) rfl (by kernel_rfl) (fun _ _ _ h => h) (by exact ⟨pa0, pa1⟩) (Or.inl ⟨by first | kernel_rfl | rfl, ?_⟩) ?_
     rotate_left
     ·(intro W hW; (try dsimp only at hW); go_simp; try with_reducible rfl)
     try simp only [PT]
     refine wpT_take 24 (v := ?_) rfl (by kernel_rfl) (fun _ _ _ h => h) (by exact ⟨pa0, pa1⟩) (Or.inl ⟨by first | kernel_rfl | rfl, ?_⟩) ?_
     rotate_left
     ·(intro W hW; (try dsimp only at hW); go_simp; try with_reducible rfl)
     try simp only [PT]
     refine wpT_take 25 (v := ?_) rfl (by kernel_rfl) (fun _ _ _ h => h) (by exact ⟨pa0, pa1⟩) (Or.inl ⟨by first | kernel_rfl | rfl, ?_⟩) ?_
     rotate_left
     ·(intro W hW; (try dsimp only at hW); go_simp; try with_reducible rfl)
     try simp only [PT]
     refine wpT_tail rfl (by kernel_rfl) ?_
     simp only [List.drop_succ_cons, List.drop_zero]
     clear pa0 pa1 pa2 pa3 pa4
     have HN9 := Lib.hid (HN8.out.trans HZ4.out)
     go_wp2_with fail
     go_roundw
     case rel => exact ⟨k + 1, by omega, by go_num, HN9⟩
     case measure => simp [intOf]; omega
    ·go_wp2_with fail
     refine (rchg_calls b cb m ls y _ HMM.out (by omega) (HRB.out.new (HN.out.trans HN5.out))).mono ?_
     rintro e w8 ⟨a16, c16, rfl, hn, hr16⟩
     replace HR9 := Lib.hid (HR9.out.new hn)
     have HN8 := Lib.hid (HN5.out.trans hn)
     have hsb := fun W hW => HSB.out W (hn.trans hW)
     clear hn HN5 HSB
     have he20 : e2 = 0 := by rw [← HE2.out]; unfold manyE; rw [if_neg (by omega)]
     subst he20
     have hsi := fun W hW => samei_self a9 a16 c9 c16 (chgL ls y) W (SIL.out y) (HR9.out.new hW) (hr16.new hW)
     have HSB := Lib.hid hsb
     have HSI := Lib.hid hsi
     have HR16 := Lib.hid hr16
     clear hsb hsi hr16
     clear HR9
     go_wp2_with fail
     obtain ⟨pa0, pa1, pa2, pa3, pa4⟩ := (BA.out.new HN8.out).two
     refine wp_region_T 26 (fun W => W.cell? ⟨w.heap.size, 0, none⟩ = some (.float .f32 lo) ∧ W.cell? ⟨w.heap.size, 1, none⟩ = some (.float .f32 hi)) 27 #[false, false, false, false, false, false, false, false, false, false, false, false, false, false, false, false, false, false, false, false, false, false, false, false, false, false, false] rfl (by kernel_rfl) (by kernel_rfl) ?_
     refine wpT_take 0 (v := ?_) rfl (by kernel_rfl) (fun _ _ _ h => h) (by exact ⟨pa0, pa1⟩) (Or.inl ⟨by first | kernel_rfl | rfl, ?_⟩) ?_
     rotate_left
     ·(intro W hW; (try dsimp only at hW); go_simp; try with_reducible rfl)
     try simp only [PT]
     refine wpT_take 2 (v := ?_) rfl (by kernel_rfl) (fun _ _ _ h => h) (by exact ⟨pa0, pa1⟩) (Or.inl ⟨by first | kernel_rfl | rfl, ?_⟩) ?_
     rotate_left
     ·(intro W hW; (try dsimp only at hW); go_simp; try with_reducible rfl)
     try simp only [PT]
     refine wpT_one 1 rfl (by kernel_rfl) (fun K hK => ?_)
     go_simp
     refine (HPL.out _).mono ?_
     rintro e z1 ⟨rfl, hn⟩
     have HZ := Lib.hid hn.undrew
     clear hn pa0 pa1 pa2 pa3 pa4
     obtain ⟨pa0, pa1, pa2, pa3, pa4⟩ := (BA.out.new (HN8.out.trans HZ.out)).two
     refine hK.out _ _ (fun _ => ?_) ?_
     ·exact ⟨pa0, pa1⟩
     clear hK K
     try simp only [PT]
     refine wpT_one 3 rfl (by kernel_rfl) (fun K hK => ?_)
     go_simp
     refine (HLE.out _).mono ?_
     rintro e z2 ⟨rfl, hn⟩
     have HZ2 := Lib.hid (HZ.out.trans hn)
     clear hn pa0 pa1 pa2 pa3 pa4 HZ
     obtain ⟨pa0, pa1, pa2, pa3, pa4⟩ := (BA.out.new (HN8.out.trans HZ2.out)).two
     refine hK.out _ _ (fun _ => ?_) ?_
     ·exact ⟨pa0, pa1⟩
     clear hK K
     try simp only [PT]
     refine wpT_take 4 (v := ?_) rfl (by kernel_rfl) (fun _ _ _ h => h) (by exact ⟨pa0, pa1⟩) (Or.inl ⟨by first | kernel_rfl | rfl, ?_⟩) ?_
     rotate_left
     ·(intro W hW; (try dsimp only at hW); go_simp; try with_reducible rfl)
     try simp only [PT]
     refine wpT_take 5 (v := ?_) rfl (by kernel_rfl) (fun _ _ _ h => h) (by exact ⟨pa0, pa1⟩) (Or.inl ⟨by first | kernel_rfl | rfl, ?_⟩) ?_
     rotate_left
     ·(intro W hW; (try dsimp only at hW); go_simp; try with_reducible rfl)
     try simp only [PT]
     refine wpT_take 6 (v := ?_) rfl (by kernel_rfl) (fun _ _ _ h => h) (by exact ⟨pa0, pa1⟩) (Or.inl ⟨by first | kernel_rfl | rfl, ?_⟩) ?_
     rotate_left
     ·(intro W hW; (try dsimp only at hW); go_simp; try with_reducible rfl)
     try simp only [PT]
     refine wpT_take 7 (v := ?_) rfl (by kernel_rfl) (fun _ _ _ h => h) (by exact ⟨pa0, pa1⟩) (Or.inl ⟨by first | kernel_rfl | rfl, ?_⟩) ?_
     rotate_left
     ·(intro W hW; (try dsimp only at hW); go_simp; try with_reducible rfl)
     try simp only [PT]
     refine wpT_one 8 rfl (by kernel_rfl) (fun K hK => ?_)
     go_simp
     refine (HSB.out _ HZ2.out).mono ?_
     rintro e z3 ⟨rfl, hn⟩
     have HZ3 := Lib.hid (HZ2.out.trans hn)
     clear hn pa0 pa1 pa2 pa3 pa4 HZ2
     obtain ⟨pa0, pa1, pa2, pa3, pa4⟩ := (BA.out.new (HN8.out.trans HZ3.out)).two
     refine hK.out _ _ (fun _ => ?_) ?_
     ·exact ⟨pa0, pa1⟩
     clear hK K
     try simp only [PT]
     refine wpT_take 9 (v := ?_) rfl (by kernel_rfl) (fun _ _ _ h => h) (by exact ⟨pa0, pa1⟩) (Or.inl ⟨by first | kernel_rfl | rfl, ?_⟩) ?_
     rotate_left
     ·(intro W hW; (try dsimp only at hW); go_simp; try with_reducible rfl)
     try simp only [PT]
     refine wpT_take 10 (v := ?_) rfl (by kernel_rfl) (fun _ _ _ h => h) (by exact ⟨pa0, pa1⟩) (Or.inl ⟨by first | kernel_rfl | rfl, ?_⟩) ?_
     rotate_left
     ·(intro W hW; (try dsimp only at hW); go_simp; try with_reducible rfl)
     try simp only [PT]
     refine wpT_take 11 (v := ?_) rfl (by kernel_rfl) (fun _ _ _ h => h) (by exact ⟨pa0, pa1⟩) (Or.inl ⟨by first | kernel_rfl | rfl, ?_⟩) ?_
     rotate_left
     ·(intro W hW; (try dsimp only at hW); go_simp; try with_reducible rfl)
     try simp only [PT]
     refine wpT_take 12 (v := ?_) rfl (by kernel_rfl) (fun _ _ _ h => h) (by exact ⟨pa0, pa1⟩) (Or.inl ⟨by first | kernel_rfl | rfl, ?_⟩) ?_
     rotate_left
     ·(intro W hW; (try dsimp only at hW); go_simp; try with_reducible rfl)
     try simp only [PT]
     refine wpT_take 13 (v := ?_) rfl (by kernel_rfl) (fun _ _ _ h => h) (by exact ⟨pa0, pa1⟩) (Or.inl ⟨by first | kernel_rfl | rfl, ?_⟩) ?_
     rotate_left
     ·(intro W hW; (try dsimp only at hW); go_simp; try with_reducible rfl)
     try simp only [PT]
     refine wpT_take 14 (v := ?_) rfl (by kernel_rfl) (fun _ _ _ h => h) (by exact ⟨pa0, pa1⟩) (Or.inl ⟨by first | kernel_rfl | rfl, ?_⟩) ?_
     rotate_left
     ·(intro W hW; (try dsimp only at hW); go_simp; try with_reducible rfl)
     try simp only [PT]
     refine wpT_take 15 (v := ?_) rfl (by kernel_rfl) (fun _ _ _ h => h) (by exact ⟨pa0, pa1⟩) (Or.inl ⟨by first | kernel_rfl | rfl, ?_⟩) ?_
     rotate_left
     ·(intro W hW; (try dsimp only at hW); go_simp; try with_reducible rfl)
     try simp only [PT]
     refine wpT_take 16 (v := ?_) rfl (by kernel_rfl) (fun _ _ _ h => h) (by exact ⟨pa0, pa1⟩) (Or.inl ⟨by first | kernel_rfl | rfl, ?_⟩) ?_
     rotate_left
     ·(intro W hW; (try dsimp only at hW); go_simp; try with_reducible rfl)
     try simp only [PT]
     refine wpT_take 17 (v := ?_) rfl (by kernel_rfl) (fun _ _ _ h => h) (by exact ⟨pa0, pa1⟩) (Or.inl ⟨by first | kernel_rfl | rfl, ?_⟩) ?_
     rotate_left
     ·(intro W hW; (try dsimp only at hW); go_simp; try with_reducible rfl)
     try simp only [PT]
     refine wpT_take 18 (v := ?_) rfl (by kernel_rfl) (fun _ _ _ h => h) (by exact ⟨pa0, pa1⟩) (Or.inl ⟨by first | kernel_rfl | rfl, ?_⟩) ?_
     rotate_left
     ·(intro W hW; (try dsimp only at hW); go_simp; try with_reducible rfl)
     try simp only [PT]
     refine wpT_one 19 rfl (by kernel_rfl) (fun K hK => ?_)
     go_simp
     refine (HSI.out _ HZ3.out).mono ?_
     rintro e z4 ⟨rfl, hn⟩
     have HZ4 := Lib.hid (HZ3.out.trans hn)
     clear hn pa0 pa1 pa2 pa3 pa4 HZ3
     obtain ⟨pa0, pa1, pa2, pa3, pa4⟩ := (BA.out.new (HN8.out.trans HZ4.out)).two
     refine hK.out _ _ (fun _ => ?_) ?_
     ·exact ⟨pa0, pa1⟩
     clear hK K
     try simp only [PT]
     refine wpT_take 20 (v := ?_) rfl (by kernel_rfl) (fun _ _ _ h => h) (by exact ⟨pa0, pa1⟩) (Or.inl ⟨by first | kernel_rfl | rfl, ?_⟩) ?_
     rotate_left
     ·(intro W hW; (try dsimp only at hW); go_simp; try with_reducible rfl)
     try simp only [PT]
     refine wpT_take 21 (v := ?_) rfl (by kernel_rfl) (fun _ _ _ h => h) (by exact ⟨pa0, pa1⟩) (Or.inl ⟨by first | kernel_rfl | rfl, ?_⟩) ?_
     rotate_left
     ·(intro W hW; (try dsimp only at hW); go_simp; try with_reducible rfl)
     try simp only [PT]
     refine wpT_take 22 (v := ?_) rfl (by kernel_rfl) (fun _ _ _ h => h) (by exact ⟨pa0, pa1⟩) (Or.inl ⟨by first | kernel_rfl | rfl, ?_⟩) ?_
     rotate_left
     ·(intro W hW; (try dsimp only at hW); go_simp; try with_reducible rfl)
     try simp only [PT]
     refine wpT_take 23 (v := ?_) rfl (by kernel_rfl) (fun _ _ _ h => h) (by exact ⟨pa0, pa1⟩) (Or.inl ⟨by first | kernel_rfl | rfl, ?_⟩) ?_
     rotate_left
     ·(intro W hW; (try dsimp only at hW); go_simp; try with_reducible rfl)
     try simp only [PT]
     refine wpT_take 24 (v := ?_) rfl (by kernel_rfl) (fun _ _ _ h => h) (by exact ⟨pa0, pa1⟩) (Or.inl ⟨by first | kernel_rfl | rfl, ?_⟩) ?_
     rotate_left
     ·(intro W hW; (try dsimp only at hW); go_simp; try with_reducible rfl)
     try simp only [PT]
     refine wpT_take 25 (v := ?_) rfl (by kernel_rfl) (fun _ _ _ h => h) (by exact ⟨pa0, pa1⟩) (Or.inl ⟨by first | kernel_rfl | rfl, ?_⟩) ?_
     rotate_left
     ·(intro W hW; (try dsimp only at hW); go_simp; try with_reducible rfl)
     try simp only [PT]
     refine wpT_tail rfl (by kernel_rfl) ?_
     simp only [List.drop_succ_cons, List.drop_zero]
     clear pa0 pa1 pa2 pa3 pa4
     have HN9 := Lib.hid (HN8.out.trans HZ4.out)
     go_wp2_with fail
     go_roundw
     case rel => exact ⟨k + 1, by omega, by go_num, HN9⟩
     case measure => simp [intOf]; omega
  ·have hkk : k = 2 := by omega
   subst hkk
   go_wp2_with fail
   refine (HAW.out _ (HE.out.new (HN.out.trans HM.out))).mono ?_
   rintro e w' ⟨rfl, hn⟩
   go_wp2_with fail
   go_ret
   exact ⟨rfl, (HN.out.trans HM.out).trans hn⟩
end Go.Proofs.YtlfnibjmkfldgaaGreatDoor
