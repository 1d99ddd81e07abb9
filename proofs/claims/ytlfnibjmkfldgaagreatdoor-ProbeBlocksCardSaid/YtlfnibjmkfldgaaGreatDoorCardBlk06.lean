/- Part CardBlk06. -/
import Derived.Deep.DeepCutAuto
import Derived.Laws.AppendOwnNone
import Derived.Maps.AppendAt
import Derived.Test.YtlfnibjmkfldgaaGreatDoorA13
import Derived.Test.YtlfnibjmkfldgaaGreatDoorA20
import Derived.Test.YtlfnibjmkfldgaaGreatDoorA23
import Derived.Test.YtlfnibjmkfldgaaGreatDoorA25
import Derived.Test.YtlfnibjmkfldgaaGreatDoorA27
import Derived.Test.YtlfnibjmkfldgaaGreatDoorA28
import Derived.Test.YtlfnibjmkfldgaaGreatDoorA29
import Derived.Test.YtlfnibjmkfldgaaGreatDoorCardBlk01
import Derived.Test.YtlfnibjmkfldgaaGreatDoorCardBlk02
import Derived.Test.YtlfnibjmkfldgaaGreatDoorCardBlk03
import Derived.Test.YtlfnibjmkfldgaaGreatDoorCardBlk04
import Derived.Test.YtlfnibjmkfldgaaGreatDoorCardBlk05
namespace Go.Proofs.YtlfnibjmkfldgaaGreatDoor
open Go.RowKit Big
def Blk (w : World) (B : Nat) (f : Nat → Nat) : Prop := Box w B 71 #[.int .u16 (f 0 : Nat), .int .u16 (f 1 : Nat), .int .u16 (f 2 : Nat), .int .u16 (f 3 : Nat), .int .u16 (f 4 : Nat), .int .u16 (f 5 : Nat), .int .u16 (f 6 : Nat), .int .u16 (f 7 : Nat), .int .u16 (f 8 : Nat), .int .u16 (f 9 : Nat), .int .u16 (f 10 : Nat), .int .u16 (f 11 : Nat), .int .u16 (f 12 : Nat), .int .u16 (f 13 : Nat), .int .u16 (f 14 : Nat), .int .u16 (f 15 : Nat)]
theorem Blk.new {w w' : World} {B : Nat} {f : Nat → Nat} (h : Blk w B f) (hn : New w w') : Blk w' B f := Box.new h hn
theorem Blk.at {w : World} {B : Nat} {f : Nat → Nat} (h : Blk w B f) (j : Nat) (hj : j < 16) : w.cell? ⟨B, j, none⟩ = some (.int .u16 (f j : Nat)) := by
 rw [Box.cell h]
 match j, hj with
 | 0, _ => rfl
 | 1, _ => rfl
 | 2, _ => rfl
 | 3, _ => rfl
 | 4, _ => rfl
 | 5, _ => rfl
 | 6, _ => rfl
 | 7, _ => rfl
 | 8, _ => rfl
 | 9, _ => rfl
 | 10, _ => rfl
 | 11, _ => rfl
 | 12, _ => rfl
 | 13, _ => rfl
 | 14, _ => rfl
 | 15, _ => rfl
 | n + 16, h => exact absurd h (by omega)
theorem Blk.of_zero {w : World} {B : Nat} {f : Nat → Nat} (h : Box w B 71 #[.int .u16 0, .int .u16 0, .int .u16 0, .int .u16 0, .int .u16 0, .int .u16 0, .int .u16 0, .int .u16 0, .int .u16 0, .int .u16 0, .int .u16 0, .int .u16 0, .int .u16 0, .int .u16 0, .int .u16 0, .int .u16 0]) (h0 : ∀ j, f j = 0) : Blk w B f := by
 unfold Blk
 simp only [h0]
 exact h
theorem blk_stored {w0 w : World} {B : Nat} {f : Nat → Nat} (h : Box w B 71 #[.int .u16 0, .int .u16 0, .int .u16 0, .int .u16 0, .int .u16 0, .int .u16 0, .int .u16 0, .int .u16 0, .int .u16 0, .int .u16 0, .int .u16 0, .int .u16 0, .int .u16 0, .int .u16 0, .int .u16 0, .int .u16 0]) (hn : New w0 w) (hB : w0.heap.size ≤ B) : New w0 ((((((((((((((((w.setCell ⟨B, 0, none⟩ (.int .u16 (f 0 : Nat))).setCell ⟨B, 1, none⟩ (.int .u16 (f 1 : Nat))).setCell ⟨B, 2, none⟩ (.int .u16 (f 2 : Nat))).setCell ⟨B, 3, none⟩ (.int .u16 (f 3 : Nat))).setCell ⟨B, 4, none⟩ (.int .u16 (f 4 : Nat))).setCell ⟨B, 5, none⟩ (.int .u16 (f 5 : Nat))).setCell ⟨B, 6, none⟩ (.int .u16 (f 6 : Nat))).setCell ⟨B, 7, none⟩ (.int .u16 (f 7 : Nat))).setCell ⟨B, 8, none⟩ (.int .u16 (f 8 : Nat))).setCell ⟨B, 9, none⟩ (.int .u16 (f 9 : Nat))).setCell ⟨B, 10, none⟩ (.int .u16 (f 10 : Nat))).setCell ⟨B, 11, none⟩ (.int .u16 (f 11 : Nat))).setCell ⟨B, 12, none⟩ (.int .u16 (f 12 : Nat))).setCell ⟨B, 13, none⟩ (.int .u16 (f 13 : Nat))).setCell ⟨B, 14, none⟩ (.int .u16 (f 14 : Nat))).setCell ⟨B, 15, none⟩ (.int .u16 (f 15 : Nat))) ∧ Blk ((((((((((((((((w.setCell ⟨B, 0, none⟩ (.int .u16 (f 0 : Nat))).setCell ⟨B, 1, none⟩ (.int .u16 (f 1 : Nat))).setCell ⟨B, 2, none⟩ (.int .u16 (f 2 : Nat))).setCell ⟨B, 3, none⟩ (.int .u16 (f 3 : Nat))).setCell ⟨B, 4, none⟩ (.int .u16 (f 4 : Nat))).setCell ⟨B, 5, none⟩ (.int .u16 (f 5 : Nat))).setCell ⟨B, 6, none⟩ (.int .u16 (f 6 : Nat))).setCell ⟨B, 7, none⟩ (.int .u16 (f 7 : Nat))).setCell ⟨B, 8, none⟩ (.int .u16 (f 8 : Nat))).setCell ⟨B, 9, none⟩ (.int .u16 (f 9 : Nat))).setCell ⟨B, 10, none⟩ (.int .u16 (f 10 : Nat))).setCell ⟨B, 11, none⟩ (.int .u16 (f 11 : Nat))).setCell ⟨B, 12, none⟩ (.int .u16 (f 12 : Nat))).setCell ⟨B, 13, none⟩ (.int .u16 (f 13 : Nat))).setCell ⟨B, 14, none⟩ (.int .u16 (f 14 : Nat))).setCell ⟨B, 15, none⟩ (.int .u16 (f 15 : Nat))) B f := by
 refine ⟨?_, put16 h _ _ _ _ _ _ _ _ _ _ _ _ _ _ _ _⟩
 repeat first
  | with_reducible exact hn
  | with_reducible refine New.setCell ?_ hB _
theorem box16_zero {w : World} {B : Nat} (h : Box w B 71 #[.int .u16 0, .int .u16 0, .int .u16 0, .int .u16 0, .int .u16 0, .int .u16 0, .int .u16 0, .int .u16 0, .int .u16 0, .int .u16 0, .int .u16 0, .int .u16 0, .int .u16 0, .int .u16 0, .int .u16 0, .int .u16 0]) (j : Nat) (hj : j < 16) : w.cell? ⟨B, j, none⟩ = some (.int .u16 0) := by
 rw [h.cell]
 match j, hj with
 | 0, _ => rfl
 | 1, _ => rfl
 | 2, _ => rfl
 | 3, _ => rfl
 | 4, _ => rfl
 | 5, _ => rfl
 | 6, _ => rfl
 | 7, _ => rfl
 | 8, _ => rfl
 | 9, _ => rfl
 | 10, _ => rfl
 | 11, _ => rfl
 | 12, _ => rfl
 | 13, _ => rfl
 | 14, _ => rfl
 | 15, _ => rfl
 | n + 16, h => exact absurd h (by omega)
theorem blk_first {w : World} {B : Nat} {xs : List Nat} {f : Nat → Nat} (h : RdL w (some ⟨B, 0, none⟩) (words (padW xs (16 * 1)))) (hf : ∀ j, f j = xs.getD j 0) (j : Nat) (hj : j < 16) : w.cell? ⟨B, j, none⟩ = some (.int .u16 (f j : Nat)) := by
 have := block_cells (N := 1) (k := 0) h (New.refl w) (by simp [padW]) (by decide) j hj
 rw [show 0 + 0 * 16 + j = j by omega] at this
 rw [this, hf]
 simp [padW, List.getD_eq_getElem?_getD, hj]
theorem blk_facts {m : Nat} {xs : List Nat} (hm : xs.length = m) (hml : m ≤ 4098) :
  (blocksL xs).length = 16 * blocksN xs ∧ blocksN xs ≤ 1000 ∧ (4096 < m → blocksN xs = 0 ∧ blocksL xs = [] ∧ blockErr m = 5 ∧ fewErr m = 5) ∧
  (¬ 4096 < m → blocksN xs = nBlocks m ∧ blocksL xs = padW xs (16 * nBlocks m) ∧ blockErr m = (if m = 16 then 0 else 2) ∧ fewErr m = 0) := by
 subst hm
 by_cases h : 4096 < xs.length
 ·have hf : fewErr xs.length = 5 := if_pos h
  have h1 : blocksN xs = 0 := by unfold blocksN; rw [if_neg (by rw [hf]; decide)]
  have h2 : blocksL xs = [] := by unfold blocksL; rw [if_neg (by rw [hf]; decide)]
  rw [h1, h2]
  exact ⟨rfl, by decide, fun _ => ⟨rfl, rfl, by unfold blockErr; rw [if_pos h], hf⟩, fun h' => absurd h h'⟩
 ·have hf : fewErr xs.length = 0 := if_neg h
  have h1 : blocksN xs = nBlocks xs.length := by unfold blocksN; rw [if_pos hf]
  have h2 : blocksL xs = padW xs (16 * nBlocks xs.length) := by unfold blocksL; rw [if_pos hf]
  rw [h1, h2]
  exact ⟨by simp [padW], by unfold nBlocks; omega, fun h' => absurd h' h, fun _ => ⟨rfl, rfl, by unfold blockErr; rw [if_neg h], hf⟩⟩
theorem unpackL_len (N : Nat) (n : Int) (ys : List Nat) : (unpackL N n ys).length ≤ 1000000 := by
 unfold unpackL
 split
 ·rename_i h
  have h0 : unpackErr N n = 0 := by
   unfold unpackE at h
   split at h
   ·assumption
   ·assumption
  obtain ⟨_, k, rfl, hk, _⟩ := unpackErr_ok h0
  simp
  omega
 ·simp
theorem blockF_zero {xs : List Nat} (h : xs.length ≠ 16) (j : Nat) : blockF xs j = 0 := by unfold blockF; rw [if_neg h]
theorem blockF_get {xs : List Nat} (h : xs.length = 16) (j : Nat) : blockF xs j = xs.getD j 0 := by unfold blockF; rw [if_pos h]
set_option maxRecDepth 100000 in
set_option maxHeartbeats 8000000 in
theorem blocks_law (haw : AwakeOk) (a b : Option Addr) (ca cb m N : Nat) (xs ys : List Nat) (n : Int) (w : World) (he : Env w) (hm : xs.length = m) (hy : ys.length = 16 * N) (_hml : m ≤ maxLen) (_hNl : N ≤ maxLen)
  (hr : RdL w a (words xs)) (hza : a = none → ca = 0) (hrb : RdL w b (words ys)) (hzb : b = none → cb = 0) :
  Calls Tryz.prog 7 #[.slice a m ca, .slice b N cb, .int .i64 n] w fun e w' => e = .returned (.bool true) ∧ New w w' := by
 have HN := Lib.hid (New.refl w)
 have h1 := fun W => Length_calls m 64 W
 obtain ⟨p, hp⟩ : ∃ p : Bool, ((m : Int) ≤ 64 || (4096 < (m : Int) && (m : Int) ≤ 4098)) = p := ⟨_, rfl⟩
 simp only [hp] at h1
 cases p with
 | false =>
  clear hr hrb hy hm hp
  have HE := Lib.hid he
  have HAW := Lib.hid haw
  have H1 := Lib.hid h1
  clear he haw h1
  go_enter Tryz.func7, Tryz.ntmps7
  go_wp2_with fail
  refine (H1.out _).mono ?_
  rintro e w' ⟨rfl, rfl⟩
  go_wp2_with fail
  refine (HAW.out _ (HE.out.new HN.out)).mono ?_
  rintro e wz ⟨rfl, hnz⟩
  go_wp2_with fail
  go_ret
  exact ⟨rfl, HN.out.trans hnz⟩
 | true =>
  have hm4 : m ≤ 4098 := by simp at hp; omega
  clear hp
  by_cases hg : (6 < N ∧ N ≤ 256) ∨ 258 < N
  ·clear hr hrb hy hm hm4
   by_cases hg6 : 6 < N ∧ N ≤ 256
   ·have t1 : decide ((6 : Int) < (N : Int)) = true := by rw [decide_eq_true_eq]; omega
    have t2 : decide ((N : Int) ≤ 256) = true := by rw [decide_eq_true_eq]; omega
    have t3 : (6 : Int) < (N : Int) := by omega
    have t4 : (N : Int) ≤ 256 := by omega
    clear hg hg6
    have HE := Lib.hid he
    have HAW := Lib.hid haw
    have H1 := Lib.hid h1
    clear he haw h1
    go_enter Tryz.func7, Tryz.ntmps7
    go_wp2_with fail
    refine (H1.out _).mono ?_
    rintro e w' ⟨rfl, rfl⟩
    go_wp2_with fail
    refine (HAW.out _ (HE.out.new HN.out)).mono ?_
    rintro e wz ⟨rfl, hnz⟩
    go_wp2_with fail
    go_ret
    exact ⟨rfl, HN.out.trans hnz⟩
   ·have t3 : (6 : Int) < (N : Int) := by omega
    have t4 : ¬ (N : Int) ≤ 256 := by omega
    have t5 : (258 : Int) < (N : Int) := by omega
    clear hg hg6
    have HE := Lib.hid he
    have HAW := Lib.hid haw
    have H1 := Lib.hid h1
    clear he haw h1
    go_enter Tryz.func7, Tryz.ntmps7
    go_wp2_with fail
    refine (H1.out _).mono ?_
    rintro e w' ⟨rfl, rfl⟩
    go_wp2_with fail
    refine (HAW.out _ (HE.out.new HN.out)).mono ?_
    rintro e wz ⟨rfl, hnz⟩
    go_wp2_with fail
    go_ret
    exact ⟨rfl, HN.out.trans hnz⟩
  ·have hN : N ≤ 258 := by omega
   have hNi : (N : Int) ≤ 258 := by omega
   have hmi : (m : Int) ≤ 4098 := by omega
   obtain ⟨k1, k2, k3, k4⟩ := blk_facts hm hm4
   have hf0 : m ≠ 16 → ∀ j, blockF xs j = 0 := fun h j => blockF_zero (by rw [hm]; exact h) j
   have hf1 : m = 16 → ∀ j, blockF xs j = xs.getD j 0 := fun h j => blockF_get (by rw [hm]; exact h) j
   obtain ⟨e1, he1⟩ : ∃ e : Int, (if m = 16 then 0 else 2) = e := ⟨_, rfl⟩
   obtain ⟨e8, he8⟩ : ∃ e, blockErr m = e := ⟨_, rfl⟩
   obtain ⟨e10, he10⟩ : ∃ e, fewErr m = e := ⟨_, rfl⟩
   obtain ⟨f, hf⟩ : ∃ f, blockF xs = f := ⟨_, rfl⟩
   obtain ⟨NB, hNB⟩ : ∃ k, blocksN xs = k := ⟨_, rfl⟩
   obtain ⟨BL, hBL⟩ : ∃ l, blocksL xs = l := ⟨_, rfl⟩
   have hxl : (words xs).length = m := by rw [words_len, hm]
   have hwa : ∀ W, New w W → Calls Tryz.prog 31 #[.slice a m ca] W (RdPost W m (words xs)) := by
    intro W hW
    have := words_calls a ca (words xs) W (by omega) (hr.new hW) hza (words_cell xs)
    rw [hxl] at this
    exact this
   have hpb := fun a' cap' W h => pblock_all a' cap' m xs W hm (by omega) h
   have hpbs := fun a' cap' W h => pblocks_all a' cap' m xs W hm (by omega) h
   simp only [he8, he10, hf, hNB, hBL] at hpb hpbs
   rw [he1, he8, he10, hNB, hBL] at k4
   rw [he8, he10, hNB, hBL] at k3
   rw [hNB, hBL] at k1
   rw [hNB] at k2
   rw [hf] at hf0 hf1
   obtain ⟨i0, hi0, hz0, hz1, hz2⟩ := info_parts info_arr16
   have hpu := fun a' cap' W h => unpack_all a' cap' N n ys W hy (by omega) h
   have hpru := fun a' cap' W h => runpack_all a' cap' N n ys W hy (by omega) h
   have hUl := unpackL_len N n ys
   obtain ⟨e12, he12⟩ : ∃ e, unpackE N n ys = e := ⟨_, rfl⟩
   obtain ⟨UL, hUL⟩ : ∃ l, unpackL N n ys = l := ⟨_, rfl⟩
   simp only [he12, hUL] at hpu hpru
   rw [hUL] at hUl
   have hym : (words ys).length = N * 16 := by rw [words_len, hy, Nat.mul_comm]
   clear he8 he10 hf hNB hBL he12 hUL
   have HE := Lib.hid he
   have HAW := Lib.hid haw
   have H1 := Lib.hid h1
   have HWA := Lib.hid hwa
   have HPB := Lib.hid hpb
   have HPBS := Lib.hid hpbs
   have HZA := Lib.hid hza
   have HRA := Lib.hid hr
   have HRB := Lib.hid hrb
   have HZB := Lib.hid hzb
   have HPU := Lib.hid hpu
   have HYM := Lib.hid hym
   have HY := Lib.hid hy
   have HMM := Lib.hid hm
   have HPRU := Lib.hid hpru
   have HF0 := Lib.hid hf0
   have HF1 := Lib.hid hf1
   have HE1 := Lib.hid he1
   have K1 := Lib.hid k1
   have K2 := Lib.hid k2
   have K3 := Lib.hid k3
   have K4 := Lib.hid k4
   have HUL := Lib.hid hUl
   have HXL := Lib.hid hxl
   clear he haw h1 hwa hpb hpbs hza hr hrb hzb hpu hym hy hm hpru hf0 hf1 he1 k1 k2 k3 k4 hUl hxl
   go_enter Tryz.func7, Tryz.ntmps7
   go_upto_region 1 with (fail)
   go_cut [37] (fun s wx => s = .bool false ∧ wx = w)
   case first =>
    by_cases h6 : (6 : Int) < (N : Int)
    ·have t4 : ¬ (N : Int) ≤ 256 := by omega
     have t5 : ¬ (258 : Int) < (N : Int) := by omega
     have d4 := decide_eq_false t4
     have d5 := decide_eq_false t5
     clear hg
     go_wp2_with fail
     refine (H1.out _).mono ?_
     rintro e w' ⟨rfl, hw'⟩
     rw [hw']
     clear hw'
     go_wp2_with fail
     go_meet
     exact ⟨rfl, rfl⟩
    ·have t5 : ¬ (258 : Int) < (N : Int) := by omega
     have d5 := decide_eq_false t5
     clear hg
     go_wp2_with fail
     refine (H1.out _).mono ?_
     rintro e w' ⟨rfl, hw'⟩
     rw [hw']
     clear hw'
     go_wp2_with fail
     go_meet
     exact ⟨rfl, rfl⟩
   case rest =>
    obtain ⟨rfl, hwx⟩ := hcut
    replace hwx := hwx.symm
    subst hwx
    clear hg
    go_step
    go_wp2_with fail
    refine (HWA.out _ HN.out).mono ?_
    rintro e w1 ⟨a1, c1, rfl, hn, hr1, -, -⟩
    replace HN := Lib.hid (HN.out.trans hn)
    clear hn
    have HR1 := Lib.hid hr1
    clear hr1
    go_wp2_with fail
    refine (HPB.out a1 c1 _ HR1.out).mono ?_
    rintro e w2 ⟨rfl, hn⟩
    replace HN := Lib.hid (HN.out.trans hn)
    clear hn
    clear HR1
    go_wp2_with fail
    have HN0 := HN
    clear HN
    have BG0 := Lib.hid ((Box.alloc w2 (w2.heap.size) 71 #[.int .u16 (f 0 : Nat), .int .u16 (f 1 : Nat), .int .u16 (f 2 : Nat), .int .u16 (f 3 : Nat), .int .u16 (f 4 : Nat), .int .u16 (f 5 : Nat), .int .u16 (f 6 : Nat), .int .u16 (f 7 : Nat), .int .u16 (f 8 : Nat), .int .u16 (f 9 : Nat), .int .u16 (f 10 : Nat), .int .u16 (f 11 : Nat), .int .u16 (f 12 : Nat), .int .u16 (f 13 : Nat), .int .u16 (f 14 : Nat), .int .u16 (f 15 : Nat)] (by simp)).new (New.refl _))
    have HN := Lib.hid ((New.refl w2).alloc (.cells #[.int .u16 (f 0 : Nat), .int .u16 (f 1 : Nat), .int .u16 (f 2 : Nat), .int .u16 (f 3 : Nat), .int .u16 (f 4 : Nat), .int .u16 (f 5 : Nat), .int .u16 (f 6 : Nat), .int .u16 (f 7 : Nat), .int .u16 (f 8 : Nat), .int .u16 (f 9 : Nat), .int .u16 (f 10 : Nat), .int .u16 (f 11 : Nat), .int .u16 (f 12 : Nat), .int .u16 (f 13 : Nat), .int .u16 (f 14 : Nat), .int .u16 (f 15 : Nat)] 71))
    have HN_ := HN0.out.trans HN.out
    clear HN HN0
    have HN := Lib.hid HN_
    clear HN_
    have BG : Hid (Blk _ w2.heap.size f) := Lib.hid BG0.out
    clear BG0
    refine (HWA.out _ HN.out).mono ?_
    rintro e w3 ⟨a3, c3, rfl, hn, hr3, -, -⟩
    replace BG := Lib.hid (BG.out.new hn)
    replace HN := Lib.hid (HN.out.trans hn)
    clear hn
    have HR3 := Lib.hid hr3
    clear hr3
    go_wp2_with fail
    refine (HPBS.out a3 c3 _ HR3.out).mono ?_
    rintro e w4 ⟨a4, c4, rfl, hn, hr4⟩
    replace BG := Lib.hid (BG.out.new hn)
    replace HN := Lib.hid (HN.out.trans hn)
    clear hn
    have HR4 := Lib.hid hr4
    clear hr4
    clear HR3
    go_wp2_with (at_builtin; refine wpList_append_copy rfl _ _ 69 rfl 71 i0 (.agg #[.int .u16 0, .int .u16 0, .int .u16 0, .int .u16 0, .int .u16 0, .int .u16 0, .int .u16 0, .int .u16 0, .int .u16 0, .int .u16 0, .int .u16 0, .int .u16 0, .int .u16 0, .int .u16 0, .int .u16 0, .int .u16 0]) 16 32 Tryz.underlying69 hi0 hz0 hz1 hz2 rfl (by decide) _ rfl b N cb (words ys) rfl HYM.out (HRB.out.new HN.out) HZB.out (words_cell ys) (by unfold maxLen; omega) (by omega) ?_)
    intro a5 c5 w5 hn5 _ hr5 _ _
    replace BG := Lib.hid (BG.out.new hn5)
    replace HR4 := Lib.hid (HR4.out.new hn5)
    replace HN := Lib.hid (HN.out.trans hn5)
    clear hn5
    have HR5 := Lib.hid hr5
    clear hr5
    go_wp2_with fail
    refine (HPU.out a5 c5 _ HR5.out).mono ?_
    rintro e w6 ⟨a6, c6, rfl, hn, hr6⟩
    replace BG := Lib.hid (BG.out.new hn)
    replace HR4 := Lib.hid (HR4.out.new hn)
    replace HN := Lib.hid (HN.out.trans hn)
    clear hn
    have HR6 := Lib.hid hr6
    clear hr6
    clear HR5
    have HNW := HN
    obtain ⟨tb, htb⟩ : ∃ tb, ((m : Int) == 16) = tb := ⟨_, rfl⟩
    go_upto_if 61 with (fail)
    have HN0 := HN
    clear HN
    have BZ0 := Lib.hid ((Box.alloc w6 (w6.heap.size) 71 #[.int .u16 0, .int .u16 0, .int .u16 0, .int .u16 0, .int .u16 0, .int .u16 0, .int .u16 0, .int .u16 0, .int .u16 0, .int .u16 0, .int .u16 0, .int .u16 0, .int .u16 0, .int .u16 0, .int .u16 0, .int .u16 0] (by simp)).new (New.refl _))
    have HN := Lib.hid ((New.refl w6).alloc (.cells #[.int .u16 0, .int .u16 0, .int .u16 0, .int .u16 0, .int .u16 0, .int .u16 0, .int .u16 0, .int .u16 0, .int .u16 0, .int .u16 0, .int .u16 0, .int .u16 0, .int .u16 0, .int .u16 0, .int .u16 0, .int .u16 0] 71))
    have HN_ := HN0.out.trans HN.out
    clear HN HN0
    have HN := Lib.hid HN_
    clear HN_
    have hn6 := (New.refl w6).alloc (.cells #[.int .u16 0, .int .u16 0, .int .u16 0, .int .u16 0, .int .u16 0, .int .u16 0, .int .u16 0, .int .u16 0, .int .u16 0, .int .u16 0, .int .u16 0, .int .u16 0, .int .u16 0, .int .u16 0, .int .u16 0, .int .u16 0] 71)
    have HN6 := Lib.hid hn6
    have HTB := Lib.hid htb
    clear hn6 htb
    go_cut [15] (fun s1 wx => s1 = .int .i64 e1 ∧ New w6 wx ∧ Blk wx w6.heap.size f)
    case first =>
     cases tb with
     | true =>
      have h16 : m = 16 := by have := HTB.out; simp at this; omega
      have he1 := HE1.out
      rw [if_pos h16] at he1
      subst he1
      have hrbl := fun W (hW : New w W) => rblocks_calls a ca m xs W (HRA.out.new hW) HMM.out (by omega)
      rw [show nBlocks m = 1 by rw [h16]; rfl] at hrbl
      have hf1 := HF1.out h16
      clear h16
      have HRBL := Lib.hid hrbl
      have HF2 := Lib.hid hf1
      clear hrbl hf1
      go_wp2_with fail
      refine (HRBL.out _ HN.out).mono ?_
      rintro e w7 ⟨B7, rfl, hn, hr7⟩
      replace BZ0 := Lib.hid (BZ0.out.new hn)
      replace HN6 := Lib.hid (HN6.out.trans hn)
      replace HN := Lib.hid (HN.out.trans hn)
      clear hn
      have hc := blk_first hr7 HF2.out
      have hz := box16_zero BZ0.out
      have hfz := BZ0.out.frozen
      have HR7 := Lib.hid hr7
      have HC := Lib.hid hc
      have HZ := Lib.hid hz
      have HFZ := Lib.hid hfz
      clear hr7 hc hz hfz
      have c0 : w7.cell? ⟨B7, 0, none⟩ = some (.int .u16 (f 0 : Nat)) := HC.out 0 (by decide)
      have c1 : w7.cell? ⟨B7, 1, none⟩ = some (.int .u16 (f 1 : Nat)) := HC.out 1 (by decide)
      have c2 : w7.cell? ⟨B7, 2, none⟩ = some (.int .u16 (f 2 : Nat)) := HC.out 2 (by decide)
      have c3 : w7.cell? ⟨B7, 3, none⟩ = some (.int .u16 (f 3 : Nat)) := HC.out 3 (by decide)
      have c4 : w7.cell? ⟨B7, 4, none⟩ = some (.int .u16 (f 4 : Nat)) := HC.out 4 (by decide)
      have c5 : w7.cell? ⟨B7, 5, none⟩ = some (.int .u16 (f 5 : Nat)) := HC.out 5 (by decide)
      have c6 : w7.cell? ⟨B7, 6, none⟩ = some (.int .u16 (f 6 : Nat)) := HC.out 6 (by decide)
      have c7 : w7.cell? ⟨B7, 7, none⟩ = some (.int .u16 (f 7 : Nat)) := HC.out 7 (by decide)
      have c8 : w7.cell? ⟨B7, 8, none⟩ = some (.int .u16 (f 8 : Nat)) := HC.out 8 (by decide)
      have c9 : w7.cell? ⟨B7, 9, none⟩ = some (.int .u16 (f 9 : Nat)) := HC.out 9 (by decide)
      have c10 : w7.cell? ⟨B7, 10, none⟩ = some (.int .u16 (f 10 : Nat)) := HC.out 10 (by decide)
      have c11 : w7.cell? ⟨B7, 11, none⟩ = some (.int .u16 (f 11 : Nat)) := HC.out 11 (by decide)
      have c12 : w7.cell? ⟨B7, 12, none⟩ = some (.int .u16 (f 12 : Nat)) := HC.out 12 (by decide)
      have c13 : w7.cell? ⟨B7, 13, none⟩ = some (.int .u16 (f 13 : Nat)) := HC.out 13 (by decide)
      have c14 : w7.cell? ⟨B7, 14, none⟩ = some (.int .u16 (f 14 : Nat)) := HC.out 14 (by decide)
      have c15 : w7.cell? ⟨B7, 15, none⟩ = some (.int .u16 (f 15 : Nat)) := HC.out 15 (by decide)
      have z0 : w7.cell? ⟨w6.heap.size, 0, none⟩ = some (.int .u16 0) := HZ.out 0 (by decide)
      have z1 : w7.cell? ⟨w6.heap.size, 1, none⟩ = some (.int .u16 0) := HZ.out 1 (by decide)
      have z2 : w7.cell? ⟨w6.heap.size, 2, none⟩ = some (.int .u16 0) := HZ.out 2 (by decide)
      have z3 : w7.cell? ⟨w6.heap.size, 3, none⟩ = some (.int .u16 0) := HZ.out 3 (by decide)
      have z4 : w7.cell? ⟨w6.heap.size, 4, none⟩ = some (.int .u16 0) := HZ.out 4 (by decide)
      have z5 : w7.cell? ⟨w6.heap.size, 5, none⟩ = some (.int .u16 0) := HZ.out 5 (by decide)
      have z6 : w7.cell? ⟨w6.heap.size, 6, none⟩ = some (.int .u16 0) := HZ.out 6 (by decide)
      have z7 : w7.cell? ⟨w6.heap.size, 7, none⟩ = some (.int .u16 0) := HZ.out 7 (by decide)
      have z8 : w7.cell? ⟨w6.heap.size, 8, none⟩ = some (.int .u16 0) := HZ.out 8 (by decide)
      have z9 : w7.cell? ⟨w6.heap.size, 9, none⟩ = some (.int .u16 0) := HZ.out 9 (by decide)
      have z10 : w7.cell? ⟨w6.heap.size, 10, none⟩ = some (.int .u16 0) := HZ.out 10 (by decide)
      have z11 : w7.cell? ⟨w6.heap.size, 11, none⟩ = some (.int .u16 0) := HZ.out 11 (by decide)
      have z12 : w7.cell? ⟨w6.heap.size, 12, none⟩ = some (.int .u16 0) := HZ.out 12 (by decide)
      have z13 : w7.cell? ⟨w6.heap.size, 13, none⟩ = some (.int .u16 0) := HZ.out 13 (by decide)
      have z14 : w7.cell? ⟨w6.heap.size, 14, none⟩ = some (.int .u16 0) := HZ.out 14 (by decide)
      have z15 : w7.cell? ⟨w6.heap.size, 15, none⟩ = some (.int .u16 0) := HZ.out 15 (by decide)
      have g0 : w7.frozen? ⟨w6.heap.size, 0, none⟩ = false := HFZ.out 0
      have g1 : w7.frozen? ⟨w6.heap.size, 1, none⟩ = false := HFZ.out 1
      have g2 : w7.frozen? ⟨w6.heap.size, 2, none⟩ = false := HFZ.out 2
      have g3 : w7.frozen? ⟨w6.heap.size, 3, none⟩ = false := HFZ.out 3
      have g4 : w7.frozen? ⟨w6.heap.size, 4, none⟩ = false := HFZ.out 4
      have g5 : w7.frozen? ⟨w6.heap.size, 5, none⟩ = false := HFZ.out 5
      have g6 : w7.frozen? ⟨w6.heap.size, 6, none⟩ = false := HFZ.out 6
      have g7 : w7.frozen? ⟨w6.heap.size, 7, none⟩ = false := HFZ.out 7
      have g8 : w7.frozen? ⟨w6.heap.size, 8, none⟩ = false := HFZ.out 8
      have g9 : w7.frozen? ⟨w6.heap.size, 9, none⟩ = false := HFZ.out 9
      have g10 : w7.frozen? ⟨w6.heap.size, 10, none⟩ = false := HFZ.out 10
      have g11 : w7.frozen? ⟨w6.heap.size, 11, none⟩ = false := HFZ.out 11
      have g12 : w7.frozen? ⟨w6.heap.size, 12, none⟩ = false := HFZ.out 12
      have g13 : w7.frozen? ⟨w6.heap.size, 13, none⟩ = false := HFZ.out 13
      have g14 : w7.frozen? ⟨w6.heap.size, 14, none⟩ = false := HFZ.out 14
      have g15 : w7.frozen? ⟨w6.heap.size, 15, none⟩ = false := HFZ.out 15
      go_wp2_with fail
      go_meet
      exact ⟨rfl, (blk_stored BZ0.out HN6.out (Nat.le_refl _)).1, (blk_stored BZ0.out HN6.out (Nat.le_refl _)).2⟩
     | false =>
      have h16 : m ≠ 16 := by have := HTB.out; simp at this; omega
      have he1 := HE1.out
      rw [if_neg h16] at he1
      subst he1
      have hz := Blk.of_zero BZ0.out (HF0.out h16)
      clear h16
      have HZ := Lib.hid hz
      clear hz
      go_wp2_with fail
      go_meet
      exact ⟨rfl, HN6.out, HZ.out⟩
    case rest => as_aux_lemma =>
     clear BZ0 HN6 HN
     have HN := HNW
     clear HNW
     obtain ⟨rfl, hn, hz⟩ := hcut
     obtain ⟨w7, hw7⟩ : ∃ x, wc = x := ⟨_, rfl⟩
     rw [hw7] at hn hz ⊢
     replace BG := Lib.hid (BG.out.new hn)
     replace HR4 := Lib.hid (HR4.out.new hn)
     replace HR6 := Lib.hid (HR6.out.new hn)
     replace HN := Lib.hid (HN.out.trans hn)
     clear hn
     have BZ := Lib.hid hz
     clear hz
     go_step
     go_upto_if 68 with (fail)
     go_cut [14, 15, 16] (fun sw s1 s2 wx => ∃ (a7 : Option Addr) (c7 : Nat), sw = .slice a7 NB c7 ∧ s1 = .int .i64 e8 ∧ s2 = .int .i64 e10 ∧ New w7 wx ∧ RdL wx a7 (words BL))
     case first =>
      by_cases hb : 4096 < m
      ·have hbi : (4096 : Int) < (m : Int) := by omega
       obtain ⟨rfl, rfl, rfl, rfl⟩ := K3.out hb
       go_wp2_with fail
       go_meet
       exact ⟨none, 0, rfl, rfl, rfl, New.refl _, rdl_nil _ _⟩
      ·have hbi : ¬ (4096 : Int) < (m : Int) := by omega
       obtain ⟨rfl, rfl, rfl, rfl⟩ := K4.out hb
       have hrbl := fun W (hW : New w W) => rblocks_calls a ca m xs W (HRA.out.new hW) HMM.out (by omega)
       have HRBL := Lib.hid hrbl
       clear hrbl
       go_wp2_with fail
       refine (HRBL.out _ HN.out).mono ?_
       rintro e w8 ⟨B8, rfl, hn, hr8⟩
       go_wp2_with fail
       go_meet
       exact ⟨_, _, rfl, rfl, rfl, hn, hr8⟩
     case rest => as_aux_lemma =>
      obtain ⟨a7, c7, rfl, rfl, rfl, hn, hr7⟩ := hcut
      obtain ⟨w8, hw8⟩ : ∃ x, wc = x := ⟨_, rfl⟩
      rw [hw8] at hn hr7 ⊢
      replace BG := Lib.hid (BG.out.new hn)
      replace BZ := Lib.hid (BZ.out.new hn)
      replace HR4 := Lib.hid (HR4.out.new hn)
      replace HR6 := Lib.hid (HR6.out.new hn)
      replace HN := Lib.hid (HN.out.trans hn)
      clear hn
      have HR7 := Lib.hid hr7
      clear hr7
      go_step
      go_wp2_with fail
      refine (HPRU.out b cb _ (HRB.out.new HN.out)).mono ?_
      rintro e w9 ⟨a8, c8, rfl, hn, hr8⟩
      replace BG := Lib.hid (BG.out.new hn)
      replace BZ := Lib.hid (BZ.out.new hn)
      replace HR4 := Lib.hid (HR4.out.new hn)
      replace HR6 := Lib.hid (HR6.out.new hn)
      replace HR7 := Lib.hid (HR7.out.new hn)
      replace HN := Lib.hid (HN.out.trans hn)
      clear hn
      have HR8 := Lib.hid hr8
      clear hr8
      have hq := fun W => eql16 W f
      have he8 : (e8 == e8) = true := by simp
      have he10 : (e10 == e10) = true := by simp
      have he12 : (e12 == e12) = true := by simp
      have c0 : w9.cell? ⟨w2.heap.size, 0, none⟩ = some (.int .u16 (f 0 : Nat)) := BG.out.at 0 (by decide)
      have c1 : w9.cell? ⟨w2.heap.size, 1, none⟩ = some (.int .u16 (f 1 : Nat)) := BG.out.at 1 (by decide)
      have c2 : w9.cell? ⟨w2.heap.size, 2, none⟩ = some (.int .u16 (f 2 : Nat)) := BG.out.at 2 (by decide)
      have c3 : w9.cell? ⟨w2.heap.size, 3, none⟩ = some (.int .u16 (f 3 : Nat)) := BG.out.at 3 (by decide)
      have c4 : w9.cell? ⟨w2.heap.size, 4, none⟩ = some (.int .u16 (f 4 : Nat)) := BG.out.at 4 (by decide)
      have c5 : w9.cell? ⟨w2.heap.size, 5, none⟩ = some (.int .u16 (f 5 : Nat)) := BG.out.at 5 (by decide)
      have c6 : w9.cell? ⟨w2.heap.size, 6, none⟩ = some (.int .u16 (f 6 : Nat)) := BG.out.at 6 (by decide)
      have c7 : w9.cell? ⟨w2.heap.size, 7, none⟩ = some (.int .u16 (f 7 : Nat)) := BG.out.at 7 (by decide)
      have c8 : w9.cell? ⟨w2.heap.size, 8, none⟩ = some (.int .u16 (f 8 : Nat)) := BG.out.at 8 (by decide)
      have c9 : w9.cell? ⟨w2.heap.size, 9, none⟩ = some (.int .u16 (f 9 : Nat)) := BG.out.at 9 (by decide)
      have c10 : w9.cell? ⟨w2.heap.size, 10, none⟩ = some (.int .u16 (f 10 : Nat)) := BG.out.at 10 (by decide)
      have c11 : w9.cell? ⟨w2.heap.size, 11, none⟩ = some (.int .u16 (f 11 : Nat)) := BG.out.at 11 (by decide)
      have c12 : w9.cell? ⟨w2.heap.size, 12, none⟩ = some (.int .u16 (f 12 : Nat)) := BG.out.at 12 (by decide)
      have c13 : w9.cell? ⟨w2.heap.size, 13, none⟩ = some (.int .u16 (f 13 : Nat)) := BG.out.at 13 (by decide)
      have c14 : w9.cell? ⟨w2.heap.size, 14, none⟩ = some (.int .u16 (f 14 : Nat)) := BG.out.at 14 (by decide)
      have c15 : w9.cell? ⟨w2.heap.size, 15, none⟩ = some (.int .u16 (f 15 : Nat)) := BG.out.at 15 (by decide)
      have z0 : w9.cell? ⟨w6.heap.size, 0, none⟩ = some (.int .u16 (f 0 : Nat)) := BZ.out.at 0 (by decide)
      have z1 : w9.cell? ⟨w6.heap.size, 1, none⟩ = some (.int .u16 (f 1 : Nat)) := BZ.out.at 1 (by decide)
      have z2 : w9.cell? ⟨w6.heap.size, 2, none⟩ = some (.int .u16 (f 2 : Nat)) := BZ.out.at 2 (by decide)
      have z3 : w9.cell? ⟨w6.heap.size, 3, none⟩ = some (.int .u16 (f 3 : Nat)) := BZ.out.at 3 (by decide)
      have z4 : w9.cell? ⟨w6.heap.size, 4, none⟩ = some (.int .u16 (f 4 : Nat)) := BZ.out.at 4 (by decide)
      have z5 : w9.cell? ⟨w6.heap.size, 5, none⟩ = some (.int .u16 (f 5 : Nat)) := BZ.out.at 5 (by decide)
      have z6 : w9.cell? ⟨w6.heap.size, 6, none⟩ = some (.int .u16 (f 6 : Nat)) := BZ.out.at 6 (by decide)
      have z7 : w9.cell? ⟨w6.heap.size, 7, none⟩ = some (.int .u16 (f 7 : Nat)) := BZ.out.at 7 (by decide)
      have z8 : w9.cell? ⟨w6.heap.size, 8, none⟩ = some (.int .u16 (f 8 : Nat)) := BZ.out.at 8 (by decide)
      have z9 : w9.cell? ⟨w6.heap.size, 9, none⟩ = some (.int .u16 (f 9 : Nat)) := BZ.out.at 9 (by decide)
      have z10 : w9.cell? ⟨w6.heap.size, 10, none⟩ = some (.int .u16 (f 10 : Nat)) := BZ.out.at 10 (by decide)
      have z11 : w9.cell? ⟨w6.heap.size, 11, none⟩ = some (.int .u16 (f 11 : Nat)) := BZ.out.at 11 (by decide)
      have z12 : w9.cell? ⟨w6.heap.size, 12, none⟩ = some (.int .u16 (f 12 : Nat)) := BZ.out.at 12 (by decide)
      have z13 : w9.cell? ⟨w6.heap.size, 13, none⟩ = some (.int .u16 (f 13 : Nat)) := BZ.out.at 13 (by decide)
      have z14 : w9.cell? ⟨w6.heap.size, 14, none⟩ = some (.int .u16 (f 14 : Nat)) := BZ.out.at 14 (by decide)
      have z15 : w9.cell? ⟨w6.heap.size, 15, none⟩ = some (.int .u16 (f 15 : Nat)) := BZ.out.at 15 (by decide)
      go_wp2_with fail
      clear c0 z0 c1 z1 c2 z2 c3 z3 c4 z4 c5 z5 c6 z6 c7 z7 c8 z8 c9 z9 c10 z10 c11 z11 c12 z12 c13 z13 c14 z14 c15 z15 hq he8
      refine (same_blocks a4 a7 c4 c7 NB BL w9 K1.out (Nat.le_trans K2.out (by decide)) HR4.out HR7.out).mono ?_
      rintro e w10 ⟨rfl, hn⟩
      replace HR6 := Lib.hid (HR6.out.new hn)
      replace HR8 := Lib.hid (HR8.out.new hn)
      replace HN := Lib.hid (HN.out.trans hn)
      clear hn
      go_wp2_with fail
      refine (samew_self a6 a8 c6 c8 UL w10 HUL.out HR6.out HR8.out).mono ?_
      rintro e w11 ⟨rfl, hn⟩
      replace HN := Lib.hid (HN.out.trans hn)
      clear hn
      go_wp2_with fail
      refine (HAW.out _ (HE.out.new HN.out)).mono ?_
      rintro e wz ⟨rfl, hnz⟩
      go_wp2_with fail
      go_ret
      exact ⟨rfl, HN.out.trans hnz⟩
end Go.Proofs.YtlfnibjmkfldgaaGreatDoor
