/- Part CardPack06. -/
import Derived.Deep.DeepCutAuto
import Derived.Laws.AppendOwnNone
import Derived.Maps.AppendAt
import Derived.Test.YtlfnibjmkfldgaaGreatDoorA13
import Derived.Test.YtlfnibjmkfldgaaGreatDoorA20
import Derived.Test.YtlfnibjmkfldgaaGreatDoorA23
import Derived.Test.YtlfnibjmkfldgaaGreatDoorA25
import Derived.Test.YtlfnibjmkfldgaaGreatDoorA27
import Derived.Test.YtlfnibjmkfldgaaGreatDoorA28
import Derived.Test.YtlfnibjmkfldgaaGreatDoorA29
import Derived.Test.YtlfnibjmkfldgaaGreatDoorCardPack01
import Derived.Test.YtlfnibjmkfldgaaGreatDoorCardPack02
import Derived.Test.YtlfnibjmkfldgaaGreatDoorCardPack03
import Derived.Test.YtlfnibjmkfldgaaGreatDoorCardPack04
import Derived.Test.YtlfnibjmkfldgaaGreatDoorCardPack05
namespace Go.Proofs.YtlfnibjmkfldgaaGreatDoor
open Go.RowKit Big
theorem blk_rd {w : World} {B : Nat} {f : Nat → Nat} (h : Blk w B f) : RdL w (some ⟨B, 0, none⟩) (words ((List.range 16).map f)) := by
 intro i hi
 have hi2 : i < 16 := by simpa [words] using hi
 refine ⟨B, 0, rfl, ?_⟩
 rw [Nat.zero_add, h.at i hi2]
 simp [words]
theorem blockF_range (f : Nat → Nat) (i : Nat) (hi : i < 16) : blockF ((List.range 16).map f) i = f i := by
 unfold blockF
 simp [List.getD_eq_getElem?_getD, hi]
theorem pblock_box {w : World} {B : Nat} {f : Nat → Nat} (h : Blk w B f) :
  Calls Tryz.prog 36 #[.slice (some ⟨B, 0, none⟩) 16 16] w fun e w' => e = .returned (.tuple #[.agg #[.int .u16 (f 0 : Nat), .int .u16 (f 1 : Nat), .int .u16 (f 2 : Nat), .int .u16 (f 3 : Nat), .int .u16 (f 4 : Nat), .int .u16 (f 5 : Nat), .int .u16 (f 6 : Nat), .int .u16 (f 7 : Nat), .int .u16 (f 8 : Nat), .int .u16 (f 9 : Nat), .int .u16 (f 10 : Nat), .int .u16 (f 11 : Nat), .int .u16 (f 12 : Nat), .int .u16 (f 13 : Nat), .int .u16 (f 14 : Nat), .int .u16 (f 15 : Nat)], .int .i64 0]) ∧ New w w' := by
 have := pblock_all (some ⟨B, 0, none⟩) 16 16 ((List.range 16).map f) w (by simp) (by decide) (blk_rd h)
 rw [blockF_range f 0 (by decide), blockF_range f 1 (by decide), blockF_range f 2 (by decide), blockF_range f 3 (by decide), blockF_range f 4 (by decide), blockF_range f 5 (by decide), blockF_range f 6 (by decide), blockF_range f 7 (by decide), blockF_range f 8 (by decide), blockF_range f 9 (by decide), blockF_range f 10 (by decide), blockF_range f 11 (by decide), blockF_range f 12 (by decide), blockF_range f 13 (by decide), blockF_range f 14 (by decide), blockF_range f 15 (by decide)] at this
 exact this
set_option maxRecDepth 100000 in
set_option maxHeartbeats 8000000 in
theorem packs_law (haw : AwakeOk) (a : Option Addr) (ca N : Nat) (rv : List Value) (ls : List (List Bool)) (w : World) (he : Env w) (hN : ls.length = N) (_hNl : N ≤ maxLen) (hr : RdZ w a rv (ls.map bools)) :
  Calls Tryz.prog 10 #[.slice a N ca] w fun e w' => e = .returned (.bool true) ∧ New w w' := by
 have HN := Lib.hid (New.refl w)
 by_cases h16 : 16 < N
 ·have hi16 : (16 : Int) < (N : Int) := by omega
  clear hr hN
  have HE := Lib.hid he
  have HAW := Lib.hid haw
  clear he haw
  go_enter Tryz.func10, Tryz.ntmps10
  go_wp2_with fail
  refine (HAW.out _ (HE.out.new HN.out)).mono ?_
  rintro e wz ⟨rfl, hnz⟩
  go_wp2_with fail
  go_ret
  exact ⟨rfl, HN.out.trans hnz⟩
 have hi16 : ¬ (16 : Int) < (N : Int) := by omega
 obtain ⟨e1, he1⟩ : ∃ e1, linesErr ls = e1 := ⟨_, rfl⟩
 have hck : ∀ W, New w W → Calls Tryz.prog 32 #[.slice a N ca] W (RetNew W e1) := by
  intro W hW
  have := rlines_calls a ca N rv ls W (hr.new hW).1 hN (by omega)
  rw [he1] at this
  exact this
 by_cases h0 : e1 ≠ 0
 ·have h00 : (e1 != 0) = true := by simpa using h0
  clear hr hN he1
  have HE := Lib.hid he
  have HAW := Lib.hid haw
  have HCK := Lib.hid hck
  clear he haw hck
  go_enter Tryz.func10, Tryz.ntmps10
  go_wp2_with fail
  refine (HCK.out _ HN.out).mono ?_
  rintro e w1 ⟨rfl, hn⟩
  replace HN := Lib.hid (HN.out.trans hn)
  clear hn
  go_wp2_with fail
  refine (HAW.out _ (HE.out.new HN.out)).mono ?_
  rintro e wz ⟨rfl, hnz⟩
  go_wp2_with fail
  go_ret
  exact ⟨rfl, HN.out.trans hnz⟩
 have h0 : e1 = 0 := Decidable.not_not.1 h0
 subst h0
 obtain ⟨l1, l2, l3, l4⟩ := lines_ok he1
 obtain ⟨m, hm⟩ : ∃ m, (ls.headD []).length = m := ⟨_, rfl⟩
 rw [hm] at l3 l4
 have hat : ∀ (k : Nat) (h : k < ls.length), ∃ (b' off' : Nat) (a' : Option Addr) (c' : Nat), a = some ⟨b', off', none⟩ ∧ w.cell? ⟨b', off' + k, none⟩ = some (.slice a' m c') ∧ RdL w a' (bools ls[k]) := fun k h => by
  obtain ⟨b', off', a', c', e, hc, hrd, -⟩ := hr.at k (by simpa using h)
  have e3 : ((ls.map bools)[k]'(by simpa using h)).length = m := by simp [bools]; exact l4 _ (List.getElem_mem h)
  rw [e3] at hc
  exact ⟨b', off', a', c', e, hc, by simpa using hrd⟩
 obtain ⟨b', off', a0, c0, rfl, hcell0, -⟩ := hat 0 (by omega)
 rw [Nat.add_zero] at hcell0
 have hN0 : (0 : Int) < (N : Int) := by omega
 by_cases h40 : 40 < m
 ·have hi40 : (40 : Int) < (m : Int) := by omega
  clear hr he1 hat l1 l2 l4
  have HE := Lib.hid he
  have HAW := Lib.hid haw
  have HCK := Lib.hid hck
  have HC0 := Lib.hid hcell0
  clear he haw hck hcell0
  go_enter Tryz.func10, Tryz.ntmps10
  go_wp2_with fail
  refine (HCK.out _ HN.out).mono ?_
  rintro e w1 ⟨rfl, hn⟩
  replace HN := Lib.hid (HN.out.trans hn)
  clear hn
  have hc0 := HN.out.cell HC0.out
  go_wp2_with fail
  refine (HAW.out _ (HE.out.new HN.out)).mono ?_
  rintro e wz ⟨rfl, hnz⟩
  go_wp2_with fail
  go_ret
  exact ⟨rfl, HN.out.trans hnz⟩
 have hi40 : ¬ (40 : Int) < (m : Int) := by omega
 have hm40 : m ≤ 40 := by omega
 have hNi : (N : Int) ≤ 16 := by omega
 have hcp := fun W (hn : New w W) h => copied_calls (some ⟨b', off', none⟩) ca N rv ls W (hr.new hn) hN (by omega) h
 have hcl : ∀ (k : Nat) (h : k < ls.length), ls[k].length ≤ 5000 := fun k h => by have := l4 _ (List.getElem_mem h); omega
 obtain ⟨WW, hWW⟩ : ∃ WW, wordsL ls = WW := ⟨_, rfl⟩
 have hWW2 : wordsOf ls m = WW := by rw [← hWW]; unfold wordsL; rw [if_pos he1, hm]
 have hpw := fun a' cap' rv' W hrr ha => pwords_all a' cap' N rv' ls W hrr hN (by omega) ha
 simp only [he1, hWW] at hpw
 have hWl : WW.length = m := by rw [← hWW2]; simp [wordsOf]
 obtain ⟨q1, q2, q3, q4⟩ := pack_lines l2 l4 l3
 rw [hWW2] at q1 q2 q3 q4
 obtain ⟨r1, r2, r3, r4, r5⟩ := pack_blocks hWl l3
 obtain ⟨NB, hNB⟩ : ∃ k, nBlocks m = k := ⟨_, rfl⟩
 obtain ⟨BL, hBL⟩ : ∃ l, padW WW (16 * NB) = l := ⟨_, rfl⟩
 rw [hNB] at r1 r2 r3 r4 r5
 rw [hBL] at r2 r3 r4 r5
 have hNB1 : NB ≤ 256 := by rw [← hNB]; unfold nBlocks; omega
 have hpbs := fun a' cap' W h => pblocks_all a' cap' m WW W hWl (by omega) h
 have hf0 : fewErr m = 0 := by unfold fewErr; rw [if_neg (by omega)]
 simp only [r1, r2, hf0] at hpbs
 have hpu := fun a' cap' W h => unpack_all a' cap' NB (m : Int) BL W r5 (by omega) h
 simp only [r3, r4, hWl] at hpu
 have hnd := fun W => needed_calls m W (by omega)
 simp only [hNB] at hnd
 have hpl := fun (i : Nat) a' cap' W hrr => pline_all a' cap' m WW (i : Int) W hWl (by omega) q4 hrr
 have hBW : ∀ j, j < 16 * NB → BL.getD j 0 = WW.getD j 0 := fun j hj => by rw [← hBL]; simp [padW, List.getD_eq_getElem?_getD, hj]
 have hmm : ((m : Int) != (m : Int)) = false := by simp
 have hnn : ((NB : Int) != (NB : Int)) = false := by simp
 have hNBi : (NB : Int) ≤ 256 := by omega
 clear he1 hWW hWW2 hm hNB hBL r1 r2 r3 r4 h16 h40 l1
 have HE := Lib.hid he
 have HAW := Lib.hid haw
 have HCK := Lib.hid hck
 have HC0 := Lib.hid hcell0
 have HR := Lib.hid hr
 have HCP := Lib.hid hcp
 have HCL := Lib.hid hcl
 have HPW := Lib.hid hpw
 have HWL := Lib.hid hWl
 have Q1 := Lib.hid q1
 have Q2 := Lib.hid q2
 have Q3 := Lib.hid q3
 have Q4 := Lib.hid q4
 have R5 := Lib.hid r5
 have HPBS := Lib.hid hpbs
 have HPU := Lib.hid hpu
 have HND := Lib.hid hnd
 have HPL := Lib.hid hpl
 have HBW := Lib.hid hBW
 have L4 := Lib.hid l4
 have HAT := Lib.hid hat
 have HNN := Lib.hid hN
 clear he haw hck hcell0 hr hcp hcl hpw hWl q1 q2 q3 q4 r5 hpbs hpu hnd hpl hBW l4 hat hN
 go_enter Tryz.func10, Tryz.ntmps10
 go_wp2_with fail
 refine (HCK.out _ HN.out).mono ?_
 rintro e w1 ⟨rfl, hn⟩
 replace HN := Lib.hid (HN.out.trans hn)
 clear hn
 have hc0 := HN.out.cell HC0.out
 go_wp2_with fail
 clear hc0
 refine (HCP.out _ HN.out HCL.out).mono ?_
 rintro e w2 ⟨v1, rfl, hn, ho⟩
 have ho2 := ho.rdz
 clear ho
 obtain ⟨a1, c1, rv1, rfl, hz1, ha1, hc1, -⟩ := ho2
 have hlm : (ls.map bools).length = N := by rw [List.length_map]; exact HNN.out
 rw [hlm] at ha1 hc1 ⊢
 clear hlm
 replace HN := Lib.hid (HN.out.trans hn)
 clear hn
 have HZ1 := Lib.hid hz1
 have HA1 := Lib.hid ha1
 have HC1 := Lib.hid hc1
 clear hz1 ha1 hc1
 go_wp2_with fail
 refine (HPW.out _ _ _ _ HZ1.out.1 HA1.out).mono ?_
 rintro e w3 ⟨a9, c9, rfl, hn, hr9⟩
 replace HN := Lib.hid (HN.out.trans hn)
 clear hn
 rw [HWL.out]
 have HR9 := Lib.hid hr9
 clear hr9
 clear HZ1 HA1 HC1
 go_wp2_with fail
 refine (HPBS.out a9 c9 _ HR9.out).mono ?_
 rintro e w4 ⟨a4, c4, rfl, hn, hr4⟩
 replace HR9 := Lib.hid (HR9.out.new hn)
 replace HN := Lib.hid (HN.out.trans hn)
 clear hn
 have HR4 := Lib.hid hr4
 clear hr4
 have hc0 := HN.out.cell HC0.out
 go_wp2_with fail
 clear hc0
 refine (HPU.out a4 c4 _ HR4.out).mono ?_
 rintro e w5 ⟨a6, c6, rfl, hn, hr6⟩
 replace HR9 := Lib.hid (HR9.out.new hn)
 replace HR4 := Lib.hid (HR4.out.new hn)
 replace HN := Lib.hid (HN.out.trans hn)
 clear hn
 have HR6 := Lib.hid hr6
 clear hr6
 go_wp2_with fail
 have hsw := samew_self a6 a9 c6 c9 WW w5 (by rw [HWL.out]; omega) HR6.out HR9.out
 rw [HWL.out] at hsw
 refine hsw.mono ?_
 clear hsw HR6
 rintro e w6 ⟨rfl, hn⟩
 replace HR9 := Lib.hid (HR9.out.new hn)
 replace HR4 := Lib.hid (HR4.out.new hn)
 replace HN := Lib.hid (HN.out.trans hn)
 clear hn
 have hc0 := HN.out.cell HC0.out
 go_wp2_with fail
 clear hc0
 refine (HND.out _).mono ?_
 rintro e w7 ⟨rfl, hn⟩
 replace HR9 := Lib.hid (HR9.out.new hn)
 replace HR4 := Lib.hid (HR4.out.new hn)
 replace HN := Lib.hid (HN.out.trans hn)
 clear hn
 go_wp2_with fail
 go_loopw [86] (fun i wr => ∃ (k : Nat), k ≤ 16 ∧ i = .int .i64 (k : Int) ∧ Hid (New w wr) ∧ Hid (RdL wr a9 (words WW)) ∧ Hid (RdL wr a4 (words BL))) (fun i _ => 16 - (intOf i).toNat)
 case atStart => exact ⟨0, by decide, rfl, HN, HR9, HR4⟩
 case round => as_aux_lemma =>
  clear HN HR9 HR4
  obtain ⟨k, hk, rfl, HN, HR9, HR4⟩ := hrel
  by_cases hlt : k < 16
  ·have hki : (k : Int) < 16 := by omega
   obtain ⟨e9, hlen⟩ := Q3.out k (by omega)
   have hpl := HPL.out k a9 c9
   rw [e9, hlen] at hpl
   obtain ⟨LL, hLL⟩ : ∃ L, lineL WW (k : Int) = L := ⟨_, rfl⟩
   simp only [hLL] at hpl
   rw [hLL] at hlen
   have HPLK := Lib.hid hpl
   have HLEN := Lib.hid hlen
   have HLL := Lib.hid hLL
   clear hpl hlen hLL
   go_wp2_with fail
   refine (HPLK.out _ HR9.out).mono ?_
   rintro e w8 ⟨a10, c10, rfl, hn, hr10⟩
   replace HR9 := Lib.hid (HR9.out.new hn)
   replace HR4 := Lib.hid (HR4.out.new hn)
   replace HN := Lib.hid (HN.out.trans hn)
   clear hn
   have HR10 := Lib.hid hr10
   clear hr10
   by_cases hkN : k < N
   ·have hkNi : (k : Int) < (N : Int) := by omega
    have hkNg : ¬ (N : Int) ≤ (k : Int) := by omega
    have hkl : k < ls.length := by rw [HNN.out]; exact hkN
    obtain ⟨b2, off2, a11, c11, e2, hc11, hr11⟩ := HAT.out k hkl
    injection e2 with e2
    injection e2 with e2 e3
    subst e2 e3
    have hlk : ls[k] = LL := by rw [← HLL.out, Q1.out k hkl]
    rw [hlk] at hr11
    replace hc11 := HN.out.cell hc11
    have hsb := fun W h1 h2 => sameb_self a10 a11 c10 c11 LL W (by rw [HLEN.out]; omega) h1 h2
    simp only [HLEN.out] at hsb
    clear hlk
    have HSB := Lib.hid hsb
    have HR11 := Lib.hid hr11
    clear hsb hr11
    go_wp2_with fail
    refine (HSB.out _ HR10.out (HR11.out.new HN.out)).mono ?_
    rintro e w9 ⟨rfl, hn⟩
    clear hc11
    replace HR9 := Lib.hid (HR9.out.new hn)
    replace HR4 := Lib.hid (HR4.out.new hn)
    replace HR10 := Lib.hid (HR10.out.new hn)
    replace HN := Lib.hid (HN.out.trans hn)
    clear hn
    go_wp2_with fail
    go_loopw [121] (fun i wx => ∃ (j : Nat), j ≤ m ∧ i = .int .i64 (j : Int) ∧ Hid (New w wx) ∧ Hid (RdL wx a9 (words WW)) ∧ Hid (RdL wx a4 (words BL)) ∧ Hid (RdL wx a10 (bools LL))) (fun i _ => m - (intOf i).toNat)
    case atStart => exact ⟨0, Nat.zero_le _, rfl, HN, HR9, HR4, HR10⟩
    case round =>
     clear HN HR9 HR4 HR10
     obtain ⟨j, hj, rfl, HN, HR9, HR4, HR10⟩ := hrel
     by_cases hjm : j < m
     ·obtain ⟨b3, off3, rfl, hcell⟩ := HR10.out.bool j (by rw [HLEN.out]; exact hjm)
      obtain ⟨x, hx⟩ : ∃ x, LL[j]'(by rw [HLEN.out]; exact hjm) = x := ⟨_, rfl⟩
      rw [hx] at hcell
      clear hx
      cases x with
      | true =>
       go_wp2_with fail
       clear hcell
       go_roundw
       case rel => exact ⟨j + 1, by omega, by go_num, HN, HR9, HR4, HR10⟩
       case measure => simp [intOf]; omega
      | false =>
       go_wp2_with fail
       clear hcell
       go_roundw
       case rel => exact ⟨j + 1, by omega, by go_num, HN, HR9, HR4, HR10⟩
       case measure => simp [intOf]; omega
     ·have hjj : j = m := by omega
      have HJJ := Lib.hid hjj
      clear hjj
      go_wp2_with fail
      go_roundw
      case rel => exact ⟨k + 1, by omega, by go_num, HN, HR9, HR4⟩
      case measure => simp [intOf]; omega
   ·have hkNi : ¬ (k : Int) < (N : Int) := by omega
    go_wp2_with fail
    go_loopw [121] (fun i wx => ∃ (j : Nat), j ≤ m ∧ i = .int .i64 (j : Int) ∧ Hid (New w wx) ∧ Hid (RdL wx a9 (words WW)) ∧ Hid (RdL wx a4 (words BL)) ∧ Hid (RdL wx a10 (bools LL))) (fun i _ => m - (intOf i).toNat)
    case atStart => exact ⟨0, Nat.zero_le _, rfl, HN, HR9, HR4, HR10⟩
    case round =>
     clear HN HR9 HR4 HR10
     obtain ⟨j, hj, rfl, HN, HR9, HR4, HR10⟩ := hrel
     by_cases hjm : j < m
     ·obtain ⟨b3, off3, rfl, hcell⟩ := HR10.out.bool j (by rw [HLEN.out]; exact hjm)
      have hx : LL[j]'(by rw [HLEN.out]; exact hjm) = false := Q2.out k (by rw [HNN.out]; omega) _ (by rw [HLL.out]; exact List.getElem_mem _)
      rw [hx] at hcell
      clear hx
      go_wp2_with fail
      clear hcell
      go_roundw
      case rel => exact ⟨j + 1, by omega, by go_num, HN, HR9, HR4, HR10⟩
      case measure => simp [intOf]; omega
     ·have hjj : j = m := by omega
      have HJJ := Lib.hid hjj
      clear hjj
      go_wp2_with fail
      go_roundw
      case rel => exact ⟨k + 1, by omega, by go_num, HN, HR9, HR4⟩
      case measure => simp [intOf]; omega
  ·as_aux_lemma =>
    have hk16 : k = 16 := by omega
    subst hk16
    go_wp2_with fail
    go_loopw [136] (fun i wx => ∃ (j : Nat), j ≤ NB ∧ i = .int .i64 (j : Int) ∧ Hid (New w wx) ∧ Hid (RdL wx a9 (words WW)) ∧ Hid (RdL wx a4 (words BL))) (fun i _ => NB - (intOf i).toNat)
    case atStart => exact ⟨0, Nat.zero_le _, rfl, HN, HR9, HR4⟩
    case round => as_aux_lemma =>
     clear HN HR9 HR4
     obtain ⟨j, hj, rfl, HN, HR9, HR4⟩ := hrel
     by_cases hjN : j < NB
     ·obtain ⟨b4, off4, rfl, -⟩ := HR4.out.w16 0 (by rw [R5.out]; omega)
      obtain ⟨f, hf⟩ : ∃ f : Nat → Nat, (fun i => BL.getD (16 * j + i) 0) = f := ⟨_, rfl⟩
      have hfd : ∀ i, BL.getD (16 * j + i) 0 = f i := fun i => by rw [← hf]
      have hcell := block_cells HR4.out (New.refl _) R5.out hjN
      simp only [hfd] at hcell
      clear hf
      have HC := Lib.hid hcell
      have HFD := Lib.hid hfd
      clear hcell hfd
      have c0 : wr.cell? ⟨b4, off4 + j * 16, none⟩ = some (.int .u16 (f 0 : Nat)) := HC.out 0 (by decide)
      have c1 : wr.cell? ⟨b4, off4 + j * 16 + 1, none⟩ = some (.int .u16 (f 1 : Nat)) := HC.out 1 (by decide)
      have c2 : wr.cell? ⟨b4, off4 + j * 16 + 2, none⟩ = some (.int .u16 (f 2 : Nat)) := HC.out 2 (by decide)
      have c3 : wr.cell? ⟨b4, off4 + j * 16 + 3, none⟩ = some (.int .u16 (f 3 : Nat)) := HC.out 3 (by decide)
      have c4 : wr.cell? ⟨b4, off4 + j * 16 + 4, none⟩ = some (.int .u16 (f 4 : Nat)) := HC.out 4 (by decide)
      have c5 : wr.cell? ⟨b4, off4 + j * 16 + 5, none⟩ = some (.int .u16 (f 5 : Nat)) := HC.out 5 (by decide)
      have c6 : wr.cell? ⟨b4, off4 + j * 16 + 6, none⟩ = some (.int .u16 (f 6 : Nat)) := HC.out 6 (by decide)
      have c7 : wr.cell? ⟨b4, off4 + j * 16 + 7, none⟩ = some (.int .u16 (f 7 : Nat)) := HC.out 7 (by decide)
      have c8 : wr.cell? ⟨b4, off4 + j * 16 + 8, none⟩ = some (.int .u16 (f 8 : Nat)) := HC.out 8 (by decide)
      have c9 : wr.cell? ⟨b4, off4 + j * 16 + 9, none⟩ = some (.int .u16 (f 9 : Nat)) := HC.out 9 (by decide)
      have c10 : wr.cell? ⟨b4, off4 + j * 16 + 10, none⟩ = some (.int .u16 (f 10 : Nat)) := HC.out 10 (by decide)
      have c11 : wr.cell? ⟨b4, off4 + j * 16 + 11, none⟩ = some (.int .u16 (f 11 : Nat)) := HC.out 11 (by decide)
      have c12 : wr.cell? ⟨b4, off4 + j * 16 + 12, none⟩ = some (.int .u16 (f 12 : Nat)) := HC.out 12 (by decide)
      have c13 : wr.cell? ⟨b4, off4 + j * 16 + 13, none⟩ = some (.int .u16 (f 13 : Nat)) := HC.out 13 (by decide)
      have c14 : wr.cell? ⟨b4, off4 + j * 16 + 14, none⟩ = some (.int .u16 (f 14 : Nat)) := HC.out 14 (by decide)
      have c15 : wr.cell? ⟨b4, off4 + j * 16 + 15, none⟩ = some (.int .u16 (f 15 : Nat)) := HC.out 15 (by decide)
      go_upto_region 24 with (fail)
      clear c0 c1 c2 c3 c4 c5 c6 c7 c8 c9 c10 c11 c12 c13 c14 c15
      have HN0 := HN
      clear HN
      have BX0 := Lib.hid ((Box.alloc wr (wr.heap.size) 71 #[.int .u16 (f 0 : Nat), .int .u16 (f 1 : Nat), .int .u16 (f 2 : Nat), .int .u16 (f 3 : Nat), .int .u16 (f 4 : Nat), .int .u16 (f 5 : Nat), .int .u16 (f 6 : Nat), .int .u16 (f 7 : Nat), .int .u16 (f 8 : Nat), .int .u16 (f 9 : Nat), .int .u16 (f 10 : Nat), .int .u16 (f 11 : Nat), .int .u16 (f 12 : Nat), .int .u16 (f 13 : Nat), .int .u16 (f 14 : Nat), .int .u16 (f 15 : Nat)] (by simp)).new (New.refl _))
      have HN := Lib.hid ((New.refl wr).alloc (.cells #[.int .u16 (f 0 : Nat), .int .u16 (f 1 : Nat), .int .u16 (f 2 : Nat), .int .u16 (f 3 : Nat), .int .u16 (f 4 : Nat), .int .u16 (f 5 : Nat), .int .u16 (f 6 : Nat), .int .u16 (f 7 : Nat), .int .u16 (f 8 : Nat), .int .u16 (f 9 : Nat), .int .u16 (f 10 : Nat), .int .u16 (f 11 : Nat), .int .u16 (f 12 : Nat), .int .u16 (f 13 : Nat), .int .u16 (f 14 : Nat), .int .u16 (f 15 : Nat)] 71))
      replace HR9 := Lib.hid (HR9.out.new HN.out)
      replace HR4 := Lib.hid (HR4.out.new HN.out)
      have HN_ := HN0.out.trans HN.out
      clear HN HN0
      have HN := Lib.hid HN_
      clear HN_
      have BX : Hid (Blk _ wr.heap.size f) := Lib.hid BX0.out
      clear BX0
      obtain ⟨B15, hB15⟩ : ∃ x, wr.heap.size = x := ⟨_, rfl⟩
      obtain ⟨w8, hw8⟩ : ∃ x, wr.alloc (.cells #[.int .u16 (f 0 : Nat), .int .u16 (f 1 : Nat), .int .u16 (f 2 : Nat), .int .u16 (f 3 : Nat), .int .u16 (f 4 : Nat), .int .u16 (f 5 : Nat), .int .u16 (f 6 : Nat), .int .u16 (f 7 : Nat), .int .u16 (f 8 : Nat), .int .u16 (f 9 : Nat), .int .u16 (f 10 : Nat), .int .u16 (f 11 : Nat), .int .u16 (f 12 : Nat), .int .u16 (f 13 : Nat), .int .u16 (f 14 : Nat), .int .u16 (f 15 : Nat)] 71) = x := ⟨_, rfl⟩
      rw [hw8] at HN HR9 HR4 BX ⊢
      rw [hB15] at BX ⊢
      have hpb := pblock_box BX.out
      clear hw8 hB15
      have HPB := Lib.hid hpb
      clear hpb
      go_wp2_with fail
      refine HPB.out.mono ?_
      rintro e w9 ⟨rfl, hn⟩
      replace HR9 := Lib.hid (HR9.out.new hn)
      replace HR4 := Lib.hid (HR4.out.new hn)
      replace BX := Lib.hid (BX.out.new hn)
      replace HN := Lib.hid (HN.out.trans hn)
      clear hn
      go_upto_region 25 with (fail)
      as_aux_lemma =>
       have HN0 := HN
       clear HN
       have BA0 := Lib.hid ((Box.alloc w9 (w9.heap.size) 71 #[.int .u16 (f 0 : Nat), .int .u16 (f 1 : Nat), .int .u16 (f 2 : Nat), .int .u16 (f 3 : Nat), .int .u16 (f 4 : Nat), .int .u16 (f 5 : Nat), .int .u16 (f 6 : Nat), .int .u16 (f 7 : Nat), .int .u16 (f 8 : Nat), .int .u16 (f 9 : Nat), .int .u16 (f 10 : Nat), .int .u16 (f 11 : Nat), .int .u16 (f 12 : Nat), .int .u16 (f 13 : Nat), .int .u16 (f 14 : Nat), .int .u16 (f 15 : Nat)] (by simp)).new (New.refl _))
       have HN := Lib.hid ((New.refl w9).alloc (.cells #[.int .u16 (f 0 : Nat), .int .u16 (f 1 : Nat), .int .u16 (f 2 : Nat), .int .u16 (f 3 : Nat), .int .u16 (f 4 : Nat), .int .u16 (f 5 : Nat), .int .u16 (f 6 : Nat), .int .u16 (f 7 : Nat), .int .u16 (f 8 : Nat), .int .u16 (f 9 : Nat), .int .u16 (f 10 : Nat), .int .u16 (f 11 : Nat), .int .u16 (f 12 : Nat), .int .u16 (f 13 : Nat), .int .u16 (f 14 : Nat), .int .u16 (f 15 : Nat)] 71))
       replace HR9 := Lib.hid (HR9.out.new HN.out)
       replace HR4 := Lib.hid (HR4.out.new HN.out)
       replace BX := Lib.hid (BX.out.new HN.out)
       have HN_ := HN0.out.trans HN.out
       clear HN HN0
       have HN := Lib.hid HN_
       clear HN_
       have BA : Hid (Blk _ w9.heap.size f) := Lib.hid BA0.out
       clear BA0
       obtain ⟨B16, hB16⟩ : ∃ x, w9.heap.size = x := ⟨_, rfl⟩
       obtain ⟨w10, hw10⟩ : ∃ x, w9.alloc (.cells #[.int .u16 (f 0 : Nat), .int .u16 (f 1 : Nat), .int .u16 (f 2 : Nat), .int .u16 (f 3 : Nat), .int .u16 (f 4 : Nat), .int .u16 (f 5 : Nat), .int .u16 (f 6 : Nat), .int .u16 (f 7 : Nat), .int .u16 (f 8 : Nat), .int .u16 (f 9 : Nat), .int .u16 (f 10 : Nat), .int .u16 (f 11 : Nat), .int .u16 (f 12 : Nat), .int .u16 (f 13 : Nat), .int .u16 (f 14 : Nat), .int .u16 (f 15 : Nat)] 71) = x := ⟨_, rfl⟩
       rw [hw10] at HN HR9 HR4 BX BA ⊢
       rw [hB16] at BA ⊢
       clear hw10 hB16
       have hq := fun W => neq16 W f
       have c0 : w10.cell? ⟨B15, 0, none⟩ = some (.int .u16 (f 0 : Nat)) := BX.out.at 0 (by decide)
       have c1 : w10.cell? ⟨B15, 1, none⟩ = some (.int .u16 (f 1 : Nat)) := BX.out.at 1 (by decide)
       have c2 : w10.cell? ⟨B15, 2, none⟩ = some (.int .u16 (f 2 : Nat)) := BX.out.at 2 (by decide)
       have c3 : w10.cell? ⟨B15, 3, none⟩ = some (.int .u16 (f 3 : Nat)) := BX.out.at 3 (by decide)
       have c4 : w10.cell? ⟨B15, 4, none⟩ = some (.int .u16 (f 4 : Nat)) := BX.out.at 4 (by decide)
       have c5 : w10.cell? ⟨B15, 5, none⟩ = some (.int .u16 (f 5 : Nat)) := BX.out.at 5 (by decide)
       have c6 : w10.cell? ⟨B15, 6, none⟩ = some (.int .u16 (f 6 : Nat)) := BX.out.at 6 (by decide)
       have c7 : w10.cell? ⟨B15, 7, none⟩ = some (.int .u16 (f 7 : Nat)) := BX.out.at 7 (by decide)
       have c8 : w10.cell? ⟨B15, 8, none⟩ = some (.int .u16 (f 8 : Nat)) := BX.out.at 8 (by decide)
       have c9 : w10.cell? ⟨B15, 9, none⟩ = some (.int .u16 (f 9 : Nat)) := BX.out.at 9 (by decide)
       have c10 : w10.cell? ⟨B15, 10, none⟩ = some (.int .u16 (f 10 : Nat)) := BX.out.at 10 (by decide)
       have c11 : w10.cell? ⟨B15, 11, none⟩ = some (.int .u16 (f 11 : Nat)) := BX.out.at 11 (by decide)
       have c12 : w10.cell? ⟨B15, 12, none⟩ = some (.int .u16 (f 12 : Nat)) := BX.out.at 12 (by decide)
       have c13 : w10.cell? ⟨B15, 13, none⟩ = some (.int .u16 (f 13 : Nat)) := BX.out.at 13 (by decide)
       have c14 : w10.cell? ⟨B15, 14, none⟩ = some (.int .u16 (f 14 : Nat)) := BX.out.at 14 (by decide)
       have c15 : w10.cell? ⟨B15, 15, none⟩ = some (.int .u16 (f 15 : Nat)) := BX.out.at 15 (by decide)
       have z0 : w10.cell? ⟨B16, 0, none⟩ = some (.int .u16 (f 0 : Nat)) := BA.out.at 0 (by decide)
       have z1 : w10.cell? ⟨B16, 1, none⟩ = some (.int .u16 (f 1 : Nat)) := BA.out.at 1 (by decide)
       have z2 : w10.cell? ⟨B16, 2, none⟩ = some (.int .u16 (f 2 : Nat)) := BA.out.at 2 (by decide)
       have z3 : w10.cell? ⟨B16, 3, none⟩ = some (.int .u16 (f 3 : Nat)) := BA.out.at 3 (by decide)
       have z4 : w10.cell? ⟨B16, 4, none⟩ = some (.int .u16 (f 4 : Nat)) := BA.out.at 4 (by decide)
       have z5 : w10.cell? ⟨B16, 5, none⟩ = some (.int .u16 (f 5 : Nat)) := BA.out.at 5 (by decide)
       have z6 : w10.cell? ⟨B16, 6, none⟩ = some (.int .u16 (f 6 : Nat)) := BA.out.at 6 (by decide)
       have z7 : w10.cell? ⟨B16, 7, none⟩ = some (.int .u16 (f 7 : Nat)) := BA.out.at 7 (by decide)
       have z8 : w10.cell? ⟨B16, 8, none⟩ = some (.int .u16 (f 8 : Nat)) := BA.out.at 8 (by decide)
       have z9 : w10.cell? ⟨B16, 9, none⟩ = some (.int .u16 (f 9 : Nat)) := BA.out.at 9 (by decide)
       have z10 : w10.cell? ⟨B16, 10, none⟩ = some (.int .u16 (f 10 : Nat)) := BA.out.at 10 (by decide)
       have z11 : w10.cell? ⟨B16, 11, none⟩ = some (.int .u16 (f 11 : Nat)) := BA.out.at 11 (by decide)
       have z12 : w10.cell? ⟨B16, 12, none⟩ = some (.int .u16 (f 12 : Nat)) := BA.out.at 12 (by decide)
       have z13 : w10.cell? ⟨B16, 13, none⟩ = some (.int .u16 (f 13 : Nat)) := BA.out.at 13 (by decide)
       have z14 : w10.cell? ⟨B16, 14, none⟩ = some (.int .u16 (f 14 : Nat)) := BA.out.at 14 (by decide)
       have z15 : w10.cell? ⟨B16, 15, none⟩ = some (.int .u16 (f 15 : Nat)) := BA.out.at 15 (by decide)
       go_wp2_with fail
       clear hq c0 z0 c1 z1 c2 z2 c3 z3 c4 z4 c5 z5 c6 z6 c7 z7 c8 z8 c9 z9 c10 z10 c11 z11 c12 z12 c13 z13 c14 z14 c15 z15
       go_loopw [154] (fun i wx => ∃ (l : Nat), l ≤ 16 ∧ i = .int .i64 (l : Int) ∧ Hid (New w wx) ∧ Hid (RdL wx a9 (words WW)) ∧ Hid (RdL wx (some ⟨b4, off4, none⟩) (words BL))) (fun i _ => 16 - (intOf i).toNat)
       case atStart => exact ⟨0, Nat.zero_le _, rfl, HN, HR9, HR4⟩
       case round => as_aux_lemma =>
        clear HN HR9 HR4 BX BA
        obtain ⟨l, hl, rfl, HN, HR9, HR4⟩ := hrel
        by_cases hl16 : l < 16
        ·have hli : (l : Int) < 16 := by omega
         have hji : (j : Int) ≤ 256 := by omega
         have hix := fun W => run_index16 W f l hl16
         have hfl := HFD.out l
         rw [HBW.out _ (by omega)] at hfl
         obtain ⟨x, hx⟩ : ∃ x, f l = x := ⟨_, rfl⟩
         simp only [hx] at hix
         rw [hx] at hfl
         obtain ⟨p, hp⟩ : ∃ p, 16 * j + l = p := ⟨_, rfl⟩
         rw [hp] at hfl
         have hpi : 16 * (j : Int) + (l : Int) = (p : Int) := by omega
         clear hx
         by_cases hpm : p < m
         ·have hpmi : (p : Int) < (m : Int) := by omega
          obtain ⟨b9, off9, rfl, hcell⟩ := HR9.out.w16 p (by rw [HWL.out]; exact hpm)
          have hxe : WW[p]'(by rw [HWL.out]; exact hpm) = x := by rw [← hfl]; simp [List.getD_eq_getElem?_getD, HWL.out, hpm]
          rw [hxe] at hcell
          have hxx : ((x : Int) != (x : Int)) = false := by simp
          have hpge : ¬ (m : Int) ≤ (p : Int) := by omega
          clear hfl hxe hp
          go_wp2_with fail
          clear hcell
          clear hix
          go_roundw
          case rel => exact ⟨l + 1, by omega, by go_num, HN, HR9, HR4⟩
          case measure => simp [intOf]; omega
         ·have hpmi : ¬ (p : Int) < (m : Int) := by omega
          have hpge : (m : Int) ≤ (p : Int) := by omega
          have hx0 : x = 0 := by rw [← hfl]; simp [List.getD_eq_getElem?_getD, List.getElem?_eq_none (show WW.length ≤ p by rw [HWL.out]; omega)]
          have hxx : ((x : Int) != 0) = false := by rw [hx0]; rfl
          clear hfl hx0 hp
          go_wp2_with fail
          clear hix
          go_roundw
          case rel => exact ⟨l + 1, by omega, by go_num, HN, HR9, HR4⟩
          case measure => simp [intOf]; omega
        ·have hll : l = 16 := by omega
         subst hll
         go_wp2_with fail
         go_roundw
         case rel => exact ⟨_, _, _, _, _, _, _, _, _, _, _, _, _, _, _, _, _, _, _, _, _, _, _, _, _, _, _, _, _, _, _, _, _, _, _, _, _, _, _, _, _, _, _, _, _, _, _, _, _, _, _, _, _, _, _, _, _, _, ⟨j + 1, by omega, by go_num, HN, HR9, HR4⟩, rfl⟩
         case measure => simp [intOf]; omega
     ·have hjN2 : j = NB := by omega
      subst hjN2
      go_wp2_with fail
      refine (HAW.out _ (HE.out.new HN.out)).mono ?_
      rintro e wz ⟨rfl, hnz⟩
      go_wp2_with fail
      go_ret
      exact ⟨rfl, HN.out.trans hnz⟩
end Go.Proofs.YtlfnibjmkfldgaaGreatDoor
