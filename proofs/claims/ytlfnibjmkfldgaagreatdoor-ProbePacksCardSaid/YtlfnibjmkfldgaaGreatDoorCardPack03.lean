/- Part CardPack03. -/
import Derived.Laws.AppendOwnNone
import Derived.Test.YtlfnibjmkfldgaaGreatDoorA23
import Derived.Test.YtlfnibjmkfldgaaGreatDoorA25
import Derived.Test.YtlfnibjmkfldgaaGreatDoorA27
import Derived.Test.YtlfnibjmkfldgaaGreatDoorA28
import Derived.Test.YtlfnibjmkfldgaaGreatDoorCardPack01
import Derived.Test.YtlfnibjmkfldgaaGreatDoorCardPack02
namespace Go.Proofs.YtlfnibjmkfldgaaGreatDoor
open Go.RowKit Big
theorem words_len3 (l : List Nat) : (words l).length = l.length := by simp [words]
theorem words_take16 {xs : List Nat} {k : Nat} (h : 16 * (k + 1) ≤ xs.length) : words (xs.take (16 * (k + 1))) = words (xs.take (16 * k)) ++ words ((List.range 16).map fun j => xs.getD (16 * k + j) 0) := by
 have e : xs.take (16 * (k + 1)) = xs.take (16 * k) ++ (List.range 16).map fun j => xs.getD (16 * k + j) 0 := by
  apply List.ext_getElem?
  intro i
  by_cases hi : i < 16 * k
  ·rw [List.getElem?_append_left (by simp; omega)]
   simp [hi, show i < 16 * (k + 1) by omega]
  ·have h4 : (xs.take (16 * k)).length = 16 * k := by rw [List.length_take]; omega
   rw [List.getElem?_append_right (by rw [h4]; omega), h4]
   by_cases h2 : i < 16 * (k + 1)
   ·have h3 : i < xs.length := by omega
    simp [h2, show i - 16 * k < 16 by omega, show 16 * k + (i - 16 * k) = i by omega, List.getD_eq_getElem?_getD, List.getElem?_eq_getElem h3]
   ·simp [List.getElem?_take, h2, show ¬ i - 16 * k < 16 by omega]
 rw [e]
 simp [words]
set_option maxRecDepth 100000 in
set_option maxHeartbeats 4000000 in
theorem unpack_main (a : Option Addr) (cap N n : Nat) (xs : List Nat) (w : World) (hr : RdL w a (words xs)) (hx : xs.length = 16 * N) (hN : N ≤ 256) (hn : n ≤ 4096) (hb : nBlocks n = N) :
  Calls Tryz.prog 38 #[.slice a N cap, .int .i64 (n : Int)] w fun e w' => New w w' ∧ ((∀ x ∈ xs.drop n, x = 0) → ∃ (a' : Option Addr) (c' : Nat), e = .returned (.tuple #[.slice a' n c', .int .i64 0]) ∧ RdL w' a' (words (xs.take n)) ∧ n ≤ c') ∧
   ((∃ x ∈ xs.drop n, x ≠ 0) → e = .returned (.tuple #[.slice none 0 0, .int .i64 1])) := by
 obtain ⟨i0, hi0, hz0, hz1, hz2⟩ := info_parts info_u16
 have hNi : (N : Int) ≤ 256 := by omega
 have hni : (n : Int) ≤ 4096 := by omega
 have hd1 : decide ((256 : Int) < (N : Int)) = false := by rw [decide_eq_false_iff_not]; omega
 have hout : outside (n : Int) 0 4096 = false := by simp only [outside, Bool.or_eq_false_iff, decide_eq_false_iff_not]; omega
 have hwi := fun W => pwithin_new (n : Int) 0 4096 W
 simp only [hout, Bool.false_eq_true, if_false] at hwi
 have hbl := fun W => pblocks_calls n W (by omega)
 have hb' : (n + 15) / 16 = N := hb
 simp only [hb'] at hbl
 have hne : ((N : Int) != (N : Int)) = false := by simp
 have hnN : n ≤ 16 * N := by omega
 have hN16 : 16 * N ≤ 4096 := by omega
 clear hb hb' hout
 have HR := Lib.hid hr
 have HX := Lib.hid hx
 have HWI := Lib.hid hwi
 have HBL := Lib.hid hbl
 clear hr hx hwi hbl
 go_enter Tryz.func38, Tryz.ntmps38
 go_wp2_with fail
 refine (pwhen_new false 5 _).mono ?_
 rintro e w1 ⟨rfl, hn⟩
 have HN := Lib.hid hn
 clear hn
 go_wp2_with fail
 refine (HWI.out _).mono ?_
 rintro e w2 ⟨rfl, hn⟩
 replace HN := Lib.hid (HN.out.trans hn)
 clear hn
 go_wp2_with fail
 refine (HBL.out _).mono ?_
 rintro e w3 ⟨rfl, hn⟩
 replace HN := Lib.hid (HN.out.trans hn)
 clear hn
 go_wp2_with fail
 refine (pwhen_new false 2 _).mono ?_
 rintro e w4 ⟨rfl, hn⟩
 replace HN := Lib.hid (HN.out.trans hn)
 clear hn
 go_wp2_with fail
 have HN0 := HN
 clear HN
 have BG := Lib.hid ((Box.alloc w4 (w4.heap.size) 29 #[.int .i64 0, .int .i64 0, .int .i64 0] (by simp)).new (New.refl _))
 have HN := Lib.hid ((New.refl w4).alloc (.cells #[.int .i64 0, .int .i64 0, .int .i64 0] 29))
 have HN_ := HN0.out.trans HN.out
 clear HN HN0
 have HN := Lib.hid HN_
 clear HN_
 refine (pfirst3_new 0 0 0 _ _ 29 _ BG.out).mono ?_
 rintro e w5 ⟨rfl, hn⟩
 replace HN := Lib.hid (HN.out.trans hn)
 clear hn
 clear BG
 go_wp2_with fail
 go_loopw [7, 29] (fun v i wr => ∃ (k : Nat), k ≤ N ∧ i = .int .i64 (k : Int) ∧ Hid (wr.ownsRow w.heap.size 70 1 v (16 * k) (words (xs.take (16 * k)))) ∧ Hid (New w wr)) (fun _ i _ => N - (intOf i).toNat)
 case atStart => exact ⟨0, Nat.zero_le _, rfl, Lib.hid (World.ownsRow_nil _ _ _ _), HN⟩
 case round =>
  clear HN
  obtain ⟨k, hk, rfl, HO, HN⟩ := hrel
  by_cases hlt : k < N
  ·obtain ⟨b, off, rfl, -⟩ := HR.out.w16 0 (by rw [HX.out]; omega)
   obtain ⟨f, hf⟩ : ∃ f : Nat → Nat, (fun j => xs.getD (16 * k + j) 0) = f := ⟨_, rfl⟩
   have hfd : ∀ j, xs.getD (16 * k + j) 0 = f j := fun j => by rw [← hf]
   have hnx := words_take16 (xs := xs) (k := k) (by rw [HX.out]; omega)
   simp only [hfd] at hnx
   have hnx2 : words ((List.range 16).map fun j => f j) = [.int .u16 (f 0 : Nat), .int .u16 (f 1 : Nat), .int .u16 (f 2 : Nat), .int .u16 (f 3 : Nat), .int .u16 (f 4 : Nat), .int .u16 (f 5 : Nat), .int .u16 (f 6 : Nat), .int .u16 (f 7 : Nat), .int .u16 (f 8 : Nat), .int .u16 (f 9 : Nat), .int .u16 (f 10 : Nat), .int .u16 (f 11 : Nat), .int .u16 (f 12 : Nat), .int .u16 (f 13 : Nat), .int .u16 (f 14 : Nat), .int .u16 (f 15 : Nat)] := rfl
   rw [hnx2] at hnx
   have hcell : ∀ j, j < 16 → wr.cell? ⟨b, off + k * 16 + j, none⟩ = some (.int .u16 (f j : Nat)) := by
    intro j hj
    have hl : 16 * k + j < xs.length := by rw [HX.out]; omega
    obtain ⟨b2, off2, e2, hc2⟩ := HR.out.w16 (16 * k + j) hl
    injection e2 with e2
    injection e2 with e2 e3
    subst e2 e3
    rw [show off + k * 16 + j = off + (16 * k + j) by omega, HN.out.cell hc2, ← hfd j]
    simp [List.getD_eq_getElem?_getD, List.getElem?_eq_getElem hl]
   have h1c : ∀ u ∈ ([.int .u16 (f 0 : Nat), .int .u16 (f 1 : Nat), .int .u16 (f 2 : Nat), .int .u16 (f 3 : Nat), .int .u16 (f 4 : Nat), .int .u16 (f 5 : Nat), .int .u16 (f 6 : Nat), .int .u16 (f 7 : Nat), .int .u16 (f 8 : Nat), .int .u16 (f 9 : Nat), .int .u16 (f 10 : Nat), .int .u16 (f 11 : Nat), .int .u16 (f 12 : Nat), .int .u16 (f 13 : Nat), .int .u16 (f 14 : Nat), .int .u16 (f 15 : Nat)] : List Value), u.oneCell' = true := by intro u hu; simp at hu; rcases hu with rfl | rfl | rfl | rfl | rfl | rfl | rfl | rfl | rfl | rfl | rfl | rfl | rfl | rfl | rfl | rfl <;> rfl
   have hki : (k : Int) ≤ 300 := by omega
   clear hnx2 hf
   have HNX := Lib.hid hnx
   have HFD := Lib.hid hfd
   have HCELL := Lib.hid hcell
   have H1C := Lib.hid h1c
   clear hnx hfd hcell h1c
   have c0 : wr.cell? ⟨b, off + k * 16, none⟩ = some (.int .u16 (f 0 : Nat)) := HCELL.out 0 (by omega)
   have c1 : wr.cell? ⟨b, off + k * 16 + 1, none⟩ = some (.int .u16 (f 1 : Nat)) := HCELL.out 1 (by omega)
   have c2 : wr.cell? ⟨b, off + k * 16 + 2, none⟩ = some (.int .u16 (f 2 : Nat)) := HCELL.out 2 (by omega)
   have c3 : wr.cell? ⟨b, off + k * 16 + 3, none⟩ = some (.int .u16 (f 3 : Nat)) := HCELL.out 3 (by omega)
   have c4 : wr.cell? ⟨b, off + k * 16 + 4, none⟩ = some (.int .u16 (f 4 : Nat)) := HCELL.out 4 (by omega)
   have c5 : wr.cell? ⟨b, off + k * 16 + 5, none⟩ = some (.int .u16 (f 5 : Nat)) := HCELL.out 5 (by omega)
   have c6 : wr.cell? ⟨b, off + k * 16 + 6, none⟩ = some (.int .u16 (f 6 : Nat)) := HCELL.out 6 (by omega)
   have c7 : wr.cell? ⟨b, off + k * 16 + 7, none⟩ = some (.int .u16 (f 7 : Nat)) := HCELL.out 7 (by omega)
   have c8 : wr.cell? ⟨b, off + k * 16 + 8, none⟩ = some (.int .u16 (f 8 : Nat)) := HCELL.out 8 (by omega)
   have c9 : wr.cell? ⟨b, off + k * 16 + 9, none⟩ = some (.int .u16 (f 9 : Nat)) := HCELL.out 9 (by omega)
   have c10 : wr.cell? ⟨b, off + k * 16 + 10, none⟩ = some (.int .u16 (f 10 : Nat)) := HCELL.out 10 (by omega)
   have c11 : wr.cell? ⟨b, off + k * 16 + 11, none⟩ = some (.int .u16 (f 11 : Nat)) := HCELL.out 11 (by omega)
   have c12 : wr.cell? ⟨b, off + k * 16 + 12, none⟩ = some (.int .u16 (f 12 : Nat)) := HCELL.out 12 (by omega)
   have c13 : wr.cell? ⟨b, off + k * 16 + 13, none⟩ = some (.int .u16 (f 13 : Nat)) := HCELL.out 13 (by omega)
   have c14 : wr.cell? ⟨b, off + k * 16 + 14, none⟩ = some (.int .u16 (f 14 : Nat)) := HCELL.out 14 (by omega)
   have c15 : wr.cell? ⟨b, off + k * 16 + 15, none⟩ = some (.int .u16 (f 15 : Nat)) := HCELL.out 15 (by omega)
   go_wp2_with (at_builtin; refine wpList_append_own _ rfl _ _ 58 rfl w.heap.size 70 i0 (.int .u16 0) 1 2 Tryz.underlying58 hi0 hz0 hz1 hz2 rfl (by decide) _ _ _ rfl (HO.out.alloc _) ⟨wr.heap.size, 0, none⟩ 16 16 [.int .u16 (f 0 : Nat), .int .u16 (f 1 : Nat), .int .u16 (f 2 : Nat), .int .u16 (f 3 : Nat), .int .u16 (f 4 : Nat), .int .u16 (f 5 : Nat), .int .u16 (f 6 : Nat), .int .u16 (f 7 : Nat), .int .u16 (f 8 : Nat), .int .u16 (f 9 : Nat), .int .u16 (f 10 : Nat), .int .u16 (f 11 : Nat), .int .u16 (f 12 : Nat), .int .u16 (f 13 : Nat), .int .u16 (f 14 : Nat), .int .u16 (f 15 : Nat)] rfl rfl (alloc_cells _ #[.int .u16 (f 0 : Nat), .int .u16 (f 1 : Nat), .int .u16 (f 2 : Nat), .int .u16 (f 3 : Nat), .int .u16 (f 4 : Nat), .int .u16 (f 5 : Nat), .int .u16 (f 6 : Nat), .int .u16 (f 7 : Nat), .int .u16 (f 8 : Nat), .int .u16 (f 9 : Nat), .int .u16 (f 10 : Nat), .int .u16 (f 11 : Nat), .int .u16 (f 12 : Nat), .int .u16 (f 13 : Nat), .int .u16 (f 14 : Nat), .int .u16 (f 15 : Nat)] _) H1C.out (by unfold maxLen; omega) (by omega) (by have := HN.out.size; rw [← size_alloc]; omega) ?_)
   intro v' w9 hown' hgrow _
   have hN1 := grown_new HN.out HO.out hgrow
   have hO1 : w9.ownsRow w.heap.size 70 1 v' (16 * (k + 1)) (words (xs.take (16 * (k + 1)))) := by
    rw [HNX.out]
    exact hown'
   clear hown' hgrow c0 c1 c2 c3 c4 c5 c6 c7 c8 c9 c10 c11 c12 c13 c14 c15
   have HN1 := Lib.hid hN1
   have HO1 := Lib.hid hO1
   clear hN1 hO1
   go_wp2_with fail
   go_roundw
   case rel => exact ⟨k + 1, by omega, by go_num, HO1, HN1⟩
   case measure => simp [intOf]; omega
  ·have hkk : k = N := by omega
   have hO := HO.out
   rw [hkk, List.take_of_length_le (by rw [HX.out]; omega)] at hO
   obtain ⟨a7, c7, rfl, hr7, hc7, hz7⟩ := own_rdS' hO
   have h7 : a7 = none ∨ ∃ g, a7 = some ⟨g, 0, none⟩ := by
    rcases hO.2 with ⟨e, -⟩ | ⟨g, cap2, cur, e, -⟩
    ·injection e with e; exact .inl e
    ·injection e with e; exact .inr ⟨g, e⟩
   clear hO HO
   obtain ⟨M, hM⟩ : ∃ M, 16 * N = M := ⟨_, rfl⟩
   have hMi : ((16 * N : Nat) : Int) = (M : Int) := by rw [hM]
   obtain ⟨d, hd⟩ : ∃ d, decide (0 ≤ nzAt 0 (xs.drop n)) = d := ⟨_, rfl⟩
   have hdl : (xs.drop n).length = M - n := by rw [List.length_drop, HX.out, hM]
   rw [hM] at hnN hN16 hc7
   simp only [hM]
   have hnMi : (n : Int) ≤ (M : Int) := by omega
   have hfin1 : (∃ x ∈ xs.drop n, x ≠ 0) → d = true := fun h => by rw [← hd, decide_eq_true_eq]; exact nzAt_bad _ 0 h
   have hfin2 : (∀ x ∈ xs.drop n, x = 0) → d = false := fun h => by rw [← hd, nzAt_ok _ 0 h]; rfl
   have htk : RdL wr a7 (words (xs.take n)) := fun i hi => by
    have hi2 : i < n := by simp [words] at hi; omega
    have hxl : xs.length = M := by rw [HX.out, hM]
    have hi3 : i < (words xs).length := by rw [words_len3]; omega
    obtain ⟨g, off, e, hc⟩ := hr7 i hi3
    exact ⟨g, off, e, by rw [hc]; simp [words]⟩
   have hnM : (n : Int) ≤ (M : Int) := by omega
   have hMc : (M : Int) ≤ (c7 : Int) := by omega
   have hr7d : ∀ g, a7 = some ⟨g, 0, none⟩ → RdL wr (if c7 = n then some ⟨g, 0, none⟩ else some ⟨g, n, none⟩) (words (xs.drop n)) := fun g e i hi => by
    have hi2 : i < M - n := by rw [words_len3, hdl] at hi; exact hi
    have hxl : xs.length = M := by rw [HX.out, hM]
    obtain ⟨g2, off, e2, hc⟩ := hr7 (n + i) (by rw [words_len3]; omega)
    rw [e] at e2
    injection e2 with e2
    injection e2 with e2 e3
    subst e2 e3
    rw [if_neg (by omega)]
    refine ⟨g, n, rfl, ?_⟩
    rw [Nat.zero_add] at hc
    rw [hc]
    simp [words]
   have HD := Lib.hid hd
   have HDL := Lib.hid hdl
   have HFIN1 := Lib.hid hfin1
   have HFIN2 := Lib.hid hfin2
   have HTK := Lib.hid htk
   have HR7D := Lib.hid hr7d
   have HKK := Lib.hid hkk
   have HMM := Lib.hid hM
   have HMI := Lib.hid hMi
   have HC7 := Lib.hid hc7
   clear hd hdl hfin1 hfin2 htk hr7d hkk hM hMi hc7
   rcases h7 with rfl | ⟨g, rfl⟩
   ·have hM0 : M = 0 := by
     rcases Nat.eq_zero_or_pos M with h | h
     ·exact h
     ·exfalso
      obtain ⟨g, off, e, -⟩ := hr7 0 (by rw [words_len3, HX.out, HMM.out]; exact h)
      cases e
    have hn0 : n = 0 := by omega
    have hc0 : c7 = 0 := hz7 rfl
    have hdn : xs.drop n = [] := by
     have h1 := HDL.out
     rw [hM0] at h1
     exact List.eq_nil_of_length_eq_zero (by omega)
    have hc := fun cp => contains_words none cp 0 (xs.drop n) wr (by rw [hdn]; intro i hi; simp [words] at hi) (by rw [hdn]; rfl) (by omega)
    rw [HD.out] at hc
    clear hr7 hz7 hdn
    subst hc0
    subst hM0
    have HCC := Lib.hid hc
    clear hc
    subst hn0
    go_wp2_with fail
    refine (HCC.out 0).mono ?_
    rintro e w11 ⟨rfl, hn⟩
    cases d with
    | true =>
     go_wp2_with fail
     go_ret2
     refine ⟨HN.out.trans hn, fun h => ?_, fun _ => rfl⟩
     have := HFIN2.out h
     cases this
    | false =>
     go_wp2_with fail
     go_ret2
     refine ⟨HN.out.trans hn, fun _ => ⟨_, _, rfl, HTK.out.new hn, ?_⟩, fun h => ?_⟩
     ·have h1 := HC7.out
      omega
     ·have := HFIN1.out h
      cases this
   ·clear hr7 hz7
    by_cases hcn : c7 = n
    ·have hc := fun cp => contains_words (some ⟨g, 0, none⟩) cp (M - n) (xs.drop n) wr (by have := HR7D.out g rfl; rw [if_pos hcn] at this; exact this) HDL.out (by omega)
     rw [HD.out] at hc
     have HCC := Lib.hid hc
     clear hc
     go_wp2_with fail
     refine (HCC.out _).mono ?_
     rintro e w11 ⟨rfl, hn⟩
     cases d with
     | true =>
      go_wp2_with fail
      go_ret2
      refine ⟨HN.out.trans hn, fun h => ?_, fun _ => rfl⟩
      have := HFIN2.out h
      cases this
     | false =>
      go_wp2_with fail
      go_ret2
      refine ⟨HN.out.trans hn, fun _ => ⟨_, _, rfl, HTK.out.new hn, ?_⟩, fun h => ?_⟩
      ·have h1 := HC7.out
       omega
      ·have := HFIN1.out h
       cases this
    ·have hc := fun cp => contains_words (some ⟨g, n, none⟩) cp (M - n) (xs.drop n) wr (by have := HR7D.out g rfl; rw [if_neg hcn] at this; exact this) HDL.out (by omega)
     rw [HD.out] at hc
     have HCC := Lib.hid hc
     clear hc
     go_wp2_with fail
     refine (HCC.out _).mono ?_
     rintro e w11 ⟨rfl, hn⟩
     cases d with
     | true =>
      go_wp2_with fail
      go_ret2
      refine ⟨HN.out.trans hn, fun h => ?_, fun _ => rfl⟩
      have := HFIN2.out h
      cases this
     | false =>
      go_wp2_with fail
      go_ret2
      refine ⟨HN.out.trans hn, fun _ => ⟨_, _, rfl, HTK.out.new hn, ?_⟩, fun h => ?_⟩
      ·have h1 := HC7.out
       omega
      ·have := HFIN1.out h
       cases this
end Go.Proofs.YtlfnibjmkfldgaaGreatDoor
namespace Go.Proofs.YtlfnibjmkfldgaaGreatDoor
open Go.RowKit Big
def linesErr (ls : List (List Bool)) : Int := match ls with
 | [] => 12
 | l0 :: r => if 16 < r.length + 1 ∨ 4096 < l0.length then 5 else if (l0 :: r).all (fun l => l.length == l0.length) then 0 else 2
theorem linesErr_cons {ls : List (List Bool)} (h0 : 0 < ls.length) : linesErr ls = if 16 < ls.length ∨ 4096 < ls[0].length then 5 else if ls.all (fun l => l.length == ls[0].length) then 0 else 2 := by
 cases ls with
 | nil => simp at h0
 | cons l0 r => rfl
theorem lines_facts {ls : List (List Bool)} {l0 : Nat} {r : Int} (h0 : 0 < ls.length) (hl : ls[0].length = l0) (hr : linesErr ls = r) :
  (16 < ls.length → r = 5) ∧ (4096 < l0 → r = 5) ∧ (¬ 16 < ls.length → ¬ 4096 < l0 → (∀ (k : Nat) (h : k < ls.length), ls[k].length ≠ l0 → r = 2) ∧ ((∀ (k : Nat) (h : k < ls.length), ls[k].length = l0) → r = 0)) := by
 rw [linesErr_cons h0, hl] at hr
 refine ⟨fun h => by rw [if_pos (Or.inl h)] at hr; exact hr.symm, fun h => by rw [if_pos (Or.inr h)] at hr; exact hr.symm, fun h1 h2 => ?_⟩
 rw [if_neg (by omega)] at hr
 refine ⟨fun k h h3 => ?_, fun h => ?_⟩
 ·rw [if_neg (by simp only [List.all_eq_true, beq_iff_eq]; intro h4; exact h3 (h4 _ (List.getElem_mem h)))] at hr
  exact hr.symm
 ·rw [if_pos (by
   simp only [List.all_eq_true, beq_iff_eq]
   intro l hl
   obtain ⟨i, hi, rfl⟩ := List.mem_iff_getElem.1 hl
   exact h i hi)] at hr
  exact hr.symm
set_option maxRecDepth 100000 in
theorem rlines_calls (a : Option Addr) (cap N : Nat) (rv : List Value) (ls : List (List Bool)) (w : World) (hr : RdLL w a rv (ls.map bools)) (hN : ls.length = N) (hl : N ≤ 1000000) :
  Calls Tryz.prog 32 #[.slice a N cap] w (RetNew w (linesErr ls)) := by
 have hNi : (N : Int) ≤ 1000000 := by omega
 by_cases h0 : N = 0
 ·subst h0
  obtain rfl : ls = [] := List.eq_nil_of_length_eq_zero hN
  clear hr hN hl
  go_enter Tryz.func32, Tryz.ntmps32
  go_wp2_with fail
  go_ret
  exact ⟨rfl, New.refl _⟩
 have hpos : 0 < ls.length := by omega
 obtain ⟨b, off, a0, c0, rfl, hcell0, -, -⟩ := hr.at 0 (by simpa using hpos)
 obtain ⟨l0, hl0⟩ : ∃ l0, ls[0].length = l0 := ⟨_, rfl⟩
 have hlb : ((ls.map bools)[0]'(by simpa using hpos)).length = l0 := by simp [bools, hl0]
 rw [hlb, Nat.add_zero] at hcell0
 obtain ⟨r, hres⟩ : ∃ r, linesErr ls = r := ⟨_, rfl⟩
 obtain ⟨f1, f2, f3⟩ := lines_facts hpos hl0 hres
 have f1 : 16 < N → r = 5 := fun h => f1 (by rw [hN]; exact h)
 have f3 := fun (h : ¬ 16 < N) => f3 (by rw [hN]; exact h)
 rw [hres]
 have hd0 : ((N : Int) == 0) = false := by rw [beq_eq_false_iff_ne]; omega
 have hN1 : (0 : Int) < (N : Int) := by omega
 have hat : ∀ (k : Nat) (h : k < ls.length), ∃ (a' : Option Addr) (c' : Nat), w.cell? ⟨b, off + k, none⟩ = some (.slice a' ls[k].length c') := fun k h => by
  obtain ⟨b', off', a', c', e, hc, -, -⟩ := hr.at k (by simpa using h)
  injection e with e
  injection e with e1 e2
  subst e1 e2
  have e3 : ((ls.map bools)[k]'(by simpa using h)).length = ls[k].length := by simp [bools]
  rw [e3] at hc
  exact ⟨a', c', hc⟩
 clear hr hlb hl0 hres hpos h0
 have HAT := Lib.hid hat
 have HNN := Lib.hid hN
 clear hat hN
 by_cases h16 : 16 < N
 ·have hi16 : (16 : Int) < (N : Int) := by omega
  have hd16 : decide ((16 : Int) < (N : Int)) = true := decide_eq_true hi16
  obtain rfl := f1 h16
  clear f2 f3 hcell0 h16
  go_enter Tryz.func32, Tryz.ntmps32
  go_wp2_with fail
  go_ret
  exact ⟨rfl, New.refl _⟩
 have hi16 : ¬ (16 : Int) < (N : Int) := by omega
 have hd16 : decide ((16 : Int) < (N : Int)) = false := decide_eq_false hi16
 by_cases h4 : 4096 < l0
 ·have hi4 : (4096 : Int) < (l0 : Int) := by omega
  have hd4 : decide ((4096 : Int) < (l0 : Int)) = true := decide_eq_true hi4
  obtain rfl := f2 h4
  clear f1 f3 h4 h16
  go_enter Tryz.func32, Tryz.ntmps32
  go_wp2_with fail
  go_ret
  exact ⟨rfl, New.refl _⟩
 have hi4 : ¬ (4096 : Int) < (l0 : Int) := by omega
 have hd4 : decide ((4096 : Int) < (l0 : Int)) = false := decide_eq_false hi4
 obtain ⟨f4, f5⟩ := f3 h16 h4
 clear f1 f2 f3 h4 h16
 have hc0 := Lib.hid hcell0
 have F4 := Lib.hid f4
 have F5 := Lib.hid f5
 clear f4 f5
 go_enter Tryz.func32, Tryz.ntmps32
 go_wp2_with fail
 clear hcell0
 go_loopw [3] (fun i wr => ∃ (k : Nat), k ≤ N ∧ i = .int .i64 (k : Int) ∧ Hid (∀ (j : Nat) (h : j < ls.length), j < k → ls[j].length = l0) ∧ Hid (New w wr)) (fun i _ => N - (intOf i).toNat)
 case atStart => exact ⟨0, Nat.zero_le _, rfl, Lib.hid (fun j h h' => by omega), Lib.hid (New.refl _)⟩
 case round =>
  obtain ⟨k, hk, rfl, HK, HN⟩ := hrel
  by_cases hlt : k < N
  ·have hk1 : k < ls.length := by rw [HNN.out]; exact hlt
   obtain ⟨a', c', hcell⟩ := HAT.out k hk1
   obtain ⟨lk, hlk⟩ : ∃ x, ls[k].length = x := ⟨_, rfl⟩
   rw [hlk] at hcell
   replace hcell := HN.out.cell hcell
   have hcell0 := HN.out.cell hc0.out
   by_cases he : lk = l0
   ·have hne : ((l0 : Int) != (l0 : Int)) = false := by simp
    subst he
    have hK2 : ∀ (j : Nat) (h : j < ls.length), j < k + 1 → ls[j].length = lk := fun j h h' => by
     by_cases hjk : j = k
     ·subst hjk; exact hlk
     ·exact HK.out j h (by omega)
    clear hlk
    have HK2 := Lib.hid hK2
    clear hK2
    go_wp2_with fail
    go_quiet (fail)
    go_wp2_with fail
    go_roundw
    case rel => exact ⟨k + 1, by omega, by go_num, HK2, Lib.hid (HN.out.drewN _)⟩
    case measure => simp [intOf]; omega
   ·have hne : ((lk : Int) != (l0 : Int)) = true := by rw [bne_iff_ne]; omega
    obtain rfl := F4.out k hk1 (by rw [hlk]; exact he)
    clear hlk he
    go_wp2_with fail
    go_quiet (fail)
    go_wp2_with fail
    go_ret
    exact ⟨rfl, HN.out.drewN _⟩
  ·have hkk : k = N := by omega
   obtain rfl := F5.out (fun j h => HK.out j h (by rw [hkk, ← HNN.out]; exact h))
   have HKK := Lib.hid hkk
   clear hkk
   go_wp2_with fail
   go_ret
   exact ⟨rfl, HN.out⟩
theorem wordAt_next (ls : List (List Bool)) (t i : Nat) (h : i < ls.length) (s : Nat) (hs : wordAt (ls.take i) t = s) : wordAt (ls.take (i + 1)) t = if ls[i].getD t false then s + 2 ^ i else s := by
 rw [List.take_succ_eq_append_getElem h, wordAt_snoc, hs]
 have hl : (ls.take i).length = i := by rw [List.length_take]; omega
 rw [hl]
 split
 ·have h1 := wordAt_lt t (ls.take i)
  rw [hl, hs] at h1
  have := Nat.two_pow_add_eq_or_of_lt h1 1
  rw [Nat.mul_one] at this
  rw [Nat.or_comm, ← this]
  omega
 ·rfl
end Go.Proofs.YtlfnibjmkfldgaaGreatDoor
namespace Go.Proofs.YtlfnibjmkfldgaaGreatDoor
open Go.RowKit Big
theorem needed_calls (n : Nat) (w : World) (hn : n ≤ 100000) : Calls Tryz.prog 45 #[.int .i64 (n : Int)] w (RetNew w (nBlocks n : Nat)) := by
 have hi : (n : Int) ≤ 100000 := by omega
 go_enter Tryz.func45, Tryz.ntmps45
 go_wp2_with fail
 go_ret
 refine ⟨ret_i64 ?_, New.refl _⟩
 unfold nBlocks
 first | rfl | omega
end Go.Proofs.YtlfnibjmkfldgaaGreatDoor
