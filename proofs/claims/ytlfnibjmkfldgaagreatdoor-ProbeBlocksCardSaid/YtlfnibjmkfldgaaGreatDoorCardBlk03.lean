/- Part CardBlk03. -/
import Derived.Laws.AppendOwnNone
import Derived.Test.YtlfnibjmkfldgaaGreatDoorA23
import Derived.Test.YtlfnibjmkfldgaaGreatDoorA25
import Derived.Test.YtlfnibjmkfldgaaGreatDoorA27
import Derived.Test.YtlfnibjmkfldgaaGreatDoorA28
import Derived.Test.YtlfnibjmkfldgaaGreatDoorCardBlk01
import Derived.Test.YtlfnibjmkfldgaaGreatDoorCardBlk02
namespace Go.Proofs.YtlfnibjmkfldgaaGreatDoor
open Go.RowKit Big
theorem words_len3 (l : List Nat) : (words l).length = l.length := by simp [words]
theorem words_take16 {xs : List Nat} {k : Nat} (h : 16 * (k + 1) ≤ xs.length) : words (xs.take (16 * (k + 1))) = words (xs.take (16 * k)) ++ words ((List.range 16).map fun j => xs.getD (16 * k + j) 0) := by
 have e : xs.take (16 * (k + 1)) = xs.take (16 * k) ++ (List.range 16).map fun j => xs.getD (16 * k + j) 0 := by
  apply List.ext_getElem?
  intro i
  by_cases hi : i < 16 * k
  ·rw [List.getElem?_append_left (by simp; omega)]
   simp [hi, show i < 16 * (k + 1) by omega]
  ·have h4 : (xs.take (16 * k)).length = 16 * k := by rw [List.length_take]; omega
   rw [List.getElem?_append_right (by rw [h4]; omega), h4]
   by_cases h2 : i < 16 * (k + 1)
   ·have h3 : i < xs.length := by omega
    simp [h2, show i - 16 * k < 16 by omega, show 16 * k + (i - 16 * k) = i by omega, List.getD_eq_getElem?_getD, List.getElem?_eq_getElem h3]
   ·simp [List.getElem?_take, h2, show ¬ i - 16 * k < 16 by omega]
 rw [e]
 simp [words]
set_option maxRecDepth 100000 in
set_option maxHeartbeats 4000000 in
theorem unpack_main (a : Option Addr) (cap N n : Nat) (xs : List Nat) (w : World) (hr : RdL w a (words xs)) (hx : xs.length = 16 * N) (hN : N ≤ 256) (hn : n ≤ 4096) (hb : nBlocks n = N) :
  Calls Tryz.prog 38 #[.slice a N cap, .int .i64 (n : Int)] w fun e w' => New w w' ∧ ((∀ x ∈ xs.drop n, x = 0) → ∃ (a' : Option Addr) (c' : Nat), e = .returned (.tuple #[.slice a' n c', .int .i64 0]) ∧ RdL w' a' (words (xs.take n)) ∧ n ≤ c') ∧
   ((∃ x ∈ xs.drop n, x ≠ 0) → e = .returned (.tuple #[.slice none 0 0, .int .i64 1])) := by
 obtain ⟨i0, hi0, hz0, hz1, hz2⟩ := info_parts info_u16
 have hNi : (N : Int) ≤ 256 := by omega
 have hni : (n : Int) ≤ 4096 := by omega
 have hd1 : decide ((256 : Int) < (N : Int)) = false := by rw [decide_eq_false_iff_not]; omega
 have hout : outside (n : Int) 0 4096 = false := by simp only [outside, Bool.or_eq_false_iff, decide_eq_false_iff_not]; omega
 have hwi := fun W => pwithin_new (n : Int) 0 4096 W
 simp only [hout, Bool.false_eq_true, if_false] at hwi
 have hbl := fun W => pblocks_calls n W (by omega)
 have hb' : (n + 15) / 16 = N := hb
 simp only [hb'] at hbl
 have hne : ((N : Int) != (N : Int)) = false := by simp
 have hnN : n ≤ 16 * N := by omega
 have hN16 : 16 * N ≤ 4096 := by omega
 clear hb hb' hout
 have HR := Lib.hid hr
 have HX := Lib.hid hx
 have HWI := Lib.hid hwi
 have HBL := Lib.hid hbl
 clear hr hx hwi hbl
 go_enter Tryz.func38, Tryz.ntmps38
 go_wp2_with fail
 refine (pwhen_new false 5 _).mono ?_
 rintro e w1 ⟨rfl, hn⟩
 have HN := Lib.hid hn
 clear hn
 go_wp2_with fail
 refine (HWI.out _).mono ?_
 rintro e w2 ⟨rfl, hn⟩
 replace HN := Lib.hid (HN.out.trans hn)
 clear hn
 go_wp2_with fail
 refine (HBL.out _).mono ?_
 rintro e w3 ⟨rfl, hn⟩
 replace HN := Lib.hid (HN.out.trans hn)
 clear hn
 go_wp2_with fail
 refine (pwhen_new false 2 _).mono ?_
 rintro e w4 ⟨rfl, hn⟩
 replace HN := Lib.hid (HN.out.trans hn)
 clear hn
 go_wp2_with fail
 have HN0 := HN
 clear HN
 have BG := Lib.hid ((Box.alloc w4 (w4.heap.size) 29 #[.int .i64 0, .int .i64 0, .int .i64 0] (by simp)).new (New.refl _))
 have HN := Lib.hid ((New.refl w4).alloc (.cells #[.int .i64 0, .int .i64 0, .int .i64 0] 29))
 have HN_ := HN0.out.trans HN.out
 clear HN HN0
 have HN := Lib.hid HN_
 clear HN_
 refine (pfirst3_new 0 0 0 _ _ 29 _ BG.out).mono ?_
 rintro e w5 ⟨rfl, hn⟩
 replace HN := Lib.hid (HN.out.trans hn)
 clear hn
 clear BG
 go_wp2_with fail
 go_loopw [7, 29] (fun v i wr => ∃ (k : Nat), k ≤ N ∧ i = .int .i64 (k : Int) ∧ Hid (wr.ownsRow w.heap.size 70 1 v (16 * k) (words (xs.take (16 * k)))) ∧ Hid (New w wr)) (fun _ i _ => N - (intOf i).toNat)
 case atStart => exact ⟨0, Nat.zero_le _, rfl, Lib.hid (World.ownsRow_nil _ _ _ _), HN⟩
 case round =>
  clear HN
  obtain ⟨k, hk, rfl, HO, HN⟩ := hrel
  by_cases hlt : k < N
  ·obtain ⟨b, off, rfl, -⟩ := HR.out.w16 0 (by rw [HX.out]; omega)
   obtain ⟨f, hf⟩ : ∃ f : Nat → Nat, (fun j => xs.getD (16 * k + j) 0) = f := ⟨_, rfl⟩
   have hfd : ∀ j, xs.getD (16 * k + j) 0 = f j := fun j => by rw [← hf]
   have hnx := words_take16 (xs := xs) (k := k) (by rw [HX.out]; omega)
   simp only [hfd] at hnx
   have hnx2 : words ((List.range 16).map fun j => f j) = [.int .u16 (f 0 : Nat), .int .u16 (f 1 : Nat), .int .u16 (f 2 : Nat), .int .u16 (f 3 : Nat), .int .u16 (f 4 : Nat), .int .u16 (f 5 : Nat), .int .u16 (f 6 : Nat), .int .u16 (f 7 : Nat), .int .u16 (f 8 : Nat), .int .u16 (f 9 : Nat), .int .u16 (f 10 : Nat), .int .u16 (f 11 : Nat), .int .u16 (f 12 : Nat), .int .u16 (f 13 : Nat), .int .u16 (f 14 : Nat), .int .u16 (f 15 : Nat)] := rfl
   rw [hnx2] at hnx
   have hcell : ∀ j, j < 16 → wr.cell? ⟨b, off + k * 16 + j, none⟩ = some (.int .u16 (f j : Nat)) := by
    intro j hj
    have hl : 16 * k + j < xs.length := by rw [HX.out]; omega
    obtain ⟨b2, off2, e2, hc2⟩ := HR.out.w16 (16 * k + j) hl
    injection e2 with e2
    injection e2 with e2 e3
    subst e2 e3
    rw [show off + k * 16 + j = off + (16 * k + j) by omega, HN.out.cell hc2, ← hfd j]
    simp [List.getD_eq_getElem?_getD, List.getElem?_eq_getElem hl]
   have h1c : ∀ u ∈ ([.int .u16 (f 0 : Nat), .int .u16 (f 1 : Nat), .int .u16 (f 2 : Nat), .int .u16 (f 3 : Nat), .int .u16 (f 4 : Nat), .int .u16 (f 5 : Nat), .int .u16 (f 6 : Nat), .int .u16 (f 7 : Nat), .int .u16 (f 8 : Nat), .int .u16 (f 9 : Nat), .int .u16 (f 10 : Nat), .int .u16 (f 11 : Nat), .int .u16 (f 12 : Nat), .int .u16 (f 13 : Nat), .int .u16 (f 14 : Nat), .int .u16 (f 15 : Nat)] : List Value), u.oneCell' = true := by intro u hu; simp at hu; rcases hu with rfl | rfl | rfl | rfl | rfl | rfl | rfl | rfl | rfl | rfl | rfl | rfl | rfl | rfl | rfl | rfl <;> rfl
   have hki : (k : Int) ≤ 300 := by omega
   clear hnx2 hf
   have HNX := Lib.hid hnx
   have HFD := Lib.hid hfd
   have HCELL := Lib.hid hcell
   have H1C := Lib.hid h1c
   clear hnx hfd hcell h1c
   have c0 : wr.cell? ⟨b, off + k * 16, none⟩ = some (.int .u16 (f 0 : Nat)) := HCELL.out 0 (by omega)
   have c1 : wr.cell? ⟨b, off + k * 16 + 1, none⟩ = some (.int .u16 (f 1 : Nat)) := HCELL.out 1 (by omega)
   have c2 : wr.cell? ⟨b, off + k * 16 + 2, none⟩ = some (.int .u16 (f 2 : Nat)) := HCELL.out 2 (by omega)
   have c3 : wr.cell? ⟨b, off + k * 16 + 3, none⟩ = some (.int .u16 (f 3 : Nat)) := HCELL.out 3 (by omega)
   have c4 : wr.cell? ⟨b, off + k * 16 + 4, none⟩ = some (.int .u16 (f 4 : Nat)) := HCELL.out 4 (by omega)
   have c5 : wr.cell? ⟨b, off + k * 16 + 5, none⟩ = some (.int .u16 (f 5 : Nat)) := HCELL.out 5 (by omega)
   have c6 : wr.cell? ⟨b, off + k * 16 + 6, none⟩ = some (.int .u16 (f 6 : Nat)) := HCELL.out 6 (by omega)
   have c7 : wr.cell? ⟨b, off + k * 16 + 7, none⟩ = some (.int .u16 (f 7 : Nat)) := HCELL.out 7 (by omega)
   have c8 : wr.cell? ⟨b, off + k * 16 + 8, none⟩ = some (.int .u16 (f 8 : Nat)) := HCELL.out 8 (by omega)
   have c9 : wr.cell? ⟨b, off + k * 16 + 9, none⟩ = some (.int .u16 (f 9 : Nat)) := HCELL.out 9 (by omega)
   have c10 : wr.cell? ⟨b, off + k * 16 + 10, none⟩ = some (.int .u16 (f 10 : Nat)) := HCELL.out 10 (by omega)
   have c11 : wr.cell? ⟨b, off + k * 16 + 11, none⟩ = some (.int .u16 (f 11 : Nat)) := HCELL.out 11 (by omega)
   have c12 : wr.cell? ⟨b, off + k * 16 + 12, none⟩ = some (.int .u16 (f 12 : Nat)) := HCELL.out 12 (by omega)
   have c13 : wr.cell? ⟨b, off + k * 16 + 13, none⟩ = some (.int .u16 (f 13 : Nat)) := HCELL.out 13 (by omega)
   have c14 : wr.cell? ⟨b, off + k * 16 + 14, none⟩ = some (.int .u16 (f 14 : Nat)) := HCELL.out 14 (by omega)
   have c15 : wr.cell? ⟨b, off + k * 16 + 15, none⟩ = some (.int .u16 (f 15 : Nat)) := HCELL.out 15 (by omega)
   go_wp2_with (at_builtin; refine wpList_append_own _ rfl _ _ 58 rfl w.heap.size 70 i0 (.int .u16 0) 1 2 Tryz.underlying58 hi0 hz0 hz1 hz2 rfl (by decide) _ _ _ rfl (HO.out.alloc _) ⟨wr.heap.size, 0, none⟩ 16 16 [.int .u16 (f 0 : Nat), .int .u16 (f 1 : Nat), .int .u16 (f 2 : Nat), .int .u16 (f 3 : Nat), .int .u16 (f 4 : Nat), .int .u16 (f 5 : Nat), .int .u16 (f 6 : Nat), .int .u16 (f 7 : Nat), .int .u16 (f 8 : Nat), .int .u16 (f 9 : Nat), .int .u16 (f 10 : Nat), .int .u16 (f 11 : Nat), .int .u16 (f 12 : Nat), .int .u16 (f 13 : Nat), .int .u16 (f 14 : Nat), .int .u16 (f 15 : Nat)] rfl rfl (alloc_cells _ #[.int .u16 (f 0 : Nat), .int .u16 (f 1 : Nat), .int .u16 (f 2 : Nat), .int .u16 (f 3 : Nat), .int .u16 (f 4 : Nat), .int .u16 (f 5 : Nat), .int .u16 (f 6 : Nat), .int .u16 (f 7 : Nat), .int .u16 (f 8 : Nat), .int .u16 (f 9 : Nat), .int .u16 (f 10 : Nat), .int .u16 (f 11 : Nat), .int .u16 (f 12 : Nat), .int .u16 (f 13 : Nat), .int .u16 (f 14 : Nat), .int .u16 (f 15 : Nat)] _) H1C.out (by unfold maxLen; omega) (by omega) (by have := HN.out.size; rw [← size_alloc]; omega) ?_)
   intro v' w9 hown' hgrow _
   have hN1 := grown_new HN.out HO.out hgrow
   have hO1 : w9.ownsRow w.heap.size 70 1 v' (16 * (k + 1)) (words (xs.take (16 * (k + 1)))) := by
    rw [HNX.out]
    exact hown'
   clear hown' hgrow c0 c1 c2 c3 c4 c5 c6 c7 c8 c9 c10 c11 c12 c13 c14 c15
   have HN1 := Lib.hid hN1
   have HO1 := Lib.hid hO1
   clear hN1 hO1
   go_wp2_with fail
   go_roundw
   case rel => exact ⟨k + 1, by omega, by go_num, HO1, HN1⟩
   case measure => simp [intOf]; omega
  ·have hkk : k = N := by omega
   have hO := HO.out
   rw [hkk, List.take_of_length_le (by rw [HX.out]; omega)] at hO
   obtain ⟨a7, c7, rfl, hr7, hc7, hz7⟩ := own_rdS' hO
   have h7 : a7 = none ∨ ∃ g, a7 = some ⟨g, 0, none⟩ := by
    rcases hO.2 with ⟨e, -⟩ | ⟨g, cap2, cur, e, -⟩
    ·injection e with e; exact .inl e
    ·injection e with e; exact .inr ⟨g, e⟩
   clear hO HO
   obtain ⟨M, hM⟩ : ∃ M, 16 * N = M := ⟨_, rfl⟩
   have hMi : ((16 * N : Nat) : Int) = (M : Int) := by rw [hM]
   obtain ⟨d, hd⟩ : ∃ d, decide (0 ≤ nzAt 0 (xs.drop n)) = d := ⟨_, rfl⟩
   have hdl : (xs.drop n).length = M - n := by rw [List.length_drop, HX.out, hM]
   rw [hM] at hnN hN16 hc7
   simp only [hM]
   have hnMi : (n : Int) ≤ (M : Int) := by omega
   have hfin1 : (∃ x ∈ xs.drop n, x ≠ 0) → d = true := fun h => by rw [← hd, decide_eq_true_eq]; exact nzAt_bad _ 0 h
   have hfin2 : (∀ x ∈ xs.drop n, x = 0) → d = false := fun h => by rw [← hd, nzAt_ok _ 0 h]; rfl
   have htk : RdL wr a7 (words (xs.take n)) := fun i hi => by
    have hi2 : i < n := by simp [words] at hi; omega
    have hxl : xs.length = M := by rw [HX.out, hM]
    have hi3 : i < (words xs).length := by rw [words_len3]; omega
    obtain ⟨g, off, e, hc⟩ := hr7 i hi3
    exact ⟨g, off, e, by rw [hc]; simp [words]⟩
   have hnM : (n : Int) ≤ (M : Int) := by omega
   have hMc : (M : Int) ≤ (c7 : Int) := by omega
   have hr7d : ∀ g, a7 = some ⟨g, 0, none⟩ → RdL wr (if c7 = n then some ⟨g, 0, none⟩ else some ⟨g, n, none⟩) (words (xs.drop n)) := fun g e i hi => by
    have hi2 : i < M - n := by rw [words_len3, hdl] at hi; exact hi
    have hxl : xs.length = M := by rw [HX.out, hM]
    obtain ⟨g2, off, e2, hc⟩ := hr7 (n + i) (by rw [words_len3]; omega)
    rw [e] at e2
    injection e2 with e2
    injection e2 with e2 e3
    subst e2 e3
    rw [if_neg (by omega)]
    refine ⟨g, n, rfl, ?_⟩
    rw [Nat.zero_add] at hc
    rw [hc]
    simp [words]
   have HD := Lib.hid hd
   have HDL := Lib.hid hdl
   have HFIN1 := Lib.hid hfin1
   have HFIN2 := Lib.hid hfin2
   have HTK := Lib.hid htk
   have HR7D := Lib.hid hr7d
   have HKK := Lib.hid hkk
   have HMM := Lib.hid hM
   have HMI := Lib.hid hMi
   have HC7 := Lib.hid hc7
   clear hd hdl hfin1 hfin2 htk hr7d hkk hM hMi hc7
   rcases h7 with rfl | ⟨g, rfl⟩
   ·have hM0 : M = 0 := by
     rcases Nat.eq_zero_or_pos M with h | h
     ·exact h
     ·exfalso
      obtain ⟨g, off, e, -⟩ := hr7 0 (by rw [words_len3, HX.out, HMM.out]; exact h)
      cases e
    have hn0 : n = 0 := by omega
    have hc0 : c7 = 0 := hz7 rfl
    have hdn : xs.drop n = [] := by
     have h1 := HDL.out
     rw [hM0] at h1
     exact List.eq_nil_of_length_eq_zero (by omega)
    have hc := fun cp => contains_words none cp 0 (xs.drop n) wr (by rw [hdn]; intro i hi; simp [words] at hi) (by rw [hdn]; rfl) (by omega)
    rw [HD.out] at hc
    clear hr7 hz7 hdn
    subst hc0
    subst hM0
    have HCC := Lib.hid hc
    clear hc
    subst hn0
    go_wp2_with fail
    refine (HCC.out 0).mono ?_
    rintro e w11 ⟨rfl, hn⟩
    cases d with
    | true =>
     go_wp2_with fail
     go_ret2
     refine ⟨HN.out.trans hn, fun h => ?_, fun _ => rfl⟩
     have := HFIN2.out h
     cases this
    | false =>
     go_wp2_with fail
     go_ret2
     refine ⟨HN.out.trans hn, fun _ => ⟨_, _, rfl, HTK.out.new hn, ?_⟩, fun h => ?_⟩
     ·have h1 := HC7.out
      omega
     ·have := HFIN1.out h
      cases this
   ·clear hr7 hz7
    by_cases hcn : c7 = n
    ·have hc := fun cp => contains_words (some ⟨g, 0, none⟩) cp (M - n) (xs.drop n) wr (by have := HR7D.out g rfl; rw [if_pos hcn] at this; exact this) HDL.out (by omega)
     rw [HD.out] at hc
     have HCC := Lib.hid hc
     clear hc
     go_wp2_with fail
     refine (HCC.out _).mono ?_
     rintro e w11 ⟨rfl, hn⟩
     cases d with
     | true =>
      go_wp2_with fail
      go_ret2
      refine ⟨HN.out.trans hn, fun h => ?_, fun _ => rfl⟩
      have := HFIN2.out h
      cases this
     | false =>
      go_wp2_with fail
      go_ret2
      refine ⟨HN.out.trans hn, fun _ => ⟨_, _, rfl, HTK.out.new hn, ?_⟩, fun h => ?_⟩
      ·have h1 := HC7.out
       omega
      ·have := HFIN1.out h
       cases this
    ·have hc := fun cp => contains_words (some ⟨g, n, none⟩) cp (M - n) (xs.drop n) wr (by have := HR7D.out g rfl; rw [if_neg hcn] at this; exact this) HDL.out (by omega)
     rw [HD.out] at hc
     have HCC := Lib.hid hc
     clear hc
     go_wp2_with fail
     refine (HCC.out _).mono ?_
     rintro e w11 ⟨rfl, hn⟩
     cases d with
     | true =>
      go_wp2_with fail
      go_ret2
      refine ⟨HN.out.trans hn, fun h => ?_, fun _ => rfl⟩
      have := HFIN2.out h
      cases this
     | false =>
      go_wp2_with fail
      go_ret2
      refine ⟨HN.out.trans hn, fun _ => ⟨_, _, rfl, HTK.out.new hn, ?_⟩, fun h => ?_⟩
      ·have h1 := HC7.out
       omega
      ·have := HFIN1.out h
       cases this
end Go.Proofs.YtlfnibjmkfldgaaGreatDoor
namespace Go.Proofs.YtlfnibjmkfldgaaGreatDoor
open Go.RowKit Big
def RdPost (w : World) (n : Nat) (xs : List Value) (en : Ending) (w' : World) : Prop := ∃ (a : Option Addr) (cap : Nat), en = .returned (.slice a n cap) ∧ New w w' ∧ RdL w' a xs ∧ n ≤ cap ∧ (a = none → cap = 0)
theorem own_rd' {w : World} {base : Nat} {e : TypeId} {v : Value} {n : Nat} {xs : List Value} (h : w.ownsRow base e 1 v n xs) : ∃ (a : Option Addr) (cap : Nat), v = .slice a n cap ∧ RdL w a xs ∧ n ≤ cap ∧ (a = none → cap = 0) := by
 have h1 := own_rd h
 rcases h.2 with ⟨rfl, rfl⟩ | ⟨g, cap, cur, rfl, hb, hc, h2, h3, h4, h5⟩
 ·obtain ⟨a, cap, e, hr, -⟩ := h1
  injection e with e1 e2 e3
  subst e1
  subst e3
  exact ⟨none, 0, rfl, hr, Nat.le_refl _, fun _ => rfl⟩
 ·obtain ⟨a, cap', e, hr, -⟩ := h1
  injection e with e1 e2 e3
  subst e1
  subst e3
  exact ⟨_, _, rfl, hr, h2, fun h => by cases h⟩
theorem own_none {w : World} {base : Nat} {e : TypeId} (hb : base ≤ w.heap.size) : (w.alloc (.cells #[] e)).ownsRow base e 1 (.slice (some ⟨w.heap.size, 0, none⟩) 0 0) 0 [] := by
 refine ⟨rfl, .inr ⟨w.heap.size, 0, #[], rfl, hb, ?_, Nat.le_refl _, Nat.zero_le _, rfl, rfl⟩⟩
 exact Box.alloc w _ e #[] rfl
set_option maxRecDepth 100000 in
theorem words_calls (a : Option Addr) (cap : Nat) (vs : List Value) (w : World) (hl : vs.length ≤ 5000) (hr : RdL w a vs) (hz : a = none → cap = 0) (h1 : ∀ u ∈ vs, u.oneCell' = true) :
  Calls Tryz.prog 31 #[.slice a vs.length cap] w (RdPost w vs.length vs) := by
 obtain ⟨i0, hi, hz0, hz1, hz2⟩ := info_parts info_u16
 have hO : (w.alloc (.cells #[] 70)).ownsRow w.heap.size 70 1 (.slice (some ⟨w.heap.size, 0, none⟩) 0 0) 0 [] := own_none (e := 70) (Nat.le_refl _)
 obtain ⟨n, hn⟩ : ∃ n, vs.length = n := ⟨_, rfl⟩
 rw [hn] at hl ⊢
 cases a with
 | none =>
  have h0 : n = 0 := by
   cases vs with
   | nil => exact hn.symm
   | cons v vs => obtain ⟨b, off, e, -⟩ := hr 0 (by simp); cases e
  have hv : vs = [] := by
   cases vs with
   | nil => rfl
   | cons v vs => rw [h0] at hn; simp at hn
  subst h0
  subst hv
  rw [hz rfl]
  clear hr h1 hl hz hn
  have HO := Lib.hid hO
  clear hO
  go_enter Tryz.func31, Tryz.ntmps31
  go_wp2_with (at_builtin; refine wpList_append_own_none rfl _ _ 58 rfl w.heap.size 70 i0 1 Tryz.underlying58 hi _ 0 [] rfl HO.out rfl ?_)
  go_wp2_with fail
  go_ret
  exact ⟨_, 0, rfl, (New.refl _).alloc _, fun i hi => by simp at hi, Nat.le_refl _, fun h => by cases h⟩
 | some ad =>
  have hsrc : ∀ (j : Nat) (v : Value), vs[j]? = some v → w.cell? (ad.add j) = some v := by
   intro j v hj
   have h0 : 0 < vs.length := by have := (List.getElem?_eq_some_iff.1 hj).1; omega
   obtain ⟨ad', e, hs⟩ := hr.src h0
   injection e with e
   rw [e]
   exact hs j v hj
  clear hr hz
  have HO := Lib.hid hO
  have HSRC := Lib.hid hsrc
  have H1 := Lib.hid h1
  have HN := Lib.hid hn
  have HL := Lib.hid hl
  clear hO hsrc h1 hn hl
  go_enter Tryz.func31, Tryz.ntmps31
  go_wp2_with (at_builtin; refine wpList_append_own _ rfl _ _ 58 rfl w.heap.size 70 i0 (.int .u16 0) 1 2 Tryz.underlying58 hi hz0 hz1 hz2 rfl (by decide) _ 0 [] rfl HO.out ad n cap vs rfl (by rw [HN.out, Nat.mul_one]) (fun j u hj => by exact ((New.refl w).alloc _).cell (HSRC.out j u hj)) H1.out (by have := HL.out; unfold maxLen; omega) (by have := HL.out; omega) (by rw [← size_alloc]; omega) ?_)
  intro v' w9 hown' hgrow _
  have hN1 : New w w9 := grown_newS' ((New.refl w).alloc _) HO.out hgrow
  have hO1 : w9.ownsRow w.heap.size 70 1 v' n vs := by simpa using hown'
  clear hown' hgrow
  obtain ⟨a', cap', rfl, hrd, hc, hnn⟩ := own_rd' hO1
  clear hO1
  have HN1 := Lib.hid hN1
  have HRD := Lib.hid hrd
  have HC := Lib.hid hc
  have HNN := Lib.hid hnn
  clear hN1 hrd hc hnn
  go_wp2_with fail
  go_ret
  exact ⟨a', cap', rfl, HN1.out, HRD.out, HC.out, HNN.out⟩
end Go.Proofs.YtlfnibjmkfldgaaGreatDoor
namespace Go.Proofs.YtlfnibjmkfldgaaGreatDoor
open Go.RowKit Big
theorem wrapn {z : Int} {k : Nat} (h : z = (k : Int)) (hk : k < 1000000) : IntKind.i64.wrap z = (k : Int) := by
 subst h
 rw [IntKind.wrap_i64]
 omega
theorem wrap64n {z : Int} {k : Nat} (h : z = (k : Int)) (hk : k < 1000000) : wrap64 z = (k : Int) := by
 subst h
 exact ld_in (by omega) (by omega)
end Go.Proofs.YtlfnibjmkfldgaaGreatDoor
