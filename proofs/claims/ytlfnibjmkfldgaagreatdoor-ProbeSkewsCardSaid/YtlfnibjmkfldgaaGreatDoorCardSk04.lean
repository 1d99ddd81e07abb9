/- Part CardSk04. -/
import Derived.Deep.DeepCutAuto
import Derived.Laws.AppendOwnNone
import Derived.Maps.AppendAt
import Derived.Test.YtlfnibjmkfldgaaGreatDoorA13
import Derived.Test.YtlfnibjmkfldgaaGreatDoorA20
import Derived.Test.YtlfnibjmkfldgaaGreatDoorA25
import Derived.Test.YtlfnibjmkfldgaaGreatDoorA27
import Derived.Test.YtlfnibjmkfldgaaGreatDoorA28
import Derived.Test.YtlfnibjmkfldgaaGreatDoorA29
import Derived.Test.YtlfnibjmkfldgaaGreatDoorCardSk01
import Derived.Test.YtlfnibjmkfldgaaGreatDoorCardSk02
import Derived.Test.YtlfnibjmkfldgaaGreatDoorCardSk03
namespace Go.Proofs.YtlfnibjmkfldgaaGreatDoor
open Go.RowKit Big
set_option maxRecDepth 100000 in
set_option maxHeartbeats 60000000 in
theorem skews_law (haw : AwakeOk) (a b : Option Addr) (ca cb m K : Nat) (xs : List Nat) (cs : List Int) (more : Int) (w : World) (he : Env w) (hm : xs.length = m) (hc : cs.length = 2 * K) (hmc : m ≤ ca) (hml : ca ≤ maxLen) (hKl : K ≤ maxLen)
  (hr : RdL w a (flts xs)) (hza : a = none → ca = 0) (hrb : RdL w b (ints cs)) :
  Calls Tryz.prog 5 #[.slice a m ca, .slice b K cb, .int .i64 more] w fun e w' => e = .returned (.bool true) ∧ New w w' := by
 have HN := Lib.hid (New.refl w)
 obtain ⟨e0, he0⟩ : ∃ e, samplesErr xs = e := ⟨_, rfl⟩
 have hck : ∀ W, New w W → Calls Tryz.prog 17 #[.slice a m ca] W (RetNew W e0) := by
  intro W hW
  have := rsamples_calls a ca xs W (by unfold maxLen at hml; omega) (hr.new hW)
  rw [hm, he0] at this
  exact this
 obtain ⟨G, hG⟩ : ∃ G : Bool, decide (64 < m ∨ e0 ≠ 0 ∨ K = 0 ∨ 6 < K ∨ more < -100 ∨ 100 < more) = G := ⟨_, rfl⟩
 have HE := Lib.hid he
 have HAW := Lib.hid haw
 have HCK := Lib.hid hck
 have HR := Lib.hid hr
 have HZA := Lib.hid hza
 have HRB := Lib.hid hrb
 have HE0 := Lib.hid he0
 have HMM := Lib.hid hm
 have HC := Lib.hid hc
 have HMC := Lib.hid hmc
 have HML := Lib.hid hml
 have HG := Lib.hid hG
 clear he haw hck hr hza hrb he0 hm hc hmc hml hG
 go_enter Tryz.func5, Tryz.ntmps5
 go_upto_region 1 with (fail)
 go_cut [44] (fun s wx => s = .bool G ∧ New w wx)
 case first =>
  by_cases h1 : 64 < m
  ·have t1 : (64 : Int) < (m : Int) := by omega
   have hg := HG.out
   rw [decide_eq_true (.inl h1)] at hg
   subst hg
   go_wp2_with fail
   go_meet
   exact ⟨rfl, HN.out⟩
  have t1 : ¬ (64 : Int) < (m : Int) := by omega
  go_wp2_with fail
  refine (HCK.out _ HN.out).mono ?_
  rintro e w1 ⟨rfl, hn⟩
  replace HN := Lib.hid (HN.out.trans hn)
  clear hn
  by_cases h2 : e0 ≠ 0
  ·have t2 : (e0 != 0) = true := by simpa using h2
   have hg := HG.out
   rw [decide_eq_true (.inr (.inl h2))] at hg
   subst hg
   go_wp2_with fail
   go_meet
   exact ⟨rfl, HN.out⟩
  have h2 : e0 = 0 := Decidable.not_not.1 h2
  have t2 : (e0 != 0) = false := by simpa using h2
  by_cases h3 : K = 0
  ·subst h3
   have hg := HG.out
   rw [decide_eq_true (.inr (.inr (.inl rfl)))] at hg
   subst hg
   go_wp2_with fail
   go_meet
   exact ⟨rfl, HN.out⟩
  have t3 : ((K : Int) == 0) = false := by simp; omega
  by_cases h4 : 6 < K
  ·have t4 : (6 : Int) < (K : Int) := by omega
   have hg := HG.out
   rw [decide_eq_true (.inr (.inr (.inr (.inl h4))))] at hg
   subst hg
   go_wp2_with fail
   go_meet
   exact ⟨rfl, HN.out⟩
  have t4 : ¬ (6 : Int) < (K : Int) := by omega
  by_cases h5 : more < -100
  ·have hg := HG.out
   rw [decide_eq_true (.inr (.inr (.inr (.inr (.inl h5)))))] at hg
   subst hg
   go_wp2_with fail
   go_meet
   exact ⟨rfl, HN.out⟩
  by_cases h6 : 100 < more
  ·have hg := HG.out
   rw [decide_eq_true (.inr (.inr (.inr (.inr (.inr h6)))))] at hg
   subst hg
   go_wp2_with fail
   go_meet
   exact ⟨rfl, HN.out⟩
  have hg := HG.out
  rw [decide_eq_false (by omega)] at hg
  subst hg
  have d4 := decide_eq_false t4
  have d5 := decide_eq_false h5
  have d6 := decide_eq_false h6
  go_wp2_with fail
  go_meet
  exact ⟨rfl, HN.out⟩
 case rest =>
  clear HN
  obtain ⟨rfl, hN⟩ := hcut
  obtain ⟨w0, hw0⟩ : ∃ x, wc = x := ⟨_, rfl⟩
  rw [hw0] at hN ⊢
  have HN := Lib.hid hN
  clear hN
  go_step
  cases G with
  | true =>
   go_wp2_with fail
   refine (HAW.out _ (HE.out.new HN.out)).mono ?_
   rintro e w99 ⟨rfl, hn⟩
   replace HN := Lib.hid (HN.out.trans hn)
   clear hn
   go_wp2_with fail
   go_ret
   exact ⟨rfl, HN.out⟩
  | false =>
   have hg := HG.out
   rw [decide_eq_false_iff_not] at hg
   have hm64 : m ≤ 64 := by omega
   have hK6 : K ≤ 6 := by omega
   have hK1 : 1 ≤ K := by omega
   have hm64i : (m : Int) ≤ 64 := by omega
   have hK6i : (K : Int) ≤ 6 := by omega
   have hmo1 : -100 ≤ more := by omega
   have hmo2 : more ≤ 100 := by omega
   obtain ⟨b', off', rfl, -⟩ := HRB.out 0 (by simp [ints]; have := HC.out; omega)
   obtain ⟨lo, hlo⟩ : ∃ f : Nat → Int, (fun k => cs.getD (2 * k) 0) = f := ⟨_, rfl⟩
   obtain ⟨hi, hhi⟩ : ∃ f : Nat → Int, (fun k => cs.getD (2 * k + 1) 0) = f := ⟨_, rfl⟩
   have hcell : ∀ k, k < K → w.cell? ⟨b', off' + k * 2, none⟩ = some (.int .i64 (lo k)) ∧ w.cell? ⟨b', off' + k * 2 + 1, none⟩ = some (.int .i64 (hi k)) := by
    intro k hk
    have hl := HC.out
    have hil : (ints cs).length = cs.length := by simp [ints]
    obtain ⟨b2, off2, e2, h2⟩ := HRB.out (2 * k) (by omega)
    obtain ⟨b3, off3, e3, h3⟩ := HRB.out (2 * k + 1) (by omega)
    injection e2 with e2
    injection e2 with e2 e4
    injection e3 with e3
    injection e3 with e3 e5
    subst e2 e4 e3 e5
    rw [← hlo, ← hhi]
    refine ⟨?_, ?_⟩
    ·rw [show off' + k * 2 = off' + 2 * k by omega, h2]
     simp [ints, List.getD_eq_getElem?_getD, List.getElem?_eq_getElem (show 2 * k < cs.length by omega)]
    ·rw [show off' + k * 2 + 1 = off' + (2 * k + 1) by omega, h3]
     simp [ints, List.getD_eq_getElem?_getD, List.getElem?_eq_getElem (show 2 * k + 1 < cs.length by omega)]
   obtain ⟨i0, hi0, hz0, hz1, hz2⟩ := info_parts info_int
   obtain ⟨i1, hi1, hz10, hz11, hz12⟩ := info_parts info_fsl
   have hK0 : (0 : Int) < (K : Int) := by omega
   clear hg hlo hhi
   have HCELL := Lib.hid hcell
   clear hcell
   go_wp2_with fail
   go_loopw [7, 8, 9, 10, 11, 50] (fun v7 v8 v9 v10 v11 i wr => ∃ (k : Nat), k ≤ K ∧ i = .int .i64 (k : Int) ∧ v10 = .int .i64 (skF lo k) ∧ v11 = .int .i64 (skT (m : Int) hi k) ∧ Hid (∀ j, j < k → 0 ≤ lo j ∧ lo j ≤ hi j ∧ hi j ≤ (m : Int)) ∧ Hid (Sk3 w0 wr v7 v8 v9 ((skRs xs lo hi k).map flts) (ints (skSs lo 0 k)) (ints (skSs lo more k)) k k)) (fun _ _ _ _ _ i _ => K - (intOf i).toNat)
   case atStart => exact ⟨0, Nat.zero_le _, rfl, rfl, rfl, Lib.hid (fun j h => by omega), Lib.hid ⟨RowsOf.nil _ _ _ _, World.ownsRow_nil _ _ _ _, World.ownsRow_nil _ _ _ _, .inl rfl, New.refl _⟩⟩
   case round =>
    obtain ⟨k, hk, rfl, rfl, rfl, HV, ST⟩ := hrel
    by_cases hlt : k < K
    ·obtain ⟨hc0, hc1⟩ := HCELL.out k hlt
     obtain ⟨c0, h0⟩ : ∃ c, lo k = c := ⟨_, rfl⟩
     obtain ⟨c1, h1⟩ : ∃ c, hi k = c := ⟨_, rfl⟩
     rw [h0] at hc0
     rw [h1] at hc1
     replace hc0 := (HN.out.trans ST.out.n).cell hc0
     replace hc1 := (HN.out.trans ST.out.n).cell hc1
     obtain ⟨F, hF⟩ : ∃ F, skF lo k = F := ⟨_, rfl⟩
     obtain ⟨T, hT⟩ : ∃ T, skT (m : Int) hi k = T := ⟨_, rfl⟩
     rw [hF, hT]
     have H0 := Lib.hid h0
     have H1 := Lib.hid h1
     have HF := Lib.hid hF
     have HT := Lib.hid hT
     clear h0 h1 hF hT
     go_upto_region 9 with (fail)
     clear hc0 hc1
     have bx := Box.alloc wr wr.heap.size 55 #[.int .i64 c0, .int .i64 c1] rfl
     have hn9 := (New.refl wr).alloc (.cells #[.int .i64 c0, .int .i64 c1] 55)
     have hst := ST.out.new hn9
     obtain ⟨X, hX⟩ : ∃ x, wr.heap.size = x := ⟨_, rfl⟩
     obtain ⟨w9, hw9⟩ : ∃ x, wr.alloc (.cells #[.int .i64 c0, .int .i64 c1] 55) = x := ⟨_, rfl⟩
     rw [hw9, hX] at bx
     rw [hw9] at hst ⊢
     rw [hX]
     have hN9 := (HN.out.trans ST.out.n).trans hn9
     rw [hw9] at hN9
     clear ST hX hw9 hn9
     have ST := Lib.hid hst
     have BX := Lib.hid bx
     have HN9 := Lib.hid hN9
     clear hst bx hN9
     obtain ⟨p0, p1, p2, p3, p4⟩ := BX.out.two
     by_cases g1 : c0 < 0
     ·have g1d := decide_eq_true g1
      clear HN
      have HN := HN9
      go_wp2_with fail
      refine (HAW.out _ (HE.out.new HN.out)).mono ?_
      rintro e w99 ⟨rfl, hn⟩
      replace HN := Lib.hid (HN.out.trans hn)
      clear hn
      go_wp2_with fail
      go_ret
      exact ⟨rfl, HN.out⟩
     have g1d := decide_eq_false g1
     by_cases g2 : c1 < c0
     ·have g2d := decide_eq_true g2
      clear HN
      have HN := HN9
      go_wp2_with fail
      refine (HAW.out _ (HE.out.new HN.out)).mono ?_
      rintro e w99 ⟨rfl, hn⟩
      replace HN := Lib.hid (HN.out.trans hn)
      clear hn
      go_wp2_with fail
      go_ret
      exact ⟨rfl, HN.out⟩
     have g2d := decide_eq_false g2
     by_cases g3 : (m : Int) < c1
     ·have g3d := decide_eq_true g3
      clear HN
      have HN := HN9
      go_wp2_with fail
      refine (HAW.out _ (HE.out.new HN.out)).mono ?_
      rintro e w99 ⟨rfl, hn⟩
      replace HN := Lib.hid (HN.out.trans hn)
      clear hn
      go_wp2_with fail
      go_ret
      exact ⟨rfl, HN.out⟩
     have g3d := decide_eq_false g3
     obtain ⟨l0, rfl⟩ : ∃ n : Nat, c0 = (n : Int) := ⟨c0.toNat, by omega⟩
     obtain ⟨l1, rfl⟩ : ∃ n : Nat, c1 = (n : Int) := ⟨c1.toNat, by omega⟩
     have s1 : (0 : Int) ≤ (l0 : Int) := by omega
     have s2 : (l0 : Int) ≤ (l1 : Int) := by omega
     have s3 : (l1 : Int) ≤ (ca : Int) := by have := HMC.out; omega
     obtain ⟨a', ha'⟩ : ∃ x, (if ca = l0 then a else Option.map (fun x => x.add l0) a) = x := ⟨_, rfl⟩
     obtain ⟨hpr, hpz⟩ := sliced_floats HMC.out (by omega) (by omega : l1 ≤ m) HMM.out HZA.out HR.out ha'
     have hpl : (skPiece xs (l0 : Int) (l1 : Int)).length = l1 - l0 := by unfold skPiece; rw [List.length_take, List.length_drop, HMM.out]; omega
     obtain ⟨x, hx⟩ : ∃ x, skPiece xs (l0 : Int) (l1 : Int) = x := ⟨_, rfl⟩
     rw [hx] at hpr hpl
     obtain ⟨l, hl⟩ : ∃ l, l1 - l0 = l := ⟨_, rfl⟩
     have hll : l ≤ 64 := by omega
     rw [hl] at hpl
     have hrow := floats_row a' (ca - l0) l x w9 hpl (by omega) (hpr.new HN9.out) hpz
     have hxl : (flts x).length = l := by simp [flts, hpl]
     have hsn : (skRs xs lo hi (k + 1)).map flts = (skRs xs lo hi k).map flts ++ [flts x] := by rw [skRs_snoc, H0.out, H1.out, hx]
     clear hpr hpz hx hpl
     have HROWC := Lib.hid hrow
     have HXL := Lib.hid hxl
     have HSN := Lib.hid hsn
     have HLL := Lib.hid hll
     clear hrow hxl hsn hll
     go_wp2_with fail
     refine HROWC.out.mono ?_
     rintro e w10 ⟨v9, rfl, hn, hrow⟩
     obtain ⟨vs, r1, r2, r3⟩ := ST.out.r
     have r1' := own_newS r1 hn
     have hvl : vs.length = k := by rw [r2]; simp [skRs_len]
     obtain ⟨a9, c9, e9, -, -⟩ := own_rd hrow
     subst e9
     have h1c : ∀ u ∈ [Value.slice a9 (flts x).length c9], u.oneCell' = true := by intro u hu; simp at hu; rw [hu]; rfl
     have hM2 := HN9.out.trans hn
     have hms := (ST.out.n.trans hn).size
     have hbx := BX.out.new hn
     clear p0 p1 p2 p3 p4 BX
     have R1 := Lib.hid r1
     have R1N := Lib.hid r1'
     have R2 := Lib.hid r2
     have R3 := Lib.hid r3
     have HVL := Lib.hid hvl
     have HROW := Lib.hid hrow
     have H1C := Lib.hid h1c
     have HM2 := Lib.hid hM2
     have HN10 := Lib.hid hn
     have HMS := Lib.hid hms
     have BX := Lib.hid hbx
     clear r1 r1' r2 r3 hvl hrow h1c hM2 hn hms hbx
     go_wp2_with (at_builtin; refine wpList_append_own_at _ rfl _ _ 46 rfl w0.heap.size 22 i1 (.slice none 0 0) 1 24 Tryz.underlying46 hi1 hz10 hz11 hz12 rfl (by decide) _ _ _ rfl (World.ownsRow.alloc R1N.out _) ⟨w10.heap.size, 0, none⟩ 1 1 [.slice a9 (flts x).length c9] rfl rfl (one_c1 _ _ _) H1C.out (by have := HVL.out; unfold maxLen; omega) (by have := HVL.out; omega) (by have := HMS.out; rw [← size_alloc]; omega) ?_)
     intro v' w11 hown' hgrow _ hat
     have hst := ST.out.push7 HN10.out HROW.out vs R1.out R2.out R3.out hown' hgrow hat
     rw [← HSN.out] at hst
     have hbx := box_push BX.out R1N.out hgrow (by decide)
     clear hown' hgrow hat ST BX HN9 HM2 R1 R1N R2 R3 HVL HROW H1C HN10 HMS HSN
     have ST := Lib.hid hst
     have BX := Lib.hid hbx
     clear hst hbx
     obtain ⟨p0, p1, p2, p3, p4⟩ := BX.out.two
     have hs8 : ints (skSs lo 0 (k + 1)) = ints (skSs lo 0 k) ++ [.int .i64 (-(l0 : Int))] := by rw [skSs_snoc, H0.out, Int.zero_sub]
     have hs9 : ints (skSs lo more (k + 1)) = ints (skSs lo more k) ++ [.int .i64 (more - (l0 : Int))] := by rw [skSs_snoc, H0.out]
     have hk63 : k + 1 ≤ maxLen := by unfold maxLen; omega
     have hk47 : (k + 1) * 8 ≤ 140737488355328 := by omega
     have HS8 := Lib.hid hs8
     have HS9 := Lib.hid hs9
     have HK63 := Lib.hid hk63
     have HK47 := Lib.hid hk47
     clear hs8 hs9 hk63 hk47
     go_upto_region 12 with (fail)
     go_cut [8, 9] (fun v8 v9 wx => Sk3 w0 wx v' v8 v9 ((skRs xs lo hi (k + 1)).map flts) (ints (skSs lo 0 (k + 1))) (ints (skSs lo more (k + 1))) (k + 1) (k + 1) ∧ Box wx X 55 #[.int .i64 (l0 : Int), .int .i64 (l1 : Int)])
     case first =>
      have HN := Lib.hid (New.refl w11)
      have hw8 : IntKind.i64.wrap (-(l0 : Int)) = -(l0 : Int) := by rw [IntKind.wrap_i64]; omega
      have hw9 : IntKind.i64.wrap (more - (l0 : Int)) = more - (l0 : Int) := by rw [IntKind.wrap_i64]; omega
      refine wp_region_T 13 (fun W => W.cell? ⟨X, 0, none⟩ = some (.int .i64 (l0 : Int))) 15 #[false, false, false, false, false, false, false, false, false, false, false, false, false, false, false] rfl (by kernel_rfl) (by kernel_rfl) ?_
      clear p0 p1 p2 p3 p4
      replace ST := Lib.hid (ST.out.new (New.refl w11).drew)
      replace BX := Lib.hid (BX.out.new (New.refl w11).drew)
      replace HN := Lib.hid (HN.out.drew)
      obtain ⟨wdr, hwd⟩ : ∃ x, w11.drew = x := ⟨_, rfl⟩
      rw [hwd] at HN ST BX ⊢
      clear hwd
      obtain ⟨p0, p1, p2, p3, p4⟩ := BX.out.two
      refine wpT_take 0 (v := ?_) rfl (by kernel_rfl) (fun _ _ _ h => h) (by exact p0) (Or.inl ⟨by first | kernel_rfl | rfl, ?_⟩) ?_
      rotate_left
      ·(intro W hW; (try dsimp only at hW); go_simp; try with_reducible rfl)
      try simp only [PT]
      refine wpT_take 1 (v := ?_) rfl (by kernel_rfl) (fun _ _ _ h => h) (by exact p0) (Or.inl ⟨by first | kernel_rfl | rfl, ?_⟩) ?_
      rotate_left
      ·(intro W hW; (try dsimp only at hW); go_simp; try with_reducible rfl)
      try simp only [PT]
      refine wpT_take 2 (v := ?_) rfl (by kernel_rfl) (fun _ _ _ h => h) (by exact p0) (Or.inl ⟨by first | kernel_rfl | rfl, ?_⟩) ?_
      rotate_left
      ·(intro W hW; (try dsimp only at hW); go_simp; try with_reducible rfl)
      try simp only [PT]
      refine wpT_take 3 (v := ?_) rfl (by kernel_rfl) (fun _ _ _ h => h) (by exact p0) (Or.inl ⟨by first | kernel_rfl | rfl, ?_⟩) ?_
      rotate_left
      ·(intro W hW; (try dsimp only at hW); (go_simp; try simp only [hw8]); try with_reducible rfl)
      try simp only [PT]
      refine wpT_take 6 (v := ?_) rfl (by kernel_rfl) (fun _ _ _ h => h) (by exact p0) (Or.inl ⟨by first | kernel_rfl | rfl, ?_⟩) ?_
      rotate_left
      ·(intro W hW; (try dsimp only at hW); go_simp; try with_reducible rfl)
      try simp only [PT]
      refine wpT_take 7 (v := ?_) rfl (by kernel_rfl) (fun _ _ _ h => h) (by exact p0) (Or.inl ⟨by first | kernel_rfl | rfl, ?_⟩) ?_
      rotate_left
      ·(intro W hW; (try dsimp only at hW); go_simp; try with_reducible rfl)
      try simp only [PT]
      refine wpT_take 8 (v := ?_) rfl (by kernel_rfl) (fun _ _ _ h => h) (by exact p0) (Or.inl ⟨by first | kernel_rfl | rfl, ?_⟩) ?_
      rotate_left
      ·(intro W hW; (try dsimp only at hW); go_simp; try with_reducible rfl)
      try simp only [PT]
      refine wpT_take 9 (v := ?_) rfl (by kernel_rfl) (fun _ _ _ h => h) (by exact p0) (Or.inl ⟨by first | kernel_rfl | rfl, ?_⟩) ?_
      rotate_left
      ·(intro W hW; (try dsimp only at hW); go_simp; try with_reducible rfl)
      try simp only [PT]
      refine wpT_take 10 (v := ?_) rfl (by kernel_rfl) (fun _ _ _ h => h) (by exact p0) (Or.inl ⟨by first | kernel_rfl | rfl, ?_⟩) ?_
      rotate_left
      ·(intro W hW; (try dsimp only at hW); (go_simp; try simp only [hw9]); try with_reducible rfl)
      try simp only [PT]
      refine wpT_two 4 11 rfl rfl (by kernel_rfl) (fun K hK => ?_) (fun K hK => ?_)
      ·skip
       go_simp
       clear p0 p1 p2 p3 p4
       replace ST := Lib.hid (ST.out.new ((New.refl wdr).alloc (.cells #[.int .i64 (-(l0 : Int))] 3)))
       replace BX := Lib.hid (BX.out.new ((New.refl wdr).alloc (.cells #[.int .i64 (-(l0 : Int))] 3)))
       have BS := Lib.hid (Box.alloc wdr wdr.heap.size 3 #[.int .i64 (-(l0 : Int))] rfl)
       replace HN := Lib.hid (HN.out.alloc (.cells #[.int .i64 (-(l0 : Int))] 3))
       obtain ⟨wa1, hwa⟩ : ∃ x, wdr.alloc (.cells #[.int .i64 (-(l0 : Int))] 3) = x := ⟨_, rfl⟩
       rw [hwa] at HN ST BX BS ⊢
       clear hwa
       obtain ⟨p0, p1, p2, p3, p4⟩ := BX.out.two
       refine hK.out _ _ (fun _ => ?_) ?_
       ·exact p0
       clear hK K
       try simp only [PT]
       refine wpT_two 5 11 rfl rfl (by kernel_rfl) (fun K hK => ?_) (fun K hK => ?_)
       ·skip
        rw [if_pos (by first | rfl | kernel_rfl)]
        clear p0 p1 p2 p3 p4
        refine wp_append_own_at _ _ 34 rfl w0.heap.size 3 i0 (.int .i64 0) 1 8 Tryz.underlying34 hi0 hz0 hz1 hz2 rfl (by decide) _ _ _ rfl ST.out.s ⟨_, 0, none⟩ 1 1 [.int .i64 (-(l0 : Int))] rfl rfl (box_cells BS.out) (one_c2 _) HK63.out HK47.out ST.out.n.size ?_
        intro v8 w87 hown hgrow hat
        have ST_ := ST.out.push8 (S' := ints (skSs lo 0 (k + 1))) (by rw [HS8.out]; exact hown) hgrow hat
        have BX_ := BX.out.grow hgrow (box_apart ST.out.s BX.out (by decide))
        try (have BO_ := BO.out.grow hgrow NBO.out; clear BO; have BO := Lib.hid BO_; clear BO_)
        clear ST BX hown hgrow hat
        clear BS
        have ST := Lib.hid ST_
        have BX := Lib.hid BX_
        clear ST_ BX_
        replace HN := Lib.hid (New.refl w87)
        obtain ⟨p0, p1, p2, p3, p4⟩ := BX.out.two
        refine hK.out _ _ (fun _ => ?_) ?_
        ·exact p0
        clear hK K
        try simp only [PT]
        refine wpT_one 11 rfl (by kernel_rfl) (fun K hK => ?_)
        go_simp
        clear p0 p1 p2 p3 p4
        have NBO := Lib.hid (own_fresh ST.out.s)
        replace ST := Lib.hid (ST.out.new ((New.refl w87).alloc (.cells #[.int .i64 (more - (l0 : Int))] 3)))
        replace BX := Lib.hid (BX.out.new ((New.refl w87).alloc (.cells #[.int .i64 (more - (l0 : Int))] 3)))
        have BO := Lib.hid (Box.alloc w87 w87.heap.size 3 #[.int .i64 (more - (l0 : Int))] rfl)
        replace HN := Lib.hid (HN.out.alloc (.cells #[.int .i64 (more - (l0 : Int))] 3))
        obtain ⟨wa2, hwa⟩ : ∃ x, w87.alloc (.cells #[.int .i64 (more - (l0 : Int))] 3) = x := ⟨_, rfl⟩
        rw [hwa] at HN ST BX BO ⊢
        clear hwa
        obtain ⟨p0, p1, p2, p3, p4⟩ := BX.out.two
        refine hK.out _ _ (fun _ => ?_) ?_
        ·exact p0
        clear hK K
        try simp only [PT]
        refine wpT_one 12 rfl (by kernel_rfl) (fun K hK => ?_)
        rw [if_pos (by first | rfl | kernel_rfl)]
        clear p0 p1 p2 p3 p4
        refine wp_append_own_at _ _ 34 rfl w0.heap.size 3 i0 (.int .i64 0) 1 8 Tryz.underlying34 hi0 hz0 hz1 hz2 rfl (by decide) _ _ _ rfl ST.out.o ⟨_, 0, none⟩ 1 1 [.int .i64 (more - (l0 : Int))] rfl rfl (box_cells BO.out) (one_c2 _) HK63.out HK47.out ST.out.n.size ?_
        intro v9 w94 hown hgrow hat
        have ST_ := ST.out.push9 (O' := ints (skSs lo more (k + 1))) (by rw [HS9.out]; exact hown) hgrow hat
        have BX_ := BX.out.grow hgrow (box_apart ST.out.o BX.out (by decide))
        clear ST BX hown hgrow hat
        clear BO
        have ST := Lib.hid ST_
        have BX := Lib.hid BX_
        clear ST_ BX_
        obtain ⟨p0, p1, p2, p3, p4⟩ := BX.out.two
        refine hK.out _ _ (fun _ => ?_) ?_
        ·exact p0
        clear hK K
        try simp only [PT]
        refine wpT_tail rfl (by kernel_rfl) ?_
        simp only [List.drop_succ_cons, List.drop_zero]
        go_wp2_with fail
        go_meet
        exact ⟨ST.out, BX.out⟩
       ·skip
        go_simp
        clear p0 p1 p2 p3 p4
        have NBO := Lib.hid (own_fresh ST.out.s)
        have NEBSBO := Lib.hid (Nat.ne_of_lt BS.out.lt)
        replace ST := Lib.hid (ST.out.new ((New.refl wa1).alloc (.cells #[.int .i64 (more - (l0 : Int))] 3)))
        replace BX := Lib.hid (BX.out.new ((New.refl wa1).alloc (.cells #[.int .i64 (more - (l0 : Int))] 3)))
        replace BS := Lib.hid (BS.out.new ((New.refl wa1).alloc (.cells #[.int .i64 (more - (l0 : Int))] 3)))
        have BO := Lib.hid (Box.alloc wa1 wa1.heap.size 3 #[.int .i64 (more - (l0 : Int))] rfl)
        replace HN := Lib.hid (HN.out.alloc (.cells #[.int .i64 (more - (l0 : Int))] 3))
        obtain ⟨wa2, hwa⟩ : ∃ x, wa1.alloc (.cells #[.int .i64 (more - (l0 : Int))] 3) = x := ⟨_, rfl⟩
        rw [hwa] at HN ST BX BS BO ⊢
        clear hwa
        obtain ⟨p0, p1, p2, p3, p4⟩ := BX.out.two
        refine hK.out _ _ (fun _ => ?_) ?_
        ·exact p0
        clear hK K
        try simp only [PT]
        refine wpT_one 5 rfl (by kernel_rfl) (fun K hK => ?_)
        rw [if_pos (by first | rfl | kernel_rfl)]
        clear p0 p1 p2 p3 p4
        refine wp_append_own_at _ _ 34 rfl w0.heap.size 3 i0 (.int .i64 0) 1 8 Tryz.underlying34 hi0 hz0 hz1 hz2 rfl (by decide) _ _ _ rfl ST.out.s ⟨_, 0, none⟩ 1 1 [.int .i64 (-(l0 : Int))] rfl rfl (box_cells BS.out) (one_c2 _) HK63.out HK47.out ST.out.n.size ?_
        intro v8 w87 hown hgrow hat
        have ST_ := ST.out.push8 (S' := ints (skSs lo 0 (k + 1))) (by rw [HS8.out]; exact hown) hgrow hat
        have BX_ := BX.out.grow hgrow (box_apart ST.out.s BX.out (by decide))
        try (have BO_ := BO.out.grow hgrow NBO.out; clear BO; have BO := Lib.hid BO_; clear BO_)
        clear ST BX hown hgrow hat
        clear BS
        have ST := Lib.hid ST_
        have BX := Lib.hid BX_
        clear ST_ BX_
        replace HN := Lib.hid (New.refl w87)
        obtain ⟨p0, p1, p2, p3, p4⟩ := BX.out.two
        refine hK.out _ _ (fun _ => ?_) ?_
        ·exact p0
        clear hK K
        try simp only [PT]
        refine wpT_one 12 rfl (by kernel_rfl) (fun K hK => ?_)
        rw [if_pos (by first | rfl | kernel_rfl)]
        clear p0 p1 p2 p3 p4
        refine wp_append_own_at _ _ 34 rfl w0.heap.size 3 i0 (.int .i64 0) 1 8 Tryz.underlying34 hi0 hz0 hz1 hz2 rfl (by decide) _ _ _ rfl ST.out.o ⟨_, 0, none⟩ 1 1 [.int .i64 (more - (l0 : Int))] rfl rfl (box_cells BO.out) (one_c2 _) HK63.out HK47.out ST.out.n.size ?_
        intro v9 w94 hown hgrow hat
        have ST_ := ST.out.push9 (O' := ints (skSs lo more (k + 1))) (by rw [HS9.out]; exact hown) hgrow hat
        have BX_ := BX.out.grow hgrow (box_apart ST.out.o BX.out (by decide))
        clear ST BX hown hgrow hat
        clear BO
        have ST := Lib.hid ST_
        have BX := Lib.hid BX_
        clear ST_ BX_
        obtain ⟨p0, p1, p2, p3, p4⟩ := BX.out.two
        refine hK.out _ _ (fun _ => ?_) ?_
        ·exact p0
        clear hK K
        try simp only [PT]
        refine wpT_tail rfl (by kernel_rfl) ?_
        simp only [List.drop_succ_cons, List.drop_zero]
        go_wp2_with fail
        go_meet
        exact ⟨ST.out, BX.out⟩
      ·skip
       go_simp
       clear p0 p1 p2 p3 p4
       have NBO := Lib.hid (own_fresh ST.out.s)
       replace ST := Lib.hid (ST.out.new ((New.refl wdr).alloc (.cells #[.int .i64 (more - (l0 : Int))] 3)))
       replace BX := Lib.hid (BX.out.new ((New.refl wdr).alloc (.cells #[.int .i64 (more - (l0 : Int))] 3)))
       have BO := Lib.hid (Box.alloc wdr wdr.heap.size 3 #[.int .i64 (more - (l0 : Int))] rfl)
       replace HN := Lib.hid (HN.out.alloc (.cells #[.int .i64 (more - (l0 : Int))] 3))
       obtain ⟨wa1, hwa⟩ : ∃ x, wdr.alloc (.cells #[.int .i64 (more - (l0 : Int))] 3) = x := ⟨_, rfl⟩
       rw [hwa] at HN ST BX BO ⊢
       clear hwa
       obtain ⟨p0, p1, p2, p3, p4⟩ := BX.out.two
       refine hK.out _ _ (fun _ => ?_) ?_
       ·exact p0
       clear hK K
       try simp only [PT]
       refine wpT_one 4 rfl (by kernel_rfl) (fun K hK => ?_)
       go_simp
       clear p0 p1 p2 p3 p4
       have NEBSBO := Lib.hid (Nat.ne_of_gt BO.out.lt)
       replace ST := Lib.hid (ST.out.new ((New.refl wa1).alloc (.cells #[.int .i64 (-(l0 : Int))] 3)))
       replace BX := Lib.hid (BX.out.new ((New.refl wa1).alloc (.cells #[.int .i64 (-(l0 : Int))] 3)))
       replace BO := Lib.hid (BO.out.new ((New.refl wa1).alloc (.cells #[.int .i64 (-(l0 : Int))] 3)))
       have BS := Lib.hid (Box.alloc wa1 wa1.heap.size 3 #[.int .i64 (-(l0 : Int))] rfl)
       replace HN := Lib.hid (HN.out.alloc (.cells #[.int .i64 (-(l0 : Int))] 3))
       obtain ⟨wa2, hwa⟩ : ∃ x, wa1.alloc (.cells #[.int .i64 (-(l0 : Int))] 3) = x := ⟨_, rfl⟩
       rw [hwa] at HN ST BX BO BS ⊢
       clear hwa
       obtain ⟨p0, p1, p2, p3, p4⟩ := BX.out.two
       refine hK.out _ _ (fun _ => ?_) ?_
       ·exact p0
       clear hK K
       try simp only [PT]
       refine wpT_one 5 rfl (by kernel_rfl) (fun K hK => ?_)
       rw [if_pos (by first | rfl | kernel_rfl)]
       clear p0 p1 p2 p3 p4
       refine wp_append_own_at _ _ 34 rfl w0.heap.size 3 i0 (.int .i64 0) 1 8 Tryz.underlying34 hi0 hz0 hz1 hz2 rfl (by decide) _ _ _ rfl ST.out.s ⟨_, 0, none⟩ 1 1 [.int .i64 (-(l0 : Int))] rfl rfl (box_cells BS.out) (one_c2 _) HK63.out HK47.out ST.out.n.size ?_
       intro v8 w87 hown hgrow hat
       have ST_ := ST.out.push8 (S' := ints (skSs lo 0 (k + 1))) (by rw [HS8.out]; exact hown) hgrow hat
       have BX_ := BX.out.grow hgrow (box_apart ST.out.s BX.out (by decide))
       try (have BO_ := BO.out.grow hgrow NBO.out; clear BO; have BO := Lib.hid BO_; clear BO_)
       clear ST BX hown hgrow hat
       clear BS
       have ST := Lib.hid ST_
       have BX := Lib.hid BX_
       clear ST_ BX_
       replace HN := Lib.hid (New.refl w87)
       obtain ⟨p0, p1, p2, p3, p4⟩ := BX.out.two
       refine hK.out _ _ (fun _ => ?_) ?_
       ·exact p0
       clear hK K
       try simp only [PT]
       refine wpT_one 12 rfl (by kernel_rfl) (fun K hK => ?_)
       rw [if_pos (by first | rfl | kernel_rfl)]
       clear p0 p1 p2 p3 p4
       refine wp_append_own_at _ _ 34 rfl w0.heap.size 3 i0 (.int .i64 0) 1 8 Tryz.underlying34 hi0 hz0 hz1 hz2 rfl (by decide) _ _ _ rfl ST.out.o ⟨_, 0, none⟩ 1 1 [.int .i64 (more - (l0 : Int))] rfl rfl (box_cells BO.out) (one_c2 _) HK63.out HK47.out ST.out.n.size ?_
       intro v9 w94 hown hgrow hat
       have ST_ := ST.out.push9 (O' := ints (skSs lo more (k + 1))) (by rw [HS9.out]; exact hown) hgrow hat
       have BX_ := BX.out.grow hgrow (box_apart ST.out.o BX.out (by decide))
       clear ST BX hown hgrow hat
       clear BO
       have ST := Lib.hid ST_
       have BX := Lib.hid BX_
       clear ST_ BX_
       obtain ⟨p0, p1, p2, p3, p4⟩ := BX.out.two
       refine hK.out _ _ (fun _ => ?_) ?_
       ·exact p0
       clear hK K
       try simp only [PT]
       refine wpT_tail rfl (by kernel_rfl) ?_
       simp only [List.drop_succ_cons, List.drop_zero]
       go_wp2_with fail
       go_meet
       exact ⟨ST.out, BX.out⟩
     case rest => as_aux_lemma =>
      obtain ⟨hst, hbx⟩ := hcut
      clear ST BX p0 p1 p2 p3 p4
      obtain ⟨w12, hw12⟩ : ∃ x, wc = x := ⟨_, rfl⟩
      rw [hw12] at hst hbx ⊢
      have ST := Lib.hid hst
      have BX := Lib.hid hbx
      clear hst hbx
      obtain ⟨p0, p1, p2, p3, p4⟩ := BX.out.two
      have eF : skF lo (k + 1) = max F (l0 : Int) := by rw [← HF.out, ← H0.out]; rfl
      have eT : skT (m : Int) hi (k + 1) = min T (l1 : Int) := by rw [← HT.out, ← H1.out]; rfl
      have hv1 : ∀ j, j < k + 1 → 0 ≤ lo j ∧ lo j ≤ hi j ∧ hi j ≤ (m : Int) := fun j hj => by
       by_cases hjk : j = k
       ·subst hjk
        rw [H0.out, H1.out]
        omega
       ·exact HV.out j (by omega)
      have EF := Lib.hid eF
      have ET := Lib.hid eT
      have HV1 := Lib.hid hv1
      clear eF eT hv1
      go_step
      go_quiet (fail)
      go_wp2_with fail
      go_roundw
      case rel => exact ⟨k + 1, by omega, by go_num, by rw [EF.out], by rw [ET.out], HV1, Lib.hid (ST.out.new ((New.refl _).drewN _))⟩
      case measure => simp [intOf]; omega
    ·obtain rfl : k = K := by omega
     have hg := HG.out
     rw [decide_eq_false_iff_not] at hg
     have hse : samplesErr xs = 0 := by rw [HE0.out]; omega
     have h0 : ∀ j, j < k → 0 ≤ lo j ∧ lo j ≤ hi j ∧ hi j ≤ (xs.length : Int) := fun j hj => by rw [HMM.out]; exact HV.out j hj
     have hF0 := (skF_ge lo k).1
     have hT0 := skT_ge0 (m : Int) hi (by omega) k (fun j hj => by have := HV.out j hj; omega)
     have hTm := (skT_le (m : Int) hi k).1
     have hE0 := sk_aligned (d := 0) hK1 hK6 hse (by rw [HMM.out]; exact hm64) ⟨by omega, by omega⟩ h0
     have hE1 := sk_aligned (d := more) hK1 hK6 hse (by rw [HMM.out]; exact hm64) ⟨hmo1, hmo2⟩ h0
     rw [HMM.out] at hE0 hE1
     obtain ⟨F, hF⟩ : ∃ F : Nat, skF lo k = (F : Int) := ⟨(skF lo k).toNat, by omega⟩
     obtain ⟨T, hT⟩ : ∃ T : Nat, skT (m : Int) hi k = (T : Int) := ⟨(skT (m : Int) hi k).toNat, by omega⟩
     rw [hT] at hTm
     rw [hF, hT] at hE0 hE1 ⊢
     have hlr : ((skRs xs lo hi k).map flts).length = k := by rw [List.length_map, skRs_len]
     have hrs : ∀ (j : Nat) (h : j < (skRs xs lo hi k).length), (skRs xs lo hi k)[j].length ≤ 9223372036854775807 := fun j h => by
      rw [skRs_get]; unfold skPiece; rw [List.length_take, List.length_drop, HMM.out]; omega
     have hP1 := fun a' b' c' d' rv' W (h1 : RdLL W a' rv' ((skRs xs lo hi k).map flts)) (h2 : RdL W b' (ints (skSs lo 0 k))) => paligned_all a' b' c' d' k k rv' (skRs xs lo hi k) (skSs lo 0 k) W h1 h2 (skRs_len _ _ _ _) (skSs_len _ _ _) (by omega) (by omega) hrs
     have hP2 := fun a' b' c' d' rv' W (h1 : RdLL W a' rv' ((skRs xs lo hi k).map flts)) (h2 : RdL W b' (ints (skSs lo more k))) => paligned_all a' b' c' d' k k rv' (skRs xs lo hi k) (skSs lo more k) W h1 h2 (skRs_len _ _ _ _) (skSs_len _ _ _) (by omega) (by omega) hrs
     simp only [hE0.1] at hP1
     simp only [hE1.1] at hP2
     obtain ⟨a7, c7, rv7, rfl, hr7⟩ := ST.out.r.rdll
     obtain ⟨a8, c8, rfl, hr8, -⟩ := own_rd ST.out.s
     obtain ⟨a9, c9, rfl, hr9, -⟩ := own_rd ST.out.o
     rw [hlr]
     have hn0 := HN.out.trans ST.out.n
     clear ST HN HCELL HV hF0 hT0 hF hT hlr hrs hg h0 hse hK6i hm64i hmo1 hmo2
     have HN := Lib.hid hn0
     have HR7 := Lib.hid hr7
     have HR8 := Lib.hid hr8
     have HR9 := Lib.hid hr9
     clear hn0 hr7 hr8 hr9
     by_cases hft : (F : Int) < (T : Int)
     ·have hge : ¬ (T : Int) ≤ (F : Int) := by omega
      have hd1 : decide ((T : Int) ≤ (F : Int)) = false := decide_eq_false hge
      have hd2 : decide (T ≤ F) = false := decide_eq_false (by omega)
      simp only [if_pos hft, hE0.2 hft] at hP1
      simp only [if_pos hft, hE1.2 hft] at hP2
      have s1 : (0 : Int) ≤ (F : Int) := by omega
      have s2 : (F : Int) ≤ (T : Int) := by omega
      have s3 : (T : Int) ≤ (ca : Int) := by have := HMC.out; omega
      obtain ⟨a', ha'⟩ : ∃ x, (if ca = F then a else Option.map (fun x => x.add F) a) = x := ⟨_, rfl⟩
      obtain ⟨hpr, hpz⟩ := sliced_floats HMC.out (by omega) (by omega : T ≤ m) HMM.out HZA.out HR.out ha'
      have hpl : (skPiece xs (F : Int) (T : Int)).length = T - F := by unfold skPiece; rw [List.length_take, List.length_drop, HMM.out]; omega
      have hpf : ∀ x ∈ skPiece xs (F : Int) (T : Int), isFin x = true := fun x hx => by
       have hg := HG.out
       rw [decide_eq_false_iff_not] at hg
       exact fins_of (by rw [HE0.out]; omega) _ (List.mem_of_mem_drop (List.mem_of_mem_take hx))
      obtain ⟨P, hP⟩ : ∃ P, skPiece xs (F : Int) (T : Int) = P := ⟨_, rfl⟩
      obtain ⟨l, hl⟩ : ∃ l, T - F = l := ⟨_, rfl⟩
      simp only [hP, List.map_replicate] at hP1 hP2
      rw [hP] at hpr hpl hpf
      rw [hl] at hpl
      have hla : (P.map addz).length = l := by rw [List.length_map, hpl]
      have hlf : (flts (P.map addz)).length = l := by simp [flts, hpl]
      have hl64 : l ≤ 64 := by omega
      have hsf := fun a5 c5 W (h5 : RdL W a5 (flts (P.map addz))) (hW : New w W) => same_floats a5 a' c5 (ca - F) (P.map addz) P W (by omega) (by rw [hla, hpl]) h5 (hpr.new hW) (fun j h1 h2 => by rw [List.getElem_map]; exact addz_same (hpf _ (List.getElem_mem h2)))
      simp only [hla, hpl] at hsf
      have hkk2 : ((k : Int) != (k : Int)) = false := by simp
      clear hpr hpz hpl hpf hla hE0 hE1 hP hTm hl64
      have HP1 := Lib.hid hP1
      have HP2 := Lib.hid hP2
      have HSF := Lib.hid hsf
      have HLF := Lib.hid hlf
      clear hP1 hP2 hsf hlf
      go_wp2_with fail
      refine (HP1.out _ _ _ _ _ _ HR7.out HR8.out).mono ?_
      rintro e w13 ⟨v14, rfl, hn, ho⟩
      obtain ⟨a14, c14, rv14, rfl, hr14⟩ := ho.rdll
      clear ho
      rw [List.length_replicate]
      replace HR7 := Lib.hid (HR7.out.new hn)
      replace HR9 := Lib.hid (HR9.out.new hn)
      replace HN := Lib.hid (HN.out.trans hn)
      clear hn
      have HR14 := Lib.hid hr14
      clear hr14
      go_wp2_with fail
      refine (HP2.out _ _ _ _ _ _ HR7.out HR9.out).mono ?_
      rintro e w14 ⟨v16, rfl, hn, ho⟩
      obtain ⟨a16, c16, rv16, rfl, hr16⟩ := ho.rdll
      clear ho
      rw [List.length_replicate]
      replace HR14 := Lib.hid (HR14.out.new hn)
      replace HN := Lib.hid (HN.out.trans hn)
      clear hn
      have HR16 := Lib.hid hr16
      clear hr16
      go_wp2_with fail
      go_loopw [148] (fun i wr => ∃ (j : Nat), j ≤ k ∧ i = .int .i64 (j : Int) ∧ Hid (New w14 wr)) (fun i _ => k - (intOf i).toNat)
      case atStart => exact ⟨0, Nat.zero_le _, rfl, Lib.hid (New.refl _)⟩
      case round =>
       obtain ⟨j, hj, rfl, HM⟩ := hrel
       by_cases hlt : j < k
       ·obtain ⟨b5, off5, a5, c5, rfl, hc5, hr5, -⟩ := HR14.out.at j (by rw [List.length_replicate]; exact hlt)
        obtain ⟨b6, off6, a6, c6, rfl, hc6, hr6, -⟩ := HR16.out.at j (by rw [List.length_replicate]; exact hlt)
        rw [List.getElem_replicate, HLF.out] at hc5 hc6
        rw [List.getElem_replicate] at hr5 hr6
        have hs5 := fun W (hW : New w14 W) => HSF.out a5 c5 W (hr5.new hW) (HN.out.trans hW)
        have hs6 := fun W (hW : New w14 W) => HSF.out a6 c6 W (hr6.new hW) (HN.out.trans hW)
        have hc5w := hc5
        have hc6w := hc6
        replace hc5 := HM.out.cell hc5
        replace hc6 := HM.out.cell hc6
        clear hr5 hr6
        have HS5 := Lib.hid hs5
        have HS6 := Lib.hid hs6
        clear hs5 hs6
        go_wp2_with fail
        have HC5 := Lib.hid hc5w
        have HC6 := Lib.hid hc6w
        clear hc5w hc6w
        have HFT := Lib.hid hft
        have HGE := Lib.hid hge
        have S1 := Lib.hid s1
        have S2 := Lib.hid s2
        have S3 := Lib.hid s3
        have HLL := Lib.hid hl
        have HAA := Lib.hid ha'
        clear hft hge s1 s2 s3 hl ha'
        refine wp_region_T 21 (fun W => W.cell? ⟨b5, off5 + j, none⟩ = some (.slice a5 l c5) ∧ W.cell? ⟨b6, off6 + j, none⟩ = some (.slice a6 l c6)) 22 #[false, false, false, false, false, false, false, false, false, false, false, false, false, false, false, false, false, false, false, false, false, false] rfl (by kernel_rfl) (by kernel_rfl) ?_
        refine wpT_take 0 (v := ?_) rfl (by kernel_rfl) (fun _ _ _ h => h) (by exact ⟨hc5, hc6⟩) (Or.inl ⟨by first | kernel_rfl | rfl, ?_⟩) ?_
        rotate_left
        ·(intro W hW; (try dsimp only at hW); go_simp; try with_reducible rfl)
        try simp only [List.getElem_toArray, List.getElem_cons_zero, Act.put, List.setIfInBounds_toArray, List.set_cons_zero, List.set_cons_succ]
        refine wpT_take 1 (v := ?_) rfl (by kernel_rfl) (fun _ _ _ h => h) (by exact ⟨hc5, hc6⟩) (Or.inl ⟨by first | kernel_rfl | rfl, ?_⟩) ?_
        rotate_left
        ·(intro W hW; (try dsimp only at hW); go_simp; try with_reducible rfl)
        try simp only [List.getElem_toArray, List.getElem_cons_zero, List.getElem_cons_succ, Act.put, List.setIfInBounds_toArray, List.set_cons_zero, List.set_cons_succ]
        refine wpT_take 2 (v := ?_) rfl (by kernel_rfl) (fun _ _ _ h => h) (by exact ⟨hc5, hc6⟩) (Or.inl ⟨by first | kernel_rfl | rfl, ?_⟩) ?_
        rotate_left
        ·(intro W hW; (try dsimp only at hW); go_simp; try with_reducible rfl)
        try simp only [List.getElem_toArray, List.getElem_cons_zero, List.getElem_cons_succ, Act.put, List.setIfInBounds_toArray, List.set_cons_zero, List.set_cons_succ]
        refine wpT_take 3 (v := ?_) rfl (by kernel_rfl) (fun _ _ _ h => h) (by exact ⟨hc5, hc6⟩) (Or.inl ⟨by first | kernel_rfl | rfl, ?_⟩) ?_
        rotate_left
        ·(intro W hW; (try dsimp only at hW); go_simp; try with_reducible rfl)
        try simp only [List.getElem_toArray, List.getElem_cons_zero, List.getElem_cons_succ, Act.put, List.setIfInBounds_toArray, List.set_cons_zero, List.set_cons_succ]
        refine wpT_take 4 (v := ?_) rfl (by kernel_rfl) (fun _ _ _ h => h) (by exact ⟨hc5, hc6⟩) (Or.inl ⟨by first | kernel_rfl | rfl, ?_⟩) ?_
        rotate_left
        ·(intro W hW; (try dsimp only at hW); go_simp; try with_reducible rfl)
        try simp only [List.getElem_toArray, List.getElem_cons_zero, List.getElem_cons_succ, Act.put, List.setIfInBounds_toArray, List.set_cons_zero, List.set_cons_succ]
        refine wpT_take 5 (v := ?_) rfl (by kernel_rfl) (fun _ _ _ h => h) (by exact ⟨hc5, hc6⟩) (Or.inl ⟨by first | kernel_rfl | rfl, ?_⟩) ?_
        rotate_left
        ·(intro W hW; (try dsimp only at hW); go_simp; try with_reducible rfl)
        try simp only [List.getElem_toArray, List.getElem_cons_zero, List.getElem_cons_succ, Act.put, List.setIfInBounds_toArray, List.set_cons_zero, List.set_cons_succ]
        refine wpT_take 6 (v := ?_) rfl (by kernel_rfl) (fun _ _ _ h => h) (by exact ⟨hc5, hc6⟩) (Or.inl ⟨by first | kernel_rfl | rfl, ?_⟩) ?_
        rotate_left
        ·(intro W hW; (try dsimp only at hW); go_simp; try with_reducible rfl)
        try simp only [List.getElem_toArray, List.getElem_cons_zero, List.getElem_cons_succ, Act.put, List.setIfInBounds_toArray, List.set_cons_zero, List.set_cons_succ]
        refine wpT_take 7 (v := ?_) rfl (by kernel_rfl) (fun _ _ _ h => h) (by exact ⟨hc5, hc6⟩) (Or.inl ⟨by first | kernel_rfl | rfl, ?_⟩) ?_
        rotate_left
        ·(intro W hW; (try dsimp only at hW); (have s1 := S1.out; have s2 := S2.out; have s3 := S3.out; have hl := HLL.out; have ha' := HAA.out; go_simp); try with_reducible rfl)
        try simp only [List.getElem_toArray, List.getElem_cons_zero, List.getElem_cons_succ, Act.put, List.setIfInBounds_toArray, List.set_cons_zero, List.set_cons_succ]
        refine wpT_one 8 rfl (by kernel_rfl) (fun K hK => ?_)
        try simp only [List.getElem_toArray, List.getElem_cons_zero, List.getElem_cons_succ]
        go_simp
        refine (HS5.out _ HM.out.drew).mono ?_
        rintro e w31 ⟨rfl, hn⟩
        have hn := hn.undrew
        replace hc5 := (HM.out.trans hn).cell HC5.out
        replace hc6 := (HM.out.trans hn).cell HC6.out
        have HM2 := Lib.hid (HM.out.trans hn)
        clear hn
        refine hK.out _ _ (fun _ => ?_) ?_
        ·exact ⟨hc5, hc6⟩
        clear hK K
        try simp only [List.setIfInBounds_toArray, List.set_cons_zero, List.set_cons_succ]
        refine wpT_take 9 (v := ?_) rfl (by kernel_rfl) (fun _ _ _ h => h) (by exact ⟨hc5, hc6⟩) (Or.inl ⟨by first | kernel_rfl | rfl, ?_⟩) ?_
        rotate_left
        ·(intro W hW; (try dsimp only at hW); go_simp; try with_reducible rfl)
        try simp only [List.getElem_toArray, List.getElem_cons_zero, List.getElem_cons_succ, Act.put, List.setIfInBounds_toArray, List.set_cons_zero, List.set_cons_succ]
        refine wpT_take 10 (v := ?_) rfl (by kernel_rfl) (fun _ _ _ h => h) (by exact ⟨hc5, hc6⟩) (Or.inl ⟨by first | kernel_rfl | rfl, ?_⟩) ?_
        rotate_left
        ·(intro W hW; (try dsimp only at hW); go_simp; try with_reducible rfl)
        try simp only [List.getElem_toArray, List.getElem_cons_zero, List.getElem_cons_succ, Act.put, List.setIfInBounds_toArray, List.set_cons_zero, List.set_cons_succ]
        refine wpT_take 11 (v := ?_) rfl (by kernel_rfl) (fun _ _ _ h => h) (by exact ⟨hc5, hc6⟩) (Or.inl ⟨by first | kernel_rfl | rfl, ?_⟩) ?_
        rotate_left
        ·(intro W hW; (try dsimp only at hW); go_simp; try with_reducible rfl)
        try simp only [List.getElem_toArray, List.getElem_cons_zero, List.getElem_cons_succ, Act.put, List.setIfInBounds_toArray, List.set_cons_zero, List.set_cons_succ]
        refine wpT_take 12 (v := ?_) rfl (by kernel_rfl) (fun _ _ _ h => h) (by exact ⟨hc5, hc6⟩) (Or.inl ⟨by first | kernel_rfl | rfl, ?_⟩) ?_
        rotate_left
        ·(intro W hW; (try dsimp only at hW); go_simp; try with_reducible rfl)
        try simp only [List.getElem_toArray, List.getElem_cons_zero, List.getElem_cons_succ, Act.put, List.setIfInBounds_toArray, List.set_cons_zero, List.set_cons_succ]
        refine wpT_take 13 (v := ?_) rfl (by kernel_rfl) (fun _ _ _ h => h) (by exact ⟨hc5, hc6⟩) (Or.inl ⟨by first | kernel_rfl | rfl, ?_⟩) ?_
        rotate_left
        ·(intro W hW; (try dsimp only at hW); go_simp; try with_reducible rfl)
        try simp only [List.getElem_toArray, List.getElem_cons_zero, List.getElem_cons_succ, Act.put, List.setIfInBounds_toArray, List.set_cons_zero, List.set_cons_succ]
        refine wpT_take 14 (v := ?_) rfl (by kernel_rfl) (fun _ _ _ h => h) (by exact ⟨hc5, hc6⟩) (Or.inl ⟨by first | kernel_rfl | rfl, ?_⟩) ?_
        rotate_left
        ·(intro W hW; (try dsimp only at hW); go_simp; try with_reducible rfl)
        try simp only [List.getElem_toArray, List.getElem_cons_zero, List.getElem_cons_succ, Act.put, List.setIfInBounds_toArray, List.set_cons_zero, List.set_cons_succ]
        refine wpT_take 15 (v := ?_) rfl (by kernel_rfl) (fun _ _ _ h => h) (by exact ⟨hc5, hc6⟩) (Or.inl ⟨by first | kernel_rfl | rfl, ?_⟩) ?_
        rotate_left
        ·(intro W hW; (try dsimp only at hW); go_simp; try with_reducible rfl)
        try simp only [List.getElem_toArray, List.getElem_cons_zero, List.getElem_cons_succ, Act.put, List.setIfInBounds_toArray, List.set_cons_zero, List.set_cons_succ]
        refine wpT_take 16 (v := ?_) rfl (by kernel_rfl) (fun _ _ _ h => h) (by exact ⟨hc5, hc6⟩) (Or.inl ⟨by first | kernel_rfl | rfl, ?_⟩) ?_
        rotate_left
        ·(intro W hW; (try dsimp only at hW); go_simp; try with_reducible rfl)
        try simp only [List.getElem_toArray, List.getElem_cons_zero, List.getElem_cons_succ, Act.put, List.setIfInBounds_toArray, List.set_cons_zero, List.set_cons_succ]
        refine wpT_take 17 (v := ?_) rfl (by kernel_rfl) (fun _ _ _ h => h) (by exact ⟨hc5, hc6⟩) (Or.inl ⟨by first | kernel_rfl | rfl, ?_⟩) ?_
        rotate_left
        ·(intro W hW; (try dsimp only at hW); go_simp; try with_reducible rfl)
        try simp only [List.getElem_toArray, List.getElem_cons_zero, List.getElem_cons_succ, Act.put, List.setIfInBounds_toArray, List.set_cons_zero, List.set_cons_succ]
        refine wpT_take 18 (v := ?_) rfl (by kernel_rfl) (fun _ _ _ h => h) (by exact ⟨hc5, hc6⟩) (Or.inl ⟨by first | kernel_rfl | rfl, ?_⟩) ?_
        rotate_left
        ·(intro W hW; (try dsimp only at hW); (have s1 := S1.out; have s2 := S2.out; have s3 := S3.out; have hl := HLL.out; have ha' := HAA.out; go_simp); try with_reducible rfl)
        try simp only [List.getElem_toArray, List.getElem_cons_zero, List.getElem_cons_succ, Act.put, List.setIfInBounds_toArray, List.set_cons_zero, List.set_cons_succ]
        refine wpT_one 19 rfl (by kernel_rfl) (fun K hK => ?_)
        try simp only [List.getElem_toArray, List.getElem_cons_zero, List.getElem_cons_succ]
        go_simp
        refine (HS6.out _ HM2.out).mono ?_
        rintro e w32 ⟨rfl, hn⟩
        replace hc5 := (HM2.out.trans hn).cell HC5.out
        replace hc6 := (HM2.out.trans hn).cell HC6.out
        have HM3 := Lib.hid (HM2.out.trans hn)
        clear hn
        refine hK.out _ _ (fun _ => ?_) ?_
        ·exact ⟨hc5, hc6⟩
        clear hK K
        try simp only [List.setIfInBounds_toArray, List.set_cons_zero, List.set_cons_succ]
        refine wpT_take 20 (v := ?_) rfl (by kernel_rfl) (fun _ _ _ h => h) (by exact ⟨hc5, hc6⟩) (Or.inl ⟨by first | kernel_rfl | rfl, ?_⟩) ?_
        rotate_left
        ·(intro W hW; (try dsimp only at hW); go_simp; try with_reducible rfl)
        try simp only [List.getElem_toArray, List.getElem_cons_zero, List.getElem_cons_succ, Act.put, List.setIfInBounds_toArray, List.set_cons_zero, List.set_cons_succ]
        refine wpT_tail rfl (by kernel_rfl) ?_
        simp only [List.drop_succ_cons, List.drop_zero]
        clear hc5 hc6
        go_wp2_with fail
        go_roundw
        case rel => exact ⟨j + 1, by omega, by go_num, HM3⟩
        case measure => simp [intOf]; omega
       ·have hjk : j = k := by omega
        have HJK := Lib.hid hjk
        clear hjk
        go_wp2_with fail
        refine (HAW.out _ (HE.out.new (HN.out.trans HM.out))).mono ?_
        rintro e w99 ⟨rfl, hn⟩
        go_wp2_with fail
        go_ret
        exact ⟨rfl, (HN.out.trans HM.out).trans hn⟩
     ·have hge : (T : Int) ≤ (F : Int) := by omega
      simp only [if_neg hft] at hP1 hP2
      clear hE0 hE1 hTm
      have HP1 := Lib.hid hP1
      have HP2 := Lib.hid hP2
      clear hP1 hP2
      go_wp2_with fail
      refine (HP1.out _ _ _ _ _ _ HR7.out HR8.out).mono ?_
      rintro e w13 ⟨v14, rfl, hn, -⟩
      replace HR7 := Lib.hid (HR7.out.new hn)
      replace HR9 := Lib.hid (HR9.out.new hn)
      replace HN := Lib.hid (HN.out.trans hn)
      clear hn
      go_wp2_with fail
      refine (HP2.out _ _ _ _ _ _ HR7.out HR9.out).mono ?_
      rintro e w14 ⟨v16, rfl, hn, -⟩
      replace HN := Lib.hid (HN.out.trans hn)
      clear hn
      go_wp2_with fail
      refine (HAW.out _ (HE.out.new HN.out)).mono ?_
      rintro e w99 ⟨rfl, hn⟩
      replace HN := Lib.hid (HN.out.trans hn)
      clear hn
      go_wp2_with fail
      go_ret
      exact ⟨rfl, HN.out⟩
end Go.Proofs.YtlfnibjmkfldgaaGreatDoor
