/- Part A06. -/
import Derived.Test.YtlfnibjmkfldgaaGreatDoorA05
namespace Go.Proofs.YtlfnibjmkfldgaaGreatDoor
open Go.RowKit Big
theorem add_same {x y : Int} (h : decide (x < 0) = decide (y < 0)) {k : Nat} (hk : k = x.natAbs + y.natAbs) : signed (decide (x < 0)) k = x + y := by
 have h : (x < 0) ↔ (y < 0) := by simpa using h
 unfold signed
 by_cases hx : x < 0
 ·have := h.1 hx; simp [hx]; omega
 ·have : ¬ y < 0 := fun c => hx (h.2 c)
  simp [hx]; omega
theorem add_more {x y : Int} (h : decide (x < 0) ≠ decide (y < 0)) (hle : y.natAbs ≤ x.natAbs) {k : Nat} (hk : k = x.natAbs - y.natAbs) : signed (decide (x < 0)) k = x + y := by
 have h : ¬ ((x < 0) ↔ (y < 0)) := by simpa using h
 unfold signed
 by_cases hx : x < 0
 ·have : ¬ y < 0 := fun c => h ⟨fun _ => c, fun _ => hx⟩
  simp [hx]; omega
 ·have : y < 0 := by
   rcases Decidable.em (y < 0) with c | c
   ·exact c
   ·exact absurd ⟨fun a => absurd a hx, fun a => absurd a c⟩ h
  simp [hx]; omega
theorem size_alloc2 (w : World) (o o' : Obj) : w.heap.size + 1 + 1 = ((w.alloc o).alloc o').heap.size := by rw [← size_alloc, ← size_alloc]
set_option maxRecDepth 100000 in
theorem add_calls (va vb : Value) (x y : Int) (w : World) (hx : IsInt w va x) (hy : IsInt w vb y) (bx : Bd x) (by' : Bd y) : Calls Tryz.prog 130 #[va, vb] w (IntPost w (x + y)) := by
 have q1 := eql_nil
 have HX := Lib.hid hx
 have HY := Lib.hid hy
 have BX := Lib.hid bx
 have BY := Lib.hid by'
 clear bx by'
 rcases hx with ⟨rfl, lo, hi⟩ | ⟨b, off, n, cap, f, s, rfl, hs, hw, h0, hv, hz⟩
 ·rcases hy with ⟨rfl, lo', hi'⟩ | ⟨b', off', n', cap', f', s', rfl, hs', hw', h0', hv', hz'⟩
  ·by_cases hov : -9223372036854775808 ≤ x + y ∧ x + y ≤ 9223372036854775807
   ·have hwr : wrap64 (x + y) = x + y := by unfold wrap64; omega
    have ht : (decide (x < x + y) == decide (0 < y)) = true := by
     have : (x < x + y) ↔ (0 < y) := by omega
     simp [this]
    have HP := Lib.hid fun w' (hn : New w w') => made_small hn (s := x + y) hov.1 hov.2 (x + y) rfl
    clear lo hi lo' hi' hov HX HY
    go_enter Tryz.func130, Tryz.ntmps130
    go_wp2_with fail
    refine bodyPost_ret (v := .agg #[.int .i64 (x + y), .slice none 0 0]) (by simp [results, Tryz.results130, go_sem]) rfl ?_
    exact HP.out _ ((((New.refl w).alloc _).alloc _).alloc _)
   ·obtain ⟨r, hr, ht⟩ : ∃ r, wrap64 (x + y) = r ∧ (decide (x < r) == decide (0 < y)) = false := by
     refine ⟨_, rfl, ?_⟩
     rcases Int.lt_or_le 0 y with h | h
     ·have : ¬ x < wrap64 (x + y) := by unfold wrap64; omega
      simp [h, this]
     ·have : x < wrap64 (x + y) := by unfold wrap64; omega
      have h' : ¬ 0 < y := by omega
      simp [h', this]
    clear lo hi lo' hi' hov
    go_enter Tryz.func130, Tryz.ntmps130
    go_wp2_with fail
    have hN0 := fun o o' o'' => (((New.refl w).alloc o).alloc o').alloc o''
    have HN0 := Lib.hid hN0
    clear hN0
    refine (parts_calls _ x _ (HX.out.new (HN0.out _ _ _))).mono ?_
    rintro e w1 ⟨va, n1, f1, rfl, hn, hw, hv⟩
    have ho := (Own2.alloc _ _ 138 (.int .i64 0) (.slice none 0 0) (size_alloc2 w _ _)).new hn
    have hN := (HN0.out _ _ _).trans hn
    have hob := ((Own2.alloc _ _ 138 _ _ (size_alloc w _)).new ((New.refl _).alloc _)).new hn
    obtain ⟨i0, i1, -, -⟩ := hob.cells
    have HO := Lib.hid ho
    have HW := Lib.hid hw
    have HV := Lib.hid hv
    have HN := Lib.hid hN
    clear hn hw hv ho hN HN0 hob
    go_wp2_with fail
    clear i0 i1
    refine (parts_calls _ y _ (HY.out.new HN.out)).mono ?_
    rintro e w2 ⟨vb, n2, f2, rfl, hn, hw, hv⟩
    have hw1 := HW.out.new hn
    have la := hw1.le BX.out HV.out
    have lb := hw.le BY.out hv
    have ho := HO.out.new hn
    have hN := HN.out.trans hn
    have HW1 := Lib.hid hw1
    have HW2 := Lib.hid hw
    have HV2 := Lib.hid hv
    have HO2 := Lib.hid ho
    have HN2 := Lib.hid hN
    clear hn hw hv ho hN hw1 HO HW HN
    by_cases hsg : decide (x < 0) = decide (y < 0)
    ·have hsg1 : (decide (x < 0) == decide (y < 0)) = true := by rw [hsg]; simp
     have HSG := Lib.hid hsg
     clear hsg
     go_wp2_with fail
     refine (addWords_calls va vb n1 n2 f1 f2 _ la lb HW1.out HW2.out).mono ?_
     rintro e w3 ⟨vc, n3, f3, hn, rfl, hw, hv⟩
     have ho := HO2.out.new hn
     have hN := HN2.out.trans hn
     have HW3 := Lib.hid hw
     have HV3 := Lib.hid hv
     have HO3 := Lib.hid ho
     have HN3 := Lib.hid hN
     clear hn hw hv ho hN HO2 HN2
     go_wp2_with fail
     refine (made_calls _ vc n3 f3 _ HW3.out).mono ?_
     rintro e w4 ⟨v', rfl, hn, hi⟩
     rw [add_same HSG.out (by rw [HV3.out, HV.out, HV2.out])] at hi
     have ho2 := HO3.out.new hn
     have hN2 := HN3.out.trans hn
     clear hn
     obtain ⟨c0, c1, c2, c3⟩ := ho2.cells
     obtain ⟨s', a', l', c', rfl⟩ := hi.shape
     have ho3 := ho2.set0 (.int .i64 s')
     obtain ⟨d0, d1, -, d3⟩ := ho3.cells
     have D0 := Lib.hid d0
     clear d0
     obtain ⟨-, e1, -, -⟩ := (ho3.set1 (.slice a' l' c')).cells
     have E1 := Lib.hid e1
     clear ho3 e1
     have HP := Lib.hid (stored_post hN2 hi ho2 (by omega))
     clear hi ho2 hN2
     go_wp2_with fail
     refine bodyPost_ret (v := .agg #[.int .i64 s', .slice a' l' c']) (by simp [results, Tryz.results130, go_sem, D0.out, E1.out]) rfl ?_
     exact HP.out
    ·have hsg1 : (decide (x < 0) == decide (y < 0)) = false := by simpa using hsg
     have HSG := Lib.hid hsg
     clear hsg
     go_wp2_with fail
     refine (compareWords_calls va vb n1 n2 f1 f2 _ HW1.out HW2.out).mono ?_
     rintro e w3 ⟨hn, rfl⟩
     rw [HV.out, HV2.out]
     have hw1 := HW1.out.new hn
     have hw2 := HW2.out.new hn
     have ho := HO2.out.new hn
     have hN := HN2.out.trans hn
     have HW1 := Lib.hid hw1
     have HW2 := Lib.hid hw2
     have HO2 := Lib.hid ho
     have HN2 := Lib.hid hN
     clear hn hw1 hw2 ho hN
     by_cases hle : y.natAbs ≤ x.natAbs
     ·obtain ⟨r, hr, hr0⟩ : ∃ r : Int, cmpNat x.natAbs y.natAbs = r ∧ 0 ≤ r := ⟨_, rfl, by unfold cmpNat; rw [if_neg (by omega)]; split <;> omega⟩
      rw [hr]
      have HLE := Lib.hid hle
      clear hr hle
      go_wp2_with fail
      refine (subWords_calls va vb n1 n2 f1 f2 _ la HW1.out HW2.out (by rw [HV.out, HV2.out]; exact HLE.out)).mono ?_
      rintro e w3 ⟨vc, n3, f3, hn, rfl, hw, hv⟩
      have hs3 := add_more (k := vf W64 f3 n3) HSG.out HLE.out (by rw [hv, HV.out, HV2.out])
      have ho := HO2.out.new hn
      have hN := HN2.out.trans hn
      have HW3 := Lib.hid hw
      have HS3 := Lib.hid hs3
      have HO3 := Lib.hid ho
      have HN3 := Lib.hid hN
      clear hn hw hv ho hN hs3 HO2 HN2
      go_wp2_with fail
      refine (made_calls _ vc n3 f3 _ HW3.out).mono ?_
      rintro e w4 ⟨v', rfl, hn, hi⟩
      rw [HS3.out] at hi
      have ho2 := HO3.out.new hn
      have hN2 := HN3.out.trans hn
      clear hn
      obtain ⟨c0, c1, c2, c3⟩ := ho2.cells
      obtain ⟨s', a', l', c', rfl⟩ := hi.shape
      have ho3 := ho2.set0 (.int .i64 s')
      obtain ⟨d0, d1, -, d3⟩ := ho3.cells
      have D0 := Lib.hid d0
      clear d0
      obtain ⟨-, e1, -, -⟩ := (ho3.set1 (.slice a' l' c')).cells
      have E1 := Lib.hid e1
      clear ho3 e1
      have HP := Lib.hid (stored_post hN2 hi ho2 (by omega))
      clear hi ho2 hN2
      go_wp2_with fail
      refine bodyPost_ret (v := .agg #[.int .i64 s', .slice a' l' c']) (by simp [results, Tryz.results130, go_sem, D0.out, E1.out]) rfl ?_
      exact HP.out
     ·obtain ⟨r, hr, hr0⟩ : ∃ r : Int, cmpNat x.natAbs y.natAbs = r ∧ ¬ 0 ≤ r := ⟨_, rfl, by unfold cmpNat; rw [if_pos (by omega)]; omega⟩
      rw [hr]
      have HLE := Lib.hid hle
      clear hr hle
      go_wp2_with fail
      refine (subWords_calls vb va n2 n1 f2 f1 _ lb HW2.out HW1.out (by rw [HV.out, HV2.out]; have := HLE.out; omega)).mono ?_
      rintro e w3 ⟨vc, n3, f3, hn, rfl, hw, hv⟩
      have hs3 := add_more (k := vf W64 f3 n3) (Ne.symm HSG.out) (by have := HLE.out; omega) (by rw [hv, HV.out, HV2.out])
      rw [Int.add_comm y x] at hs3
      have ho := HO2.out.new hn
      have hN := HN2.out.trans hn
      have HW3 := Lib.hid hw
      have HS3 := Lib.hid hs3
      have HO3 := Lib.hid ho
      have HN3 := Lib.hid hN
      clear hn hw hv ho hN hs3 HO2 HN2
      go_wp2_with fail
      refine (made_calls _ vc n3 f3 _ HW3.out).mono ?_
      rintro e w4 ⟨v', rfl, hn, hi⟩
      rw [HS3.out] at hi
      have ho2 := HO3.out.new hn
      have hN2 := HN3.out.trans hn
      clear hn
      obtain ⟨c0, c1, c2, c3⟩ := ho2.cells
      obtain ⟨s', a', l', c', rfl⟩ := hi.shape
      have ho3 := ho2.set0 (.int .i64 s')
      obtain ⟨d0, d1, -, d3⟩ := ho3.cells
      have D0 := Lib.hid d0
      clear d0
      obtain ⟨-, e1, -, -⟩ := (ho3.set1 (.slice a' l' c')).cells
      have E1 := Lib.hid e1
      clear ho3 e1
      have HP := Lib.hid (stored_post hN2 hi ho2 (by omega))
      clear hi ho2 hN2
      go_wp2_with fail
      refine bodyPost_ret (v := .agg #[.int .i64 s', .slice a' l' c']) (by simp [results, Tryz.results130, go_sem, D0.out, E1.out]) rfl ?_
      exact HP.out
  ·clear lo hi hs' hw' h0' hv' hz'
   go_enter Tryz.func130, Tryz.ntmps130
   go_wp2_with fail
   have hN0 := fun o o' o'' => (((New.refl w).alloc o).alloc o').alloc o''
   have HN0 := Lib.hid hN0
   clear hN0
   refine (parts_calls _ x _ (HX.out.new (HN0.out _ _ _))).mono ?_
   rintro e w1 ⟨va, n1, f1, rfl, hn, hw, hv⟩
   have ho := (Own2.alloc _ _ 138 (.int .i64 0) (.slice none 0 0) (size_alloc2 w _ _)).new hn
   have hN := (HN0.out _ _ _).trans hn
   have hob := ((Own2.alloc _ _ 138 _ _ (size_alloc w _)).new ((New.refl _).alloc _)).new hn
   obtain ⟨i0, i1, -, -⟩ := hob.cells
   have HO := Lib.hid ho
   have HW := Lib.hid hw
   have HV := Lib.hid hv
   have HN := Lib.hid hN
   clear hn hw hv ho hN HN0 hob
   go_wp2_with fail
   clear i0 i1
   refine (parts_calls _ y _ (HY.out.new HN.out)).mono ?_
   rintro e w2 ⟨vb, n2, f2, rfl, hn, hw, hv⟩
   have hw1 := HW.out.new hn
   have la := hw1.le BX.out HV.out
   have lb := hw.le BY.out hv
   have ho := HO.out.new hn
   have hN := HN.out.trans hn
   have HW1 := Lib.hid hw1
   have HW2 := Lib.hid hw
   have HV2 := Lib.hid hv
   have HO2 := Lib.hid ho
   have HN2 := Lib.hid hN
   clear hn hw hv ho hN hw1 HO HW HN
   by_cases hsg : decide (x < 0) = decide (y < 0)
   ·have hsg1 : (decide (x < 0) == decide (y < 0)) = true := by rw [hsg]; simp
    have HSG := Lib.hid hsg
    clear hsg
    go_wp2_with fail
    refine (addWords_calls va vb n1 n2 f1 f2 _ la lb HW1.out HW2.out).mono ?_
    rintro e w3 ⟨vc, n3, f3, hn, rfl, hw, hv⟩
    have ho := HO2.out.new hn
    have hN := HN2.out.trans hn
    have HW3 := Lib.hid hw
    have HV3 := Lib.hid hv
    have HO3 := Lib.hid ho
    have HN3 := Lib.hid hN
    clear hn hw hv ho hN HO2 HN2
    go_wp2_with fail
    refine (made_calls _ vc n3 f3 _ HW3.out).mono ?_
    rintro e w4 ⟨v', rfl, hn, hi⟩
    rw [add_same HSG.out (by rw [HV3.out, HV.out, HV2.out])] at hi
    have ho2 := HO3.out.new hn
    have hN2 := HN3.out.trans hn
    clear hn
    obtain ⟨c0, c1, c2, c3⟩ := ho2.cells
    obtain ⟨s', a', l', c', rfl⟩ := hi.shape
    have ho3 := ho2.set0 (.int .i64 s')
    obtain ⟨d0, d1, -, d3⟩ := ho3.cells
    have D0 := Lib.hid d0
    clear d0
    obtain ⟨-, e1, -, -⟩ := (ho3.set1 (.slice a' l' c')).cells
    have E1 := Lib.hid e1
    clear ho3 e1
    have HP := Lib.hid (stored_post hN2 hi ho2 (by omega))
    clear hi ho2 hN2
    go_wp2_with fail
    refine bodyPost_ret (v := .agg #[.int .i64 s', .slice a' l' c']) (by simp [results, Tryz.results130, go_sem, D0.out, E1.out]) rfl ?_
    exact HP.out
   ·have hsg1 : (decide (x < 0) == decide (y < 0)) = false := by simpa using hsg
    have HSG := Lib.hid hsg
    clear hsg
    go_wp2_with fail
    refine (compareWords_calls va vb n1 n2 f1 f2 _ HW1.out HW2.out).mono ?_
    rintro e w3 ⟨hn, rfl⟩
    rw [HV.out, HV2.out]
    have hw1 := HW1.out.new hn
    have hw2 := HW2.out.new hn
    have ho := HO2.out.new hn
    have hN := HN2.out.trans hn
    have HW1 := Lib.hid hw1
    have HW2 := Lib.hid hw2
    have HO2 := Lib.hid ho
    have HN2 := Lib.hid hN
    clear hn hw1 hw2 ho hN
    by_cases hle : y.natAbs ≤ x.natAbs
    ·obtain ⟨r, hr, hr0⟩ : ∃ r : Int, cmpNat x.natAbs y.natAbs = r ∧ 0 ≤ r := ⟨_, rfl, by unfold cmpNat; rw [if_neg (by omega)]; split <;> omega⟩
     rw [hr]
     have HLE := Lib.hid hle
     clear hr hle
     go_wp2_with fail
     refine (subWords_calls va vb n1 n2 f1 f2 _ la HW1.out HW2.out (by rw [HV.out, HV2.out]; exact HLE.out)).mono ?_
     rintro e w3 ⟨vc, n3, f3, hn, rfl, hw, hv⟩
     have hs3 := add_more (k := vf W64 f3 n3) HSG.out HLE.out (by rw [hv, HV.out, HV2.out])
     have ho := HO2.out.new hn
     have hN := HN2.out.trans hn
     have HW3 := Lib.hid hw
     have HS3 := Lib.hid hs3
     have HO3 := Lib.hid ho
     have HN3 := Lib.hid hN
     clear hn hw hv ho hN hs3 HO2 HN2
     go_wp2_with fail
     refine (made_calls _ vc n3 f3 _ HW3.out).mono ?_
     rintro e w4 ⟨v', rfl, hn, hi⟩
     rw [HS3.out] at hi
     have ho2 := HO3.out.new hn
     have hN2 := HN3.out.trans hn
     clear hn
     obtain ⟨c0, c1, c2, c3⟩ := ho2.cells
     obtain ⟨s', a', l', c', rfl⟩ := hi.shape
     have ho3 := ho2.set0 (.int .i64 s')
     obtain ⟨d0, d1, -, d3⟩ := ho3.cells
     have D0 := Lib.hid d0
     clear d0
     obtain ⟨-, e1, -, -⟩ := (ho3.set1 (.slice a' l' c')).cells
     have E1 := Lib.hid e1
     clear ho3 e1
     have HP := Lib.hid (stored_post hN2 hi ho2 (by omega))
     clear hi ho2 hN2
     go_wp2_with fail
     refine bodyPost_ret (v := .agg #[.int .i64 s', .slice a' l' c']) (by simp [results, Tryz.results130, go_sem, D0.out, E1.out]) rfl ?_
     exact HP.out
    ·obtain ⟨r, hr, hr0⟩ : ∃ r : Int, cmpNat x.natAbs y.natAbs = r ∧ ¬ 0 ≤ r := ⟨_, rfl, by unfold cmpNat; rw [if_pos (by omega)]; omega⟩
     rw [hr]
     have HLE := Lib.hid hle
     clear hr hle
     go_wp2_with fail
     refine (subWords_calls vb va n2 n1 f2 f1 _ lb HW2.out HW1.out (by rw [HV.out, HV2.out]; have := HLE.out; omega)).mono ?_
     rintro e w3 ⟨vc, n3, f3, hn, rfl, hw, hv⟩
     have hs3 := add_more (k := vf W64 f3 n3) (Ne.symm HSG.out) (by have := HLE.out; omega) (by rw [hv, HV.out, HV2.out])
     rw [Int.add_comm y x] at hs3
     have ho := HO2.out.new hn
     have hN := HN2.out.trans hn
     have HW3 := Lib.hid hw
     have HS3 := Lib.hid hs3
     have HO3 := Lib.hid ho
     have HN3 := Lib.hid hN
     clear hn hw hv ho hN hs3 HO2 HN2
     go_wp2_with fail
     refine (made_calls _ vc n3 f3 _ HW3.out).mono ?_
     rintro e w4 ⟨v', rfl, hn, hi⟩
     rw [HS3.out] at hi
     have ho2 := HO3.out.new hn
     have hN2 := HN3.out.trans hn
     clear hn
     obtain ⟨c0, c1, c2, c3⟩ := ho2.cells
     obtain ⟨s', a', l', c', rfl⟩ := hi.shape
     have ho3 := ho2.set0 (.int .i64 s')
     obtain ⟨d0, d1, -, d3⟩ := ho3.cells
     have D0 := Lib.hid d0
     clear d0
     obtain ⟨-, e1, -, -⟩ := (ho3.set1 (.slice a' l' c')).cells
     have E1 := Lib.hid e1
     clear ho3 e1
     have HP := Lib.hid (stored_post hN2 hi ho2 (by omega))
     clear hi ho2 hN2
     go_wp2_with fail
     refine bodyPost_ret (v := .agg #[.int .i64 s', .slice a' l' c']) (by simp [results, Tryz.results130, go_sem, D0.out, E1.out]) rfl ?_
     exact HP.out
 ·clear hs hw h0 hv hz hy
  obtain ⟨s', a', l', c', rfl⟩ := HY.out.shape
  go_enter Tryz.func130, Tryz.ntmps130
  go_wp2_with fail
  have hN0 := fun o o' o'' => (((New.refl w).alloc o).alloc o').alloc o''
  have HN0 := Lib.hid hN0
  clear hN0
  refine (parts_calls _ x _ (HX.out.new (HN0.out _ _ _))).mono ?_
  rintro e w1 ⟨va, n1, f1, rfl, hn, hw, hv⟩
  have ho := (Own2.alloc _ _ 138 (.int .i64 0) (.slice none 0 0) (size_alloc2 w _ _)).new hn
  have hN := (HN0.out _ _ _).trans hn
  have hob := ((Own2.alloc _ _ 138 _ _ (size_alloc w _)).new ((New.refl _).alloc _)).new hn
  obtain ⟨i0, i1, -, -⟩ := hob.cells
  have HO := Lib.hid ho
  have HW := Lib.hid hw
  have HV := Lib.hid hv
  have HN := Lib.hid hN
  clear hn hw hv ho hN HN0 hob
  go_wp2_with fail
  clear i0 i1
  refine (parts_calls _ y _ (HY.out.new HN.out)).mono ?_
  rintro e w2 ⟨vb, n2, f2, rfl, hn, hw, hv⟩
  have hw1 := HW.out.new hn
  have la := hw1.le BX.out HV.out
  have lb := hw.le BY.out hv
  have ho := HO.out.new hn
  have hN := HN.out.trans hn
  have HW1 := Lib.hid hw1
  have HW2 := Lib.hid hw
  have HV2 := Lib.hid hv
  have HO2 := Lib.hid ho
  have HN2 := Lib.hid hN
  clear hn hw hv ho hN hw1 HO HW HN
  by_cases hsg : decide (x < 0) = decide (y < 0)
  ·have hsg1 : (decide (x < 0) == decide (y < 0)) = true := by rw [hsg]; simp
   have HSG := Lib.hid hsg
   clear hsg
   go_wp2_with fail
   refine (addWords_calls va vb n1 n2 f1 f2 _ la lb HW1.out HW2.out).mono ?_
   rintro e w3 ⟨vc, n3, f3, hn, rfl, hw, hv⟩
   have ho := HO2.out.new hn
   have hN := HN2.out.trans hn
   have HW3 := Lib.hid hw
   have HV3 := Lib.hid hv
   have HO3 := Lib.hid ho
   have HN3 := Lib.hid hN
   clear hn hw hv ho hN HO2 HN2
   go_wp2_with fail
   refine (made_calls _ vc n3 f3 _ HW3.out).mono ?_
   rintro e w4 ⟨v', rfl, hn, hi⟩
   rw [add_same HSG.out (by rw [HV3.out, HV.out, HV2.out])] at hi
   have ho2 := HO3.out.new hn
   have hN2 := HN3.out.trans hn
   clear hn
   obtain ⟨c0, c1, c2, c3⟩ := ho2.cells
   obtain ⟨s', a', l', c', rfl⟩ := hi.shape
   have ho3 := ho2.set0 (.int .i64 s')
   obtain ⟨d0, d1, -, d3⟩ := ho3.cells
   have D0 := Lib.hid d0
   clear d0
   obtain ⟨-, e1, -, -⟩ := (ho3.set1 (.slice a' l' c')).cells
   have E1 := Lib.hid e1
   clear ho3 e1
   have HP := Lib.hid (stored_post hN2 hi ho2 (by omega))
   clear hi ho2 hN2
   go_wp2_with fail
   refine bodyPost_ret (v := .agg #[.int .i64 s', .slice a' l' c']) (by simp [results, Tryz.results130, go_sem, D0.out, E1.out]) rfl ?_
   exact HP.out
  ·have hsg1 : (decide (x < 0) == decide (y < 0)) = false := by simpa using hsg
   have HSG := Lib.hid hsg
   clear hsg
   go_wp2_with fail
   refine (compareWords_calls va vb n1 n2 f1 f2 _ HW1.out HW2.out).mono ?_
   rintro e w3 ⟨hn, rfl⟩
   rw [HV.out, HV2.out]
   have hw1 := HW1.out.new hn
   have hw2 := HW2.out.new hn
   have ho := HO2.out.new hn
   have hN := HN2.out.trans hn
   have HW1 := Lib.hid hw1
   have HW2 := Lib.hid hw2
   have HO2 := Lib.hid ho
   have HN2 := Lib.hid hN
   clear hn hw1 hw2 ho hN
   by_cases hle : y.natAbs ≤ x.natAbs
   ·obtain ⟨r, hr, hr0⟩ : ∃ r : Int, cmpNat x.natAbs y.natAbs = r ∧ 0 ≤ r := ⟨_, rfl, by unfold cmpNat; rw [if_neg (by omega)]; split <;> omega⟩
    rw [hr]
    have HLE := Lib.hid hle
    clear hr hle
    go_wp2_with fail
    refine (subWords_calls va vb n1 n2 f1 f2 _ la HW1.out HW2.out (by rw [HV.out, HV2.out]; exact HLE.out)).mono ?_
    rintro e w3 ⟨vc, n3, f3, hn, rfl, hw, hv⟩
    have hs3 := add_more (k := vf W64 f3 n3) HSG.out HLE.out (by rw [hv, HV.out, HV2.out])
    have ho := HO2.out.new hn
    have hN := HN2.out.trans hn
    have HW3 := Lib.hid hw
    have HS3 := Lib.hid hs3
    have HO3 := Lib.hid ho
    have HN3 := Lib.hid hN
    clear hn hw hv ho hN hs3 HO2 HN2
    go_wp2_with fail
    refine (made_calls _ vc n3 f3 _ HW3.out).mono ?_
    rintro e w4 ⟨v', rfl, hn, hi⟩
    rw [HS3.out] at hi
    have ho2 := HO3.out.new hn
    have hN2 := HN3.out.trans hn
    clear hn
    obtain ⟨c0, c1, c2, c3⟩ := ho2.cells
    obtain ⟨s', a', l', c', rfl⟩ := hi.shape
    have ho3 := ho2.set0 (.int .i64 s')
    obtain ⟨d0, d1, -, d3⟩ := ho3.cells
    have D0 := Lib.hid d0
    clear d0
    obtain ⟨-, e1, -, -⟩ := (ho3.set1 (.slice a' l' c')).cells
    have E1 := Lib.hid e1
    clear ho3 e1
    have HP := Lib.hid (stored_post hN2 hi ho2 (by omega))
    clear hi ho2 hN2
    go_wp2_with fail
    refine bodyPost_ret (v := .agg #[.int .i64 s', .slice a' l' c']) (by simp [results, Tryz.results130, go_sem, D0.out, E1.out]) rfl ?_
    exact HP.out
   ·obtain ⟨r, hr, hr0⟩ : ∃ r : Int, cmpNat x.natAbs y.natAbs = r ∧ ¬ 0 ≤ r := ⟨_, rfl, by unfold cmpNat; rw [if_pos (by omega)]; omega⟩
    rw [hr]
    have HLE := Lib.hid hle
    clear hr hle
    go_wp2_with fail
    refine (subWords_calls vb va n2 n1 f2 f1 _ lb HW2.out HW1.out (by rw [HV.out, HV2.out]; have := HLE.out; omega)).mono ?_
    rintro e w3 ⟨vc, n3, f3, hn, rfl, hw, hv⟩
    have hs3 := add_more (k := vf W64 f3 n3) (Ne.symm HSG.out) (by have := HLE.out; omega) (by rw [hv, HV.out, HV2.out])
    rw [Int.add_comm y x] at hs3
    have ho := HO2.out.new hn
    have hN := HN2.out.trans hn
    have HW3 := Lib.hid hw
    have HS3 := Lib.hid hs3
    have HO3 := Lib.hid ho
    have HN3 := Lib.hid hN
    clear hn hw hv ho hN hs3 HO2 HN2
    go_wp2_with fail
    refine (made_calls _ vc n3 f3 _ HW3.out).mono ?_
    rintro e w4 ⟨v', rfl, hn, hi⟩
    rw [HS3.out] at hi
    have ho2 := HO3.out.new hn
    have hN2 := HN3.out.trans hn
    clear hn
    obtain ⟨c0, c1, c2, c3⟩ := ho2.cells
    obtain ⟨s', a', l', c', rfl⟩ := hi.shape
    have ho3 := ho2.set0 (.int .i64 s')
    obtain ⟨d0, d1, -, d3⟩ := ho3.cells
    have D0 := Lib.hid d0
    clear d0
    obtain ⟨-, e1, -, -⟩ := (ho3.set1 (.slice a' l' c')).cells
    have E1 := Lib.hid e1
    clear ho3 e1
    have HP := Lib.hid (stored_post hN2 hi ho2 (by omega))
    clear hi ho2 hN2
    go_wp2_with fail
    refine bodyPost_ret (v := .agg #[.int .i64 s', .slice a' l' c']) (by simp [results, Tryz.results130, go_sem, D0.out, E1.out]) rfl ?_
    exact HP.out
end Go.Proofs.YtlfnibjmkfldgaaGreatDoor
namespace Go.Proofs.YtlfnibjmkfldgaaGreatDoor
open Go.RowKit Big
set_option maxRecDepth 100000 in
theorem sub_calls (va vb : Value) (x y : Int) (w : World) (hx : IsInt w va x) (hy : IsInt w vb y) (bx : Bd x) (by' : Bd y) : Calls Tryz.prog 141 #[va, vb] w (IntPost w (x - y)) := by
  have HX := Lib.hid hx
  have HY := Lib.hid hy
  have BX := Lib.hid bx
  have BY := Lib.hid by'
  clear bx by'
  obtain ⟨sa, aa, la, ca, rfl⟩ := hx.shape
  obtain ⟨sb, ab, lb, cb, rfl⟩ := hy.shape
  clear hx hy
  go_enter Tryz.func141, Tryz.ntmps141
  go_wp2_with fail
  have HN0 := Lib.hid fun o o' o'' => ((((New.refl w).alloc o).alloc o').alloc o'').drew
  go_region_with (first
    | (go_at_call 140
       refine (neg_calls _ y _ (HY.out.new (HN0.out _ _ _))).mono ?_
       rintro e w1 ⟨v1, rfl, hn, hi⟩
       have ho := (Own2.alloc _ _ 138 (.int .i64 0) (.slice none 0 0) (size_alloc2 w _ _)).new ((New.refl _).drew.trans hn)
       have hoa := (((Own2.alloc w _ 138 (.int .i64 sa) (.slice aa la ca) rfl).new ((New.refl _).alloc _)).new ((New.refl _).alloc _).drew).new hn
       obtain ⟨i0, i1, -, -⟩ := hoa.cells
       have hN := (HN0.out _ _ _).trans hn
       have HI := Lib.hid hi
       have HO := Lib.hid ho
       have HN := Lib.hid hN
       clear hn hi ho hoa hN HN0)
    | (go_at_call 130
       refine (add_calls _ v1 x (-y) w1 (HX.out.new HN.out) HI.out BX.out BY.out.neg).mono ?_
       rintro e w2 ⟨v', rfl, hn, hi⟩
       have ho2 := HO.out.new hn
       have hN2 := HN.out.trans hn
       clear hn HO HN HI i0 i1
       obtain ⟨c0, c1, c2, c3⟩ := ho2.cells
       obtain ⟨s', a', l', c', rfl⟩ := hi.shape
       have ho3 := ho2.set0 (.int .i64 s')
       obtain ⟨d0, d1, -, d3⟩ := ho3.cells
       have D0 := Lib.hid d0
       clear d0
       obtain ⟨-, e1, -, -⟩ := (ho3.set1 (.slice a' l' c')).cells
       have E1 := Lib.hid e1
       clear ho3 e1
       have HP := Lib.hid (stored_post hN2 hi ho2 (by omega))
       clear hi ho2 hN2))
  all_goals go_wp2_with fail
  all_goals
    refine bodyPost_ret (v := .agg #[.int .i64 s', .slice a' l' c']) (by simp [results, Tryz.results141, go_sem, D0.out, E1.out]) rfl ?_
    rw [Int.sub_eq_add_neg]
    exact HP.out
end Go.Proofs.YtlfnibjmkfldgaaGreatDoor
namespace Go.Proofs.YtlfnibjmkfldgaaGreatDoor
open Go.RowKit Big
theorem cmp_small_lt {x y : Int} (h : x < y) : (-1 : Int) = (x - y).sign := (Int.sign_eq_neg_one_of_neg (by omega)).symm
theorem cmp_small_gt {x y : Int} (h : y < x) : (1 : Int) = (x - y).sign := (Int.sign_eq_one_of_pos (by omega)).symm
theorem cmp_small_eq {x y : Int} (h1 : ¬ x < y) (h2 : ¬ y < x) : (0 : Int) = (x - y).sign := by
 have : x - y = 0 := by omega
 rw [this]; rfl
def SignPost (w : World) (z : Int) (e : Ending) (w' : World) : Prop := e = .returned (.int .i64 z.sign) ∧ New w w'
set_option maxRecDepth 100000 in
theorem cmp_calls (va vb : Value) (x y : Int) (w : World) (hx : IsInt w va x) (hy : IsInt w vb y) (bx : Bd x) (by' : Bd y) : Calls Tryz.prog 115 #[va, vb] w (SignPost w (x - y)) := by
 have q1 := eql_nil
 have HX := Lib.hid hx
 have HY := Lib.hid hy
 have BX := Lib.hid bx
 have BY := Lib.hid by'
 clear bx by'
 rcases hx with ⟨rfl, lo, hi⟩ | ⟨b, off, n, cap, f, s, rfl, hs, hw, h0, hv, hz⟩
 ·rcases hy with ⟨rfl, lo', hi'⟩ | ⟨b', off', n', cap', f', s', rfl, hs', hw', h0', hv', hz'⟩
  ·clear lo hi lo' hi' HX HY
   rcases Int.lt_trichotomy x y with h | h | h
   ·have HS := Lib.hid (cmp_small_lt h)
    go_enter Tryz.func115, Tryz.ntmps115
    go_wp2_with fail
    go_ret
    exact ⟨by rw [← HS.out]; rfl, ((New.refl w).alloc _).alloc _⟩
   ·have HS := Lib.hid (cmp_small_eq (x := x) (y := y) (by omega) (by omega))
    have h1 : ¬ x < y := by omega
    have h2 : ¬ y < x := by omega
    clear h
    go_enter Tryz.func115, Tryz.ntmps115
    go_wp2_with fail
    go_ret
    exact ⟨by rw [← HS.out]; rfl, ((New.refl w).alloc _).alloc _⟩
   ·have HS := Lib.hid (cmp_small_gt h)
    have h1 : ¬ x < y := by omega
    go_enter Tryz.func115, Tryz.ntmps115
    go_wp2_with fail
    go_ret
    exact ⟨by rw [← HS.out]; rfl, ((New.refl w).alloc _).alloc _⟩
  ·clear lo hi hs' hw' h0' hv' hz'
   go_enter Tryz.func115, Tryz.ntmps115
   go_wp2_with fail
   have HN0 := Lib.hid fun o o' => ((New.refl w).alloc o).alloc o'
   refine (sub_calls _ _ x y _ (HX.out.new (HN0.out _ _)) (HY.out.new (HN0.out _ _)) BX.out BY.out).mono ?_
   rintro e w1 ⟨v1, rfl, hn, hi⟩
   have HN := Lib.hid ((HN0.out _ _).trans hn)
   have HI := Lib.hid hi
   clear hn hi HN0
   go_wp2_with fail
   refine (sign_calls _ _ _ HI.out).mono ?_
   rintro e w2 ⟨rfl, hn⟩
   go_wp2_with fail
   go_ret
   exact ⟨rfl, HN.out.trans hn⟩
 ·clear hs hw h0 hv hz hy
  obtain ⟨s', a', l', c', rfl⟩ := HY.out.shape
  go_enter Tryz.func115, Tryz.ntmps115
  go_wp2_with fail
  have HN0 := Lib.hid fun o o' => ((New.refl w).alloc o).alloc o'
  refine (sub_calls _ _ x y _ (HX.out.new (HN0.out _ _)) (HY.out.new (HN0.out _ _)) BX.out BY.out).mono ?_
  rintro e w1 ⟨v1, rfl, hn, hi⟩
  have HN := Lib.hid ((HN0.out _ _).trans hn)
  have HI := Lib.hid hi
  clear hn hi HN0
  go_wp2_with fail
  refine (sign_calls _ _ _ HI.out).mono ?_
  rintro e w2 ⟨rfl, hn⟩
  go_wp2_with fail
  go_ret
  exact ⟨rfl, HN.out.trans hn⟩
end Go.Proofs.YtlfnibjmkfldgaaGreatDoor
namespace Go.Proofs.YtlfnibjmkfldgaaGreatDoor
open Go.RowKit Big
theorem mul_signed {x y : Int} {k : Nat} (hk : k = x.natAbs * y.natAbs) : signed (decide (x < 0) != decide (y < 0)) k = x * y := by
 subst hk
 unfold signed
 rcases Int.lt_or_le x 0 with hx | hx <;> rcases Int.lt_or_le y 0 with hy | hy
 ·have e1 : (x.natAbs : Int) = -x := by omega
  have e2 : (y.natAbs : Int) = -y := by omega
  simp only [hx, hy, Int.natCast_mul, e1, e2]
  simp [Int.neg_mul, Int.mul_neg]
 ·have e1 : (x.natAbs : Int) = -x := by omega
  have e2 : (y.natAbs : Int) = y := by omega
  have hy' : ¬ y < 0 := by omega
  simp only [hx, hy', Int.natCast_mul, e1, e2]
  simp [Int.neg_mul]
 ·have e1 : (x.natAbs : Int) = x := by omega
  have e2 : (y.natAbs : Int) = -y := by omega
  have hx' : ¬ x < 0 := by omega
  simp only [hx', hy, Int.natCast_mul, e1, e2]
  simp [Int.mul_neg]
 ·have e1 : (x.natAbs : Int) = x := by omega
  have e2 : (y.natAbs : Int) = y := by omega
  have hy' : ¬ y < 0 := by omega
  have hx' : ¬ x < 0 := by omega
  simp only [hx', hy', Int.natCast_mul, e1, e2]
  simp
theorem new3 {w : World} {o o' o'' : Obj} : New w (((w.alloc o).alloc o').alloc o'') := (((New.refl w).alloc o).alloc o').alloc o''
theorem new3d {w : World} {o o' o'' : Obj} {n : Nat} : New w ((((w.alloc o).alloc o').alloc o'').drewN n) := new3.drewN n
theorem sel0 {a b : World} (h : New a b) : New a b := h
theorem sel1 {a b : World} {n : Nat} (h : New (a.drewN n) b) : New a b := ((New.refl a).drewN n).trans h
set_option maxRecDepth 100000 in
theorem mul_calls (va vb : Value) (x y : Int) (w : World) (hx : IsInt w va x) (hy : IsInt w vb y) (bx : Bd x) (by' : Bd y) : Calls Tryz.prog 125 #[va, vb] w (IntPost w (x * y)) := by
 have q1 := eql_nil
 have HX := Lib.hid hx
 have HY := Lib.hid hy
 have BX := Lib.hid bx
 have BY := Lib.hid by'
 clear bx by'
 rcases hx with ⟨rfl, lo, hi⟩ | ⟨b, off, n, cap, f, s, rfl, hs, hw, h0, hv, hz⟩
 ·rcases hy with ⟨rfl, lo', hi'⟩ | ⟨b', off', n', cap', f', s', rfl, hs', hw', h0', hv', hz'⟩
  ·obtain ⟨hh, ll, hlo, hhi, hml, hmul⟩ := mul64_ex x.natAbs y.natAbs (by unfold W64; omega) (by unfold W64; omega)
   have s1 := fun w => (size_calls x w lo hi).mono fun e w' ⟨h1, h2⟩ => (⟨h1, h2.symm⟩ : e = _ ∧ w' = w)
   have s2 := fun w => (size_calls y w lo' hi').mono fun e w' ⟨h1, h2⟩ => (⟨h1, h2.symm⟩ : e = _ ∧ w' = w)
   have hmul := fun w => (hmul w).mono fun e w' ⟨h1, h2⟩ => (⟨h1, h2.symm⟩ : e = _ ∧ w' = w)
   have S1 := Lib.hid s1
   have S2 := Lib.hid s2
   have HM := Lib.hid hml
   have HMC := Lib.hid hmul
   clear s1 s2 hml hmul lo hi lo' hi'
   go_enter Tryz.func125, Tryz.ntmps125
   go_wp2_with fail
   go_quiet ((first
    | (go_at_call_of 146 (Value.int .i64 x); exact Calls.quiet_of_same (S1.out _))
    | (go_at_call_of 146 (Value.int .i64 y); exact Calls.quiet_of_same (S2.out _))
    | (go_at_call 145; exact Calls.quiet_of_same (HMC.out _))))
   by_cases hs : hh = 0 ∧ ll ≤ 9223372036854775807
   ·obtain ⟨rfl, hl⟩ := hs
    have hl' : (ll : Int) ≤ 9223372036854775807 := by omega
    have hk : ll = x.natAbs * y.natAbs := by have := HM.out; omega
    have hsg : signed (!(decide (x < 0) == decide (y < 0))) ll = x * y := mul_signed hk
    have HP := Lib.hid fun w' (hn : New w w') (s : Int) (hs : s = signed (!(decide (x < 0) == decide (y < 0))) ll) => made_small hn (s := s) (by rw [hs]; unfold signed; split <;> omega) (by rw [hs]; unfold signed; split <;> omega) (x * y) (by rw [hs, hsg])
    clear hl hk hsg
    by_cases hd : decide (x < 0) = decide (y < 0)
    ·have hd1 : (decide (x < 0) == decide (y < 0)) = true := by rw [hd]; simp
     have hc : IntKind.i64.wrap (ll : Int) = (ll : Int) := by rw [IntKind.wrap_i64]; omega
     clear hd
     go_wp2_with fail
     have ho := (Own2.alloc ((w.alloc (.cells #[.int .i64 x, .slice none 0 0] 138)).alloc (.cells #[.int .i64 y, .slice none 0 0] 138)) _ 138 (.int .i64 0) (.slice none 0 0) (size_alloc2 w _ _)).new ((New.refl _).drewN nq)
     have d0 := (ho.set0 (.int .i64 ll)).cells.1
     have e1 := ((ho.set0 (.int .i64 ll)).set1 (.slice none 0 0)).cells.2.1
     refine bodyPost_ret (v := .agg #[.int .i64 ll, .slice none 0 0]) (by simp [results, Tryz.results125, go_sem, d0, e1]) rfl ?_
     exact HP.out _ ((new3d.setCell (by simp; omega) _).setCell (by simp; omega) _) _ (by rw [hd1]; rfl)
    ·have hd1 : (decide (x < 0) == decide (y < 0)) = false := by simpa using hd
     have hc : IntKind.i64.wrap (ll : Int) = (ll : Int) := by rw [IntKind.wrap_i64]; omega
     clear hd
     go_wp2_with fail
     have ho := (Own2.alloc ((w.alloc (.cells #[.int .i64 x, .slice none 0 0] 138)).alloc (.cells #[.int .i64 y, .slice none 0 0] 138)) _ 138 (.int .i64 0) (.slice none 0 0) (size_alloc2 w _ _)).new ((New.refl _).drewN nq)
     have d0 := (ho.set0 (.int .i64 (-(ll : Int)))).cells.1
     have e1 := ((ho.set0 (.int .i64 (-(ll : Int)))).set1 (.slice none 0 0)).cells.2.1
     refine bodyPost_ret (v := .agg #[.int .i64 (-(ll : Int)), .slice none 0 0]) (by simp [results, Tryz.results125, go_sem, d0, e1]) rfl ?_
     exact HP.out _ ((new3d.setCell (by simp; omega) _).setCell (by simp; omega) _) _ (by rw [hd1]; rfl)
   ·clear HM
    by_cases h0 : hh = 0
    ·have hl' : ¬ (ll : Int) ≤ 9223372036854775807 := by omega
     subst h0
     clear hs
     go_wp2_with fail
     refine (parts_calls _ x _ (HX.out.new new3d)).mono ?_
     rintro e w1 ⟨va, n1, f1, rfl, hn, hw, hv⟩
     have hn := sel1 hn
     have ho := (Own2.alloc _ _ 138 (.int .i64 0) (.slice none 0 0) (size_alloc2 w _ _)).new hn
     have hN := new3.trans hn
     have hob := ((Own2.alloc _ _ 138 _ _ (size_alloc w _)).new ((New.refl _).alloc _)).new hn
     obtain ⟨i0, i1, -, -⟩ := hob.cells
     have HO := Lib.hid ho
     have HW := Lib.hid hw
     have HV := Lib.hid hv
     have HN := Lib.hid hN
     clear hn hw hv ho hN hob
     go_wp2_with fail
     clear i0 i1
     refine (parts_calls _ y _ (HY.out.new HN.out)).mono ?_
     rintro e w2 ⟨vb, n2, f2, rfl, hn, hw, hv⟩
     have hw1 := HW.out.new hn
     have la := hw1.le BX.out HV.out
     have lb := hw.le BY.out hv
     have ho := HO.out.new hn
     have hN := HN.out.trans hn
     have HW1 := Lib.hid hw1
     have HW2 := Lib.hid hw
     have HV2 := Lib.hid hv
     have HO2 := Lib.hid ho
     have HN2 := Lib.hid hN
     clear hn hw hv ho hN hw1 HO HW HN
     go_wp2_with fail
     refine (mulWords_calls va vb n1 n2 f1 f2 _ la lb HW1.out HW2.out).mono ?_
     rintro e w3 ⟨vc, n3, f3, hn, rfl, hw, hv⟩
     have hs3 : signed (!(decide (x < 0) == decide (y < 0))) (vf W64 f3 n3) = x * y := mul_signed (by rw [hv, HV.out, HV2.out])
     have ho := HO2.out.new hn
     have hN := HN2.out.trans hn
     have HW3 := Lib.hid hw
     have HS3 := Lib.hid hs3
     have HO3 := Lib.hid ho
     have HN3 := Lib.hid hN
     clear hn hw hv ho hN hs3 HO2 HN2
     go_wp2_with fail
     refine (made_calls _ vc n3 f3 _ HW3.out).mono ?_
     rintro e w4 ⟨v', rfl, hn, hi⟩
     rw [HS3.out] at hi
     have ho2 := HO3.out.new hn
     have hN2 := HN3.out.trans hn
     clear hn
     obtain ⟨c0, c1, c2, c3⟩ := ho2.cells
     obtain ⟨s', a', l', c', rfl⟩ := hi.shape
     have ho3 := ho2.set0 (.int .i64 s')
     obtain ⟨d0, d1, -, d3⟩ := ho3.cells
     have D0 := Lib.hid d0
     clear d0
     obtain ⟨-, e1, -, -⟩ := (ho3.set1 (.slice a' l' c')).cells
     have E1 := Lib.hid e1
     clear ho3 e1
     have HP := Lib.hid (stored_post hN2 hi ho2 (by omega))
     clear hi ho2 hN2
     go_wp2_with fail
     refine bodyPost_ret (v := .agg #[.int .i64 s', .slice a' l' c']) (by simp [results, Tryz.results125, go_sem, D0.out, E1.out]) rfl ?_
     exact HP.out
    ·have h0' : ((hh : Int) == 0) = false := by simp; omega
     clear hs h0
     go_wp2_with fail
     refine (parts_calls _ x _ (HX.out.new new3d)).mono ?_
     rintro e w1 ⟨va, n1, f1, rfl, hn, hw, hv⟩
     have hn := sel1 hn
     have ho := (Own2.alloc _ _ 138 (.int .i64 0) (.slice none 0 0) (size_alloc2 w _ _)).new hn
     have hN := new3.trans hn
     have hob := ((Own2.alloc _ _ 138 _ _ (size_alloc w _)).new ((New.refl _).alloc _)).new hn
     obtain ⟨i0, i1, -, -⟩ := hob.cells
     have HO := Lib.hid ho
     have HW := Lib.hid hw
     have HV := Lib.hid hv
     have HN := Lib.hid hN
     clear hn hw hv ho hN hob
     go_wp2_with fail
     clear i0 i1
     refine (parts_calls _ y _ (HY.out.new HN.out)).mono ?_
     rintro e w2 ⟨vb, n2, f2, rfl, hn, hw, hv⟩
     have hw1 := HW.out.new hn
     have la := hw1.le BX.out HV.out
     have lb := hw.le BY.out hv
     have ho := HO.out.new hn
     have hN := HN.out.trans hn
     have HW1 := Lib.hid hw1
     have HW2 := Lib.hid hw
     have HV2 := Lib.hid hv
     have HO2 := Lib.hid ho
     have HN2 := Lib.hid hN
     clear hn hw hv ho hN hw1 HO HW HN
     go_wp2_with fail
     refine (mulWords_calls va vb n1 n2 f1 f2 _ la lb HW1.out HW2.out).mono ?_
     rintro e w3 ⟨vc, n3, f3, hn, rfl, hw, hv⟩
     have hs3 : signed (!(decide (x < 0) == decide (y < 0))) (vf W64 f3 n3) = x * y := mul_signed (by rw [hv, HV.out, HV2.out])
     have ho := HO2.out.new hn
     have hN := HN2.out.trans hn
     have HW3 := Lib.hid hw
     have HS3 := Lib.hid hs3
     have HO3 := Lib.hid ho
     have HN3 := Lib.hid hN
     clear hn hw hv ho hN hs3 HO2 HN2
     go_wp2_with fail
     refine (made_calls _ vc n3 f3 _ HW3.out).mono ?_
     rintro e w4 ⟨v', rfl, hn, hi⟩
     rw [HS3.out] at hi
     have ho2 := HO3.out.new hn
     have hN2 := HN3.out.trans hn
     clear hn
     obtain ⟨c0, c1, c2, c3⟩ := ho2.cells
     obtain ⟨s', a', l', c', rfl⟩ := hi.shape
     have ho3 := ho2.set0 (.int .i64 s')
     obtain ⟨d0, d1, -, d3⟩ := ho3.cells
     have D0 := Lib.hid d0
     clear d0
     obtain ⟨-, e1, -, -⟩ := (ho3.set1 (.slice a' l' c')).cells
     have E1 := Lib.hid e1
     clear ho3 e1
     have HP := Lib.hid (stored_post hN2 hi ho2 (by omega))
     clear hi ho2 hN2
     go_wp2_with fail
     refine bodyPost_ret (v := .agg #[.int .i64 s', .slice a' l' c']) (by simp [results, Tryz.results125, go_sem, D0.out, E1.out]) rfl ?_
     exact HP.out
  ·clear lo hi hs' hw' h0' hv' hz'
   go_enter Tryz.func125, Tryz.ntmps125
   go_wp2_with fail
   refine (parts_calls _ x _ (HX.out.new new3)).mono ?_
   rintro e w1 ⟨va, n1, f1, rfl, hn, hw, hv⟩
   have hn := sel0 hn
   have ho := (Own2.alloc _ _ 138 (.int .i64 0) (.slice none 0 0) (size_alloc2 w _ _)).new hn
   have hN := new3.trans hn
   have hob := ((Own2.alloc _ _ 138 _ _ (size_alloc w _)).new ((New.refl _).alloc _)).new hn
   obtain ⟨i0, i1, -, -⟩ := hob.cells
   have HO := Lib.hid ho
   have HW := Lib.hid hw
   have HV := Lib.hid hv
   have HN := Lib.hid hN
   clear hn hw hv ho hN hob
   go_wp2_with fail
   clear i0 i1
   refine (parts_calls _ y _ (HY.out.new HN.out)).mono ?_
   rintro e w2 ⟨vb, n2, f2, rfl, hn, hw, hv⟩
   have hw1 := HW.out.new hn
   have la := hw1.le BX.out HV.out
   have lb := hw.le BY.out hv
   have ho := HO.out.new hn
   have hN := HN.out.trans hn
   have HW1 := Lib.hid hw1
   have HW2 := Lib.hid hw
   have HV2 := Lib.hid hv
   have HO2 := Lib.hid ho
   have HN2 := Lib.hid hN
   clear hn hw hv ho hN hw1 HO HW HN
   go_wp2_with fail
   refine (mulWords_calls va vb n1 n2 f1 f2 _ la lb HW1.out HW2.out).mono ?_
   rintro e w3 ⟨vc, n3, f3, hn, rfl, hw, hv⟩
   have hs3 : signed (!(decide (x < 0) == decide (y < 0))) (vf W64 f3 n3) = x * y := mul_signed (by rw [hv, HV.out, HV2.out])
   have ho := HO2.out.new hn
   have hN := HN2.out.trans hn
   have HW3 := Lib.hid hw
   have HS3 := Lib.hid hs3
   have HO3 := Lib.hid ho
   have HN3 := Lib.hid hN
   clear hn hw hv ho hN hs3 HO2 HN2
   go_wp2_with fail
   refine (made_calls _ vc n3 f3 _ HW3.out).mono ?_
   rintro e w4 ⟨v', rfl, hn, hi⟩
   rw [HS3.out] at hi
   have ho2 := HO3.out.new hn
   have hN2 := HN3.out.trans hn
   clear hn
   obtain ⟨c0, c1, c2, c3⟩ := ho2.cells
   obtain ⟨s', a', l', c', rfl⟩ := hi.shape
   have ho3 := ho2.set0 (.int .i64 s')
   obtain ⟨d0, d1, -, d3⟩ := ho3.cells
   have D0 := Lib.hid d0
   clear d0
   obtain ⟨-, e1, -, -⟩ := (ho3.set1 (.slice a' l' c')).cells
   have E1 := Lib.hid e1
   clear ho3 e1
   have HP := Lib.hid (stored_post hN2 hi ho2 (by omega))
   clear hi ho2 hN2
   go_wp2_with fail
   refine bodyPost_ret (v := .agg #[.int .i64 s', .slice a' l' c']) (by simp [results, Tryz.results125, go_sem, D0.out, E1.out]) rfl ?_
   exact HP.out
 ·clear hs hw h0 hv hz hy
  obtain ⟨s', a', l', c', rfl⟩ := HY.out.shape
  go_enter Tryz.func125, Tryz.ntmps125
  go_wp2_with fail
  refine (parts_calls _ x _ (HX.out.new new3)).mono ?_
  rintro e w1 ⟨va, n1, f1, rfl, hn, hw, hv⟩
  have hn := sel0 hn
  have ho := (Own2.alloc _ _ 138 (.int .i64 0) (.slice none 0 0) (size_alloc2 w _ _)).new hn
  have hN := new3.trans hn
  have hob := ((Own2.alloc _ _ 138 _ _ (size_alloc w _)).new ((New.refl _).alloc _)).new hn
  obtain ⟨i0, i1, -, -⟩ := hob.cells
  have HO := Lib.hid ho
  have HW := Lib.hid hw
  have HV := Lib.hid hv
  have HN := Lib.hid hN
  clear hn hw hv ho hN hob
  go_wp2_with fail
  clear i0 i1
  refine (parts_calls _ y _ (HY.out.new HN.out)).mono ?_
  rintro e w2 ⟨vb, n2, f2, rfl, hn, hw, hv⟩
  have hw1 := HW.out.new hn
  have la := hw1.le BX.out HV.out
  have lb := hw.le BY.out hv
  have ho := HO.out.new hn
  have hN := HN.out.trans hn
  have HW1 := Lib.hid hw1
  have HW2 := Lib.hid hw
  have HV2 := Lib.hid hv
  have HO2 := Lib.hid ho
  have HN2 := Lib.hid hN
  clear hn hw hv ho hN hw1 HO HW HN
  go_wp2_with fail
  refine (mulWords_calls va vb n1 n2 f1 f2 _ la lb HW1.out HW2.out).mono ?_
  rintro e w3 ⟨vc, n3, f3, hn, rfl, hw, hv⟩
  have hs3 : signed (!(decide (x < 0) == decide (y < 0))) (vf W64 f3 n3) = x * y := mul_signed (by rw [hv, HV.out, HV2.out])
  have ho := HO2.out.new hn
  have hN := HN2.out.trans hn
  have HW3 := Lib.hid hw
  have HS3 := Lib.hid hs3
  have HO3 := Lib.hid ho
  have HN3 := Lib.hid hN
  clear hn hw hv ho hN hs3 HO2 HN2
  go_wp2_with fail
  refine (made_calls _ vc n3 f3 _ HW3.out).mono ?_
  rintro e w4 ⟨v', rfl, hn, hi⟩
  rw [HS3.out] at hi
  have ho2 := HO3.out.new hn
  have hN2 := HN3.out.trans hn
  clear hn
  obtain ⟨c0, c1, c2, c3⟩ := ho2.cells
  obtain ⟨s', a', l', c', rfl⟩ := hi.shape
  have ho3 := ho2.set0 (.int .i64 s')
  obtain ⟨d0, d1, -, d3⟩ := ho3.cells
  have D0 := Lib.hid d0
  clear d0
  obtain ⟨-, e1, -, -⟩ := (ho3.set1 (.slice a' l' c')).cells
  have E1 := Lib.hid e1
  clear ho3 e1
  have HP := Lib.hid (stored_post hN2 hi ho2 (by omega))
  clear hi ho2 hN2
  go_wp2_with fail
  refine bodyPost_ret (v := .agg #[.int .i64 s', .slice a' l' c']) (by simp [results, Tryz.results125, go_sem, D0.out, E1.out]) rfl ?_
  exact HP.out
end Go.Proofs.YtlfnibjmkfldgaaGreatDoor
