/- Part A18. -/
import Derived.Test.YtlfnibjmkfldgaaGreatDoorA17
namespace Go.Proofs.YtlfnibjmkfldgaaGreatDoor
open Go.RowKit Big
def rawQ (s z : Int) (q : Rat) : Int := (q / stepQ s + (z : Rat) + ((2 : Int) : Rat)⁻¹).floor
def clipC (n tp : Int) : Int × Int := if n < 0 then (0, -1) else if tp < n then (tp, 1) else (n, 0)
def CodePost (w : World) (n tp : Int) (e : Ending) (w' : World) : Prop := e = .returned (.tuple #[.int .i64 (clipC n tp).1, .int .i64 (clipC n tp).2]) ∧ New w w'
theorem Sm.of {z : Int} (lo : 0 ≤ z) (hi : z ≤ 5000) : Sm z := ⟨by omega, by omega⟩
set_option maxRecDepth 100000 in
set_option maxHeartbeats 4000000 in
theorem code_calls {b s z : Int} {g o : ByteArray} {qg qo : Rat} (h : AdcOk b s z g o qg qo) (vv : Value) (q : Rat) (w : World) (hq : IsFrac w vv q) (bq : FB 6000 q) :
  Calls Tryz.prog 84 #[.agg #[.int .i64 b, .int .i64 s, .int .i64 z, .string g, .string o], vv] w (CodePost w (rawQ s z q) (2 ^ b.toNat - 1)) := by
 have hlo := h.blo
 have hhi := h.bhi
 have hz1 := h.zlo
 have hz2 := h.zhi
 obtain ⟨tp, htp⟩ : ∃ tp : Int, 2 ^ b.toNat - 1 = tp := ⟨_, rfl⟩
 have htp1 := top_bd hlo hhi
 rw [htp] at htp1 hz2 ⊢
 have hst := fun W => step_calls b s z g o W h.slo h.shi
 have hfb := stepQ_fb21 h.slo h.shi
 have hne := stepQ_ne h.slo h.shi
 obtain ⟨t, ht⟩ : ∃ t, stepQ s = t := ⟨_, rfl⟩
 obtain ⟨n, hn0⟩ : ∃ n, rawQ s z q = n := ⟨_, rfl⟩
 have hn1 := hn0
 unfold rawQ at hn1
 rw [ht] at hfb hne hn1
 simp only [ht] at hst
 rw [hn0]
 obtain ⟨hf2, hhf⟩ : ∃ x : Rat, ((2 : Int) : Rat)⁻¹ = x := ⟨_, rfl⟩
 have bh : FB 2 hf2 := by rw [← hhf]; exact two_fb.inv two_ne
 have bz : FB 13 (z : Rat) := FB.int (by unfold BdK; exact Nat.lt_of_le_of_lt (show z.natAbs ≤ 4095 by omega) (by decide)) (by omega)
 obtain ⟨x1, hx1⟩ : ∃ x1, q / t = x1 := ⟨_, rfl⟩
 obtain ⟨x2, hx2⟩ : ∃ x2, x1 + (z : Rat) = x2 := ⟨_, rfl⟩
 obtain ⟨x3, hx3⟩ : ∃ x3, x2 + hf2 = x3 := ⟨_, rfl⟩
 have bx1 : FB 6021 x1 := by rw [← hx1]; exact bq.div hfb hne
 have bx2 : FB 6035 x2 := by rw [← hx2]; exact bx1.add bz
 have bx3 : FB 6038 x3 := by rw [← hx3]; exact bx2.add bh
 rw [hhf, hx1, hx2, hx3] at hn1
 have hnb : FB 6040 (n : Rat) := by
  rw [← hn1]
  refine FB.int ?_ (by omega)
  rw [Rat.floor_def]
  exact (BdK.mono (show BdK 6038 (x3.num / (x3.den : Int)) from Nat.lt_of_le_of_lt (Int.natAbs_ediv_le_natAbs _ _) bx3.num) (by omega))
 obtain ⟨sq, aq, lq, kq, tq, bq', mq, nq, rfl⟩ := hq.shape
 obtain ⟨pr, hpr⟩ : ∃ pr, clipC n tp = pr := ⟨_, rfl⟩
 unfold CodePost
 rw [hpr]
 clear h hn0
 have HPR := Lib.hid hpr
 have HLO := Lib.hid hlo
 have HHI := Lib.hid hhi
 have HTP := Lib.hid htp
 have HTP1 := Lib.hid htp1
 have HST := Lib.hid hst
 have HFB := Lib.hid hfb
 have HNE := Lib.hid hne
 have HT := Lib.hid ht
 have HN1 := Lib.hid hn1
 have HHF := Lib.hid hhf
 have BDH := Lib.hid bh
 have BZ := Lib.hid bz
 have HX1 := Lib.hid hx1
 have HX2 := Lib.hid hx2
 have HX3 := Lib.hid hx3
 have BX1 := Lib.hid bx1
 have BX2 := Lib.hid bx2
 have BX3 := Lib.hid bx3
 have HQ := Lib.hid hq
 have BQ := Lib.hid bq
 have HZ1 := Lib.hid hz1
 have HZ2 := Lib.hid hz2
 have HNB := Lib.hid hnb
 clear hpr hlo hhi htp htp1 hst hfb hne ht hn1 hhf bh bz hx1 hx2 hx3 bx1 bx2 bx3 hq bq hz1 hz2 hnb
 go_enter Tryz.func84, Tryz.ntmps84
 go_wp2_with fail
 have BA := Lib.hid ((Box.alloc w (w.heap.size) 91 #[.int .i64 b, .int .i64 s, .int .i64 z, .string g, .string o] (by simp)).new ((New.refl _).alloc (.cells #[.int .i64 sq, .slice aq lq kq, .int .i64 tq, .slice bq' mq nq] 140)))
 have BV := Lib.hid ((Box.alloc (w.alloc (.cells #[.int .i64 b, .int .i64 s, .int .i64 z, .string g, .string o] 91)) (w.heap.size + 1) 140 #[.int .i64 sq, .slice aq lq kq, .int .i64 tq, .slice bq' mq nq] (by simp)).new (New.refl _))
 have HN := Lib.hid (((New.refl w).alloc (.cells #[.int .i64 b, .int .i64 s, .int .i64 z, .string g, .string o] 91)).alloc (.cells #[.int .i64 sq, .slice aq lq kq, .int .i64 tq, .slice bq' mq nq] 140))
 refine (f_calls 2 _ (by omega) (by omega)).mono ?_
 rintro e w1 ⟨v1, rfl, hn, hf⟩
 have HF1 := Lib.hid hf
 clear hf
 replace BA := Lib.hid (BA.out.new hn)
 replace BV := Lib.hid (BV.out.new hn)
 replace HN := Lib.hid (HN.out.trans hn)
 clear hn
 go_wp2_with fail
 refine (inv_calls _ _ 2 _ HF1.out two_fb (by omega) two_ne).mono ?_
 rintro e w2 ⟨v2, rfl, hn, hf⟩
 rw [HHF.out] at hf
 obtain ⟨sh, ah, lh, kh, th, bh', mh, nh, rfl⟩ := hf.shape
 clear HF1
 have HF2 := Lib.hid hf
 clear hf
 replace BA := Lib.hid (BA.out.new hn)
 replace BV := Lib.hid (BV.out.new hn)
 replace HN := Lib.hid (HN.out.trans hn)
 clear hn
 go_wp2_with fail
 have HN0 := HN
 clear HN
 have BH := Lib.hid ((Box.alloc w2 (w2.heap.size) 140 #[.int .i64 sh, .slice ah lh kh, .int .i64 th, .slice bh' mh nh] (by simp)).new (New.refl _))
 have HN := Lib.hid ((New.refl w2).alloc (.cells #[.int .i64 sh, .slice ah lh kh, .int .i64 th, .slice bh' mh nh] 140))
 replace BA := Lib.hid (BA.out.new HN.out)
 replace BV := Lib.hid (BV.out.new HN.out)
 replace HF2 := Lib.hid (HF2.out.new HN.out)
 have HN_ := HN0.out.trans HN.out
 clear HN HN0
 have HN := Lib.hid HN_
 clear HN_
 obtain ⟨w3, hw3⟩ : ∃ w3, w2.alloc (.cells #[.int .i64 sh, .slice ah lh kh, .int .i64 th, .slice bh' mh nh] 140) = w3 := ⟨_, rfl⟩
 rw [hw3] at BH BA BV HF2 HN ⊢
 clear hw3
 have HQ3 := Lib.hid (HQ.out.new HN.out)
 go_upto_region 2 with (fail)
 go_cut [7] (fun x wx => ∃ (B : Nat) (s9 : Int) (a9 : Option Addr) (l9 k9 : Nat) (t9 : Int) (b9 : Option Addr) (m9 n9 : Nat), x = .pointer (some ⟨B, 0, none⟩) ∧ New w wx ∧ Box wx w.heap.size 91 #[.int .i64 b, .int .i64 s, .int .i64 z, .string g, .string o] ∧ Box wx B 140 #[.int .i64 s9, .slice a9 l9 k9, .int .i64 t9, .slice b9 m9 n9] ∧ IsFrac wx (.agg #[.int .i64 s9, .slice a9 l9 k9, .int .i64 t9, .slice b9 m9 n9]) (n : Rat))
 case first =>
  obtain ⟨⟨pa0, pa1, pa2, pa3, pa4⟩, pa5⟩ := BA.out.five
  obtain ⟨⟨pv0, pv1, pv2, pv3⟩, pv4, pv5, pv6, pv7, pv8⟩ := BV.out.four
  obtain ⟨⟨ph0, ph1, ph2, ph3⟩, ph4, ph5, ph6, ph7, ph8⟩ := BH.out.four
  refine wp_region_T 13 (fun W => W.cell? ⟨w.heap.size, 0, none⟩ = some (.int .i64 b) ∧ W.cell? ⟨w.heap.size, 1, none⟩ = some (.int .i64 s) ∧ W.cell? ⟨w.heap.size, 2, none⟩ = some (.int .i64 z) ∧ W.cell? ⟨w.heap.size, 3, none⟩ = some (.string g) ∧ W.cell? ⟨w.heap.size, 4, none⟩ = some (.string o) ∧ W.cell? ⟨w.heap.size + 1, 0, none⟩ = some (.int .i64 sq) ∧ W.cell? ⟨w.heap.size + 1, 1, none⟩ = some (.slice aq lq kq) ∧ W.cell? ⟨w.heap.size + 1, 2, none⟩ = some (.int .i64 tq) ∧ W.cell? ⟨w.heap.size + 1, 3, none⟩ = some (.slice bq' mq nq) ∧ W.cell? ⟨w2.heap.size, 0, none⟩ = some (.int .i64 sh) ∧ W.cell? ⟨w2.heap.size, 1, none⟩ = some (.slice ah lh kh) ∧ W.cell? ⟨w2.heap.size, 2, none⟩ = some (.int .i64 th) ∧ W.cell? ⟨w2.heap.size, 3, none⟩ = some (.slice bh' mh nh)) 14 #[false, false, false, false, false, false, false, false, false, false, false, false, false, false] rfl (by kernel_rfl) (by kernel_rfl) ?_
  clear pa0 pa1 pa2 pa3 pa4 pa5
  clear pv0 pv1 pv2 pv3 pv4 pv5 pv6 pv7 pv8 ph0 ph1 ph2 ph3 ph4 ph5 ph6 ph7 ph8
  replace BA := Lib.hid (BA.out.new (New.refl w3).drew)
  replace BV := Lib.hid (BV.out.new (New.refl w3).drew)
  replace BH := Lib.hid (BH.out.new (New.refl w3).drew)
  replace HQ3 := Lib.hid (HQ3.out.new (New.refl w3).drew)
  replace HF2 := Lib.hid (HF2.out.new (New.refl w3).drew)
  replace HN := Lib.hid (HN.out.drew)
  obtain ⟨wdr, hwd⟩ : ∃ x, w3.drew = x := ⟨_, rfl⟩
  rw [hwd] at HN BA BV BH HQ3 HF2 ⊢
  clear hwd
  obtain ⟨⟨pa0, pa1, pa2, pa3, pa4⟩, pa5⟩ := BA.out.five
  obtain ⟨⟨pv0, pv1, pv2, pv3⟩, pv4, pv5, pv6, pv7, pv8⟩ := BV.out.four
  obtain ⟨⟨ph0, ph1, ph2, ph3⟩, ph4, ph5, ph6, ph7, ph8⟩ := BH.out.four
  refine wpT_take 0 (v := ?_) rfl (by kernel_rfl) (fun _ _ _ h => h) (by exact ⟨pa0, pa1, pa2, pa3, pa4, pv0, pv1, pv2, pv3, ph0, ph1, ph2, ph3⟩) (Or.inl ⟨by first | kernel_rfl | rfl, ?_⟩) ?_
  rotate_left
  ·(intro W hW; (try dsimp only at hW); go_simp; try with_reducible rfl)
  try simp only [PT]
  refine wpT_take 1 (v := ?_) rfl (by kernel_rfl) (fun _ _ _ h => h) (by exact ⟨pa0, pa1, pa2, pa3, pa4, pv0, pv1, pv2, pv3, ph0, ph1, ph2, ph3⟩) (Or.inl ⟨by first | kernel_rfl | rfl, ?_⟩) ?_
  rotate_left
  ·(intro W hW; (try dsimp only at hW); go_simp; try with_reducible rfl)
  try simp only [PT]
  refine wpT_take 4 (v := ?_) rfl (by kernel_rfl) (fun _ _ _ h => h) (by exact ⟨pa0, pa1, pa2, pa3, pa4, pv0, pv1, pv2, pv3, ph0, ph1, ph2, ph3⟩) (Or.inl ⟨by first | kernel_rfl | rfl, ?_⟩) ?_
  rotate_left
  ·(intro W hW; (try dsimp only at hW); go_simp; try with_reducible rfl)
  try simp only [PT]
  refine wpT_take 5 (v := ?_) rfl (by kernel_rfl) (fun _ _ _ h => h) (by exact ⟨pa0, pa1, pa2, pa3, pa4, pv0, pv1, pv2, pv3, ph0, ph1, ph2, ph3⟩) (Or.inl ⟨by first | kernel_rfl | rfl, ?_⟩) ?_
  rotate_left
  ·(intro W hW; (try dsimp only at hW); go_simp; try with_reducible rfl)
  try simp only [PT]
  refine wpT_take 8 (v := ?_) rfl (by kernel_rfl) (fun _ _ _ h => h) (by exact ⟨pa0, pa1, pa2, pa3, pa4, pv0, pv1, pv2, pv3, ph0, ph1, ph2, ph3⟩) (Or.inl ⟨by first | kernel_rfl | rfl, ?_⟩) ?_
  rotate_left
  ·(intro W hW; (try dsimp only at hW); go_simp; try with_reducible rfl)
  try simp only [PT]
  refine wpT_two 2 12 rfl rfl (by kernel_rfl) (fun K hK => ?_) (fun K hK => ?_)
  ·skip
   go_simp
   refine (HST.out _).mono ?_
   rintro e w4 ⟨v4, rfl, hn, hf⟩
   have HF4 := Lib.hid hf
   clear hf
   clear pa0 pa1 pa2 pa3 pa4 pa5
   clear pv0 pv1 pv2 pv3 pv4 pv5 pv6 pv7 pv8 ph0 ph1 ph2 ph3 ph4 ph5 ph6 ph7 ph8
   replace BA := Lib.hid (BA.out.new hn)
   replace BV := Lib.hid (BV.out.new hn)
   replace BH := Lib.hid (BH.out.new hn)
   replace HQ3 := Lib.hid (HQ3.out.new hn)
   replace HF2 := Lib.hid (HF2.out.new hn)
   replace HN := Lib.hid (HN.out.trans hn)
   clear hn
   obtain ⟨⟨pa0, pa1, pa2, pa3, pa4⟩, pa5⟩ := BA.out.five
   obtain ⟨⟨pv0, pv1, pv2, pv3⟩, pv4, pv5, pv6, pv7, pv8⟩ := BV.out.four
   obtain ⟨⟨ph0, ph1, ph2, ph3⟩, ph4, ph5, ph6, ph7, ph8⟩ := BH.out.four
   refine hK.out _ _ (fun _ => ?_) ?_
   ·exact ⟨pa0, pa1, pa2, pa3, pa4, pv0, pv1, pv2, pv3, ph0, ph1, ph2, ph3⟩
   clear hK K
   try simp only [PT]
   refine wpT_two 3 12 rfl rfl (by kernel_rfl) (fun K hK => ?_) (fun K hK => ?_)
   ·skip
    go_simp
    refine (fdiv_calls _ _ q t 6000 21 _ HQ3.out HF4.out BQ.out HFB.out (by omega) HNE.out).mono ?_
    rintro e w5 ⟨v5, rfl, hn, hf⟩
    rw [HX1.out] at hf
    clear HF4 HQ3
    have HF5 := Lib.hid hf
    clear hf
    clear pa0 pa1 pa2 pa3 pa4 pa5
    clear pv0 pv1 pv2 pv3 pv4 pv5 pv6 pv7 pv8 ph0 ph1 ph2 ph3 ph4 ph5 ph6 ph7 ph8
    replace BA := Lib.hid (BA.out.new hn)
    replace BV := Lib.hid (BV.out.new hn)
    replace BH := Lib.hid (BH.out.new hn)
    replace HF2 := Lib.hid (HF2.out.new hn)
    replace HN := Lib.hid (HN.out.trans hn)
    clear hn
    obtain ⟨⟨pa0, pa1, pa2, pa3, pa4⟩, pa5⟩ := BA.out.five
    obtain ⟨⟨pv0, pv1, pv2, pv3⟩, pv4, pv5, pv6, pv7, pv8⟩ := BV.out.four
    obtain ⟨⟨ph0, ph1, ph2, ph3⟩, ph4, ph5, ph6, ph7, ph8⟩ := BH.out.four
    refine hK.out _ _ (fun _ => ?_) ?_
    ·exact ⟨pa0, pa1, pa2, pa3, pa4, pv0, pv1, pv2, pv3, ph0, ph1, ph2, ph3⟩
    clear hK K
    try simp only [PT]
    refine wpT_two 6 12 rfl rfl (by kernel_rfl) (fun K hK => ?_) (fun K hK => ?_)
    ·skip
     go_simp
     refine (f_calls z _ (by have := HZ1.out; omega) (by have := HZ2.out; have := HTP1.out.2; omega)).mono ?_
     rintro e w6 ⟨v6, rfl, hn, hf⟩
     have HF6 := Lib.hid hf
     clear hf
     clear pa0 pa1 pa2 pa3 pa4 pa5
     clear pv0 pv1 pv2 pv3 pv4 pv5 pv6 pv7 pv8 ph0 ph1 ph2 ph3 ph4 ph5 ph6 ph7 ph8
     replace BA := Lib.hid (BA.out.new hn)
     replace BV := Lib.hid (BV.out.new hn)
     replace BH := Lib.hid (BH.out.new hn)
     replace HF2 := Lib.hid (HF2.out.new hn)
     replace HF5 := Lib.hid (HF5.out.new hn)
     replace HN := Lib.hid (HN.out.trans hn)
     clear hn
     obtain ⟨⟨pa0, pa1, pa2, pa3, pa4⟩, pa5⟩ := BA.out.five
     obtain ⟨⟨pv0, pv1, pv2, pv3⟩, pv4, pv5, pv6, pv7, pv8⟩ := BV.out.four
     obtain ⟨⟨ph0, ph1, ph2, ph3⟩, ph4, ph5, ph6, ph7, ph8⟩ := BH.out.four
     refine hK.out _ _ (fun _ => ?_) ?_
     ·exact ⟨pa0, pa1, pa2, pa3, pa4, pv0, pv1, pv2, pv3, ph0, ph1, ph2, ph3⟩
     clear hK K
     try simp only [PT]
     refine wpT_two 7 12 rfl rfl (by kernel_rfl) (fun K hK => ?_) (fun K hK => ?_)
     ·skip
      go_simp
      refine (fadd_calls _ _ x1 (z : Rat) 6021 13 _ HF5.out HF6.out BX1.out BZ.out (by omega)).mono ?_
      rintro e w7 ⟨v7, rfl, hn, hf⟩
      rw [HX2.out] at hf
      clear HF5 HF6
      have HF7 := Lib.hid hf
      clear hf
      clear pa0 pa1 pa2 pa3 pa4 pa5
      clear pv0 pv1 pv2 pv3 pv4 pv5 pv6 pv7 pv8 ph0 ph1 ph2 ph3 ph4 ph5 ph6 ph7 ph8
      replace BA := Lib.hid (BA.out.new hn)
      replace BV := Lib.hid (BV.out.new hn)
      replace BH := Lib.hid (BH.out.new hn)
      replace HF2 := Lib.hid (HF2.out.new hn)
      replace HN := Lib.hid (HN.out.trans hn)
      clear hn
      obtain ⟨⟨pa0, pa1, pa2, pa3, pa4⟩, pa5⟩ := BA.out.five
      obtain ⟨⟨pv0, pv1, pv2, pv3⟩, pv4, pv5, pv6, pv7, pv8⟩ := BV.out.four
      obtain ⟨⟨ph0, ph1, ph2, ph3⟩, ph4, ph5, ph6, ph7, ph8⟩ := BH.out.four
      refine hK.out _ _ (fun _ => ?_) ?_
      ·exact ⟨pa0, pa1, pa2, pa3, pa4, pv0, pv1, pv2, pv3, ph0, ph1, ph2, ph3⟩
      clear hK K
      try simp only [PT]
      refine wpT_two 9 12 rfl rfl (by kernel_rfl) (fun K hK => ?_) (fun K hK => ?_)
      ·skip
       go_simp
       refine (fadd_calls _ _ x2 hf2 6035 2 _ HF7.out HF2.out BX2.out BDH.out (by omega)).mono ?_
       rintro e w8 ⟨v8, rfl, hn, hf⟩
       rw [HX3.out] at hf
       clear HF7 HF2
       have HF8 := Lib.hid hf
       clear hf
       clear pa0 pa1 pa2 pa3 pa4 pa5
       clear pv0 pv1 pv2 pv3 pv4 pv5 pv6 pv7 pv8 ph0 ph1 ph2 ph3 ph4 ph5 ph6 ph7 ph8
       replace BA := Lib.hid (BA.out.new hn)
       replace BV := Lib.hid (BV.out.new hn)
       replace BH := Lib.hid (BH.out.new hn)
       replace HN := Lib.hid (HN.out.trans hn)
       clear hn
       obtain ⟨⟨pa0, pa1, pa2, pa3, pa4⟩, pa5⟩ := BA.out.five
       obtain ⟨⟨pv0, pv1, pv2, pv3⟩, pv4, pv5, pv6, pv7, pv8⟩ := BV.out.four
       obtain ⟨⟨ph0, ph1, ph2, ph3⟩, ph4, ph5, ph6, ph7, ph8⟩ := BH.out.four
       refine hK.out _ _ (fun _ => ?_) ?_
       ·exact ⟨pa0, pa1, pa2, pa3, pa4, pv0, pv1, pv2, pv3, ph0, ph1, ph2, ph3⟩
       clear hK K
       try simp only [PT]
       refine wpT_two 10 12 rfl rfl (by kernel_rfl) (fun K hK => ?_) (fun K hK => ?_)
       ·skip
        go_simp
        refine (floor_calls _ x3 6038 _ HF8.out BX3.out (by omega)).mono ?_
        rintro e w9 ⟨v9, rfl, hn, hf⟩
        rw [HN1.out] at hf
        clear HF8
        have HF9 := Lib.hid hf
        clear hf
        clear pa0 pa1 pa2 pa3 pa4 pa5
        clear pv0 pv1 pv2 pv3 pv4 pv5 pv6 pv7 pv8 ph0 ph1 ph2 ph3 ph4 ph5 ph6 ph7 ph8
        replace BA := Lib.hid (BA.out.new hn)
        replace BV := Lib.hid (BV.out.new hn)
        replace BH := Lib.hid (BH.out.new hn)
        replace HN := Lib.hid (HN.out.trans hn)
        clear hn
        obtain ⟨⟨pa0, pa1, pa2, pa3, pa4⟩, pa5⟩ := BA.out.five
        obtain ⟨⟨pv0, pv1, pv2, pv3⟩, pv4, pv5, pv6, pv7, pv8⟩ := BV.out.four
        obtain ⟨⟨ph0, ph1, ph2, ph3⟩, ph4, ph5, ph6, ph7, ph8⟩ := BH.out.four
        refine hK.out _ _ (fun _ => ?_) ?_
        ·exact ⟨pa0, pa1, pa2, pa3, pa4, pv0, pv1, pv2, pv3, ph0, ph1, ph2, ph3⟩
        clear hK K
        try simp only [PT]
        refine wpT_two 11 12 rfl rfl (by kernel_rfl) (fun K hK => ?_) (fun K hK => ?_)
        ·skip
         go_simp
         refine (whole_calls _ n _ HF9.out).mono ?_
         rintro e w10 ⟨v10, rfl, hn, hf⟩
         clear HF9
         obtain ⟨s9, a9, l9, k9, t9, b9, m9, n9, rfl⟩ := hf.shape
         have HF10 := Lib.hid hf
         clear hf
         clear pa0 pa1 pa2 pa3 pa4 pa5
         clear pv0 pv1 pv2 pv3 pv4 pv5 pv6 pv7 pv8 ph0 ph1 ph2 ph3 ph4 ph5 ph6 ph7 ph8
         replace BA := Lib.hid (BA.out.new hn)
         replace BV := Lib.hid (BV.out.new hn)
         replace BH := Lib.hid (BH.out.new hn)
         replace HN := Lib.hid (HN.out.trans hn)
         clear hn
         obtain ⟨⟨pa0, pa1, pa2, pa3, pa4⟩, pa5⟩ := BA.out.five
         obtain ⟨⟨pv0, pv1, pv2, pv3⟩, pv4, pv5, pv6, pv7, pv8⟩ := BV.out.four
         obtain ⟨⟨ph0, ph1, ph2, ph3⟩, ph4, ph5, ph6, ph7, ph8⟩ := BH.out.four
         refine hK.out _ _ (fun _ => ?_) ?_
         ·exact ⟨pa0, pa1, pa2, pa3, pa4, pv0, pv1, pv2, pv3, ph0, ph1, ph2, ph3⟩
         clear hK K
         try simp only [PT]
         refine wpT_one 12 rfl (by kernel_rfl) (fun K hK => ?_)
         go_simp
         clear pa0 pa1 pa2 pa3 pa4 pa5
         clear pv0 pv1 pv2 pv3 pv4 pv5 pv6 pv7 pv8 ph0 ph1 ph2 ph3 ph4 ph5 ph6 ph7 ph8
         have LBN := Lib.hid (HN.out.size)
         have MBN := Lib.hid (BA.out.lt)
         replace BA := Lib.hid (BA.out.new ((New.refl w10).alloc (.cells #[.int .i64 0, .slice none 0 0, .int .i64 0, .slice none 0 0] 140)))
         replace BV := Lib.hid (BV.out.new ((New.refl w10).alloc (.cells #[.int .i64 0, .slice none 0 0, .int .i64 0, .slice none 0 0] 140)))
         replace BH := Lib.hid (BH.out.new ((New.refl w10).alloc (.cells #[.int .i64 0, .slice none 0 0, .int .i64 0, .slice none 0 0] 140)))
         replace HF10 := Lib.hid (HF10.out.new ((New.refl w10).alloc (.cells #[.int .i64 0, .slice none 0 0, .int .i64 0, .slice none 0 0] 140)))
         have BN := Lib.hid (Box.alloc w10 w10.heap.size 140 #[.int .i64 0, .slice none 0 0, .int .i64 0, .slice none 0 0] rfl)
         replace HN := Lib.hid (HN.out.alloc (.cells #[.int .i64 0, .slice none 0 0, .int .i64 0, .slice none 0 0] 140))
         obtain ⟨wa1, hwa⟩ : ∃ x, w10.alloc (.cells #[.int .i64 0, .slice none 0 0, .int .i64 0, .slice none 0 0] 140) = x := ⟨_, rfl⟩
         rw [hwa] at HN BA BV BH HF10 BN ⊢
         clear hwa
         obtain ⟨⟨pa0, pa1, pa2, pa3, pa4⟩, pa5⟩ := BA.out.five
         obtain ⟨⟨pv0, pv1, pv2, pv3⟩, pv4, pv5, pv6, pv7, pv8⟩ := BV.out.four
         obtain ⟨⟨ph0, ph1, ph2, ph3⟩, ph4, ph5, ph6, ph7, ph8⟩ := BH.out.four
         refine hK.out _ _ (fun _ => ?_) ?_
         ·exact ⟨pa0, pa1, pa2, pa3, pa4, pv0, pv1, pv2, pv3, ph0, ph1, ph2, ph3⟩
         clear hK K
         try simp only [PT]
         refine wpT_tail rfl (by kernel_rfl) ?_
         simp only [List.drop_succ_cons, List.drop_zero]
         obtain ⟨⟨pn0, pn1, pn2, pn3⟩, pn4, pn5, pn6, pn7, pn8⟩ := BN.out.four
         go_wp2_with fail
         go_meet
         have hle := LBN.out
         have hlt := MBN.out
         exact ⟨_, _, _, _, _, _, _, _, _, rfl, HN.out.put4 (by omega) _ _ _ _, BA.out.other4 (by omega) _ _ _ _, BN.out.put4 _ _ _ _, HF10.out.put4 BN.out _ _ _ _ _ _ _ _⟩
        ·skip
         go_simp
         clear pa0 pa1 pa2 pa3 pa4 pa5
         clear pv0 pv1 pv2 pv3 pv4 pv5 pv6 pv7 pv8 ph0 ph1 ph2 ph3 ph4 ph5 ph6 ph7 ph8
         have LBN := Lib.hid (HN.out.size)
         have MBN := Lib.hid (BA.out.lt)
         replace BA := Lib.hid (BA.out.new ((New.refl w9).alloc (.cells #[.int .i64 0, .slice none 0 0, .int .i64 0, .slice none 0 0] 140)))
         replace BV := Lib.hid (BV.out.new ((New.refl w9).alloc (.cells #[.int .i64 0, .slice none 0 0, .int .i64 0, .slice none 0 0] 140)))
         replace BH := Lib.hid (BH.out.new ((New.refl w9).alloc (.cells #[.int .i64 0, .slice none 0 0, .int .i64 0, .slice none 0 0] 140)))
         replace HF9 := Lib.hid (HF9.out.new ((New.refl w9).alloc (.cells #[.int .i64 0, .slice none 0 0, .int .i64 0, .slice none 0 0] 140)))
         have BN := Lib.hid (Box.alloc w9 w9.heap.size 140 #[.int .i64 0, .slice none 0 0, .int .i64 0, .slice none 0 0] rfl)
         replace HN := Lib.hid (HN.out.alloc (.cells #[.int .i64 0, .slice none 0 0, .int .i64 0, .slice none 0 0] 140))
         obtain ⟨wa1, hwa⟩ : ∃ x, w9.alloc (.cells #[.int .i64 0, .slice none 0 0, .int .i64 0, .slice none 0 0] 140) = x := ⟨_, rfl⟩
         rw [hwa] at HN BA BV BH HF9 BN ⊢
         clear hwa
         obtain ⟨⟨pa0, pa1, pa2, pa3, pa4⟩, pa5⟩ := BA.out.five
         obtain ⟨⟨pv0, pv1, pv2, pv3⟩, pv4, pv5, pv6, pv7, pv8⟩ := BV.out.four
         obtain ⟨⟨ph0, ph1, ph2, ph3⟩, ph4, ph5, ph6, ph7, ph8⟩ := BH.out.four
         refine hK.out _ _ (fun _ => ?_) ?_
         ·exact ⟨pa0, pa1, pa2, pa3, pa4, pv0, pv1, pv2, pv3, ph0, ph1, ph2, ph3⟩
         clear hK K
         try simp only [PT]
         refine wpT_one 11 rfl (by kernel_rfl) (fun K hK => ?_)
         go_simp
         refine (whole_calls _ n _ HF9.out).mono ?_
         rintro e w10 ⟨v10, rfl, hn, hf⟩
         clear HF9
         obtain ⟨s9, a9, l9, k9, t9, b9, m9, n9, rfl⟩ := hf.shape
         have HF10 := Lib.hid hf
         clear hf
         clear pa0 pa1 pa2 pa3 pa4 pa5
         clear pv0 pv1 pv2 pv3 pv4 pv5 pv6 pv7 pv8 ph0 ph1 ph2 ph3 ph4 ph5 ph6 ph7 ph8
         replace BA := Lib.hid (BA.out.new hn)
         replace BV := Lib.hid (BV.out.new hn)
         replace BH := Lib.hid (BH.out.new hn)
         replace BN := Lib.hid (BN.out.new hn)
         replace HN := Lib.hid (HN.out.trans hn)
         clear hn
         obtain ⟨⟨pa0, pa1, pa2, pa3, pa4⟩, pa5⟩ := BA.out.five
         obtain ⟨⟨pv0, pv1, pv2, pv3⟩, pv4, pv5, pv6, pv7, pv8⟩ := BV.out.four
         obtain ⟨⟨ph0, ph1, ph2, ph3⟩, ph4, ph5, ph6, ph7, ph8⟩ := BH.out.four
         refine hK.out _ _ (fun _ => ?_) ?_
         ·exact ⟨pa0, pa1, pa2, pa3, pa4, pv0, pv1, pv2, pv3, ph0, ph1, ph2, ph3⟩
         clear hK K
         try simp only [PT]
         refine wpT_tail rfl (by kernel_rfl) ?_
         simp only [List.drop_succ_cons, List.drop_zero]
         obtain ⟨⟨pn0, pn1, pn2, pn3⟩, pn4, pn5, pn6, pn7, pn8⟩ := BN.out.four
         go_wp2_with fail
         go_meet
         have hle := LBN.out
         have hlt := MBN.out
         exact ⟨_, _, _, _, _, _, _, _, _, rfl, HN.out.put4 (by omega) _ _ _ _, BA.out.other4 (by omega) _ _ _ _, BN.out.put4 _ _ _ _, HF10.out.put4 BN.out _ _ _ _ _ _ _ _⟩
       ·skip
        go_simp
        clear pa0 pa1 pa2 pa3 pa4 pa5
        clear pv0 pv1 pv2 pv3 pv4 pv5 pv6 pv7 pv8 ph0 ph1 ph2 ph3 ph4 ph5 ph6 ph7 ph8
        have LBN := Lib.hid (HN.out.size)
        have MBN := Lib.hid (BA.out.lt)
        replace BA := Lib.hid (BA.out.new ((New.refl w8).alloc (.cells #[.int .i64 0, .slice none 0 0, .int .i64 0, .slice none 0 0] 140)))
        replace BV := Lib.hid (BV.out.new ((New.refl w8).alloc (.cells #[.int .i64 0, .slice none 0 0, .int .i64 0, .slice none 0 0] 140)))
        replace BH := Lib.hid (BH.out.new ((New.refl w8).alloc (.cells #[.int .i64 0, .slice none 0 0, .int .i64 0, .slice none 0 0] 140)))
        replace HF8 := Lib.hid (HF8.out.new ((New.refl w8).alloc (.cells #[.int .i64 0, .slice none 0 0, .int .i64 0, .slice none 0 0] 140)))
        have BN := Lib.hid (Box.alloc w8 w8.heap.size 140 #[.int .i64 0, .slice none 0 0, .int .i64 0, .slice none 0 0] rfl)
        replace HN := Lib.hid (HN.out.alloc (.cells #[.int .i64 0, .slice none 0 0, .int .i64 0, .slice none 0 0] 140))
        obtain ⟨wa1, hwa⟩ : ∃ x, w8.alloc (.cells #[.int .i64 0, .slice none 0 0, .int .i64 0, .slice none 0 0] 140) = x := ⟨_, rfl⟩
        rw [hwa] at HN BA BV BH HF8 BN ⊢
        clear hwa
        obtain ⟨⟨pa0, pa1, pa2, pa3, pa4⟩, pa5⟩ := BA.out.five
        obtain ⟨⟨pv0, pv1, pv2, pv3⟩, pv4, pv5, pv6, pv7, pv8⟩ := BV.out.four
        obtain ⟨⟨ph0, ph1, ph2, ph3⟩, ph4, ph5, ph6, ph7, ph8⟩ := BH.out.four
        refine hK.out _ _ (fun _ => ?_) ?_
        ·exact ⟨pa0, pa1, pa2, pa3, pa4, pv0, pv1, pv2, pv3, ph0, ph1, ph2, ph3⟩
        clear hK K
        try simp only [PT]
        refine wpT_one 10 rfl (by kernel_rfl) (fun K hK => ?_)
        go_simp
        refine (floor_calls _ x3 6038 _ HF8.out BX3.out (by omega)).mono ?_
        rintro e w9 ⟨v9, rfl, hn, hf⟩
        rw [HN1.out] at hf
        clear HF8
        have HF9 := Lib.hid hf
        clear hf
        clear pa0 pa1 pa2 pa3 pa4 pa5
        clear pv0 pv1 pv2 pv3 pv4 pv5 pv6 pv7 pv8 ph0 ph1 ph2 ph3 ph4 ph5 ph6 ph7 ph8
        replace BA := Lib.hid (BA.out.new hn)
        replace BV := Lib.hid (BV.out.new hn)
        replace BH := Lib.hid (BH.out.new hn)
        replace BN := Lib.hid (BN.out.new hn)
        replace HN := Lib.hid (HN.out.trans hn)
        clear hn
        obtain ⟨⟨pa0, pa1, pa2, pa3, pa4⟩, pa5⟩ := BA.out.five
        obtain ⟨⟨pv0, pv1, pv2, pv3⟩, pv4, pv5, pv6, pv7, pv8⟩ := BV.out.four
        obtain ⟨⟨ph0, ph1, ph2, ph3⟩, ph4, ph5, ph6, ph7, ph8⟩ := BH.out.four
        refine hK.out _ _ (fun _ => ?_) ?_
        ·exact ⟨pa0, pa1, pa2, pa3, pa4, pv0, pv1, pv2, pv3, ph0, ph1, ph2, ph3⟩
        clear hK K
        try simp only [PT]
        refine wpT_one 11 rfl (by kernel_rfl) (fun K hK => ?_)
        go_simp
        refine (whole_calls _ n _ HF9.out).mono ?_
        rintro e w10 ⟨v10, rfl, hn, hf⟩
        clear HF9
        obtain ⟨s9, a9, l9, k9, t9, b9, m9, n9, rfl⟩ := hf.shape
        have HF10 := Lib.hid hf
        clear hf
        clear pa0 pa1 pa2 pa3 pa4 pa5
        clear pv0 pv1 pv2 pv3 pv4 pv5 pv6 pv7 pv8 ph0 ph1 ph2 ph3 ph4 ph5 ph6 ph7 ph8
        replace BA := Lib.hid (BA.out.new hn)
        replace BV := Lib.hid (BV.out.new hn)
        replace BH := Lib.hid (BH.out.new hn)
        replace BN := Lib.hid (BN.out.new hn)
        replace HN := Lib.hid (HN.out.trans hn)
        clear hn
        obtain ⟨⟨pa0, pa1, pa2, pa3, pa4⟩, pa5⟩ := BA.out.five
        obtain ⟨⟨pv0, pv1, pv2, pv3⟩, pv4, pv5, pv6, pv7, pv8⟩ := BV.out.four
        obtain ⟨⟨ph0, ph1, ph2, ph3⟩, ph4, ph5, ph6, ph7, ph8⟩ := BH.out.four
        refine hK.out _ _ (fun _ => ?_) ?_
        ·exact ⟨pa0, pa1, pa2, pa3, pa4, pv0, pv1, pv2, pv3, ph0, ph1, ph2, ph3⟩
        clear hK K
        try simp only [PT]
        refine wpT_tail rfl (by kernel_rfl) ?_
        simp only [List.drop_succ_cons, List.drop_zero]
        obtain ⟨⟨pn0, pn1, pn2, pn3⟩, pn4, pn5, pn6, pn7, pn8⟩ := BN.out.four
        go_wp2_with fail
        go_meet
        have hle := LBN.out
        have hlt := MBN.out
        exact ⟨_, _, _, _, _, _, _, _, _, rfl, HN.out.put4 (by omega) _ _ _ _, BA.out.other4 (by omega) _ _ _ _, BN.out.put4 _ _ _ _, HF10.out.put4 BN.out _ _ _ _ _ _ _ _⟩
      ·skip
       go_simp
       clear pa0 pa1 pa2 pa3 pa4 pa5
       clear pv0 pv1 pv2 pv3 pv4 pv5 pv6 pv7 pv8 ph0 ph1 ph2 ph3 ph4 ph5 ph6 ph7 ph8
       have LBN := Lib.hid (HN.out.size)
       have MBN := Lib.hid (BA.out.lt)
       replace BA := Lib.hid (BA.out.new ((New.refl w7).alloc (.cells #[.int .i64 0, .slice none 0 0, .int .i64 0, .slice none 0 0] 140)))
       replace BV := Lib.hid (BV.out.new ((New.refl w7).alloc (.cells #[.int .i64 0, .slice none 0 0, .int .i64 0, .slice none 0 0] 140)))
       replace BH := Lib.hid (BH.out.new ((New.refl w7).alloc (.cells #[.int .i64 0, .slice none 0 0, .int .i64 0, .slice none 0 0] 140)))
       replace HF2 := Lib.hid (HF2.out.new ((New.refl w7).alloc (.cells #[.int .i64 0, .slice none 0 0, .int .i64 0, .slice none 0 0] 140)))
       replace HF7 := Lib.hid (HF7.out.new ((New.refl w7).alloc (.cells #[.int .i64 0, .slice none 0 0, .int .i64 0, .slice none 0 0] 140)))
       have BN := Lib.hid (Box.alloc w7 w7.heap.size 140 #[.int .i64 0, .slice none 0 0, .int .i64 0, .slice none 0 0] rfl)
       replace HN := Lib.hid (HN.out.alloc (.cells #[.int .i64 0, .slice none 0 0, .int .i64 0, .slice none 0 0] 140))
       obtain ⟨wa1, hwa⟩ : ∃ x, w7.alloc (.cells #[.int .i64 0, .slice none 0 0, .int .i64 0, .slice none 0 0] 140) = x := ⟨_, rfl⟩
       rw [hwa] at HN BA BV BH HF2 HF7 BN ⊢
       clear hwa
       obtain ⟨⟨pa0, pa1, pa2, pa3, pa4⟩, pa5⟩ := BA.out.five
       obtain ⟨⟨pv0, pv1, pv2, pv3⟩, pv4, pv5, pv6, pv7, pv8⟩ := BV.out.four
       obtain ⟨⟨ph0, ph1, ph2, ph3⟩, ph4, ph5, ph6, ph7, ph8⟩ := BH.out.four
       refine hK.out _ _ (fun _ => ?_) ?_
       ·exact ⟨pa0, pa1, pa2, pa3, pa4, pv0, pv1, pv2, pv3, ph0, ph1, ph2, ph3⟩
       clear hK K
       try simp only [PT]
       refine wpT_one 9 rfl (by kernel_rfl) (fun K hK => ?_)
       go_simp
       refine (fadd_calls _ _ x2 hf2 6035 2 _ HF7.out HF2.out BX2.out BDH.out (by omega)).mono ?_
       rintro e w8 ⟨v8, rfl, hn, hf⟩
       rw [HX3.out] at hf
       clear HF7 HF2
       have HF8 := Lib.hid hf
       clear hf
       clear pa0 pa1 pa2 pa3 pa4 pa5
       clear pv0 pv1 pv2 pv3 pv4 pv5 pv6 pv7 pv8 ph0 ph1 ph2 ph3 ph4 ph5 ph6 ph7 ph8
       replace BA := Lib.hid (BA.out.new hn)
       replace BV := Lib.hid (BV.out.new hn)
       replace BH := Lib.hid (BH.out.new hn)
       replace BN := Lib.hid (BN.out.new hn)
       replace HN := Lib.hid (HN.out.trans hn)
       clear hn
       obtain ⟨⟨pa0, pa1, pa2, pa3, pa4⟩, pa5⟩ := BA.out.five
       obtain ⟨⟨pv0, pv1, pv2, pv3⟩, pv4, pv5, pv6, pv7, pv8⟩ := BV.out.four
       obtain ⟨⟨ph0, ph1, ph2, ph3⟩, ph4, ph5, ph6, ph7, ph8⟩ := BH.out.four
       refine hK.out _ _ (fun _ => ?_) ?_
       ·exact ⟨pa0, pa1, pa2, pa3, pa4, pv0, pv1, pv2, pv3, ph0, ph1, ph2, ph3⟩
       clear hK K
       try simp only [PT]
       refine wpT_one 10 rfl (by kernel_rfl) (fun K hK => ?_)
       go_simp
       refine (floor_calls _ x3 6038 _ HF8.out BX3.out (by omega)).mono ?_
       rintro e w9 ⟨v9, rfl, hn, hf⟩
       rw [HN1.out] at hf
       clear HF8
       have HF9 := Lib.hid hf
       clear hf
       clear pa0 pa1 pa2 pa3 pa4 pa5
       clear pv0 pv1 pv2 pv3 pv4 pv5 pv6 pv7 pv8 ph0 ph1 ph2 ph3 ph4 ph5 ph6 ph7 ph8
       replace BA := Lib.hid (BA.out.new hn)
       replace BV := Lib.hid (BV.out.new hn)
       replace BH := Lib.hid (BH.out.new hn)
       replace BN := Lib.hid (BN.out.new hn)
       replace HN := Lib.hid (HN.out.trans hn)
       clear hn
       obtain ⟨⟨pa0, pa1, pa2, pa3, pa4⟩, pa5⟩ := BA.out.five
       obtain ⟨⟨pv0, pv1, pv2, pv3⟩, pv4, pv5, pv6, pv7, pv8⟩ := BV.out.four
       obtain ⟨⟨ph0, ph1, ph2, ph3⟩, ph4, ph5, ph6, ph7, ph8⟩ := BH.out.four
       refine hK.out _ _ (fun _ => ?_) ?_
       ·exact ⟨pa0, pa1, pa2, pa3, pa4, pv0, pv1, pv2, pv3, ph0, ph1, ph2, ph3⟩
       clear hK K
       try simp only [PT]
       refine wpT_one 11 rfl (by kernel_rfl) (fun K hK => ?_)
       go_simp
       refine (whole_calls _ n _ HF9.out).mono ?_
       rintro e w10 ⟨v10, rfl, hn, hf⟩
       clear HF9
       obtain ⟨s9, a9, l9, k9, t9, b9, m9, n9, rfl⟩ := hf.shape
       have HF10 := Lib.hid hf
       clear hf
       clear pa0 pa1 pa2 pa3 pa4 pa5
       clear pv0 pv1 pv2 pv3 pv4 pv5 pv6 pv7 pv8 ph0 ph1 ph2 ph3 ph4 ph5 ph6 ph7 ph8
       replace BA := Lib.hid (BA.out.new hn)
       replace BV := Lib.hid (BV.out.new hn)
       replace BH := Lib.hid (BH.out.new hn)
       replace BN := Lib.hid (BN.out.new hn)
       replace HN := Lib.hid (HN.out.trans hn)
       clear hn
       obtain ⟨⟨pa0, pa1, pa2, pa3, pa4⟩, pa5⟩ := BA.out.five
       obtain ⟨⟨pv0, pv1, pv2, pv3⟩, pv4, pv5, pv6, pv7, pv8⟩ := BV.out.four
       obtain ⟨⟨ph0, ph1, ph2, ph3⟩, ph4, ph5, ph6, ph7, ph8⟩ := BH.out.four
       refine hK.out _ _ (fun _ => ?_) ?_
       ·exact ⟨pa0, pa1, pa2, pa3, pa4, pv0, pv1, pv2, pv3, ph0, ph1, ph2, ph3⟩
       clear hK K
       try simp only [PT]
       refine wpT_tail rfl (by kernel_rfl) ?_
       simp only [List.drop_succ_cons, List.drop_zero]
       obtain ⟨⟨pn0, pn1, pn2, pn3⟩, pn4, pn5, pn6, pn7, pn8⟩ := BN.out.four
       go_wp2_with fail
       go_meet
       have hle := LBN.out
       have hlt := MBN.out
       exact ⟨_, _, _, _, _, _, _, _, _, rfl, HN.out.put4 (by omega) _ _ _ _, BA.out.other4 (by omega) _ _ _ _, BN.out.put4 _ _ _ _, HF10.out.put4 BN.out _ _ _ _ _ _ _ _⟩
     ·skip
      go_simp
      clear pa0 pa1 pa2 pa3 pa4 pa5
      clear pv0 pv1 pv2 pv3 pv4 pv5 pv6 pv7 pv8 ph0 ph1 ph2 ph3 ph4 ph5 ph6 ph7 ph8
      have LBN := Lib.hid (HN.out.size)
      have MBN := Lib.hid (BA.out.lt)
      replace BA := Lib.hid (BA.out.new ((New.refl w6).alloc (.cells #[.int .i64 0, .slice none 0 0, .int .i64 0, .slice none 0 0] 140)))
      replace BV := Lib.hid (BV.out.new ((New.refl w6).alloc (.cells #[.int .i64 0, .slice none 0 0, .int .i64 0, .slice none 0 0] 140)))
      replace BH := Lib.hid (BH.out.new ((New.refl w6).alloc (.cells #[.int .i64 0, .slice none 0 0, .int .i64 0, .slice none 0 0] 140)))
      replace HF2 := Lib.hid (HF2.out.new ((New.refl w6).alloc (.cells #[.int .i64 0, .slice none 0 0, .int .i64 0, .slice none 0 0] 140)))
      replace HF5 := Lib.hid (HF5.out.new ((New.refl w6).alloc (.cells #[.int .i64 0, .slice none 0 0, .int .i64 0, .slice none 0 0] 140)))
      replace HF6 := Lib.hid (HF6.out.new ((New.refl w6).alloc (.cells #[.int .i64 0, .slice none 0 0, .int .i64 0, .slice none 0 0] 140)))
      have BN := Lib.hid (Box.alloc w6 w6.heap.size 140 #[.int .i64 0, .slice none 0 0, .int .i64 0, .slice none 0 0] rfl)
      replace HN := Lib.hid (HN.out.alloc (.cells #[.int .i64 0, .slice none 0 0, .int .i64 0, .slice none 0 0] 140))
      obtain ⟨wa1, hwa⟩ : ∃ x, w6.alloc (.cells #[.int .i64 0, .slice none 0 0, .int .i64 0, .slice none 0 0] 140) = x := ⟨_, rfl⟩
      rw [hwa] at HN BA BV BH HF2 HF5 HF6 BN ⊢
      clear hwa
      obtain ⟨⟨pa0, pa1, pa2, pa3, pa4⟩, pa5⟩ := BA.out.five
      obtain ⟨⟨pv0, pv1, pv2, pv3⟩, pv4, pv5, pv6, pv7, pv8⟩ := BV.out.four
      obtain ⟨⟨ph0, ph1, ph2, ph3⟩, ph4, ph5, ph6, ph7, ph8⟩ := BH.out.four
      refine hK.out _ _ (fun _ => ?_) ?_
      ·exact ⟨pa0, pa1, pa2, pa3, pa4, pv0, pv1, pv2, pv3, ph0, ph1, ph2, ph3⟩
      clear hK K
      try simp only [PT]
      refine wpT_one 7 rfl (by kernel_rfl) (fun K hK => ?_)
      go_simp
      refine (fadd_calls _ _ x1 (z : Rat) 6021 13 _ HF5.out HF6.out BX1.out BZ.out (by omega)).mono ?_
      rintro e w7 ⟨v7, rfl, hn, hf⟩
      rw [HX2.out] at hf
      clear HF5 HF6
      have HF7 := Lib.hid hf
      clear hf
      clear pa0 pa1 pa2 pa3 pa4 pa5
      clear pv0 pv1 pv2 pv3 pv4 pv5 pv6 pv7 pv8 ph0 ph1 ph2 ph3 ph4 ph5 ph6 ph7 ph8
      replace BA := Lib.hid (BA.out.new hn)
      replace BV := Lib.hid (BV.out.new hn)
      replace BH := Lib.hid (BH.out.new hn)
      replace HF2 := Lib.hid (HF2.out.new hn)
      replace BN := Lib.hid (BN.out.new hn)
      replace HN := Lib.hid (HN.out.trans hn)
      clear hn
      obtain ⟨⟨pa0, pa1, pa2, pa3, pa4⟩, pa5⟩ := BA.out.five
      obtain ⟨⟨pv0, pv1, pv2, pv3⟩, pv4, pv5, pv6, pv7, pv8⟩ := BV.out.four
      obtain ⟨⟨ph0, ph1, ph2, ph3⟩, ph4, ph5, ph6, ph7, ph8⟩ := BH.out.four
      refine hK.out _ _ (fun _ => ?_) ?_
      ·exact ⟨pa0, pa1, pa2, pa3, pa4, pv0, pv1, pv2, pv3, ph0, ph1, ph2, ph3⟩
      clear hK K
      try simp only [PT]
      refine wpT_one 9 rfl (by kernel_rfl) (fun K hK => ?_)
      go_simp
      refine (fadd_calls _ _ x2 hf2 6035 2 _ HF7.out HF2.out BX2.out BDH.out (by omega)).mono ?_
      rintro e w8 ⟨v8, rfl, hn, hf⟩
      rw [HX3.out] at hf
      clear HF7 HF2
      have HF8 := Lib.hid hf
      clear hf
      clear pa0 pa1 pa2 pa3 pa4 pa5
      clear pv0 pv1 pv2 pv3 pv4 pv5 pv6 pv7 pv8 ph0 ph1 ph2 ph3 ph4 ph5 ph6 ph7 ph8
      replace BA := Lib.hid (BA.out.new hn)
      replace BV := Lib.hid (BV.out.new hn)
      replace BH := Lib.hid (BH.out.new hn)
      replace BN := Lib.hid (BN.out.new hn)
      replace HN := Lib.hid (HN.out.trans hn)
      clear hn
      obtain ⟨⟨pa0, pa1, pa2, pa3, pa4⟩, pa5⟩ := BA.out.five
      obtain ⟨⟨pv0, pv1, pv2, pv3⟩, pv4, pv5, pv6, pv7, pv8⟩ := BV.out.four
      obtain ⟨⟨ph0, ph1, ph2, ph3⟩, ph4, ph5, ph6, ph7, ph8⟩ := BH.out.four
      refine hK.out _ _ (fun _ => ?_) ?_
      ·exact ⟨pa0, pa1, pa2, pa3, pa4, pv0, pv1, pv2, pv3, ph0, ph1, ph2, ph3⟩
      clear hK K
      try simp only [PT]
      refine wpT_one 10 rfl (by kernel_rfl) (fun K hK => ?_)
      go_simp
      refine (floor_calls _ x3 6038 _ HF8.out BX3.out (by omega)).mono ?_
      rintro e w9 ⟨v9, rfl, hn, hf⟩
      rw [HN1.out] at hf
      clear HF8
      have HF9 := Lib.hid hf
      clear hf
      clear pa0 pa1 pa2 pa3 pa4 pa5
      clear pv0 pv1 pv2 pv3 pv4 pv5 pv6 pv7 pv8 ph0 ph1 ph2 ph3 ph4 ph5 ph6 ph7 ph8
      replace BA := Lib.hid (BA.out.new hn)
      replace BV := Lib.hid (BV.out.new hn)
      replace BH := Lib.hid (BH.out.new hn)
      replace BN := Lib.hid (BN.out.new hn)
      replace HN := Lib.hid (HN.out.trans hn)
      clear hn
      obtain ⟨⟨pa0, pa1, pa2, pa3, pa4⟩, pa5⟩ := BA.out.five
      obtain ⟨⟨pv0, pv1, pv2, pv3⟩, pv4, pv5, pv6, pv7, pv8⟩ := BV.out.four
      obtain ⟨⟨ph0, ph1, ph2, ph3⟩, ph4, ph5, ph6, ph7, ph8⟩ := BH.out.four
      refine hK.out _ _ (fun _ => ?_) ?_
      ·exact ⟨pa0, pa1, pa2, pa3, pa4, pv0, pv1, pv2, pv3, ph0, ph1, ph2, ph3⟩
      clear hK K
      try simp only [PT]
      refine wpT_one 11 rfl (by kernel_rfl) (fun K hK => ?_)
      go_simp
      refine (whole_calls _ n _ HF9.out).mono ?_
      rintro e w10 ⟨v10, rfl, hn, hf⟩
      clear HF9
      obtain ⟨s9, a9, l9, k9, t9, b9, m9, n9, rfl⟩ := hf.shape
      have HF10 := Lib.hid hf
      clear hf
      clear pa0 pa1 pa2 pa3 pa4 pa5
      clear pv0 pv1 pv2 pv3 pv4 pv5 pv6 pv7 pv8 ph0 ph1 ph2 ph3 ph4 ph5 ph6 ph7 ph8
      replace BA := Lib.hid (BA.out.new hn)
      replace BV := Lib.hid (BV.out.new hn)
      replace BH := Lib.hid (BH.out.new hn)
      replace BN := Lib.hid (BN.out.new hn)
      replace HN := Lib.hid (HN.out.trans hn)
      clear hn
      obtain ⟨⟨pa0, pa1, pa2, pa3, pa4⟩, pa5⟩ := BA.out.five
      obtain ⟨⟨pv0, pv1, pv2, pv3⟩, pv4, pv5, pv6, pv7, pv8⟩ := BV.out.four
      obtain ⟨⟨ph0, ph1, ph2, ph3⟩, ph4, ph5, ph6, ph7, ph8⟩ := BH.out.four
      refine hK.out _ _ (fun _ => ?_) ?_
      ·exact ⟨pa0, pa1, pa2, pa3, pa4, pv0, pv1, pv2, pv3, ph0, ph1, ph2, ph3⟩
      clear hK K
      try simp only [PT]
      refine wpT_tail rfl (by kernel_rfl) ?_
      simp only [List.drop_succ_cons, List.drop_zero]
      obtain ⟨⟨pn0, pn1, pn2, pn3⟩, pn4, pn5, pn6, pn7, pn8⟩ := BN.out.four
      go_wp2_with fail
      go_meet
      have hle := LBN.out
      have hlt := MBN.out
      exact ⟨_, _, _, _, _, _, _, _, _, rfl, HN.out.put4 (by omega) _ _ _ _, BA.out.other4 (by omega) _ _ _ _, BN.out.put4 _ _ _ _, HF10.out.put4 BN.out _ _ _ _ _ _ _ _⟩
    ·skip
     go_simp
     clear pa0 pa1 pa2 pa3 pa4 pa5
     clear pv0 pv1 pv2 pv3 pv4 pv5 pv6 pv7 pv8 ph0 ph1 ph2 ph3 ph4 ph5 ph6 ph7 ph8
     have LBN := Lib.hid (HN.out.size)
     have MBN := Lib.hid (BA.out.lt)
     replace BA := Lib.hid (BA.out.new ((New.refl w5).alloc (.cells #[.int .i64 0, .slice none 0 0, .int .i64 0, .slice none 0 0] 140)))
     replace BV := Lib.hid (BV.out.new ((New.refl w5).alloc (.cells #[.int .i64 0, .slice none 0 0, .int .i64 0, .slice none 0 0] 140)))
     replace BH := Lib.hid (BH.out.new ((New.refl w5).alloc (.cells #[.int .i64 0, .slice none 0 0, .int .i64 0, .slice none 0 0] 140)))
     replace HF2 := Lib.hid (HF2.out.new ((New.refl w5).alloc (.cells #[.int .i64 0, .slice none 0 0, .int .i64 0, .slice none 0 0] 140)))
     replace HF5 := Lib.hid (HF5.out.new ((New.refl w5).alloc (.cells #[.int .i64 0, .slice none 0 0, .int .i64 0, .slice none 0 0] 140)))
     have BN := Lib.hid (Box.alloc w5 w5.heap.size 140 #[.int .i64 0, .slice none 0 0, .int .i64 0, .slice none 0 0] rfl)
     replace HN := Lib.hid (HN.out.alloc (.cells #[.int .i64 0, .slice none 0 0, .int .i64 0, .slice none 0 0] 140))
     obtain ⟨wa1, hwa⟩ : ∃ x, w5.alloc (.cells #[.int .i64 0, .slice none 0 0, .int .i64 0, .slice none 0 0] 140) = x := ⟨_, rfl⟩
     rw [hwa] at HN BA BV BH HF2 HF5 BN ⊢
     clear hwa
     obtain ⟨⟨pa0, pa1, pa2, pa3, pa4⟩, pa5⟩ := BA.out.five
     obtain ⟨⟨pv0, pv1, pv2, pv3⟩, pv4, pv5, pv6, pv7, pv8⟩ := BV.out.four
     obtain ⟨⟨ph0, ph1, ph2, ph3⟩, ph4, ph5, ph6, ph7, ph8⟩ := BH.out.four
     refine hK.out _ _ (fun _ => ?_) ?_
     ·exact ⟨pa0, pa1, pa2, pa3, pa4, pv0, pv1, pv2, pv3, ph0, ph1, ph2, ph3⟩
     clear hK K
     try simp only [PT]
     refine wpT_one 6 rfl (by kernel_rfl) (fun K hK => ?_)
     go_simp
     refine (f_calls z _ (by have := HZ1.out; omega) (by have := HZ2.out; have := HTP1.out.2; omega)).mono ?_
     rintro e w6 ⟨v6, rfl, hn, hf⟩
     have HF6 := Lib.hid hf
     clear hf
     clear pa0 pa1 pa2 pa3 pa4 pa5
     clear pv0 pv1 pv2 pv3 pv4 pv5 pv6 pv7 pv8 ph0 ph1 ph2 ph3 ph4 ph5 ph6 ph7 ph8
     replace BA := Lib.hid (BA.out.new hn)
     replace BV := Lib.hid (BV.out.new hn)
     replace BH := Lib.hid (BH.out.new hn)
     replace HF2 := Lib.hid (HF2.out.new hn)
     replace HF5 := Lib.hid (HF5.out.new hn)
     replace BN := Lib.hid (BN.out.new hn)
     replace HN := Lib.hid (HN.out.trans hn)
     clear hn
     obtain ⟨⟨pa0, pa1, pa2, pa3, pa4⟩, pa5⟩ := BA.out.five
     obtain ⟨⟨pv0, pv1, pv2, pv3⟩, pv4, pv5, pv6, pv7, pv8⟩ := BV.out.four
     obtain ⟨⟨ph0, ph1, ph2, ph3⟩, ph4, ph5, ph6, ph7, ph8⟩ := BH.out.four
     refine hK.out _ _ (fun _ => ?_) ?_
     ·exact ⟨pa0, pa1, pa2, pa3, pa4, pv0, pv1, pv2, pv3, ph0, ph1, ph2, ph3⟩
     clear hK K
     try simp only [PT]
     refine wpT_one 7 rfl (by kernel_rfl) (fun K hK => ?_)
     go_simp
     refine (fadd_calls _ _ x1 (z : Rat) 6021 13 _ HF5.out HF6.out BX1.out BZ.out (by omega)).mono ?_
     rintro e w7 ⟨v7, rfl, hn, hf⟩
     rw [HX2.out] at hf
     clear HF5 HF6
     have HF7 := Lib.hid hf
     clear hf
     clear pa0 pa1 pa2 pa3 pa4 pa5
     clear pv0 pv1 pv2 pv3 pv4 pv5 pv6 pv7 pv8 ph0 ph1 ph2 ph3 ph4 ph5 ph6 ph7 ph8
     replace BA := Lib.hid (BA.out.new hn)
     replace BV := Lib.hid (BV.out.new hn)
     replace BH := Lib.hid (BH.out.new hn)
     replace HF2 := Lib.hid (HF2.out.new hn)
     replace BN := Lib.hid (BN.out.new hn)
     replace HN := Lib.hid (HN.out.trans hn)
     clear hn
     obtain ⟨⟨pa0, pa1, pa2, pa3, pa4⟩, pa5⟩ := BA.out.five
     obtain ⟨⟨pv0, pv1, pv2, pv3⟩, pv4, pv5, pv6, pv7, pv8⟩ := BV.out.four
     obtain ⟨⟨ph0, ph1, ph2, ph3⟩, ph4, ph5, ph6, ph7, ph8⟩ := BH.out.four
     refine hK.out _ _ (fun _ => ?_) ?_
     ·exact ⟨pa0, pa1, pa2, pa3, pa4, pv0, pv1, pv2, pv3, ph0, ph1, ph2, ph3⟩
     clear hK K
     try simp only [PT]
     refine wpT_one 9 rfl (by kernel_rfl) (fun K hK => ?_)
     go_simp
     refine (fadd_calls _ _ x2 hf2 6035 2 _ HF7.out HF2.out BX2.out BDH.out (by omega)).mono ?_
     rintro e w8 ⟨v8, rfl, hn, hf⟩
     rw [HX3.out] at hf
     clear HF7 HF2
     have HF8 := Lib.hid hf
     clear hf
     clear pa0 pa1 pa2 pa3 pa4 pa5
     clear pv0 pv1 pv2 pv3 pv4 pv5 pv6 pv7 pv8 ph0 ph1 ph2 ph3 ph4 ph5 ph6 ph7 ph8
     replace BA := Lib.hid (BA.out.new hn)
     replace BV := Lib.hid (BV.out.new hn)
     replace BH := Lib.hid (BH.out.new hn)
     replace BN := Lib.hid (BN.out.new hn)
     replace HN := Lib.hid (HN.out.trans hn)
     clear hn
     obtain ⟨⟨pa0, pa1, pa2, pa3, pa4⟩, pa5⟩ := BA.out.five
     obtain ⟨⟨pv0, pv1, pv2, pv3⟩, pv4, pv5, pv6, pv7, pv8⟩ := BV.out.four
     obtain ⟨⟨ph0, ph1, ph2, ph3⟩, ph4, ph5, ph6, ph7, ph8⟩ := BH.out.four
     refine hK.out _ _ (fun _ => ?_) ?_
     ·exact ⟨pa0, pa1, pa2, pa3, pa4, pv0, pv1, pv2, pv3, ph0, ph1, ph2, ph3⟩
     clear hK K
     try simp only [PT]
     refine wpT_one 10 rfl (by kernel_rfl) (fun K hK => ?_)
     go_simp
     refine (floor_calls _ x3 6038 _ HF8.out BX3.out (by omega)).mono ?_
     rintro e w9 ⟨v9, rfl, hn, hf⟩
     rw [HN1.out] at hf
     clear HF8
     have HF9 := Lib.hid hf
     clear hf
     clear pa0 pa1 pa2 pa3 pa4 pa5
     clear pv0 pv1 pv2 pv3 pv4 pv5 pv6 pv7 pv8 ph0 ph1 ph2 ph3 ph4 ph5 ph6 ph7 ph8
     replace BA := Lib.hid (BA.out.new hn)
     replace BV := Lib.hid (BV.out.new hn)
     replace BH := Lib.hid (BH.out.new hn)
     replace BN := Lib.hid (BN.out.new hn)
     replace HN := Lib.hid (HN.out.trans hn)
     clear hn
     obtain ⟨⟨pa0, pa1, pa2, pa3, pa4⟩, pa5⟩ := BA.out.five
     obtain ⟨⟨pv0, pv1, pv2, pv3⟩, pv4, pv5, pv6, pv7, pv8⟩ := BV.out.four
     obtain ⟨⟨ph0, ph1, ph2, ph3⟩, ph4, ph5, ph6, ph7, ph8⟩ := BH.out.four
     refine hK.out _ _ (fun _ => ?_) ?_
     ·exact ⟨pa0, pa1, pa2, pa3, pa4, pv0, pv1, pv2, pv3, ph0, ph1, ph2, ph3⟩
     clear hK K
     try simp only [PT]
     refine wpT_one 11 rfl (by kernel_rfl) (fun K hK => ?_)
     go_simp
     refine (whole_calls _ n _ HF9.out).mono ?_
     rintro e w10 ⟨v10, rfl, hn, hf⟩
     clear HF9
     obtain ⟨s9, a9, l9, k9, t9, b9, m9, n9, rfl⟩ := hf.shape
     have HF10 := Lib.hid hf
     clear hf
     clear pa0 pa1 pa2 pa3 pa4 pa5
     clear pv0 pv1 pv2 pv3 pv4 pv5 pv6 pv7 pv8 ph0 ph1 ph2 ph3 ph4 ph5 ph6 ph7 ph8
     replace BA := Lib.hid (BA.out.new hn)
     replace BV := Lib.hid (BV.out.new hn)
     replace BH := Lib.hid (BH.out.new hn)
     replace BN := Lib.hid (BN.out.new hn)
     replace HN := Lib.hid (HN.out.trans hn)
     clear hn
     obtain ⟨⟨pa0, pa1, pa2, pa3, pa4⟩, pa5⟩ := BA.out.five
     obtain ⟨⟨pv0, pv1, pv2, pv3⟩, pv4, pv5, pv6, pv7, pv8⟩ := BV.out.four
     obtain ⟨⟨ph0, ph1, ph2, ph3⟩, ph4, ph5, ph6, ph7, ph8⟩ := BH.out.four
     refine hK.out _ _ (fun _ => ?_) ?_
     ·exact ⟨pa0, pa1, pa2, pa3, pa4, pv0, pv1, pv2, pv3, ph0, ph1, ph2, ph3⟩
     clear hK K
     try simp only [PT]
     refine wpT_tail rfl (by kernel_rfl) ?_
     simp only [List.drop_succ_cons, List.drop_zero]
     obtain ⟨⟨pn0, pn1, pn2, pn3⟩, pn4, pn5, pn6, pn7, pn8⟩ := BN.out.four
     go_wp2_with fail
     go_meet
     have hle := LBN.out
     have hlt := MBN.out
     exact ⟨_, _, _, _, _, _, _, _, _, rfl, HN.out.put4 (by omega) _ _ _ _, BA.out.other4 (by omega) _ _ _ _, BN.out.put4 _ _ _ _, HF10.out.put4 BN.out _ _ _ _ _ _ _ _⟩
   ·skip
    go_simp
    clear pa0 pa1 pa2 pa3 pa4 pa5
    clear pv0 pv1 pv2 pv3 pv4 pv5 pv6 pv7 pv8 ph0 ph1 ph2 ph3 ph4 ph5 ph6 ph7 ph8
    have LBN := Lib.hid (HN.out.size)
    have MBN := Lib.hid (BA.out.lt)
    replace BA := Lib.hid (BA.out.new ((New.refl w4).alloc (.cells #[.int .i64 0, .slice none 0 0, .int .i64 0, .slice none 0 0] 140)))
    replace BV := Lib.hid (BV.out.new ((New.refl w4).alloc (.cells #[.int .i64 0, .slice none 0 0, .int .i64 0, .slice none 0 0] 140)))
    replace BH := Lib.hid (BH.out.new ((New.refl w4).alloc (.cells #[.int .i64 0, .slice none 0 0, .int .i64 0, .slice none 0 0] 140)))
    replace HQ3 := Lib.hid (HQ3.out.new ((New.refl w4).alloc (.cells #[.int .i64 0, .slice none 0 0, .int .i64 0, .slice none 0 0] 140)))
    replace HF2 := Lib.hid (HF2.out.new ((New.refl w4).alloc (.cells #[.int .i64 0, .slice none 0 0, .int .i64 0, .slice none 0 0] 140)))
    replace HF4 := Lib.hid (HF4.out.new ((New.refl w4).alloc (.cells #[.int .i64 0, .slice none 0 0, .int .i64 0, .slice none 0 0] 140)))
    have BN := Lib.hid (Box.alloc w4 w4.heap.size 140 #[.int .i64 0, .slice none 0 0, .int .i64 0, .slice none 0 0] rfl)
    replace HN := Lib.hid (HN.out.alloc (.cells #[.int .i64 0, .slice none 0 0, .int .i64 0, .slice none 0 0] 140))
    obtain ⟨wa1, hwa⟩ : ∃ x, w4.alloc (.cells #[.int .i64 0, .slice none 0 0, .int .i64 0, .slice none 0 0] 140) = x := ⟨_, rfl⟩
    rw [hwa] at HN BA BV BH HQ3 HF2 HF4 BN ⊢
    clear hwa
    obtain ⟨⟨pa0, pa1, pa2, pa3, pa4⟩, pa5⟩ := BA.out.five
    obtain ⟨⟨pv0, pv1, pv2, pv3⟩, pv4, pv5, pv6, pv7, pv8⟩ := BV.out.four
    obtain ⟨⟨ph0, ph1, ph2, ph3⟩, ph4, ph5, ph6, ph7, ph8⟩ := BH.out.four
    refine hK.out _ _ (fun _ => ?_) ?_
    ·exact ⟨pa0, pa1, pa2, pa3, pa4, pv0, pv1, pv2, pv3, ph0, ph1, ph2, ph3⟩
    clear hK K
    try simp only [PT]
    refine wpT_one 3 rfl (by kernel_rfl) (fun K hK => ?_)
    go_simp
    refine (fdiv_calls _ _ q t 6000 21 _ HQ3.out HF4.out BQ.out HFB.out (by omega) HNE.out).mono ?_
    rintro e w5 ⟨v5, rfl, hn, hf⟩
    rw [HX1.out] at hf
    clear HF4 HQ3
    have HF5 := Lib.hid hf
    clear hf
    clear pa0 pa1 pa2 pa3 pa4 pa5
    clear pv0 pv1 pv2 pv3 pv4 pv5 pv6 pv7 pv8 ph0 ph1 ph2 ph3 ph4 ph5 ph6 ph7 ph8
    replace BA := Lib.hid (BA.out.new hn)
    replace BV := Lib.hid (BV.out.new hn)
    replace BH := Lib.hid (BH.out.new hn)
    replace HF2 := Lib.hid (HF2.out.new hn)
    replace BN := Lib.hid (BN.out.new hn)
    replace HN := Lib.hid (HN.out.trans hn)
    clear hn
    obtain ⟨⟨pa0, pa1, pa2, pa3, pa4⟩, pa5⟩ := BA.out.five
    obtain ⟨⟨pv0, pv1, pv2, pv3⟩, pv4, pv5, pv6, pv7, pv8⟩ := BV.out.four
    obtain ⟨⟨ph0, ph1, ph2, ph3⟩, ph4, ph5, ph6, ph7, ph8⟩ := BH.out.four
    refine hK.out _ _ (fun _ => ?_) ?_
    ·exact ⟨pa0, pa1, pa2, pa3, pa4, pv0, pv1, pv2, pv3, ph0, ph1, ph2, ph3⟩
    clear hK K
    try simp only [PT]
    refine wpT_one 6 rfl (by kernel_rfl) (fun K hK => ?_)
    go_simp
    refine (f_calls z _ (by have := HZ1.out; omega) (by have := HZ2.out; have := HTP1.out.2; omega)).mono ?_
    rintro e w6 ⟨v6, rfl, hn, hf⟩
    have HF6 := Lib.hid hf
    clear hf
    clear pa0 pa1 pa2 pa3 pa4 pa5
    clear pv0 pv1 pv2 pv3 pv4 pv5 pv6 pv7 pv8 ph0 ph1 ph2 ph3 ph4 ph5 ph6 ph7 ph8
    replace BA := Lib.hid (BA.out.new hn)
    replace BV := Lib.hid (BV.out.new hn)
    replace BH := Lib.hid (BH.out.new hn)
    replace HF2 := Lib.hid (HF2.out.new hn)
    replace BN := Lib.hid (BN.out.new hn)
    replace HF5 := Lib.hid (HF5.out.new hn)
    replace HN := Lib.hid (HN.out.trans hn)
    clear hn
    obtain ⟨⟨pa0, pa1, pa2, pa3, pa4⟩, pa5⟩ := BA.out.five
    obtain ⟨⟨pv0, pv1, pv2, pv3⟩, pv4, pv5, pv6, pv7, pv8⟩ := BV.out.four
    obtain ⟨⟨ph0, ph1, ph2, ph3⟩, ph4, ph5, ph6, ph7, ph8⟩ := BH.out.four
    refine hK.out _ _ (fun _ => ?_) ?_
    ·exact ⟨pa0, pa1, pa2, pa3, pa4, pv0, pv1, pv2, pv3, ph0, ph1, ph2, ph3⟩
    clear hK K
    try simp only [PT]
    refine wpT_one 7 rfl (by kernel_rfl) (fun K hK => ?_)
    go_simp
    refine (fadd_calls _ _ x1 (z : Rat) 6021 13 _ HF5.out HF6.out BX1.out BZ.out (by omega)).mono ?_
    rintro e w7 ⟨v7, rfl, hn, hf⟩
    rw [HX2.out] at hf
    clear HF5 HF6
    have HF7 := Lib.hid hf
    clear hf
    clear pa0 pa1 pa2 pa3 pa4 pa5
    clear pv0 pv1 pv2 pv3 pv4 pv5 pv6 pv7 pv8 ph0 ph1 ph2 ph3 ph4 ph5 ph6 ph7 ph8
    replace BA := Lib.hid (BA.out.new hn)
    replace BV := Lib.hid (BV.out.new hn)
    replace BH := Lib.hid (BH.out.new hn)
    replace HF2 := Lib.hid (HF2.out.new hn)
    replace BN := Lib.hid (BN.out.new hn)
    replace HN := Lib.hid (HN.out.trans hn)
    clear hn
    obtain ⟨⟨pa0, pa1, pa2, pa3, pa4⟩, pa5⟩ := BA.out.five
    obtain ⟨⟨pv0, pv1, pv2, pv3⟩, pv4, pv5, pv6, pv7, pv8⟩ := BV.out.four
    obtain ⟨⟨ph0, ph1, ph2, ph3⟩, ph4, ph5, ph6, ph7, ph8⟩ := BH.out.four
    refine hK.out _ _ (fun _ => ?_) ?_
    ·exact ⟨pa0, pa1, pa2, pa3, pa4, pv0, pv1, pv2, pv3, ph0, ph1, ph2, ph3⟩
    clear hK K
    try simp only [PT]
    refine wpT_one 9 rfl (by kernel_rfl) (fun K hK => ?_)
    go_simp
    refine (fadd_calls _ _ x2 hf2 6035 2 _ HF7.out HF2.out BX2.out BDH.out (by omega)).mono ?_
    rintro e w8 ⟨v8, rfl, hn, hf⟩
    rw [HX3.out] at hf
    clear HF7 HF2
    have HF8 := Lib.hid hf
    clear hf
    clear pa0 pa1 pa2 pa3 pa4 pa5
    clear pv0 pv1 pv2 pv3 pv4 pv5 pv6 pv7 pv8 ph0 ph1 ph2 ph3 ph4 ph5 ph6 ph7 ph8
    replace BA := Lib.hid (BA.out.new hn)
    replace BV := Lib.hid (BV.out.new hn)
    replace BH := Lib.hid (BH.out.new hn)
    replace BN := Lib.hid (BN.out.new hn)
    replace HN := Lib.hid (HN.out.trans hn)
    clear hn
    obtain ⟨⟨pa0, pa1, pa2, pa3, pa4⟩, pa5⟩ := BA.out.five
    obtain ⟨⟨pv0, pv1, pv2, pv3⟩, pv4, pv5, pv6, pv7, pv8⟩ := BV.out.four
    obtain ⟨⟨ph0, ph1, ph2, ph3⟩, ph4, ph5, ph6, ph7, ph8⟩ := BH.out.four
    refine hK.out _ _ (fun _ => ?_) ?_
    ·exact ⟨pa0, pa1, pa2, pa3, pa4, pv0, pv1, pv2, pv3, ph0, ph1, ph2, ph3⟩
    clear hK K
    try simp only [PT]
    refine wpT_one 10 rfl (by kernel_rfl) (fun K hK => ?_)
    go_simp
    refine (floor_calls _ x3 6038 _ HF8.out BX3.out (by omega)).mono ?_
    rintro e w9 ⟨v9, rfl, hn, hf⟩
    rw [HN1.out] at hf
    clear HF8
    have HF9 := Lib.hid hf
    clear hf
    clear pa0 pa1 pa2 pa3 pa4 pa5
    clear pv0 pv1 pv2 pv3 pv4 pv5 pv6 pv7 pv8 ph0 ph1 ph2 ph3 ph4 ph5 ph6 ph7 ph8
    replace BA := Lib.hid (BA.out.new hn)
    replace BV := Lib.hid (BV.out.new hn)
    replace BH := Lib.hid (BH.out.new hn)
    replace BN := Lib.hid (BN.out.new hn)
    replace HN := Lib.hid (HN.out.trans hn)
    clear hn
    obtain ⟨⟨pa0, pa1, pa2, pa3, pa4⟩, pa5⟩ := BA.out.five
    obtain ⟨⟨pv0, pv1, pv2, pv3⟩, pv4, pv5, pv6, pv7, pv8⟩ := BV.out.four
    obtain ⟨⟨ph0, ph1, ph2, ph3⟩, ph4, ph5, ph6, ph7, ph8⟩ := BH.out.four
    refine hK.out _ _ (fun _ => ?_) ?_
    ·exact ⟨pa0, pa1, pa2, pa3, pa4, pv0, pv1, pv2, pv3, ph0, ph1, ph2, ph3⟩
    clear hK K
    try simp only [PT]
    refine wpT_one 11 rfl (by kernel_rfl) (fun K hK => ?_)
    go_simp
    refine (whole_calls _ n _ HF9.out).mono ?_
    rintro e w10 ⟨v10, rfl, hn, hf⟩
    clear HF9
    obtain ⟨s9, a9, l9, k9, t9, b9, m9, n9, rfl⟩ := hf.shape
    have HF10 := Lib.hid hf
    clear hf
    clear pa0 pa1 pa2 pa3 pa4 pa5
    clear pv0 pv1 pv2 pv3 pv4 pv5 pv6 pv7 pv8 ph0 ph1 ph2 ph3 ph4 ph5 ph6 ph7 ph8
    replace BA := Lib.hid (BA.out.new hn)
    replace BV := Lib.hid (BV.out.new hn)
    replace BH := Lib.hid (BH.out.new hn)
    replace BN := Lib.hid (BN.out.new hn)
    replace HN := Lib.hid (HN.out.trans hn)
    clear hn
    obtain ⟨⟨pa0, pa1, pa2, pa3, pa4⟩, pa5⟩ := BA.out.five
    obtain ⟨⟨pv0, pv1, pv2, pv3⟩, pv4, pv5, pv6, pv7, pv8⟩ := BV.out.four
    obtain ⟨⟨ph0, ph1, ph2, ph3⟩, ph4, ph5, ph6, ph7, ph8⟩ := BH.out.four
    refine hK.out _ _ (fun _ => ?_) ?_
    ·exact ⟨pa0, pa1, pa2, pa3, pa4, pv0, pv1, pv2, pv3, ph0, ph1, ph2, ph3⟩
    clear hK K
    try simp only [PT]
    refine wpT_tail rfl (by kernel_rfl) ?_
    simp only [List.drop_succ_cons, List.drop_zero]
    obtain ⟨⟨pn0, pn1, pn2, pn3⟩, pn4, pn5, pn6, pn7, pn8⟩ := BN.out.four
    go_wp2_with fail
    go_meet
    have hle := LBN.out
    have hlt := MBN.out
    exact ⟨_, _, _, _, _, _, _, _, _, rfl, HN.out.put4 (by omega) _ _ _ _, BA.out.other4 (by omega) _ _ _ _, BN.out.put4 _ _ _ _, HF10.out.put4 BN.out _ _ _ _ _ _ _ _⟩
  ·skip
   go_simp
   clear pa0 pa1 pa2 pa3 pa4 pa5
   clear pv0 pv1 pv2 pv3 pv4 pv5 pv6 pv7 pv8 ph0 ph1 ph2 ph3 ph4 ph5 ph6 ph7 ph8
   have LBN := Lib.hid (HN.out.size)
   have MBN := Lib.hid (BA.out.lt)
   replace BA := Lib.hid (BA.out.new ((New.refl wdr).alloc (.cells #[.int .i64 0, .slice none 0 0, .int .i64 0, .slice none 0 0] 140)))
   replace BV := Lib.hid (BV.out.new ((New.refl wdr).alloc (.cells #[.int .i64 0, .slice none 0 0, .int .i64 0, .slice none 0 0] 140)))
   replace BH := Lib.hid (BH.out.new ((New.refl wdr).alloc (.cells #[.int .i64 0, .slice none 0 0, .int .i64 0, .slice none 0 0] 140)))
   replace HQ3 := Lib.hid (HQ3.out.new ((New.refl wdr).alloc (.cells #[.int .i64 0, .slice none 0 0, .int .i64 0, .slice none 0 0] 140)))
   replace HF2 := Lib.hid (HF2.out.new ((New.refl wdr).alloc (.cells #[.int .i64 0, .slice none 0 0, .int .i64 0, .slice none 0 0] 140)))
   have BN := Lib.hid (Box.alloc wdr wdr.heap.size 140 #[.int .i64 0, .slice none 0 0, .int .i64 0, .slice none 0 0] rfl)
   replace HN := Lib.hid (HN.out.alloc (.cells #[.int .i64 0, .slice none 0 0, .int .i64 0, .slice none 0 0] 140))
   obtain ⟨wa1, hwa⟩ : ∃ x, wdr.alloc (.cells #[.int .i64 0, .slice none 0 0, .int .i64 0, .slice none 0 0] 140) = x := ⟨_, rfl⟩
   rw [hwa] at HN BA BV BH HQ3 HF2 BN ⊢
   clear hwa
   obtain ⟨⟨pa0, pa1, pa2, pa3, pa4⟩, pa5⟩ := BA.out.five
   obtain ⟨⟨pv0, pv1, pv2, pv3⟩, pv4, pv5, pv6, pv7, pv8⟩ := BV.out.four
   obtain ⟨⟨ph0, ph1, ph2, ph3⟩, ph4, ph5, ph6, ph7, ph8⟩ := BH.out.four
   refine hK.out _ _ (fun _ => ?_) ?_
   ·exact ⟨pa0, pa1, pa2, pa3, pa4, pv0, pv1, pv2, pv3, ph0, ph1, ph2, ph3⟩
   clear hK K
   try simp only [PT]
   refine wpT_one 2 rfl (by kernel_rfl) (fun K hK => ?_)
   go_simp
   refine (HST.out _).mono ?_
   rintro e w4 ⟨v4, rfl, hn, hf⟩
   have HF4 := Lib.hid hf
   clear hf
   clear pa0 pa1 pa2 pa3 pa4 pa5
   clear pv0 pv1 pv2 pv3 pv4 pv5 pv6 pv7 pv8 ph0 ph1 ph2 ph3 ph4 ph5 ph6 ph7 ph8
   replace BA := Lib.hid (BA.out.new hn)
   replace BV := Lib.hid (BV.out.new hn)
   replace BH := Lib.hid (BH.out.new hn)
   replace HQ3 := Lib.hid (HQ3.out.new hn)
   replace HF2 := Lib.hid (HF2.out.new hn)
   replace BN := Lib.hid (BN.out.new hn)
   replace HN := Lib.hid (HN.out.trans hn)
   clear hn
   obtain ⟨⟨pa0, pa1, pa2, pa3, pa4⟩, pa5⟩ := BA.out.five
   obtain ⟨⟨pv0, pv1, pv2, pv3⟩, pv4, pv5, pv6, pv7, pv8⟩ := BV.out.four
   obtain ⟨⟨ph0, ph1, ph2, ph3⟩, ph4, ph5, ph6, ph7, ph8⟩ := BH.out.four
   refine hK.out _ _ (fun _ => ?_) ?_
   ·exact ⟨pa0, pa1, pa2, pa3, pa4, pv0, pv1, pv2, pv3, ph0, ph1, ph2, ph3⟩
   clear hK K
   try simp only [PT]
   refine wpT_one 3 rfl (by kernel_rfl) (fun K hK => ?_)
   go_simp
   refine (fdiv_calls _ _ q t 6000 21 _ HQ3.out HF4.out BQ.out HFB.out (by omega) HNE.out).mono ?_
   rintro e w5 ⟨v5, rfl, hn, hf⟩
   rw [HX1.out] at hf
   clear HF4 HQ3
   have HF5 := Lib.hid hf
   clear hf
   clear pa0 pa1 pa2 pa3 pa4 pa5
   clear pv0 pv1 pv2 pv3 pv4 pv5 pv6 pv7 pv8 ph0 ph1 ph2 ph3 ph4 ph5 ph6 ph7 ph8
   replace BA := Lib.hid (BA.out.new hn)
   replace BV := Lib.hid (BV.out.new hn)
   replace BH := Lib.hid (BH.out.new hn)
   replace HF2 := Lib.hid (HF2.out.new hn)
   replace BN := Lib.hid (BN.out.new hn)
   replace HN := Lib.hid (HN.out.trans hn)
   clear hn
   obtain ⟨⟨pa0, pa1, pa2, pa3, pa4⟩, pa5⟩ := BA.out.five
   obtain ⟨⟨pv0, pv1, pv2, pv3⟩, pv4, pv5, pv6, pv7, pv8⟩ := BV.out.four
   obtain ⟨⟨ph0, ph1, ph2, ph3⟩, ph4, ph5, ph6, ph7, ph8⟩ := BH.out.four
   refine hK.out _ _ (fun _ => ?_) ?_
   ·exact ⟨pa0, pa1, pa2, pa3, pa4, pv0, pv1, pv2, pv3, ph0, ph1, ph2, ph3⟩
   clear hK K
   try simp only [PT]
   refine wpT_one 6 rfl (by kernel_rfl) (fun K hK => ?_)
   go_simp
   refine (f_calls z _ (by have := HZ1.out; omega) (by have := HZ2.out; have := HTP1.out.2; omega)).mono ?_
   rintro e w6 ⟨v6, rfl, hn, hf⟩
   have HF6 := Lib.hid hf
   clear hf
   clear pa0 pa1 pa2 pa3 pa4 pa5
   clear pv0 pv1 pv2 pv3 pv4 pv5 pv6 pv7 pv8 ph0 ph1 ph2 ph3 ph4 ph5 ph6 ph7 ph8
   replace BA := Lib.hid (BA.out.new hn)
   replace BV := Lib.hid (BV.out.new hn)
   replace BH := Lib.hid (BH.out.new hn)
   replace HF2 := Lib.hid (HF2.out.new hn)
   replace BN := Lib.hid (BN.out.new hn)
   replace HF5 := Lib.hid (HF5.out.new hn)
   replace HN := Lib.hid (HN.out.trans hn)
   clear hn
   obtain ⟨⟨pa0, pa1, pa2, pa3, pa4⟩, pa5⟩ := BA.out.five
   obtain ⟨⟨pv0, pv1, pv2, pv3⟩, pv4, pv5, pv6, pv7, pv8⟩ := BV.out.four
   obtain ⟨⟨ph0, ph1, ph2, ph3⟩, ph4, ph5, ph6, ph7, ph8⟩ := BH.out.four
   refine hK.out _ _ (fun _ => ?_) ?_
   ·exact ⟨pa0, pa1, pa2, pa3, pa4, pv0, pv1, pv2, pv3, ph0, ph1, ph2, ph3⟩
   clear hK K
   try simp only [PT]
   refine wpT_one 7 rfl (by kernel_rfl) (fun K hK => ?_)
   go_simp
   refine (fadd_calls _ _ x1 (z : Rat) 6021 13 _ HF5.out HF6.out BX1.out BZ.out (by omega)).mono ?_
   rintro e w7 ⟨v7, rfl, hn, hf⟩
   rw [HX2.out] at hf
   clear HF5 HF6
   have HF7 := Lib.hid hf
   clear hf
   clear pa0 pa1 pa2 pa3 pa4 pa5
   clear pv0 pv1 pv2 pv3 pv4 pv5 pv6 pv7 pv8 ph0 ph1 ph2 ph3 ph4 ph5 ph6 ph7 ph8
   replace BA := Lib.hid (BA.out.new hn)
   replace BV := Lib.hid (BV.out.new hn)
   replace BH := Lib.hid (BH.out.new hn)
   replace HF2 := Lib.hid (HF2.out.new hn)
   replace BN := Lib.hid (BN.out.new hn)
   replace HN := Lib.hid (HN.out.trans hn)
   clear hn
   obtain ⟨⟨pa0, pa1, pa2, pa3, pa4⟩, pa5⟩ := BA.out.five
   obtain ⟨⟨pv0, pv1, pv2, pv3⟩, pv4, pv5, pv6, pv7, pv8⟩ := BV.out.four
   obtain ⟨⟨ph0, ph1, ph2, ph3⟩, ph4, ph5, ph6, ph7, ph8⟩ := BH.out.four
   refine hK.out _ _ (fun _ => ?_) ?_
   ·exact ⟨pa0, pa1, pa2, pa3, pa4, pv0, pv1, pv2, pv3, ph0, ph1, ph2, ph3⟩
   clear hK K
   try simp only [PT]
   refine wpT_one 9 rfl (by kernel_rfl) (fun K hK => ?_)
   go_simp
   refine (fadd_calls _ _ x2 hf2 6035 2 _ HF7.out HF2.out BX2.out BDH.out (by omega)).mono ?_
   rintro e w8 ⟨v8, rfl, hn, hf⟩
   rw [HX3.out] at hf
   clear HF7 HF2
   have HF8 := Lib.hid hf
   clear hf
   clear pa0 pa1 pa2 pa3 pa4 pa5
   clear pv0 pv1 pv2 pv3 pv4 pv5 pv6 pv7 pv8 ph0 ph1 ph2 ph3 ph4 ph5 ph6 ph7 ph8
   replace BA := Lib.hid (BA.out.new hn)
   replace BV := Lib.hid (BV.out.new hn)
   replace BH := Lib.hid (BH.out.new hn)
   replace BN := Lib.hid (BN.out.new hn)
   replace HN := Lib.hid (HN.out.trans hn)
   clear hn
   obtain ⟨⟨pa0, pa1, pa2, pa3, pa4⟩, pa5⟩ := BA.out.five
   obtain ⟨⟨pv0, pv1, pv2, pv3⟩, pv4, pv5, pv6, pv7, pv8⟩ := BV.out.four
   obtain ⟨⟨ph0, ph1, ph2, ph3⟩, ph4, ph5, ph6, ph7, ph8⟩ := BH.out.four
   refine hK.out _ _ (fun _ => ?_) ?_
   ·exact ⟨pa0, pa1, pa2, pa3, pa4, pv0, pv1, pv2, pv3, ph0, ph1, ph2, ph3⟩
   clear hK K
   try simp only [PT]
   refine wpT_one 10 rfl (by kernel_rfl) (fun K hK => ?_)
   go_simp
   refine (floor_calls _ x3 6038 _ HF8.out BX3.out (by omega)).mono ?_
   rintro e w9 ⟨v9, rfl, hn, hf⟩
   rw [HN1.out] at hf
   clear HF8
   have HF9 := Lib.hid hf
   clear hf
   clear pa0 pa1 pa2 pa3 pa4 pa5
   clear pv0 pv1 pv2 pv3 pv4 pv5 pv6 pv7 pv8 ph0 ph1 ph2 ph3 ph4 ph5 ph6 ph7 ph8
   replace BA := Lib.hid (BA.out.new hn)
   replace BV := Lib.hid (BV.out.new hn)
   replace BH := Lib.hid (BH.out.new hn)
   replace BN := Lib.hid (BN.out.new hn)
   replace HN := Lib.hid (HN.out.trans hn)
   clear hn
   obtain ⟨⟨pa0, pa1, pa2, pa3, pa4⟩, pa5⟩ := BA.out.five
   obtain ⟨⟨pv0, pv1, pv2, pv3⟩, pv4, pv5, pv6, pv7, pv8⟩ := BV.out.four
   obtain ⟨⟨ph0, ph1, ph2, ph3⟩, ph4, ph5, ph6, ph7, ph8⟩ := BH.out.four
   refine hK.out _ _ (fun _ => ?_) ?_
   ·exact ⟨pa0, pa1, pa2, pa3, pa4, pv0, pv1, pv2, pv3, ph0, ph1, ph2, ph3⟩
   clear hK K
   try simp only [PT]
   refine wpT_one 11 rfl (by kernel_rfl) (fun K hK => ?_)
   go_simp
   refine (whole_calls _ n _ HF9.out).mono ?_
   rintro e w10 ⟨v10, rfl, hn, hf⟩
   clear HF9
   obtain ⟨s9, a9, l9, k9, t9, b9, m9, n9, rfl⟩ := hf.shape
   have HF10 := Lib.hid hf
   clear hf
   clear pa0 pa1 pa2 pa3 pa4 pa5
   clear pv0 pv1 pv2 pv3 pv4 pv5 pv6 pv7 pv8 ph0 ph1 ph2 ph3 ph4 ph5 ph6 ph7 ph8
   replace BA := Lib.hid (BA.out.new hn)
   replace BV := Lib.hid (BV.out.new hn)
   replace BH := Lib.hid (BH.out.new hn)
   replace BN := Lib.hid (BN.out.new hn)
   replace HN := Lib.hid (HN.out.trans hn)
   clear hn
   obtain ⟨⟨pa0, pa1, pa2, pa3, pa4⟩, pa5⟩ := BA.out.five
   obtain ⟨⟨pv0, pv1, pv2, pv3⟩, pv4, pv5, pv6, pv7, pv8⟩ := BV.out.four
   obtain ⟨⟨ph0, ph1, ph2, ph3⟩, ph4, ph5, ph6, ph7, ph8⟩ := BH.out.four
   refine hK.out _ _ (fun _ => ?_) ?_
   ·exact ⟨pa0, pa1, pa2, pa3, pa4, pv0, pv1, pv2, pv3, ph0, ph1, ph2, ph3⟩
   clear hK K
   try simp only [PT]
   refine wpT_tail rfl (by kernel_rfl) ?_
   simp only [List.drop_succ_cons, List.drop_zero]
   obtain ⟨⟨pn0, pn1, pn2, pn3⟩, pn4, pn5, pn6, pn7, pn8⟩ := BN.out.four
   go_wp2_with fail
   go_meet
   have hle := LBN.out
   have hlt := MBN.out
   exact ⟨_, _, _, _, _, _, _, _, _, rfl, HN.out.put4 (by omega) _ _ _ _, BA.out.other4 (by omega) _ _ _ _, BN.out.put4 _ _ _ _, HF10.out.put4 BN.out _ _ _ _ _ _ _ _⟩
 case rest =>
  obtain ⟨B, s9, a9, l9, k9, t9, b9, m9, n9, rfl, hn, hba, hbn, hf⟩ := hcut
  clear HN BA BV BH HQ3 HF2
  have HN := Lib.hid hn
  have BA := Lib.hid hba
  have BN := Lib.hid hbn
  have HF := Lib.hid hf
  clear hn hba hbn hf
  obtain ⟨sg, hsg⟩ : ∃ sg, n.sign = sg := ⟨_, rfl⟩
  have hsg2 : ((n : Rat)).num.sign = sg := by rw [Rat.num_intCast]; exact hsg
  have HSG2 := Lib.hid hsg2
  clear hsg2
  go_step
  obtain ⟨⟨p0, p1, p2, p3⟩, p4, p5, p6, p7, p8⟩ := BN.out.four
  go_wp2_with fail
  refine (fsign_calls _ _ _ HF.out).mono ?_
  rintro e w4 ⟨rfl, hn⟩
  rw [HSG2.out]
  clear p0 p1 p2 p3 p4 p5 p6 p7 p8
  replace BA := Lib.hid (BA.out.new hn)
  replace BN := Lib.hid (BN.out.new hn)
  replace HF := Lib.hid (HF.out.new hn)
  replace HN := Lib.hid (HN.out.trans hn)
  clear hn
  by_cases h0 : n < 0
  ·have hs : sg < 0 := by rw [← hsg]; exact Int.sign_neg_iff.2 h0
   have hp : pr = (0, -1) := by rw [← HPR.out]; unfold clipC; rw [if_pos h0]
   have H0 := Lib.hid h0
   have HSG := Lib.hid hsg
   have HP := Lib.hid hp
   clear h0 hsg hp
   go_wp2_with fail
   go_ret2
   exact ⟨by rw [HP.out]; rfl, HN.out⟩
  ·have hs : ¬ sg < 0 := by rw [← hsg]; intro h; exact h0 (Int.sign_neg_iff.1 h)
   obtain ⟨sc, hsc⟩ : ∃ sc, (crossed (n : Rat) (tp : Rat)).sign = sc := ⟨_, rfl⟩
   have hpos : (0 < sc) ↔ tp < n := by
    rw [← hsc, crossed_pos]
    exact Rat.intCast_lt_intCast
   have bt : FB 13 (tp : Rat) := FB.int (by unfold BdK; exact Nat.lt_of_le_of_lt (show tp.natAbs ≤ 4095 by have := HTP1.out; omega) (by decide)) (by omega)
   have H0 := Lib.hid h0
   have HSG := Lib.hid hsg
   have HSC := Lib.hid hsc
   have BT := Lib.hid bt
   have HPOS := Lib.hid hpos
   clear h0 hsg hsc bt hpos
   go_wp2_with fail
   obtain ⟨⟨p0, p1, p2, p3⟩, p4, p5, p6, p7, p8⟩ := BN.out.four
   obtain ⟨⟨pa0, pa1, pa2, pa3, pa4⟩, pa5⟩ := BA.out.five
   refine wp_region_T 6 (fun W => W.cell? ⟨w.heap.size, 0, none⟩ = some (.int .i64 b) ∧ W.cell? ⟨w.heap.size, 1, none⟩ = some (.int .i64 s) ∧ W.cell? ⟨w.heap.size, 2, none⟩ = some (.int .i64 z) ∧ W.cell? ⟨w.heap.size, 3, none⟩ = some (.string g) ∧ W.cell? ⟨w.heap.size, 4, none⟩ = some (.string o) ∧ W.cell? ⟨B, 0, none⟩ = some (.int .i64 s9) ∧ W.cell? ⟨B, 1, none⟩ = some (.slice a9 l9 k9) ∧ W.cell? ⟨B, 2, none⟩ = some (.int .i64 t9) ∧ W.cell? ⟨B, 3, none⟩ = some (.slice b9 m9 n9)) 7 #[false, false, false, false, false, false, false] rfl (by kernel_rfl) (by kernel_rfl) ?_
   refine wpT_take 0 (v := ?_) rfl (by kernel_rfl) (fun _ _ _ h => h) (by exact ⟨pa0, pa1, pa2, pa3, pa4, p0, p1, p2, p3⟩) (Or.inl ⟨by first | kernel_rfl | rfl, ?_⟩) ?_
   rotate_left
   ·(intro W hW; (try dsimp only at hW); go_simp; try with_reducible rfl)
   try simp only [PT]
   refine wpT_take 1 (v := ?_) rfl (by kernel_rfl) (fun _ _ _ h => h) (by exact ⟨pa0, pa1, pa2, pa3, pa4, p0, p1, p2, p3⟩) (Or.inl ⟨by first | kernel_rfl | rfl, ?_⟩) ?_
   rotate_left
   ·(intro W hW; (try dsimp only at hW); go_simp; try with_reducible rfl)
   try simp only [PT]
   refine wpT_one 2 rfl (by kernel_rfl) (fun K hK => ?_)
   go_simp
   refine (top_calls b s z g o _ HLO.out HHI.out).mono ?_
   rintro e w5 ⟨rfl, hn⟩
   rw [HTP.out]
   have hn := hn.undrew
   clear p0 p1 p2 p3 p4 p5 p6 p7 p8
   clear pa0 pa1 pa2 pa3 pa4 pa5
   replace BA := Lib.hid (BA.out.new hn)
   replace BN := Lib.hid (BN.out.new hn)
   replace HF := Lib.hid (HF.out.new hn)
   replace HN := Lib.hid (HN.out.trans hn)
   clear hn
   obtain ⟨⟨p0, p1, p2, p3⟩, p4, p5, p6, p7, p8⟩ := BN.out.four
   obtain ⟨⟨pa0, pa1, pa2, pa3, pa4⟩, pa5⟩ := BA.out.five
   refine hK.out _ _ (fun _ => ?_) ?_
   ·exact ⟨pa0, pa1, pa2, pa3, pa4, p0, p1, p2, p3⟩
   clear hK K
   try simp only [PT]
   refine wpT_one 3 rfl (by kernel_rfl) (fun K hK => ?_)
   go_simp
   refine (f_calls tp _ (by have := HTP1.out; omega) (by have := HTP1.out; omega)).mono ?_
   rintro e w6 ⟨v6, rfl, hn, hf⟩
   have HF6 := Lib.hid hf
   clear hf
   clear p0 p1 p2 p3 p4 p5 p6 p7 p8
   clear pa0 pa1 pa2 pa3 pa4 pa5
   replace BA := Lib.hid (BA.out.new hn)
   replace BN := Lib.hid (BN.out.new hn)
   replace HF := Lib.hid (HF.out.new hn)
   replace HN := Lib.hid (HN.out.trans hn)
   clear hn
   obtain ⟨⟨p0, p1, p2, p3⟩, p4, p5, p6, p7, p8⟩ := BN.out.four
   obtain ⟨⟨pa0, pa1, pa2, pa3, pa4⟩, pa5⟩ := BA.out.five
   refine hK.out _ _ (fun _ => ?_) ?_
   ·exact ⟨pa0, pa1, pa2, pa3, pa4, p0, p1, p2, p3⟩
   clear hK K
   try simp only [PT]
   refine wpT_one 4 rfl (by kernel_rfl) (fun K hK => ?_)
   go_simp
   refine (fcmp_calls _ _ (n : Rat) (tp : Rat) 6040 13 _ HF.out HF6.out HNB.out BT.out (by omega)).mono ?_
   rintro e w7 ⟨rfl, hn⟩
   rw [HSC.out]
   clear HF6
   clear p0 p1 p2 p3 p4 p5 p6 p7 p8
   clear pa0 pa1 pa2 pa3 pa4 pa5
   replace BA := Lib.hid (BA.out.new hn)
   replace BN := Lib.hid (BN.out.new hn)
   replace HF := Lib.hid (HF.out.new hn)
   replace HN := Lib.hid (HN.out.trans hn)
   clear hn
   obtain ⟨⟨p0, p1, p2, p3⟩, p4, p5, p6, p7, p8⟩ := BN.out.four
   obtain ⟨⟨pa0, pa1, pa2, pa3, pa4⟩, pa5⟩ := BA.out.five
   refine hK.out _ _ (fun _ => ?_) ?_
   ·exact ⟨pa0, pa1, pa2, pa3, pa4, p0, p1, p2, p3⟩
   clear hK K
   try simp only [PT]
   refine wpT_take 5 (v := ?_) rfl (by kernel_rfl) (fun _ _ _ h => h) (by exact ⟨pa0, pa1, pa2, pa3, pa4, p0, p1, p2, p3⟩) (Or.inl ⟨by first | kernel_rfl | rfl, ?_⟩) ?_
   rotate_left
   ·(intro W hW; (try dsimp only at hW); go_simp; try with_reducible rfl)
   try simp only [PT]
   refine wpT_tail rfl (by kernel_rfl) ?_
   simp only [List.drop_succ_cons, List.drop_zero]
   by_cases h1 : tp < n
   ·have hs2 : 0 < sc := HPOS.out.2 h1
    have hp : pr = (tp, 1) := by rw [← HPR.out]; unfold clipC; rw [if_neg (show ¬ n < 0 by have := H0.out; omega), if_pos h1]
    have H1 := Lib.hid h1
    have HP := Lib.hid hp
    clear h1 hp
    go_wp2_with fail
    refine (top_calls b s z g o _ HLO.out HHI.out).mono ?_
    rintro e w8 ⟨rfl, hn⟩
    rw [HTP.out]
    clear p0 p1 p2 p3 p4 p5 p6 p7 p8
    clear pa0 pa1 pa2 pa3 pa4 pa5
    replace BA := Lib.hid (BA.out.new hn)
    replace BN := Lib.hid (BN.out.new hn)
    replace HF := Lib.hid (HF.out.new hn)
    replace HN := Lib.hid (HN.out.trans hn)
    clear hn
    go_wp2_with fail
    go_ret2
    exact ⟨by rw [HP.out]; rfl, HN.out⟩
   ·have hs2 : ¬ 0 < sc := fun h => h1 (HPOS.out.1 h)
    have hp : pr = (n, 0) := by rw [← HPR.out]; unfold clipC; rw [if_neg (show ¬ n < 0 by have := H0.out; omega), if_neg h1]
    have hsm : Sm n := Sm.of (by have := H0.out; omega) (by have := HTP1.out; omega)
    have H1 := Lib.hid h1
    have HSM := Lib.hid hsm
    have HP := Lib.hid hp
    clear h1 hsm hp
    go_wp2_with fail
    have hx := HF.out.parts.1
    rw [Rat.num_intCast] at hx
    refine (small_calls _ n _ hx HSM.out).mono ?_
    rintro e w8 ⟨rfl, hn⟩
    clear hx
    clear p0 p1 p2 p3 p4 p5 p6 p7 p8
    clear pa0 pa1 pa2 pa3 pa4 pa5
    replace BA := Lib.hid (BA.out.new hn)
    replace BN := Lib.hid (BN.out.new hn)
    replace HF := Lib.hid (HF.out.new hn)
    replace HN := Lib.hid (HN.out.trans hn)
    clear hn
    go_wp2_with fail
    go_ret2
    exact ⟨by rw [HP.out]; rfl, HN.out⟩
end Go.Proofs.YtlfnibjmkfldgaaGreatDoor
