/- Part A05. -/
import Derived.Deep.RegionHeld
import Derived.Test.YtlfnibjmkfldgaaGreatDoorA01
import Derived.Test.YtlfnibjmkfldgaaGreatDoorA04
namespace Go.Proofs.YtlfnibjmkfldgaaGreatDoor
open Big
structure Dv (W m k mq jj A V : Nat) (g o qf : Nat → Nat) : Prop where
 ol : ∀ i, o i < W
 ql : ∀ i, qf i < W
 val : vf W o (m + 1) + V * W ^ jj * vf W (fun i => qf (jj + i)) (mq - jj) = A
 low : vf W (fun i => o (jj + i)) (k + 2) < V
 z : ∀ i, jj + (k + 2) ≤ i → i < m + 1 → o i = 0
theorem vf_top0 {W : Nat} {h : Nat → Nat} {n : Nat} (h0 : h n = 0) : vf W h (n + 1) = vf W h n := by rw [vf_succ, h0, Nat.zero_mul, Nat.add_zero]
theorem shifted_any {W K M k B x : Nat} {g h : Nat → Nat} (hgl : ∀ i, i < k + 2 → g i < W) (hB : B = vf W g (k + 2)) (hx : g (k + 1) = x) (hM : 0 < M) (hK : 0 < K) (hn : K ≤ x * M) (h2 : (x + 1) * M ≤ W)
  (hl : ∀ j, h j < W) (hv : vf W h (k + 3) = B * M) :
  h (k + 2) = 0 ∧ h (k + 1) ≠ 0 ∧ vf W h (k + 2) = B * M ∧ K * W ^ (k + 1) ≤ B * M := by
 have h0 : vf W g (k + 1) < W ^ (k + 1) := vf_lt fun i hi => hgl i (by omega)
 have h1 : B = vf W g (k + 1) + x * W ^ (k + 1) := by rw [hB, vf_succ, hx]
 generalize hP : W ^ (k + 1) = P at h0 h1 ⊢
 have hP2 : W ^ (k + 2) = W * P := by rw [Nat.pow_succ, hP, Nat.mul_comm]
 have h3 : (B + 1) * M ≤ W * P := by
  have a : (B + 1) ≤ (x + 1) * P := by rw [Nat.add_mul, Nat.one_mul]; omega
  have b := Nat.mul_le_mul_right M a
  rw [Nat.mul_right_comm] at b
  exact Nat.le_trans b (Nat.mul_le_mul_right P h2)
 have h4 : K * P ≤ B * M := by
  have a : x * P ≤ B := by omega
  have b := Nat.mul_le_mul_right M a
  rw [Nat.mul_right_comm] at b
  exact Nat.le_trans (Nat.mul_le_mul_right P hn) b
 rw [Nat.add_mul, Nat.one_mul] at h3
 have h5 : h (k + 2) = 0 := by
  rcases Nat.eq_zero_or_pos (h (k + 2)) with h6 | h6
  ·exact h6
  ·exfalso
   rw [vf_succ, hP2] at hv
   have := Nat.le_mul_of_pos_left (W * P) h6
   omega
 have h7 : vf W h (k + 2) = B * M := by rw [← hv, ← vf_top0 h5]
 refine ⟨h5, fun h8 => ?_, h7, h4⟩
 have h7 : vf W h (k + 1) = B * M := by rw [← h7, ← vf_top0 h8]
 have h9 : vf W h (k + 1) < W ^ (k + 1) := vf_lt fun i _ => hl i
 rw [hP, h7] at h9
 have h10 := Nat.le_mul_of_pos_left P hK
 omega
theorem Dv.start {W m k mq A V M K : Nat} {f g o : Nat → Nat} (hW : 0 < W) (hMK : M ≤ K) (hM0 : 0 < M) (hm : m + 1 = mq + (k + 2)) (hfl : ∀ i, i < m → f i < W) (hA : A = vf W f m) (ho : ∀ i, o i < W) (hv : vf W o (m + 1) = A * M) (hV : K * W ^ (k + 1) ≤ V) :
  Dv W m k mq mq (A * M) V g o (fun _ => 0) := by
 refine ⟨ho, fun _ => hW, ?_, ?_, fun i h1 h2 => by omega⟩
 ·rw [Nat.sub_self, vf_zero, Nat.mul_zero, Nat.add_zero, hv]
 ·rcases Nat.lt_or_ge (vf W (fun i => o (mq + i)) (k + 2)) V with h | h
  ·exact h
  ·exfalso
   have h1 := vf_add W o mq (k + 2)
   rw [← hm, hv] at h1
   have h2 := Nat.mul_le_mul_left (W ^ mq) (Nat.le_trans hV h)
   rw [Nat.mul_left_comm, ← Nat.pow_add] at h2
   rw [show mq + (k + 1) = m by omega] at h2
   have h3 : vf W f m < W ^ m := vf_lt hfl
   rw [← hA] at h3
   have h4 : (A + 1) * M ≤ W ^ m * M := Nat.mul_le_mul_right _ h3
   have h5 : W ^ m * M ≤ W ^ m * K := Nat.mul_le_mul_left _ hMK
   rw [Nat.mul_comm (W ^ m) K] at h5
   rw [Nat.add_mul, Nat.one_mul] at h4
   generalize K * W ^ m = P at h2 h5
   omega
theorem vf_three {W : Nat} {f : Nat → Nat} {j n r : Nat} : vf W f (j + n + r) = vf W f j + W ^ j * vf W (fun i => f (j + i)) n + W ^ (j + n) * vf W (fun i => f (j + n + i)) r := by
 rw [vf_add, vf_add]
theorem Dv.step {W m k mq j A V q : Nat} {g o p qf : Nat → Nat} (D : Dv W m k mq (j + 1) A V g o qf) (hm : m + 1 = mq + (k + 2)) (hj : j < mq) (hVW : V ≤ W ^ (k + 2)) (hq : q < W) (hp : ∀ i, p i < W)
  (hout : ∀ i, (i < j ∨ j + k + 3 ≤ i) → p i = o i) (hval : vf W (fun i => p (j + i)) (k + 3) + q * V = vf W (fun i => o (j + i)) (k + 3)) (hlt : vf W (fun i => p (j + i)) (k + 3) < V) :
  Dv W m k mq j A V g p (upd qf j q) := by
 refine ⟨hp, upd_lt D.ql hq, ?_, ?_, ?_⟩
 ·obtain ⟨r, hr⟩ : ∃ r, m + 1 = j + (k + 3) + r := Nat.exists_eq_add_of_le (by omega)
  have h1 := D.val
  rw [hr, vf_three] at h1 ⊢
  have e1 : vf W p j = vf W o j := vf_congr fun i hi => hout i (Or.inl hi)
  have e2 : vf W (fun i => p (j + (k + 3) + i)) r = vf W (fun i => o (j + (k + 3) + i)) r := vf_congr fun i hi => hout _ (Or.inr (by omega))
  have e3 : vf W (fun i => upd qf j q (j + i)) (mq - j) = q + W * vf W (fun i => qf (j + 1 + i)) (mq - (j + 1)) := by
   rw [show mq - j = (mq - (j + 1)) + 1 by omega, vf_head]
   congr 1
   ·exact upd_same _ _ _
   ·congr 1
    exact vf_congr fun i _ => by rw [upd_other _ _ (by omega)]; congr 1; omega
  have h2 : W ^ j * (vf W (fun i => p (j + i)) (k + 3) + q * V) = W ^ j * vf W (fun i => o (j + i)) (k + 3) := by rw [hval]
  rw [Nat.mul_add] at h2
  rw [e1, e2, e3, ← h1, ← h2, Nat.mul_add, Nat.pow_succ]
  have h3 : W ^ j * (q * V) = V * W ^ j * q := by rw [Nat.mul_comm q, ← Nat.mul_assoc, Nat.mul_comm V]
  have h4 : V * W ^ j * (W * vf W (fun i => qf (j + 1 + i)) (mq - (j + 1))) = V * (W ^ j * W) * vf W (fun i => qf (j + 1 + i)) (mq - (j + 1)) := by
   simp only [Nat.mul_assoc]
  rw [h3, h4]
  omega
 ·refine Nat.lt_of_le_of_lt ?_ hlt
  rw [vf_succ]
  exact Nat.le_add_right _ _
 ·intro i h1 h2
  by_cases h3 : i = j + (k + 2)
  ·subst h3
   rcases Nat.eq_zero_or_pos (p (j + (k + 2))) with h4 | h4
   ·exact h4
   ·exfalso
    have h5 : vf W (fun i => p (j + i)) (k + 3) = vf W (fun i => p (j + i)) (k + 2) + p (j + (k + 2)) * W ^ (k + 2) := vf_succ _ _ _
    have h6 := Nat.mul_le_mul_right (W ^ (k + 2)) h4
    rw [Nat.succ_eq_add_one, Nat.zero_add, Nat.one_mul] at h6
    generalize W ^ (k + 2) = P at *
    omega
  ·rw [hout i (Or.inr (by omega))]
   exact D.z i (by omega) h2
theorem Dv.finish {W m k mq A V : Nat} {g o qf : Nat → Nat} (D : Dv W m k mq 0 A V g o qf) (hm : m + 1 = mq + (k + 2)) (hmq : 0 < mq) : o (k + 2) = 0 ∧ vf W o (k + 2) + V * vf W qf mq = A ∧ vf W o (k + 2) < V := by
 have h1 := D.val
 have h2 := D.low
 simp only [Nat.zero_add, Nat.sub_zero, Nat.pow_zero, Nat.mul_one] at h1 h2
 rw [vf_pad (m := k + 2) (by omega) fun i h3 h4 => D.z i (by omega) h4] at h1
 exact ⟨D.z _ (by omega) (by omega), h1, h2⟩
end Go.Proofs.YtlfnibjmkfldgaaGreatDoor
namespace Go.Proofs.YtlfnibjmkfldgaaGreatDoor
open Go.RowKit Big
theorem shifted_top {k s B x : Nat} {g h : Nat → Nat} (hgl : ∀ i, i < k + 2 → g i < W64) (hB : B = vf W64 g (k + 2)) (hx : g (k + 1) = x) (hs : s < 64) (hn : 2 ^ 63 ≤ x * 2 ^ s) (hlt : x * 2 ^ s < W64)
  (hl : ∀ j, h j < W64) (hv : vf W64 h (k + 3) = B * 2 ^ s) :
  h (k + 2) = 0 ∧ h (k + 1) ≠ 0 ∧ vf W64 h (k + 2) = B * 2 ^ s ∧ 2 ^ 63 * W64 ^ (k + 1) ≤ B * 2 ^ s := by
 have hx2 : x < 2 ^ (64 - s) := by
  rw [w64_split hs] at hlt
  exact Nat.lt_of_mul_lt_mul_right hlt
 have h2 : (x + 1) * 2 ^ s ≤ W64 := by rw [w64_split hs]; exact Nat.mul_le_mul_right _ hx2
 exact shifted_any hgl hB hx (Nat.pow_pos (by omega)) (by decide) hn h2 hl hv
theorem dv_startW {m k mq A V s : Nat} {f g o : Nat → Nat} (hs : s < 64) (hm : m + 1 = mq + (k + 2)) (hfl : ∀ i, i < m → f i < W64) (hA : A = vf W64 f m) (ho : ∀ i, o i < W64) (hv : vf W64 o (m + 1) = A * 2 ^ s) (hV : 2 ^ 63 * W64 ^ (k + 1) ≤ V) :
  Dv W64 m k mq mq (A * 2 ^ s) V g o (fun _ => 0) :=
 Dv.start (K := 2 ^ 63) (by decide) (Nat.pow_le_pow_right (by omega) (by omega)) (Nat.pow_pos (by omega)) hm hfl hA ho hv hV
end Go.Proofs.YtlfnibjmkfldgaaGreatDoor
namespace Go.Proofs.YtlfnibjmkfldgaaGreatDoor
open Go.RowKit Big
theorem Row.but {w w' : World} {b B : Nat} {t : TypeId} {k : IntKind} {n : Nat} {f : Nat → Nat} (h : Row w b t k n f) (hb : But B w w') (hne : b ≠ B) : Row w' b t k n f :=
 World.rowIs.of_block h (hb.block b h.lt (by intro e; injection e with e; exact hne e))
set_option maxRecDepth 100000 in
set_option maxHeartbeats 2000000 in
theorem divide_long (a b : Option Addr) (m k mq ca cb : Nat) (f g : Nat → Nat) (w : World) (hm : m ≤ 1000000) (hmq : m + 1 = mq + (k + 2)) (hmq0 : 0 < mq) (h1a : m ≤ ca) (h1b : ca ≤ 281474976710656) (h1c : a = none → ca = 0) (h2a : k + 2 ≤ cb) (h2b : cb ≤ 281474976710656) (h2c : b = none → cb = 0)
  (ha : Rd w a .u64 m f) (hb : Rd w b .u64 (k + 2) g) (cf : Canon W64 f m) (cg : Canon W64 g (k + 2)) (hge : vf W64 g (k + 2) ≤ vf W64 f m) :
  Calls Tryz.prog 152 #[.slice a m ca, .slice b (k + 2) cb] w (DivMod w (vf W64 f m) (vf W64 g (k + 2))) := by
 have hmk := fun W => run_make_row' (P := Tryz.prog) 136 191 (.int .u64 0) 8 Tryz.underlying136 info_u64 rfl .i64 .i64 mq (by omega) (by omega) W
 have emq : (mq : Int) = (m : Int) - ((k : Int) + 2) + 1 := by omega
 rw [emq] at hmk
 obtain ⟨r, hr0, hr⟩ : ∃ r : Int, 0 ≤ r ∧ cmpNat (vf W64 f m) (vf W64 g (k + 2)) = r := ⟨_, by unfold cmpNat; rw [if_neg (by omega)]; split <;> omega, rfl⟩
 have hkm : k + 2 ≤ m := by omega
 have HMQ := Lib.hid hmq
 have HMK := Lib.hid hmk
 have HRR := Lib.hid hr
 have hg0 : g (k + 1) ≠ 0 := cg.top (by omega)
 have hgt : g (k + 1) < W64 := cg.lt (k + 1) (by omega)
 have hr0' : ¬ r < 0 := by omega
 have hk1 : ((k : Int) + 2 == 1) = false := by simp; omega
 have CF := Lib.hid cf
 have CG := Lib.hid cg
 obtain ⟨s, hs, hn1, hn2, hlz⟩ := lz_calls (g (k + 1)) hgt hg0
 have HN1 := Lib.hid hn1
 have HN2 := Lib.hid hn2
 have HLZ := Lib.hid hlz
 clear hmq hmk hr hge cf cg hr0 hn1 hn2 hlz
 go_enter Tryz.func152, Tryz.ntmps152
 go_wp2_with fail
 refine (compareWords_calls _ (.slice b (k + 2) cb) m (k + 2) f g w ⟨a, ca, ⟨rfl, h1a, h1b, h1c⟩, ha, CF.out⟩ ⟨b, cb, ⟨rfl, h2a, h2b, h2c⟩, hb, CG.out⟩).mono ?_
 rintro e w1 ⟨hn, rfl⟩
 rw [HRR.out]
 have ha := ha.new hn
 have hb := hb.new hn
 have HN := Lib.hid hn
 clear hn
 obtain ⟨b2, o2, rfl, e2⟩ := hb (k + 1) (by omega)
 go_wp2_with fail
 clear e2
 refine (HLZ.out _).mono ?_
 rintro e w2 ⟨rfl, rfl⟩
 obtain ⟨B1, hB1⟩ : ∃ B, B = w1.heap.size := ⟨_, rfl⟩
 have hsb := shiftUp_any (some ⟨b2, o2, none⟩) (k + 2) cb s g w1 (by omega) hs hb CG.out.lt
 rw [← hB1] at hsb
 have HB1 := Lib.hid hB1
 clear hB1
 go_wp2_with fail
 refine hsb.mono ?_
 clear hsb
 rintro e w2 ⟨h1, rfl, hn2, hr2, hl2, hv2⟩
 obtain ⟨hz, hnz, hV, hKV⟩ := shifted_top CG.out.lt rfl rfl hs HN1.out HN2.out hl2 hv2
 have htl : trimLen h1 (k + 2 + 1) = k + 2 := by rw [trimLen, if_pos hz, trimLen, if_neg hnz]
 have HTL := Lib.hid htl
 have HNZ := Lib.hid hnz
 have HV := Lib.hid hV
 have HKV := Lib.hid hKV
 have HL2 := Lib.hid hl2
 clear hz hnz hV hKV hv2 htl hl2
 have ha := ha.new hn2
 have hB12 := hr2.lt
 obtain ⟨B2, hB2⟩ : ∃ B, B = w2.heap.size := ⟨_, rfl⟩
 have hsa := shiftUp_any a m ca s f w2 hm hs ha CF.out.lt
 rw [← hB2] at hsa
 have HB2 := Lib.hid hB2
 clear hB2
 have htr := trim_val (some ⟨B1, 0, none⟩) (k + 2 + 1) (k + 2 + 1) h1 w2 (Nat.le_refl _) (by omega) (by simp) hr2.rd
 have HTR := Lib.hid htr
 clear htr
 go_wp2_with fail
 refine HTR.out.mono ?_
 rintro e w3 ⟨rfl, rfl⟩
 rw [HTL.out]
 go_wp2_with fail
 refine hsa.mono ?_
 clear hsa
 rintro e w3 ⟨o, rfl, hn3, hr3, hol, hov⟩
 have hD := dv_startW (V := vf W64 g (k + 2) * 2 ^ s) (g := g) hs HMQ.out CF.out.lt rfl hol hov HKV.out
 have HD := Lib.hid hD
 clear hD hol hov
 have hr2 := hr2.new hn3
 have hB23 := hr3.lt
 have hnew := hn2.trans hn3
 clear hn2 hn3
 obtain ⟨B3, hB3⟩ : ∃ B, B = w3.heap.size := ⟨_, rfl⟩
 have HB3 := Lib.hid hB3
 have HNEW := Lib.hid hnew
 have hmk := HMK.out w3
 rw [← HB3.out] at hmk
 have hrow0 := Row.made w3 .u64 mq 191
 have hnew0 := hnew.alloc (.cells (madeCells #[.int .u64 0] mq) 191)
 have hr20 := hr2.alloc (.cells (madeCells #[.int .u64 0] mq) 191)
 have hr30 := hr3.alloc (.cells (madeCells #[.int .u64 0] mq) 191)
 rw [← hB3] at hrow0 hB23
 rw [← HB2.out] at hB12
 clear hB3 hnew hr2 hr3
 generalize w3.alloc (.cells (madeCells #[.int .u64 0] mq) 191) = w4 at hmk hrow0 hnew0 hr20 hr30
 have hq0 : Row w4 B3 191 .u64 mq fun _ => 0 := hrow0
 have HR1 := Lib.hid hr20
 have HR2 := Lib.hid hr30
 have HR3 := Lib.hid hq0
 have HNE := Lib.hid hnew0
 clear hr20 hr30 hq0 hnew0 hrow0 HNEW
 go_upto_block 2 with (fail)
 clear hmk
 go_cut [] (fun wx => ∃ (p qf : Nat → Nat), New w1 wx ∧ Row wx B2 191 .u64 (m + 1) p ∧ Row wx B3 191 .u64 mq qf ∧ (∀ i, p i < W64) ∧ (∀ i, qf i < W64) ∧ p (k + 2) = 0 ∧ vf W64 p (k + 2) + vf W64 g (k + 2) * 2 ^ s * vf W64 qf mq = vf W64 f m * 2 ^ s ∧ vf W64 p (k + 2) < vf W64 g (k + 2) * 2 ^ s)
 case first =>
  go_wp2_with fail
  go_loopw [14] (fun sj wx => ∃ (jj : Nat) (p qf : Nat → Nat), jj ≤ mq ∧ sj = .int .i64 ((jj : Int) - 1) ∧ New w1 wx ∧ Row wx B1 191 .u64 (k + 2 + 1) h1 ∧ Row wx B2 191 .u64 (m + 1) p ∧ Row wx B3 191 .u64 mq qf ∧ Dv W64 m k mq jj (vf W64 f m * 2 ^ s) (vf W64 g (k + 2) * 2 ^ s) g p qf) (fun sj _ => (intOf sj + 1).toNat)
  case atStart => exact ⟨mq, o, fun _ => 0, Nat.le_refl _, by have := HMQ.out; go_num, HNE.out, HR1.out, HR2.out, HR3.out, HD.out⟩
  case round =>
   clear HR1 HR2 HR3 HNE HD
   obtain ⟨jj, p, qf, hjj, rfl, hnew, hr1, hr2, hr3, hD⟩ := hrel
   have HNEW := Lib.hid hnew
   have HR1 := Lib.hid hr1
   have HR2 := Lib.hid hr2
   have HR3 := Lib.hid hr3
   have HD := Lib.hid hD
   clear hnew hr1 hr2 hr3 hD
   by_cases hj0 : jj = 0
   ·subst hj0
    obtain ⟨hon, hval, hlow⟩ := HD.out.finish HMQ.out hmq0
    have HON := Lib.hid hon
    have HVAL := Lib.hid hval
    have HLOW := Lib.hid hlow
    clear hon hval hlow
    go_wp2_with fail
    go_meet
    exact ⟨p, qf, HNEW.out, HR2.out, HR3.out, HD.out.ol, HD.out.ql, HON.out, HVAL.out, HLOW.out⟩
   ·obtain ⟨j, rfl⟩ : ∃ j, jj = j + 1 := ⟨jj - 1, by omega⟩
    rw [show ((j + 1 : Nat) : Int) - 1 = (j : Int) by omega]
    have gs1 : (j : Int) ≤ (j : Int) + ((k : Int) + 2) + 1 := by omega
    have gs2 : (j : Int) + ((k : Int) + 2) + 1 ≤ (m : Int) + 1 := by have := HMQ.out; omega
    have ff := HR3.out.frozen j
    have f1 := HR3.out.cell (i := j) (by omega)
    have X : StepIn wr B2 (m + 1) j k (m + 1 - j) B1 0 p h1 (fun i => p (j + i)) := by
     have hq := HMQ.out
     refine ⟨by omega, by omega, by omega, by omega, fun i hi => ?_, HD.out.ol, fun i _ => HL2.out i, HNZ.out, rfl, ?_⟩
     ·have := HR1.out.cell (i := i) (by omega)
      simpa using this
     ·rw [HV.out]
      have h1 := HD.out.low
      have h2 : vf W64 (fun i => p (j + 1 + i)) (k + 2) = vf W64 (fun i => p (j + (1 + i))) (k + 2) := vf_congr fun i _ => by congr 1; omega
      rw [← h2]; exact h1
    have hst := step_any B2 j (m + 1 - j) (m + 1) k B1 0 (k + 2 + 1) p h1 _ wr X HR2.out
    have HST := Lib.hid hst
    clear hst X ff f1
    go_wp2_with fail
    rw [show j + (k + 2) + 1 - j = k + 3 by omega]
    refine HST.out.mono ?_
    clear HST
    rintro e w5 ⟨q, p', rfl, hq, hbut, hr2', hpl, hout, hval, hlt⟩
    have hr3' := HR3.out.but hbut (by omega)
    have hr1' := HR1.out.but hbut (by omega)
    have hnew' := hbut.new HNEW.out (by rw [← HB1.out]; omega)
    have ff := hr3'.frozen j
    have f1 := hr3'.cell (i := j) (by omega)
    rw [HV.out] at hval hlt
    have hD' := HD.out.step HMQ.out (by omega) (by rw [← HV.out]; exact Nat.le_of_lt (vf_lt fun i _ => HL2.out i)) hq hpl hout hval hlt
    have HD' := Lib.hid hD'
    have HR1' := Lib.hid hr1'
    have HR2' := Lib.hid hr2'
    have HR3' := Lib.hid hr3'
    have HNEW' := Lib.hid hnew'
    clear hD' hr1' hr2' hr3' hnew' hval hlt hout hpl hbut HD HR1 HR2 HR3 HNEW
    go_wp2_with fail
    clear ff f1
    go_roundw
    case rel =>
     exact ⟨j, p', upd qf j q, by omega, by go_num, HNEW'.out.setCell (by rw [← HB1.out]; show B1 ≤ B3; omega) _, HR1'.out.other (by show B1 ≠ B3; omega) _, HR2'.out.other (by show B2 ≠ B3; omega) _, HR3'.out.set _ _, HD'.out⟩
    case measure => simp [intOf]
 case rest =>
  obtain ⟨p, qf, hnew, hr2, hr3, hol, hql, hon, hval, hlow⟩ := hcut
  go_step
  exact divide_back B2 B3 m (k + 2) mq s p qf w _ (vf W64 f m) (vf W64 g (k + 2)) _ _ _ _ _ _ _ _ _ _ _ _ _ _ _ _ _ _ _ _ _ _ _ _ _ _ _ _ _ _ _ _ _ _ _ _ _ _ _ _ _ _ _ _ _ _ _ _ _ _ _ _ _ _ _ _ _ _ _ _ _ _ _ _ _ _ _ _ _ _ _ _ _ _ _ _ _ _ _ _ _ _ _ _ _ _ _ _ _ _ _ _ _ _ _ _ _ _ _ _ _ _ _ _ _ _ _ _ _ _ _ _ _ _ _ _ _ _ _ _ _ _ _ _ _ _ _ _ _ _ _ _ _ hs hm hkm (by have := HMQ.out; omega) (by omega) (by have := HN.out.size; have := HB1.out; omega) (HN.out.trans hnew) hr2 hr3 hol hql hon hval hlow
theorem divide_calls (va vb : Value) (m n : Nat) (f g : Nat → Nat) (w : World) (hm : m ≤ 1000000) (ha : Wds w va m f) (hb : Wds w vb n g) (h0 : 0 < n) :
  Calls Tryz.prog 152 #[va, vb] w (DivMod w (vf W64 f m) (vf W64 g n)) := by
 rcases Nat.lt_or_ge (vf W64 f m) (vf W64 g n) with h | h
 ·exact divide_less va vb m n f g w ha hb h
 ·obtain ⟨a, ca, ⟨rfl, h1a, h1b, h1c⟩, ha, cf⟩ := ha
  obtain ⟨b, cb, ⟨rfl, h2a, h2b, h2c⟩, hb, cg⟩ := hb
  have hnm : n ≤ m := by
   rcases Nat.lt_or_ge m n with h3 | h3
   ·exfalso
    have h4 : vf W64 f m < W64 ^ m := vf_lt cf.lt
    obtain ⟨i, rfl⟩ : ∃ i, n = i + 1 := ⟨n - 1, by omega⟩
    have h5 : W64 ^ i ≤ vf W64 g (i + 1) := vf_ge_top (cg.top (by omega))
    have h6 : W64 ^ m ≤ W64 ^ i := Nat.pow_le_pow_right (by decide) (by omega)
    omega
   ·exact h3
  rcases Nat.lt_or_ge n 2 with h3 | h3
  ·obtain rfl : n = 1 := by omega
   exact divide_one a b m ca cb f g w hm (by omega) h1a h1b h1c h2a h2b h2c ha hb cf cg h
  ·obtain ⟨k, rfl⟩ : ∃ k, n = k + 2 := ⟨n - 2, by omega⟩
   exact divide_long a b m k (m + 1 - (k + 2)) ca cb f g w hm (by omega) (by omega) h1a h1b h1c h2a h2b h2c ha hb cf cg h
end Go.Proofs.YtlfnibjmkfldgaaGreatDoor
namespace Go.Proofs.YtlfnibjmkfldgaaGreatDoor
open Go.RowKit Big
inductive IsInt (w : World) (v : Value) (z : Int) : Prop where
 | small (h : v = .agg #[.int .i64 z, .slice none 0 0]) (lo : -9223372036854775808 ≤ z) (hi : z ≤ 9223372036854775807)
 | big (b off n cap : Nat) (f : Nat → Nat) (s : Int) (h : v = .agg #[.int .i64 s, .slice (some ⟨b, off, none⟩) n cap]) (hs : s = 1 ∨ s = -1) (hw : Wds w (.slice (some ⟨b, off, none⟩) n cap) n f)
   (hn : 0 < n) (hv : 9223372036854775808 ≤ vf W64 f n) (hz : z = s * vf W64 f n)
theorem IsInt.new {w w' : World} {v : Value} {z : Int} (h : IsInt w v z) (hn : New w w') : IsInt w' v z := by
 rcases h with ⟨h, lo, hi⟩ | ⟨b, off, n, cap, f, s, h, hs, hw, h0, hv, hz⟩
 ·exact .small h lo hi
 ·exact .big b off n cap f s h hs (hw.new hn) h0 hv hz
theorem size_val {s : Int} (lo : -9223372036854775808 ≤ s) (hi : s ≤ 9223372036854775807) (h : s < 0) : IntKind.u64.wrap (wrap64 (-s)) = (s.natAbs : Int) := by
 rw [IntKind.wrap_u64]
 unfold wrap64
 omega
theorem size_calls (s : Int) (w : World) (lo : -9223372036854775808 ≤ s) (hi : s ≤ 9223372036854775807) :
  Calls Tryz.prog 146 #[.int .i64 s] w fun e w' => e = .returned (.int .u64 s.natAbs) ∧ w = w' := by
 by_cases h : s < 0
 ·have hv := Lib.hid (size_val lo hi h)
  go_enter Tryz.func146, Tryz.ntmps146
  go_wp2
  go_ret
  exact ⟨ret_u64 hv.out, rfl⟩
 ·have hv : s = (s.natAbs : Int) := by omega
  have HV := Lib.hid hv
  clear hv
  go_enter Tryz.func146, Tryz.ntmps146
  go_wp2
  go_ret
  exact ⟨ret_u64 HV.out, rfl⟩
theorem of_calls (s : Int) (w : World) : Calls Tryz.prog 116 #[.int .i64 s] w fun e w' => e = .returned (.agg #[.int .i64 s, .slice none 0 0]) ∧ New w w' := by
 go_enter Tryz.func116, Tryz.ntmps116
 go_wp2
 exact bodyPost_ret (v := .agg #[.int .i64 s, .slice none 0 0]) (by simp [results, Tryz.results116, go_sem]) rfl ⟨rfl, (New.refl w).alloc _⟩
def PartsPost (w : World) (z : Int) (e : Ending) (w' : World) : Prop := ∃ (vw : Value) (n : Nat) (f : Nat → Nat), e = .returned (.tuple #[.bool (decide (z < 0)), vw]) ∧ New w w' ∧ Wds w' vw n f ∧ vf W64 f n = z.natAbs
theorem wds_none (w : World) (f : Nat → Nat) : Wds w (.slice none 0 0) 0 f := ⟨none, 0, ⟨rfl, Nat.le_refl _, by omega, fun _ => rfl⟩, Rd.zero _ _ _ _, ⟨fun i hi => by omega, fun h => absurd rfl h⟩⟩
theorem wds_one (w : World) (x : Nat) (t : TypeId) (B : Nat) (hB : B = w.heap.size) (h0 : x ≠ 0) (hx : x < W64) : Wds (w.alloc (.cells #[.int .u64 x] t)).drew (.slice (some ⟨B, 0, none⟩) 1 1) 1 fun _ => x := by
 subst hB
 suffices h : Wds (w.alloc (.cells #[.int .u64 x] t)) (.slice (some ⟨w.heap.size, 0, none⟩) 1 1) 1 fun _ => x from h.new (New.refl _).drew
 have hr : Row (w.alloc (.cells #[.int .u64 x] t)) w.heap.size t .u64 1 fun _ => x := World.rowIs_alloc w #[.int .u64 x] t _ (fun i hi => by
  have : i = 0 := by simpa using hi
  subst this; rfl)
 exact ⟨_, 1, ⟨rfl, Nat.le_refl _, by omega, by simp⟩, hr.rd, ⟨fun _ _ => hx, fun _ => h0⟩⟩
theorem parts_one (w : World) (z : Int) (t t' : TypeId) (h0 : z.natAbs ≠ 0) (hl : z.natAbs < W64) :
  PartsPost w z (.returned (.tuple #[.bool (decide (z < 0)), .slice (some ⟨w.heap.size + 1, 0, none⟩) 1 1])) (((w.alloc (.cells #[.int .i64 z, .slice none 0 0] t)).alloc (.cells #[.int .u64 z.natAbs] t')).drew) := by
 refine ⟨_, 1, fun _ => z.natAbs, rfl, (((New.refl w).alloc _).alloc _).drew, wds_one _ _ _ _ ?_ h0 hl, by simp [vf]⟩
 show w.heap.size + 1 = (w.heap.push _).size
 rw [Array.size_push]
set_option maxRecDepth 100000 in
theorem parts_calls (v : Value) (z : Int) (w : World) (h : IsInt w v z) : Calls Tryz.prog 147 #[v] w (PartsPost w z) := by
 rcases h with ⟨rfl, lo, hi⟩ | ⟨b, off, n, cap, f, s, rfl, hs, hw, h0, hv, hz⟩
 ·by_cases hz : z = 0
  ·subst hz
   go_enter Tryz.func147, Tryz.ntmps147
   go_wp2_with fail
   go_ret2
   exact ⟨_, 0, fun _ => 0, rfl, (New.refl w).alloc _, wds_none _ _, rfl⟩
  ·have hz1 : (z == 0) = false := by simpa using hz
   have hzn : z.natAbs ≠ 0 := by omega
   have hzl : z.natAbs < W64 := by unfold W64; omega
   have HP := Lib.hid (parts_one w z 138 191 hzn hzl)
   clear hzl hzn hz
   go_enter Tryz.func147, Tryz.ntmps147
   go_wp2_with fail
   go_region_with (go_at_call 146; refine (size_calls _ _ lo hi).mono ?_; rintro e w' ⟨rfl, rfl⟩)
   all_goals go_wp2_with fail
   all_goals go_ret2
   all_goals exact HP.out
 ·have hd : decide (s < 0) = decide (z < 0) := by
   rcases hs with rfl | rfl
   ·simp; omega
   ·simp; omega
  have ha : vf W64 f n = z.natAbs := by
   rcases hs with rfl | rfl <;> omega
  have HW := Lib.hid hw
  have HD := Lib.hid hd
  have HA := Lib.hid ha
  clear hw hd ha hv hz
  go_enter Tryz.func147, Tryz.ntmps147
  go_wp2_with fail
  go_quiet (fail)
  go_wp2_with fail
  go_ret2
  exact ⟨_, n, f, by rw [← HD.out]; rfl, ((New.refl w).alloc _).drewN _, HW.out.new (((New.refl w).alloc _).drewN _), HA.out⟩
end Go.Proofs.YtlfnibjmkfldgaaGreatDoor
namespace Go.Proofs.YtlfnibjmkfldgaaGreatDoor
open Go.RowKit Big
def IntPost (w : World) (z : Int) (e : Ending) (w' : World) : Prop := ∃ v : Value, e = .returned v ∧ New w w' ∧ IsInt w' v z
def signed (neg : Bool) (x : Nat) : Int := if neg then -(x : Int) else x
theorem made_small {w w' : World} {s : Int} (hn : New w w') (lo : -9223372036854775808 ≤ s) (hi : s ≤ 9223372036854775807) (z : Int) (hz : z = s) : IntPost w z (.returned (.agg #[.int .i64 s, .slice none 0 0])) w' :=
 ⟨_, rfl, hn, .small (by rw [hz]) (by omega) (by omega)⟩
theorem made_big {neg : Bool} {w w' : World} {b off n cap : Nat} {f : Nat → Nat} {s : Int} (hn : New w w') (hr : Rd w (some ⟨b, off, none⟩) .u64 n f) (cf : Canon W64 f n) (h1 : n ≤ cap) (h2 : cap ≤ 281474976710656) (h0 : 0 < n) (hv : 9223372036854775808 ≤ vf W64 f n) (hs : s = if neg then -1 else 1) :
  IntPost w (signed neg (vf W64 f n)) (.returned (.agg #[.int .i64 s, .slice (some ⟨b, off, none⟩) n cap])) w' := by
 subst hs
 refine ⟨_, rfl, hn, .big b off n cap f (if neg then -1 else 1) rfl ?_ ⟨_, cap, ⟨rfl, h1, h2, by simp⟩, hr.new hn, cf⟩ h0 hv ?_⟩
 ·cases neg <;> simp
 ·cases neg <;> simp [signed]
set_option maxRecDepth 100000 in
theorem made_calls (neg : Bool) (vw : Value) (n : Nat) (f : Nat → Nat) (w : World) (h : Wds w vw n f) : Calls Tryz.prog 148 #[.bool neg, vw] w (IntPost w (signed neg (vf W64 f n))) := by
 obtain ⟨a, cap, ⟨rfl, h1, h2, h3⟩, hr, cf⟩ := h
 rcases Nat.lt_or_ge n 2 with hn | hn
 ·rcases Nat.eq_zero_or_pos n with h0 | h0
  ·subst h0
   have HP := Lib.hid fun w' (hn : New w w') => made_small hn (s := 0) (by omega) (by omega) (signed neg (vf W64 f 0)) (by cases neg <;> rfl)
   clear hr cf
   go_enter Tryz.func148, Tryz.ntmps148
   go_wp2_with fail
   refine bodyPost_ret (v := .agg #[.int .i64 0, .slice none 0 0]) (by simp [results, Tryz.results148, go_sem]) rfl ?_
   exact (HP.out _ ((New.refl w).alloc _))
  ·obtain rfl : n = 1 := by omega
   obtain ⟨b, off, rfl, e0⟩ := hr 0 (by omega)
   simp only [Nat.add_zero] at e0
   have e0 := ((New.refl w).alloc (.cells #[.int .i64 0, .slice none 0 0] 138)).cell e0
   have hx := cf.lt 0 (by omega)
   have hx0 : f 0 ≠ 0 := cf.top (by omega)
   have ev : vf W64 f 1 = f 0 := by simp [vf]
   by_cases hs : f 0 ≤ 9223372036854775807
   ·have hi1 : (f 0 : Int) ≤ 9223372036854775807 := by omega
    have hc : IntKind.i64.wrap (f 0 : Int) = (f 0 : Int) := by rw [IntKind.wrap_i64]; omega
    have HP := Lib.hid fun w' (hn : New w w') => made_small hn (s := if neg then -(f 0 : Int) else f 0) (by split <;> omega) (by split <;> omega) (signed neg (vf W64 f 1)) (by rw [ev]; rfl)
    clear hr cf ev hs hx hx0
    cases neg
    ·go_enter Tryz.func148, Tryz.ntmps148
     go_wp2_with fail
     refine bodyPost_ret (v := .agg #[.int .i64 (f 0), .slice none 0 0]) (by simp [results, Tryz.results148, go_sem]) rfl ?_
     exact (HP.out _ ((New.refl w).alloc _))
    ·go_enter Tryz.func148, Tryz.ntmps148
     go_wp2_with fail
     refine bodyPost_ret (v := .agg #[.int .i64 (-(f 0 : Int)), .slice none 0 0]) (by simp [results, Tryz.results148, go_sem]) rfl ?_
     exact (HP.out _ ((New.refl w).alloc _))
   ·have hi1 : (9223372036854775807 : Int) < f 0 := by omega
    have HP := Lib.hid fun w' (hn : New w w') (s : Int) (hs : s = if neg then -1 else 1) => made_big (neg := neg) hn hr cf h1 h2 (by omega) (by rw [ev]; omega) hs
    clear hr cf ev hs hx hx0
    cases neg
    ·go_enter Tryz.func148, Tryz.ntmps148
     go_wp2_with fail
     refine bodyPost_ret (v := .agg #[.int .i64 1, .slice (some ⟨b, off, none⟩) 1 cap]) (by simp [results, Tryz.results148, go_sem]) rfl ?_
     exact (HP.out _ ((New.refl w).alloc _) _ rfl)
    ·go_enter Tryz.func148, Tryz.ntmps148
     go_wp2_with fail
     refine bodyPost_ret (v := .agg #[.int .i64 (-1), .slice (some ⟨b, off, none⟩) 1 cap]) (by simp [results, Tryz.results148, go_sem]) rfl ?_
     exact (HP.out _ ((New.refl w).alloc _) _ rfl)
 ·obtain ⟨b, off, rfl, e0⟩ := hr 0 (by omega)
  have hn1 : ((n : Int) == 1) = false := by simp; omega
  have hn0 : ((n : Int) == 0) = false := by simp; omega
  have hge : 9223372036854775808 ≤ vf W64 f n := by
   have h5 := cf.ge (by omega)
   have h6 : W64 ^ 1 ≤ W64 ^ (n - 1) := Nat.pow_le_pow_right (by decide) (by omega)
   rw [Nat.pow_one] at h6
   have h7 : 9223372036854775808 ≤ W64 := by decide
   omega
  have HP := Lib.hid fun w' (hn : New w w') (s : Int) (hs : s = if neg then -1 else 1) => made_big (neg := neg) hn hr cf h1 h2 (by omega) hge hs
  clear hr cf hge e0 hn
  cases neg
  ·go_enter Tryz.func148, Tryz.ntmps148
   go_wp2_with fail
   refine bodyPost_ret (v := .agg #[.int .i64 1, .slice (some ⟨b, off, none⟩) n cap]) (by simp [results, Tryz.results148, go_sem]) rfl ?_
   exact (HP.out _ ((New.refl w).alloc _) _ rfl)
  ·go_enter Tryz.func148, Tryz.ntmps148
   go_wp2_with fail
   refine bodyPost_ret (v := .agg #[.int .i64 (-1), .slice (some ⟨b, off, none⟩) n cap]) (by simp [results, Tryz.results148, go_sem]) rfl ?_
   exact (HP.out _ ((New.refl w).alloc _) _ rfl)
end Go.Proofs.YtlfnibjmkfldgaaGreatDoor
namespace Go.Proofs.YtlfnibjmkfldgaaGreatDoor
open Go.RowKit Big
def Bd (z : Int) : Prop := ∃ k : Nat, k ≤ 60000000 ∧ z.natAbs < 2 ^ k
theorem Bd.neg {z : Int} (h : Bd z) : Bd (-z) := by
 obtain ⟨k, h1, h2⟩ := h
 exact ⟨k, h1, by rwa [Int.natAbs_neg]⟩
theorem words_le {n k : Nat} {f : Nat → Nat} (cf : Canon W64 f n) (hk : k ≤ 60000000) (hl : vf W64 f n < 2 ^ k) : n ≤ 1000000 := by
 rcases Nat.eq_zero_or_pos n with h | h
 ·omega
 ·have h1 := cf.ge (by omega)
  have h2 : W64 ^ (n - 1) = 2 ^ (64 * (n - 1)) := by rw [Nat.pow_mul]
  rw [h2] at h1
  have h3 : 2 ^ (64 * (n - 1)) < 2 ^ k := Nat.lt_of_le_of_lt h1 hl
  have h4 := (Nat.pow_lt_pow_iff_right (by omega : 1 < 2)).1 h3
  omega
theorem Wds.le {w : World} {v : Value} {n : Nat} {f : Nat → Nat} {z : Int} (h : Wds w v n f) (hb : Bd z) (hv : vf W64 f n = z.natAbs) : n ≤ 1000000 := by
 obtain ⟨k, h1, h2⟩ := hb
 obtain ⟨_, _, _, _, cf⟩ := h
 exact words_le cf h1 (by rwa [hv])
def Own2 (w : World) (B : Nat) (t : TypeId) (x y : Value) : Prop := w.rowIs B t 2 fun i => if i = 0 then x else y
theorem Own2.alloc (w : World) (B : Nat) (t : TypeId) (x y : Value) (hB : B = w.heap.size) : Own2 (w.alloc (.cells #[x, y] t)) B t x y := by
 subst hB
 exact World.rowIs_alloc w #[x, y] t _ (fun i hi => by
  have : i = 0 ∨ i = 1 := by
   have : i < 2 := hi
   omega
  rcases this with rfl | rfl <;> rfl)
theorem Own2.new {w w' : World} {B : Nat} {t : TypeId} {x y : Value} (h : Own2 w B t x y) (hn : New w w') : Own2 w' B t x y := hn.row h
theorem Own2.cells {w : World} {B : Nat} {t : TypeId} {x y : Value} (h : Own2 w B t x y) :
  w.cell? ⟨B, 0, none⟩ = some x ∧ w.cell? ⟨B, 1, none⟩ = some y ∧ w.frozen? ⟨B, 0, none⟩ = false ∧ w.frozen? ⟨B, 1, none⟩ = false :=
 ⟨World.rowIs.cell h (by omega : 0 < 2), World.rowIs.cell h (by omega : 1 < 2), World.rowIs.frozen h 0, World.rowIs.frozen h 1⟩
theorem Own2.set0 {w : World} {B : Nat} {t : TypeId} {x y : Value} (h : Own2 w B t x y) (u : Value) : Own2 (w.setCell ⟨B, 0, none⟩ u) B t u y :=
 World.rowIs.congr (World.rowIs.set h 0 u) fun j hj => by
  have : j = 0 ∨ j = 1 := by omega
  rcases this with rfl | rfl <;> simp
theorem Own2.set1 {w : World} {B : Nat} {t : TypeId} {x y : Value} (h : Own2 w B t x y) (u : Value) : Own2 (w.setCell ⟨B, 1, none⟩ u) B t x u :=
 World.rowIs.congr (World.rowIs.set h 1 u) fun j hj => by
  have : j = 0 ∨ j = 1 := by omega
  rcases this with rfl | rfl <;> simp
theorem Own2.apart {w : World} {B : Nat} {t : TypeId} {s : Int} {a : Option Addr} {l c : Nat} (h : Own2 w B t (.int .i64 s) (.slice a l c)) {b off : Nat} {x : Int} (hc : w.cell? ⟨b, off, none⟩ = some (.int .u64 x)) : b ≠ B := by
 rintro rfl
 obtain ⟨arr, h1, h2, h3⟩ := h
 rcases Nat.lt_or_ge off 2 with h4 | h4
 ·have h5 := World.rowIs.cell (w := w) (b := b) (t := t) (n := 2) ⟨arr, h1, h2, h3⟩ h4
  rw [h5] at hc
  have : off = 0 ∨ off = 1 := by omega
  rcases this with rfl | rfl <;> simp at hc
 ·have h5 : arr[off]? = none := by simp; omega
  simp [World.cell?, h1, h5] at hc
theorem IsInt.set2 {w : World} {B : Nat} {t : TypeId} {s : Int} {a : Option Addr} {l c : Nat} {v u u' : Value} {z : Int} (h : IsInt w v z) (ho : Own2 w B t (.int .i64 s) (.slice a l c)) :
  IsInt ((w.setCell ⟨B, 0, none⟩ u).setCell ⟨B, 1, none⟩ u') v z := by
 rcases h with ⟨h, lo, hi⟩ | ⟨b, off, n, cap, f, s, h, hs, hw, h0, hv, hz⟩
 ·exact .small h lo hi
 ·refine .big b off n cap f s h hs ?_ h0 hv hz
  obtain ⟨a', cap', h1, h2, h3⟩ := hw
  refine ⟨a', cap', h1, fun i hi => ?_, h3⟩
  obtain ⟨b', off', e, hc⟩ := h2 i hi
  have hne := ho.apart hc
  refine ⟨b', off', e, ?_⟩
  rw [World.cell?_setCell_far _ _ _ _ (by exact Ne.symm hne), World.cell?_setCell_far _ _ _ _ (by exact Ne.symm hne)]
  exact hc
theorem IsInt.shape {w : World} {v : Value} {z : Int} (h : IsInt w v z) : ∃ (s : Int) (a : Option Addr) (l c : Nat), v = .agg #[.int .i64 s, .slice a l c] := by
 rcases h with ⟨h, lo, hi⟩ | ⟨b, off, n, cap, f, s, h, hs, hw, h0, hv, hz⟩ <;> exact ⟨_, _, _, _, h⟩
theorem sign_small {z : Int} : max (-1) (min 1 z) = Int.sign z := by
 rcases Int.lt_trichotomy z 0 with h | h | h
 ·rw [Int.sign_eq_neg_one_of_neg h]; omega
 ·subst h; rfl
 ·rw [Int.sign_eq_one_of_pos h]; omega
theorem sign_calls (v : Value) (z : Int) (w : World) (h : IsInt w v z) : Calls Tryz.prog 126 #[v] w fun e w' => e = .returned (.int .i64 z.sign) ∧ New w w' := by
 have hs : ∃ (s : Int) (sl : Value), v = .agg #[.int .i64 s, sl] ∧ max (-1) (min 1 s) = z.sign := by
  rcases h with ⟨rfl, lo, hi⟩ | ⟨b, off, n, cap, f, s, rfl, hs, hw, h0, hv, hz⟩
  ·exact ⟨_, _, rfl, sign_small⟩
  ·refine ⟨_, _, rfl, ?_⟩
   rw [sign_small]
   rcases hs with rfl | rfl
   ·rw [Int.sign_eq_one_of_pos (show (0 : Int) < z by omega)]; rfl
   ·rw [Int.sign_eq_neg_one_of_neg (show z < 0 by omega)]; rfl
 clear h
 obtain ⟨s, sl, rfl, hs⟩ := hs
 have HS := Lib.hid hs
 clear hs
 go_enter Tryz.func126, Tryz.ntmps126
 go_wp2_with fail
 go_ret
 exact ⟨by rw [← HS.out]; rfl, (New.refl w).alloc _⟩
theorem eql_nil (w : World) (a : Option Addr) (l c : Nat) : Sem.run Tryz.prog (binOp .eql 136 (.slice a l c) (.slice none 0 0)) w = .ok (.bool a.isNone) w := Lib.run_eql_slice_nil w _ _ a l c 0 0 Tryz.underlying136
theorem size_alloc (w : World) (o : Obj) : w.heap.size + 1 = (w.alloc o).heap.size := by
 show _ = (w.heap.push _).size
 rw [Array.size_push]
theorem signed_neg {z : Int} {x : Nat} (h : x = z.natAbs) : signed (!decide (z < 0)) x = -z := by
 unfold signed
 by_cases h1 : z < 0
 ·simp [h1]; omega
 ·simp [h1]; omega
set_option maxRecDepth 100000 in
theorem neg_calls (v : Value) (z : Int) (w : World) (h : IsInt w v z) : Calls Tryz.prog 140 #[v] w (IntPost w (-z)) := by
 have q1 := eql_nil
 rcases h with ⟨rfl, lo, hi⟩ | ⟨b, off, n, cap, f, s, hv, hs, hw, h0, hv', hz⟩
 ·by_cases hm : z = -9223372036854775808
  ·have hh := Lib.hid (IsInt.small (w := w) (v := .agg #[.int .i64 z, .slice none 0 0]) rfl lo hi)
   clear lo hi
   have hm1 : (z != -9223372036854775808) = false := by simpa using hm
   have HM := Lib.hid hm
   clear hm
   go_enter Tryz.func140, Tryz.ntmps140
   go_wp2_with fail
   refine (parts_calls _ z _ (hh.out.new (((New.refl w).alloc _).alloc _))).mono ?_
   rintro e w1 ⟨vw, n1, f1, rfl, hn, hw, hv⟩
   have ho := (Own2.alloc _ _ 138 (.int .i64 0) (.slice none 0 0) (size_alloc w _)).new hn
   have hN := (((New.refl w).alloc _).alloc _).trans hn
   have HO := Lib.hid ho
   have HW := Lib.hid hw
   have HV := Lib.hid hv
   have HN := Lib.hid hN
   clear hn hw hv ho hN
   go_wp2_with fail
   refine (made_calls _ vw n1 f1 w1 HW.out).mono ?_
   rintro e w2 ⟨v', rfl, hn2, hi⟩
   rw [signed_neg HV.out] at hi
   have ho2 := HO.out.new hn2
   obtain ⟨c0, c1, c2, c3⟩ := ho2.cells
   obtain ⟨s', a', l', c', rfl⟩ := hi.shape
   have ho3 := ho2.set0 (.int .i64 s')
   obtain ⟨d0, d1, -, d3⟩ := ho3.cells
   have D0 := Lib.hid d0
   clear d0
   obtain ⟨-, e1, -, -⟩ := (ho3.set1 (.slice a' l' c')).cells
   have E1 := Lib.hid e1
   clear ho3 e1
   have hp : (IntPost w (-z) (.returned (.agg #[.int .i64 s', .slice a' l' c'])) ((w2.setCell ⟨w.heap.size + 1, 0, none⟩ (.int .i64 s')).setCell ⟨w.heap.size + 1, 1, none⟩ (.slice a' l' c'))) :=
    ⟨_, rfl, ((HN.out.trans hn2).setCell (Nat.le_succ _) _).setCell (Nat.le_succ _) _, hi.set2 ho2⟩
   have HP := Lib.hid hp
   clear hi ho2 hn2 hp
   go_wp2_with fail
   refine bodyPost_ret (v := .agg #[.int .i64 s', .slice a' l' c']) (by simp [results, Tryz.results140, go_sem, D0.out, E1.out]) rfl ?_
   exact HP.out
  ·have hm1 : (z != -9223372036854775808) = true := by simpa using hm
   have hwr : wrap64 (-z) = -z := by unfold wrap64; omega
   have HP := Lib.hid fun w' (hn : New w w') => made_small hn (s := -z) (by omega) (by omega) (-z) rfl
   clear lo hi hm
   go_enter Tryz.func140, Tryz.ntmps140
   go_wp2_with fail
   refine bodyPost_ret (v := .agg #[.int .i64 (-z), .slice none 0 0]) (by simp [results, Tryz.results140, go_sem]) rfl ?_
   exact HP.out _ (((New.refl w).alloc _).alloc _)
 ·have hh := Lib.hid (IsInt.big (v := v) (z := z) b off n cap f s hv hs hw h0 hv' hz)
  clear hs hw h0 hv' hz
  subst hv
  go_enter Tryz.func140, Tryz.ntmps140
  go_wp2_with fail
  refine (parts_calls _ z _ (hh.out.new (((New.refl w).alloc _).alloc _))).mono ?_
  rintro e w1 ⟨vw, n1, f1, rfl, hn, hw, hv⟩
  have ho := (Own2.alloc _ _ 138 (.int .i64 0) (.slice none 0 0) (size_alloc w _)).new hn
  have hN := (((New.refl w).alloc _).alloc _).trans hn
  have HO := Lib.hid ho
  have HW := Lib.hid hw
  have HV := Lib.hid hv
  have HN := Lib.hid hN
  clear hn hw hv ho hN
  go_wp2_with fail
  refine (made_calls _ vw n1 f1 w1 HW.out).mono ?_
  rintro e w2 ⟨v', rfl, hn2, hi⟩
  rw [signed_neg HV.out] at hi
  have ho2 := HO.out.new hn2
  obtain ⟨c0, c1, c2, c3⟩ := ho2.cells
  obtain ⟨s', a', l', c', rfl⟩ := hi.shape
  have ho3 := ho2.set0 (.int .i64 s')
  obtain ⟨d0, d1, -, d3⟩ := ho3.cells
  have D0 := Lib.hid d0
  clear d0
  obtain ⟨-, e1, -, -⟩ := (ho3.set1 (.slice a' l' c')).cells
  have E1 := Lib.hid e1
  clear ho3 e1
  have hp : (IntPost w (-z) (.returned (.agg #[.int .i64 s', .slice a' l' c'])) ((w2.setCell ⟨w.heap.size + 1, 0, none⟩ (.int .i64 s')).setCell ⟨w.heap.size + 1, 1, none⟩ (.slice a' l' c'))) :=
   ⟨_, rfl, ((HN.out.trans hn2).setCell (Nat.le_succ _) _).setCell (Nat.le_succ _) _, hi.set2 ho2⟩
  have HP := Lib.hid hp
  clear hi ho2 hn2 hp
  go_wp2_with fail
  refine bodyPost_ret (v := .agg #[.int .i64 s', .slice a' l' c']) (by simp [results, Tryz.results140, go_sem, D0.out, E1.out]) rfl ?_
  exact HP.out
end Go.Proofs.YtlfnibjmkfldgaaGreatDoor
namespace Go.Proofs.YtlfnibjmkfldgaaGreatDoor
open Go.RowKit Big
theorem stored_post {w w2 : World} {B : Nat} {t : TypeId} {z s s' : Int} {a a' : Option Addr} {l c l' c' : Nat} (hN : New w w2) (hi : IsInt w2 (.agg #[.int .i64 s', .slice a' l' c']) z) (ho : Own2 w2 B t (.int .i64 s) (.slice a l c)) (hB : w.heap.size ≤ B) :
  IntPost w z (.returned (.agg #[.int .i64 s', .slice a' l' c'])) ((w2.setCell ⟨B, 0, none⟩ (.int .i64 s')).setCell ⟨B, 1, none⟩ (.slice a' l' c')) :=
 ⟨_, rfl, (hN.setCell hB _).setCell hB _, hi.set2 ho⟩
set_option maxRecDepth 100000 in
theorem abs_calls (v : Value) (z : Int) (w : World) (h : IsInt w v z) : Calls Tryz.prog 134 #[v] w (IntPost w z.natAbs) := by
 obtain ⟨s, a, l, c, rfl⟩ := h.shape
 have hs : s < 0 ↔ z < 0 := by
  rcases h with ⟨h, lo, hi⟩ | ⟨b, off, n, cap, f, s, h, hs, hw, h0, hv, hz⟩
  ·injection h with h; injection h with h; simp at h; omega
  ·injection h with h; injection h with h; simp at h
   obtain ⟨rfl, -⟩ := h
   rcases hs with rfl | rfl <;> omega
 by_cases hz : z < 0
 ·have hs0 : s < 0 := hs.2 hz
  have e : -z = (z.natAbs : Int) := by omega
  have E := Lib.hid e
  have H := Lib.hid h
  clear h hs hz e
  go_enter Tryz.func134, Tryz.ntmps134
  go_wp2_with fail
  refine (neg_calls _ z _ (H.out.new (((New.refl w).alloc _).alloc _))).mono ?_
  rintro e w2 ⟨v', rfl, hn, hi⟩
  rw [E.out] at hi
  have hN2 := (((New.refl w).alloc _).alloc _).trans hn
  have ho2 := (Own2.alloc _ _ 138 (.int .i64 0) (.slice none 0 0) (size_alloc w _)).new hn
  clear hn
  obtain ⟨c0, c1, c2, c3⟩ := ho2.cells
  obtain ⟨s', a', l', c', rfl⟩ := hi.shape
  have ho3 := ho2.set0 (.int .i64 s')
  obtain ⟨d0, d1, -, d3⟩ := ho3.cells
  have D0 := Lib.hid d0
  clear d0
  obtain ⟨-, e1, -, -⟩ := (ho3.set1 (.slice a' l' c')).cells
  have E1 := Lib.hid e1
  clear ho3 e1
  have HP := Lib.hid (stored_post hN2 hi ho2 (by omega))
  clear hi ho2 hN2
  go_wp2_with fail
  refine bodyPost_ret (v := .agg #[.int .i64 s', .slice a' l' c']) (by simp [results, Tryz.results134, go_sem, D0.out, E1.out]) rfl ?_
  exact HP.out
 ·have hs0 : ¬ s < 0 := fun x => hz (hs.1 x)
  have e : z = (z.natAbs : Int) := by omega
  have HP := Lib.hid fun w' (hn : New w w') => (show IntPost w z.natAbs (.returned (.agg #[.int .i64 s, .slice a l c])) w' from ⟨_, rfl, hn, by rw [← e]; exact h.new hn⟩)
  clear h hs hz e
  go_enter Tryz.func134, Tryz.ntmps134
  go_wp2_with fail
  refine bodyPost_ret (v := .agg #[.int .i64 s, .slice a l c]) (by simp [results, Tryz.results134, go_sem]) rfl ?_
  exact HP.out _ (((New.refl w).alloc _).alloc _)
end Go.Proofs.YtlfnibjmkfldgaaGreatDoor
