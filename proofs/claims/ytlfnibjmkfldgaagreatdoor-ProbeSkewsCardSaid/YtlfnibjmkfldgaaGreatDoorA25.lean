/- Part A25. -/
import Derived.Maps.AppendAt
import Derived.Laws.CopyOwn
import Derived.Test.YtlfnibjmkfldgaaGreatDoorA21
import Derived.Test.YtlfnibjmkfldgaaGreatDoorA24
namespace Go.Proofs.YtlfnibjmkfldgaaGreatDoor
open Go.RowKit Big
theorem keeper_calls (lo hi : Nat) (v : Bool) (w : World) : Calls Tryz.prog 60 #[.agg #[.float .f32 lo, .float .f32 hi], .bool v] w fun e w' => ∃ A B : Nat, e = .returned (.func (.func 103) #[] #[.pointer (some ⟨A, 0, none⟩), .pointer (some ⟨B, 0, none⟩)]) ∧ New w w' ∧ w.heap.size ≤ A ∧ w.heap.size ≤ B ∧ A ≠ B ∧ Box w' A 33 #[.float .f32 lo, .float .f32 hi] ∧ Box w' B 4 #[.bool v] := by
 go_enter Tryz.func60, Tryz.ntmps60
 go_wp2_with fail
 have BA := Lib.hid ((Box.alloc w (w.heap.size) 33 #[.float .f32 lo, .float .f32 hi] (by simp)).new ((New.refl _).alloc (.cells #[.bool v] 4)))
 have BB := Lib.hid ((Box.alloc (w.alloc (.cells #[.float .f32 lo, .float .f32 hi] 33)) (w.heap.size + 1) 4 #[.bool v] (by simp)).new (New.refl _))
 have HN := Lib.hid (((New.refl w).alloc (.cells #[.float .f32 lo, .float .f32 hi] 33)).alloc (.cells #[.bool v] 4))
 go_ret
 exact ⟨_, _, rfl, HN.out, Nat.le_refl _, Nat.le_add_right _ _, by omega, BA.out, BB.out⟩
def levelsErr (lo hi : Nat) : Int := if samplesErr [lo, hi] = 0 then (if geqF lo hi then 11 else 0) else samplesErr [lo, hi]
def digitalErr (xs : List Nat) (lo hi : Nat) : Int := if samplesErr xs = 0 then levelsErr lo hi else samplesErr xs
set_option maxRecDepth 100000 in
set_option maxHeartbeats 1000000 in
theorem digital_ok (a : Option Addr) (cap : Nat) (xs : List Nat) (lo hi : Nat) (v : Bool) (w : World) (hl4 : xs.length ≤ 4096) (hr : RdL w a (flts xs)) (h0 : digitalErr xs lo hi = 0) :
  Calls Tryz.prog 13 #[.slice a xs.length cap, .agg #[.float .f32 lo, .float .f32 hi], .bool v] w (RowPost w 4 (bools (keepL lo hi v xs)) 0) := by
 have hl : xs.length ≤ 9223372036854775807 := by omega
 obtain ⟨e1, he1⟩ : ∃ e1, samplesErr xs = e1 := ⟨_, rfl⟩
 obtain ⟨e2, he2⟩ : ∃ e2, levelsErr lo hi = e2 := ⟨_, rfl⟩
 have hs := fun W (h : New w W) => samples_new a cap xs W hl (hr.new h)
 have hv := fun W => levels_calls lo hi W
 change ∀ W, Calls Tryz.prog 21 #[.agg #[.float .f32 lo, .float .f32 hi]] W (RetNew W (levelsErr lo hi)) at hv
 simp only [he1] at hs
 simp only [he2] at hv
 obtain ⟨r, hr1⟩ : ∃ r, (if e1 = 0 then e2 else e1) = r := ⟨_, rfl⟩
 have hrr : r = digitalErr xs lo hi := by
  rw [← hr1, ← he1, ← he2]
  rfl
 rw [← hrr] at h0
 have ht : (r != 0) = false := by rw [h0]; rfl
 have hab : ∀ B, w.heap.size ≤ B → xs.length ≠ 0 → ∀ b off, a = some ⟨b, off, none⟩ → b ≠ B := by
  intro B hB hx b off hab
  obtain ⟨b', off', h1, h2⟩ := hr.flt 0 (by omega)
  rw [hab] at h1
  injection h1 with h1
  injection h1 with h1 h3
  have := lt_of_cell h2
  simp only at this
  omega
 clear hl
 have HE1 := Lib.hid he1
 have HE2 := Lib.hid he2
 have HR1 := Lib.hid hr1
 have HS := Lib.hid hs
 have HV := Lib.hid hv
 have HRR := Lib.hid hrr
 have H0 := Lib.hid h0
 have HAB := Lib.hid hab
 have HR := Lib.hid hr
 clear he1 he2 hr1 hs hv hrr h0 hab hr
 go_enter Tryz.func13, Tryz.ntmps13
 go_wp2_with fail
 have BA := Lib.hid ((Box.alloc w (w.heap.size) 33 #[.float .f32 lo, .float .f32 hi] (by simp)).new (New.refl _))
 have HN := Lib.hid ((New.refl w).alloc (.cells #[.float .f32 lo, .float .f32 hi] 33))
 obtain ⟨p0, p1, p2, p3, p4⟩ := BA.out.two
 refine wp_region_T 6 (fun W => W.cell? ⟨w.heap.size, 0, none⟩ = some (.float .f32 lo) ∧ W.cell? ⟨w.heap.size, 1, none⟩ = some (.float .f32 hi)) 7 #[false, false, false, false, false, false, false] rfl (by kernel_rfl) (by kernel_rfl) ?_
 refine wpT_take 0 (v := ?_) rfl (by kernel_rfl) (fun _ _ _ h => h) (by exact ⟨p0, p1⟩) (Or.inl ⟨by first | kernel_rfl | rfl, ?_⟩) ?_
 rotate_left
 ·(intro W hW; (try dsimp only at hW); go_simp; try with_reducible rfl)
 try simp only [PT]
 refine wpT_take 2 (v := ?_) rfl (by kernel_rfl) (fun _ _ _ h => h) (by exact ⟨p0, p1⟩) (Or.inl ⟨by first | kernel_rfl | rfl, ?_⟩) ?_
 rotate_left
 ·(intro W hW; (try dsimp only at hW); go_simp; try with_reducible rfl)
 try simp only [PT]
 refine wpT_one 1 rfl (by kernel_rfl) (fun K hK => ?_)
 go_simp
 refine (HS.out _ HN.out.drew).mono ?_
 rintro e w1 ⟨rfl, hn⟩
 have hn := hn.undrew
 clear p0 p1 p2 p3 p4
 replace BA := Lib.hid (BA.out.new hn)
 replace HN := Lib.hid (HN.out.trans hn)
 clear hn
 obtain ⟨p0, p1, p2, p3, p4⟩ := BA.out.two
 refine hK.out _ _ (fun _ => ?_) ?_
 ·exact ⟨p0, p1⟩
 clear hK K
 try simp only [PT]
 refine wpT_one 3 rfl (by kernel_rfl) (fun K hK => ?_)
 go_simp
 refine (HV.out _).mono ?_
 rintro e w2 ⟨rfl, hn⟩
 clear p0 p1 p2 p3 p4
 replace BA := Lib.hid (BA.out.new hn)
 replace HN := Lib.hid (HN.out.trans hn)
 clear hn
 obtain ⟨p0, p1, p2, p3, p4⟩ := BA.out.two
 refine hK.out _ _ (fun _ => ?_) ?_
 ·exact ⟨p0, p1⟩
 clear hK K
 try simp only [PT]
 refine wpT_one 4 rfl (by kernel_rfl) (fun K hK => ?_)
 go_simp
 clear p0 p1 p2 p3 p4
 have HN0 := HN
 clear HN
 have BG := Lib.hid ((Box.alloc w2 (w2.heap.size) 29 #[.int .i64 e1, .int .i64 e2] (by simp)).new (New.refl _))
 have HN := Lib.hid ((New.refl w2).alloc (.cells #[.int .i64 e1, .int .i64 e2] 29))
 replace BA := Lib.hid (BA.out.new HN.out)
 have HN_ := HN0.out.trans HN.out
 clear HN HN0
 have HN := Lib.hid HN_
 clear HN_
 obtain ⟨p0, p1, p2, p3, p4⟩ := BA.out.two
 refine hK.out _ _ (fun _ => ?_) ?_
 ·exact ⟨p0, p1⟩
 clear hK K
 try simp only [PT]
 refine wpT_one 5 rfl (by kernel_rfl) (fun K hK => ?_)
 go_simp
 refine (pfirst2_new e1 e2 _ _ 29 _ BG.out).mono ?_
 rintro e w3 ⟨rfl, hn⟩
 rw [HR1.out]
 clear p0 p1 p2 p3 p4
 replace BA := Lib.hid (BA.out.new hn)
 replace HN := Lib.hid (HN.out.trans hn)
 clear hn
 obtain ⟨p0, p1, p2, p3, p4⟩ := BA.out.two
 refine hK.out _ _ (fun _ => ?_) ?_
 ·exact ⟨p0, p1⟩
 clear hK K
 try simp only [PT]
 refine wpT_tail rfl (by kernel_rfl) ?_
 simp only [List.drop_succ_cons, List.drop_zero]
 go_wp2_with fail
 refine (keeper_calls lo hi v _).mono ?_
 rintro e w4 ⟨A, B, rfl, hn, hA, hB, hne, bA, bB⟩
 have hsz := HN.out.size
 have hA' : w.heap.size ≤ A := by omega
 have hB' : w.heap.size ≤ B := by omega
 clear hA hB hsz
 clear p0 p1 p2 p3 p4
 have BBA := Lib.hid bA
 have BBB := Lib.hid bB
 have HA := Lib.hid hA'
 have HB := Lib.hid hB'
 have HNE := Lib.hid hne
 clear bA bB hA' hB' hne
 replace BA := Lib.hid (BA.out.new hn)
 replace HN := Lib.hid (HN.out.trans hn)
 clear hn
 go_wp2_with fail
 refine (mapped_keep a cap xs lo hi v A B _ _ _ hl4 (HR.out.new HN.out) BBA.out BBB.out HNE.out (HAB.out B HB.out)).mono ?_
 rintro e w5 ⟨u, rfl, hn, ho⟩
 have ho' := World.ownsRow.mono ho HN.out.size
 have hN : New w w5 := by
  obtain ⟨a1, a2, a3, a4, a5⟩ := HN.out
  exact ⟨hn.a.trans a1, hn.b.trans a2, hn.c.trans a3, Nat.le_trans a4 hn.size, fun j hj => (hn.block j (Nat.lt_of_lt_of_le hj a4) (by have := HB.out; omega)).trans (a5 j hj)⟩
 clear ho hn
 have HO := Lib.hid ho'
 have HN5 := Lib.hid hN
 clear ho' hN
 go_wp2_with fail
 go_ret2
 exact ⟨_, rfl, HN5.out, HO.out⟩
end Go.Proofs.YtlfnibjmkfldgaaGreatDoor
namespace Go.Proofs.YtlfnibjmkfldgaaGreatDoor
open Go.RowKit Big
def blockErr (n : Nat) : Int := if 4096 < n then 5 else if n = 16 then 0 else 2
set_option maxRecDepth 100000 in
set_option maxHeartbeats 1000000 in
theorem block_bad (a : Option Addr) (n cap : Nat) (w : World) (hn : n ≤ 1000000) (h0 : blockErr n ≠ 0) :
  Calls Tryz.prog 36 #[.slice a n cap] w fun e w' => e = .returned (.tuple #[.agg (Array.replicate 16 (.int .u16 0)), .int .i64 (blockErr n)]) ∧ New w w' := by
 obtain ⟨e1, he1⟩ : ∃ e1, fewErr n = e1 := ⟨_, rfl⟩
 have hfew := fun W => few_u16 a n cap W (by omega)
 rw [he1] at hfew
 have hne : n ≠ 16 := by intro h; subst h; exact h0 rfl
 have hni : ((n : Int) != 16) = true := by rw [bne_iff_ne]; omega
 obtain ⟨r, hr1⟩ : ∃ r : Int, (if e1 = 0 then 2 else e1) = r := ⟨_, rfl⟩
 have hrr : r = blockErr n := by
  rw [← hr1, ← he1]
  unfold fewErr blockErr
  by_cases h : 4096 < n
  ·rw [if_pos h, if_pos h]; rfl
  ·rw [if_neg h, if_neg h, if_neg hne]; rfl
 rw [← hrr] at h0 ⊢
 have ht : (r != 0) = true := by simpa using h0
 have hz : (Array.replicate 16 (.int .u16 0) : Array Value) = #[.int .u16 0, .int .u16 0, .int .u16 0, .int .u16 0, .int .u16 0, .int .u16 0, .int .u16 0, .int .u16 0, .int .u16 0, .int .u16 0, .int .u16 0, .int .u16 0, .int .u16 0, .int .u16 0, .int .u16 0, .int .u16 0] := by rfl
 rw [hz]
 clear hz
 have HE1 := Lib.hid he1
 have HR1 := Lib.hid hr1
 have HFEW := Lib.hid hfew
 have HRR := Lib.hid hrr
 have H0 := Lib.hid h0
 have HNE := Lib.hid hne
 clear he1 hr1 hfew hrr h0 hne
 go_enter Tryz.func36, Tryz.ntmps36
 go_wp2_with fail
 have BP := Lib.hid ((Box.alloc w (w.heap.size) 71 #[.int .u16 0, .int .u16 0, .int .u16 0, .int .u16 0, .int .u16 0, .int .u16 0, .int .u16 0, .int .u16 0, .int .u16 0, .int .u16 0, .int .u16 0, .int .u16 0, .int .u16 0, .int .u16 0, .int .u16 0, .int .u16 0] (by simp)).new (New.refl _))
 have HN := Lib.hid ((New.refl w).alloc (.cells #[.int .u16 0, .int .u16 0, .int .u16 0, .int .u16 0, .int .u16 0, .int .u16 0, .int .u16 0, .int .u16 0, .int .u16 0, .int .u16 0, .int .u16 0, .int .u16 0, .int .u16 0, .int .u16 0, .int .u16 0, .int .u16 0] 71))
 refine (HFEW.out _).mono ?_
 rintro e w1 ⟨rfl, hn⟩
 replace BP := Lib.hid (BP.out.new hn)
 replace HN := Lib.hid (HN.out.trans hn)
 clear hn
 go_wp2_with fail
 refine (pwhen_new true 2 _).mono ?_
 rintro e w2 ⟨rfl, hn⟩
 replace BP := Lib.hid (BP.out.new hn)
 replace HN := Lib.hid (HN.out.trans hn)
 clear hn
 go_wp2_with fail
 have HN0 := HN
 clear HN
 have BG := Lib.hid ((Box.alloc w2 (w2.heap.size) 29 #[.int .i64 e1, .int .i64 2] (by simp)).new (New.refl _))
 have HN := Lib.hid ((New.refl w2).alloc (.cells #[.int .i64 e1, .int .i64 2] 29))
 replace BP := Lib.hid (BP.out.new HN.out)
 have HN_ := HN0.out.trans HN.out
 clear HN HN0
 have HN := Lib.hid HN_
 clear HN_
 refine (pfirst2_new e1 2 _ _ 29 _ BG.out).mono ?_
 rintro e w3 ⟨rfl, hn⟩
 rw [HR1.out]
 replace BP := Lib.hid (BP.out.new hn)
 replace HN := Lib.hid (HN.out.trans hn)
 clear hn
 have p0 : w3.cell? ⟨w.heap.size, 0, none⟩ = some (.int .u16 0) := BP.out.cell 0
 have p1 : w3.cell? ⟨w.heap.size, 1, none⟩ = some (.int .u16 0) := BP.out.cell 1
 have p2 : w3.cell? ⟨w.heap.size, 2, none⟩ = some (.int .u16 0) := BP.out.cell 2
 have p3 : w3.cell? ⟨w.heap.size, 3, none⟩ = some (.int .u16 0) := BP.out.cell 3
 have p4 : w3.cell? ⟨w.heap.size, 4, none⟩ = some (.int .u16 0) := BP.out.cell 4
 have p5 : w3.cell? ⟨w.heap.size, 5, none⟩ = some (.int .u16 0) := BP.out.cell 5
 have p6 : w3.cell? ⟨w.heap.size, 6, none⟩ = some (.int .u16 0) := BP.out.cell 6
 have p7 : w3.cell? ⟨w.heap.size, 7, none⟩ = some (.int .u16 0) := BP.out.cell 7
 have p8 : w3.cell? ⟨w.heap.size, 8, none⟩ = some (.int .u16 0) := BP.out.cell 8
 have p9 : w3.cell? ⟨w.heap.size, 9, none⟩ = some (.int .u16 0) := BP.out.cell 9
 have p10 : w3.cell? ⟨w.heap.size, 10, none⟩ = some (.int .u16 0) := BP.out.cell 10
 have p11 : w3.cell? ⟨w.heap.size, 11, none⟩ = some (.int .u16 0) := BP.out.cell 11
 have p12 : w3.cell? ⟨w.heap.size, 12, none⟩ = some (.int .u16 0) := BP.out.cell 12
 have p13 : w3.cell? ⟨w.heap.size, 13, none⟩ = some (.int .u16 0) := BP.out.cell 13
 have p14 : w3.cell? ⟨w.heap.size, 14, none⟩ = some (.int .u16 0) := BP.out.cell 14
 have p15 : w3.cell? ⟨w.heap.size, 15, none⟩ = some (.int .u16 0) := BP.out.cell 15
 have q0 : w3.frozen? ⟨w.heap.size, 0, none⟩ = false := BP.out.frozen 0
 have q1 : w3.frozen? ⟨w.heap.size, 1, none⟩ = false := BP.out.frozen 1
 have q2 : w3.frozen? ⟨w.heap.size, 2, none⟩ = false := BP.out.frozen 2
 have q3 : w3.frozen? ⟨w.heap.size, 3, none⟩ = false := BP.out.frozen 3
 have q4 : w3.frozen? ⟨w.heap.size, 4, none⟩ = false := BP.out.frozen 4
 have q5 : w3.frozen? ⟨w.heap.size, 5, none⟩ = false := BP.out.frozen 5
 have q6 : w3.frozen? ⟨w.heap.size, 6, none⟩ = false := BP.out.frozen 6
 have q7 : w3.frozen? ⟨w.heap.size, 7, none⟩ = false := BP.out.frozen 7
 have q8 : w3.frozen? ⟨w.heap.size, 8, none⟩ = false := BP.out.frozen 8
 have q9 : w3.frozen? ⟨w.heap.size, 9, none⟩ = false := BP.out.frozen 9
 have q10 : w3.frozen? ⟨w.heap.size, 10, none⟩ = false := BP.out.frozen 10
 have q11 : w3.frozen? ⟨w.heap.size, 11, none⟩ = false := BP.out.frozen 11
 have q12 : w3.frozen? ⟨w.heap.size, 12, none⟩ = false := BP.out.frozen 12
 have q13 : w3.frozen? ⟨w.heap.size, 13, none⟩ = false := BP.out.frozen 13
 have q14 : w3.frozen? ⟨w.heap.size, 14, none⟩ = false := BP.out.frozen 14
 have q15 : w3.frozen? ⟨w.heap.size, 15, none⟩ = false := BP.out.frozen 15
 have l0 := BP.out.lt
 go_wp2_with fail
 refine bodyPost_ret (v := .tuple #[.agg #[.int .u16 0, .int .u16 0, .int .u16 0, .int .u16 0, .int .u16 0, .int .u16 0, .int .u16 0, .int .u16 0, .int .u16 0, .int .u16 0, .int .u16 0, .int .u16 0, .int .u16 0, .int .u16 0, .int .u16 0, .int .u16 0], .int .i64 r]) (by simp [results, Tryz.results36, go_sem, p0, p1, p2, p3, p4, p5, p6, p7, p8, p9, p10, p11, p12, p13, p14, p15]) rfl ?_
 refine ⟨rfl, ?_⟩
 have hN := HN.out
 repeat (with_reducible refine New.setCell ?_ (Nat.le_refl _) _)
 exact hN
end Go.Proofs.YtlfnibjmkfldgaaGreatDoor
namespace Go.Proofs.YtlfnibjmkfldgaaGreatDoor
open Go.RowKit Big
theorem aligned1_calls (x y : Nat) (w : World) (h : floatBits .add .f32 x 0 = some y) : Calls Tryz.prog 66 #[.float .f32 x] w fun e w' => e = .returned (.float .f32 y) ∧ New w w' := by
 have hrun := fun W => run_float_arith (P := Tryz.prog) W .add 23 .f32 x 0 y h
 go_enter Tryz.func66, Tryz.ntmps66
 go_wp2_with fail
 go_ret
 exact ⟨by first | rfl | trace_state, New.refl _⟩
end Go.Proofs.YtlfnibjmkfldgaaGreatDoor
namespace Go.Proofs.YtlfnibjmkfldgaaGreatDoor
open Go.RowKit Big
theorem words1_calls (a a0 : Option Addr) (n n0 c c0 m mc L B : Nat) (w : World) (hm : 0 < m) (h1 : w.cell? ⟨B, 0, none⟩ = some (.slice (some ⟨L, 0, none⟩) m mc)) (h2 : w.cell? ⟨L, 0, none⟩ = some (.slice a0 n0 c0)) :
  Calls Tryz.prog 68 #[.slice a n c, .pointer (some ⟨B, 0, none⟩)] w fun e w' => e = .returned (.bool (decide (n ≠ n0))) ∧ New w w' := by
 have hmi : (0 : Int) < (m : Int) := by omega
 by_cases h : n = n0
 ·subst h
  have hb : ((n : Int) != (n : Int)) = false := by simp
  go_enter Tryz.func68, Tryz.ntmps68
  go_wp2_with fail
  go_ret
  exact ⟨ret_bool (by simp), New.refl _⟩
 ·have hb : ((n : Int) != (n0 : Int)) = true := by rw [bne_iff_ne]; omega
  go_enter Tryz.func68, Tryz.ntmps68
  go_wp2_with fail
  go_ret
  exact ⟨ret_bool (by simp [h]), New.refl _⟩
end Go.Proofs.YtlfnibjmkfldgaaGreatDoor
namespace Go.Proofs.YtlfnibjmkfldgaaGreatDoor
open Go.RowKit Big
theorem own_neS {w : World} {base j : Nat} {e : TypeId} {S : Nat} {v : Value} {n : Nat} {xs : List Value} (h : w.ownsRow base e S v n xs) (hj : j < base) : some j ≠ v.ownBlock := by
 rcases h.2 with ⟨rfl, _⟩ | ⟨g, cap, cur, rfl, hb, _⟩
 ·intro h; cases h
 ·intro h
  injection h with h
  simp only at h
  omega
theorem grown_newS {w wr w1 : World} {o : Obj} {v : Value} {e : TypeId} {S : Nat} {n : Nat} {xs : List Value} (hn : New w wr) (h : wr.ownsRow w.heap.size e S v n xs) (hg : (wr.alloc o).grownBy w1 v.ownBlock) : New w w1 := by
 have h2 := hn.alloc o
 obtain ⟨a1, a2, a3, a4, a5⟩ := h2
 refine ⟨hg.os.trans a1, ?_, ?_, Nat.le_trans a4 hg.size, fun j hj => ?_⟩
 ·first | exact hg.tape.trans a2 | exact hg.output.trans a2
 ·first | exact hg.output.trans a3 | exact hg.tape.trans a3
 ·exact (hg.block j (Nat.lt_of_lt_of_le hj a4) (own_neS h hj)).trans (a5 j hj)
theorem own_newS {w w' : World} {base : Nat} {e : TypeId} {S : Nat} {v : Value} {n : Nat} {xs : List Value} (h : w.ownsRow base e S v n xs) (hn : New w w') : w'.ownsRow base e S v n xs := by
 refine ⟨h.1, ?_⟩
 rcases h.2 with h2 | ⟨g, cap, cur, h1, h2, h3, h4⟩
 ·exact .inl h2
 ·refine .inr ⟨g, cap, cur, h1, h2, ?_, h4⟩
  have hlt : g < w.heap.size := by
   rcases Nat.lt_or_ge g w.heap.size with h | h
   ·exact h
   ·rw [Array.getElem?_eq_none h] at h3; cases h3
  rw [Below.block hn g hlt, h3]
theorem box_cells {w : World} {B : Nat} {t : TypeId} {cs : Array Value} (h : Box w B t cs) : ∀ (j : Nat) (u : Value), cs.toList[j]? = some u → w.cell? ((⟨B, 0, none⟩ : Addr).add j) = some u := by
 intro j u hj
 have : w.cell? ⟨B, j, none⟩ = cs[j]? := h.cell j
 have e : (⟨B, 0, none⟩ : Addr).add j = ⟨B, j, none⟩ := by
  unfold Addr.add
  split
  ·rename_i h0; simp_all
  ·simp
 rw [e, this]
 simpa using hj
theorem alloc_cells (wr : World) (cs : Array Value) (t : TypeId) : ∀ (j : Nat) (u : Value), cs.toList[j]? = some u → (wr.alloc (.cells cs t)).cell? ((⟨wr.heap.size, 0, none⟩ : Addr).add j) = some u :=
 box_cells (Box.alloc wr wr.heap.size t cs rfl)
theorem own_rd {w : World} {base : Nat} {e : TypeId} {v : Value} {n : Nat} {xs : List Value} (h : w.ownsRow base e 1 v n xs) : ∃ (a : Option Addr) (cap : Nat), v = .slice a n cap ∧ RdL w a xs ∧ xs.length = n := by
 have hl := h.1
 rw [Nat.mul_one] at hl
 rcases h.2 with ⟨rfl, rfl⟩ | ⟨g, cap, cur, rfl, hb, hc, h1, h2, h3, h4⟩
 ·exact ⟨none, 0, rfl, fun i hi => by omega, hl⟩
 ·refine ⟨_, _, rfl, fun i hi => ⟨g, 0, rfl, ?_⟩, hl⟩
  have : w.cell? ⟨g, 0 + i, none⟩ = cur[0 + i]? := by simp [World.cell?, hc]
  rw [this, Nat.zero_add]
  rw [Nat.mul_one] at h4
  subst h4
  have hi' : i < cur.size := by simp at hi; omega
  rw [Array.getElem?_eq_getElem hi']
  simp
def RowPostS (w : World) (e : TypeId) (S : Nat) (m : Nat) (xs : List Value) (n : Int) (en : Ending) (w' : World) : Prop := ∃ v, en = .returned (.tuple #[v, .int .i64 n]) ∧ New w w' ∧ w'.ownsRow w.heap.size e S v m xs
theorem own_rdS {w : World} {base : Nat} {e : TypeId} {S : Nat} {v : Value} {n : Nat} {xs : List Value} (h : w.ownsRow base e S v n xs) : ∃ (a : Option Addr) (cap : Nat), v = .slice a n cap ∧ RdL w a xs ∧ xs.length = n * S := by
 have hl := h.1
 rcases h.2 with ⟨rfl, rfl⟩ | ⟨g, cap, cur, rfl, hb, hc, h1, h2, h3, h4⟩
 ·exact ⟨none, 0, rfl, fun i hi => by rw [hl, Nat.zero_mul] at hi; omega, hl⟩
 ·refine ⟨_, _, rfl, fun i hi => ⟨g, 0, rfl, ?_⟩, hl⟩
  have : w.cell? ⟨g, 0 + i, none⟩ = cur[0 + i]? := by simp [World.cell?, hc]
  rw [this, Nat.zero_add]
  subst h4
  have hi' : i < cur.size := by simp at hi; omega
  rw [Array.getElem?_eq_getElem hi']
  simp
theorem info_arr2 : (Tryz.prog.info? 55).map (fun i => (i.zero, i.size, i.bytes)) = some (some (.agg #[.int .i64 0, .int .i64 0]), 2, 16) := by kernel_rfl
theorem info_arr16 : (Tryz.prog.info? 71).map (fun i => (i.zero, i.size, i.bytes)) = some (some (.agg #[.int .u16 0, .int .u16 0, .int .u16 0, .int .u16 0, .int .u16 0, .int .u16 0, .int .u16 0, .int .u16 0, .int .u16 0, .int .u16 0, .int .u16 0, .int .u16 0, .int .u16 0, .int .u16 0, .int .u16 0, .int .u16 0]), 16, 32) := by kernel_rfl
theorem info_fsl : (Tryz.prog.info? 22).map (fun i => (i.zero, i.size, i.bytes)) = some (some (.slice none 0 0), 1, 24) := by kernel_rfl
theorem RdL.src {w : World} {a : Option Addr} {vs : List Value} (h : RdL w a vs) (h0 : 0 < vs.length) : ∃ ad : Addr, a = some ad ∧ ∀ (j : Nat) (v : Value), vs[j]? = some v → w.cell? (ad.add j) = some v := by
 obtain ⟨b, off, e, _⟩ := h 0 h0
 refine ⟨⟨b, off, none⟩, e, fun j v hj => ?_⟩
 obtain ⟨hl, hv⟩ := List.getElem?_eq_some_iff.1 hj
 obtain ⟨b2, off2, e2, hc⟩ := h j hl
 rw [e] at e2
 injection e2 with e2
 injection e2 with e2 e3
 subst e2 e3
 have ea : (⟨b, off, none⟩ : Addr).add j = ⟨b, off + j, none⟩ := by
  unfold Addr.add
  split
  ·rename_i h0; simp_all
  ·simp
 rw [ea, hc, hv]
end Go.Proofs.YtlfnibjmkfldgaaGreatDoor
namespace Go.Proofs.YtlfnibjmkfldgaaGreatDoor
open Go.RowKit Big
def RowsOf (w : World) (base : Nat) (ts te : TypeId) (out : Value) (xss : List (List Value)) : Prop :=
 ∃ vs : List Value, w.ownsRow base ts 1 out vs.length vs ∧ vs.length = xss.length ∧ ∀ (k : Nat) (v : Value) (xs : List Value), vs[k]? = some v → xss[k]? = some xs → w.ownsRow base te 1 v xs.length xs ∧ (v.ownBlock = none ∨ v.ownBlock ≠ out.ownBlock)
theorem RowsOf.nil (w : World) (base : Nat) (ts te : TypeId) : RowsOf w base ts te (.slice none 0 0) [] :=
 ⟨[], World.ownsRow_nil _ _ _ _, rfl, fun (k : Nat) v xs h => by simp at h⟩
theorem RowsOf.new {w w' : World} {base : Nat} {ts te : TypeId} {out : Value} {xss : List (List Value)} (h : RowsOf w base ts te out xss) (hn : New w w') : RowsOf w' base ts te out xss := by
 obtain ⟨vs, h1, h2, h3⟩ := h
 exact ⟨vs, own_newS h1 hn, h2, fun k v xs hk hx => ⟨own_newS (h3 k v xs hk hx).1 hn, (h3 k v xs hk hx).2⟩⟩
theorem own_mono {w : World} {base base' : Nat} {e : TypeId} {S : Nat} {v : Value} {n : Nat} {xs : List Value} (h : w.ownsRow base e S v n xs) (hb : base' ≤ base) : w.ownsRow base' e S v n xs := by
 refine ⟨h.1, ?_⟩
 rcases h.2 with h2 | ⟨g, cap, cur, h1, h2, h3⟩
 ·exact .inl h2
 ·exact .inr ⟨g, cap, cur, h1, Nat.le_trans hb h2, h3⟩
theorem RowsOf.mono {w : World} {base base' : Nat} {ts te : TypeId} {out : Value} {xss : List (List Value)} (h : RowsOf w base ts te out xss) (hb : base' ≤ base) : RowsOf w base' ts te out xss := by
 obtain ⟨vs, h1, h2, h3⟩ := h
 exact ⟨vs, own_mono h1 hb, h2, fun k v xs hk hx => ⟨own_mono (h3 k v xs hk hx).1 hb, (h3 k v xs hk hx).2⟩⟩
theorem own_lt {w : World} {base : Nat} {e : TypeId} {S : Nat} {v : Value} {n : Nat} {xs : List Value} (h : w.ownsRow base e S v n xs) {k : Nat} (hk : v.ownBlock = some k) : base ≤ k ∧ k < w.heap.size := World.ownsRow.lt h k hk
theorem RowsOf.snoc {wr w1 w2 : World} {base : Nat} {ts te : TypeId} {out out' v : Value} {vs : List Value} {xss : List (List Value)} {xs : List Value} {o : Obj}
  (h1 : wr.ownsRow base ts 1 out vs.length vs) (h2 : vs.length = xss.length) (h3 : ∀ (k : Nat) (v : Value) (xs : List Value), vs[k]? = some v → xss[k]? = some xs → wr.ownsRow base te 1 v xs.length xs ∧ (v.ownBlock = none ∨ v.ownBlock ≠ out.ownBlock))
  (hn : New wr w1) (hv : w1.ownsRow wr.heap.size te 1 v xs.length xs) (hb : base ≤ wr.heap.size)
  (hown : w2.ownsRow base ts 1 out' (vs.length + 1) (vs ++ [v])) (hg : (w1.alloc o).grownBy w2 out.ownBlock) (hat : out'.ownBlock = out.ownBlock ∨ out'.ownBlock = some (w1.heap.size + 1)) : RowsOf w2 base ts te out' (xss ++ [xs]) := by
 have hsz : (w1.alloc o).heap.size = w1.heap.size + 1 := (size_alloc w1 o).symm
 refine ⟨vs ++ [v], by simpa using hown, by simp [h2], fun k u ys hk hx => ?_⟩
 have key : ∀ (u : Value) (ys : List Value), w1.ownsRow base te 1 u ys.length ys → (u.ownBlock = none ∨ u.ownBlock ≠ out.ownBlock) → w2.ownsRow base te 1 u ys.length ys ∧ (u.ownBlock = none ∨ u.ownBlock ≠ out'.ownBlock) := by
  intro u ys hu hne
  refine ⟨World.ownsRow.kept (World.ownsRow.alloc hu o) hg hne, ?_⟩
  rcases hat with e | e
  ·rw [e]; exact hne
  ·cases hb' : u.ownBlock with
   | none => exact .inl rfl
   | some j =>
    right
    rw [e]
    intro hj
    injection hj with hj
    have := (own_lt hu hb').2
    omega
 by_cases hlt : k < vs.length
 ·rw [List.getElem?_append_left hlt] at hk
  rw [List.getElem?_append_left (by omega)] at hx
  have := h3 k u ys hk hx
  exact key u ys (own_newS this.1 hn) this.2
 ·rw [List.getElem?_append_right (by omega)] at hk hx
  have hk0 : k - vs.length = 0 := by
   rcases Nat.eq_zero_or_pos (k - vs.length) with h | h
   ·exact h
   ·rw [List.getElem?_eq_none (by simp; omega)] at hk; cases hk
  rw [hk0] at hk
  rw [← h2, hk0] at hx
  simp at hk hx
  subst hk hx
  refine key v xs (own_mono hv hb) ?_
  cases hb' : v.ownBlock with
  | none => exact .inl rfl
  | some j =>
   right
   intro hj
   have h4 := (own_lt hv hb').1
   have h5 := (own_lt h1 hj.symm).2
   omega
theorem RowsOf.rd {w : World} {base : Nat} {ts te : TypeId} {out : Value} {xss : List (List Value)} (h : RowsOf w base ts te out xss) :
  ∃ (a : Option Addr) (cap : Nat) (vs : List Value), out = .slice a xss.length cap ∧ RdL w a vs ∧ vs.length = xss.length ∧ ∀ (k : Nat) (v : Value) (xs : List Value), vs[k]? = some v → xss[k]? = some xs → ∃ (a' : Option Addr) (c' : Nat), v = .slice a' xs.length c' ∧ RdL w a' xs ∧ xs.length ≤ c' := by
 obtain ⟨vs, h1, h2, h3⟩ := h
 obtain ⟨a, cap, e, hr, _⟩ := own_rd h1
 refine ⟨a, cap, vs, by rw [e, h2], hr, h2, fun k v xs hk hx => ?_⟩
 have hv := (h3 k v xs hk hx).1
 obtain ⟨a', c', e', hr', _⟩ := own_rd hv
 refine ⟨a', c', e', hr', ?_⟩
 rcases hv.2 with ⟨e2, h0⟩ | ⟨g, cap2, cur, e2, _, _, hle, _⟩
 ·omega
 ·rw [e'] at e2
  injection e2 with _ _ e3
  omega
def RdLL (w : World) (a : Option Addr) (rv : List Value) (xss : List (List Value)) : Prop :=
 RdL w a rv ∧ rv.length = xss.length ∧ ∀ (k : Nat) (v : Value) (xs : List Value), rv[k]? = some v → xss[k]? = some xs → ∃ (a' : Option Addr) (c' : Nat), v = .slice a' xs.length c' ∧ RdL w a' xs ∧ xs.length ≤ c'
theorem RdLL.new {w w' : World} {a : Option Addr} {rv : List Value} {xss : List (List Value)} (h : RdLL w a rv xss) (hn : New w w') : RdLL w' a rv xss :=
 ⟨h.1.new hn, h.2.1, fun k v xs hk hx => by
  obtain ⟨a', c', e, hr⟩ := h.2.2 k v xs hk hx
  exact ⟨a', c', e, hr.1.new hn, hr.2⟩⟩
theorem RdLL.at {w : World} {a : Option Addr} {rv : List Value} {xss : List (List Value)} (h : RdLL w a rv xss) (k : Nat) (hk : k < xss.length) :
  ∃ (b off : Nat) (a' : Option Addr) (c' : Nat), a = some ⟨b, off, none⟩ ∧ w.cell? ⟨b, off + k, none⟩ = some (.slice a' xss[k].length c') ∧ RdL w a' xss[k] ∧ xss[k].length ≤ c' := by
 have hk' : k < rv.length := by rw [h.2.1]; exact hk
 obtain ⟨b, off, e, hc⟩ := h.1 k hk'
 obtain ⟨a', c', e', hr⟩ := h.2.2 k rv[k] xss[k] (List.getElem?_eq_getElem hk') (List.getElem?_eq_getElem hk)
 exact ⟨b, off, a', c', e, by rw [hc, e'], hr⟩
theorem RowsOf.rdll {w : World} {base : Nat} {ts te : TypeId} {out : Value} {xss : List (List Value)} (h : RowsOf w base ts te out xss) : ∃ (a : Option Addr) (cap : Nat) (vs : List Value), out = .slice a xss.length cap ∧ RdLL w a vs xss := by
 obtain ⟨a, cap, vs, e, h1, h2, h3⟩ := h.rd
 exact ⟨a, cap, vs, e, h1, h2, h3⟩
end Go.Proofs.YtlfnibjmkfldgaaGreatDoor
namespace Go.Proofs.YtlfnibjmkfldgaaGreatDoor
open Go.RowKit Big
def padW (xs : List Nat) (m : Nat) : List Nat := (List.range m).map fun i => xs.getD i 0
def nBlocks (n : Nat) : Nat := (n + 15) / 16
theorem run_arrayAt_le (w : World) (a : Option Addr) (n c : Nat) (h : 16 ≤ n) : Sem.run Tryz.prog (Instr.arrayAt 71 (.slice a n c)) w = .ok (.pointer a) w := by
 have hu := run_underlying Tryz.underlying71 w
 have h2 : ¬ n < 16 := by omega
 simp [Instr.arrayAt, go_sem, hu, h2]
theorem padW_len (xs : List Nat) (m : Nat) : (padW xs m).length = m := by simp [padW]
theorem words_pad (xs : List Nat) {m : Nat} (h : xs.length ≤ m) : words (padW xs m) = words xs ++ List.replicate (m - xs.length) (.int .u16 0) := by
 apply List.ext_getElem?
 intro i
 unfold words padW
 by_cases hi : i < xs.length
 ·rw [List.getElem?_append_left (by simpa using hi)]
  simp [hi, show i < m by omega]
 ·rw [List.getElem?_append_right (by simp; omega)]
  by_cases him : i < m
  ·simp [him, show i - xs.length < m - xs.length by omega, List.getD_eq_getElem?_getD, List.getElem?_eq_none (show xs.length ≤ i by omega)]
  ·simp [him, show ¬ i - xs.length < m - xs.length by omega]
theorem pad_next (xs : List Nat) {m k : Nat} (h : k < m) : words ((padW xs (16 * m)).take (16 * (k + 1))) = words ((padW xs (16 * m)).take (16 * k)) ++ words ((List.range 16).map fun j => xs.getD (16 * k + j) 0) := by
 have e : (padW xs (16 * m)).take (16 * (k + 1)) = (padW xs (16 * m)).take (16 * k) ++ (List.range 16).map fun j => xs.getD (16 * k + j) 0 := by
  apply List.ext_getElem?
  intro i
  unfold padW
  by_cases hi : i < 16 * k
  ·rw [List.getElem?_append_left (by simp; omega)]
   simp [hi, show i < 16 * (k + 1) by omega]
  ·rw [List.getElem?_append_right (by simp; omega)]
   by_cases h2 : i < 16 * (k + 1)
   ·have h3 : i < 16 * m := by omega
    have h4 : min (16 * k) (16 * m) = 16 * k := by omega
    simp [h2, h3, h4, show i - 16 * k < 16 by omega, show 16 * k + (i - 16 * k) = i by omega]
   ·have h4 : min (16 * k) (16 * m) = 16 * k := by omega
    simp [List.getElem?_take, h2, h4, show ¬ i - 16 * k < 16 by omega]
 rw [e]
 simp [words]
theorem words_oneCell (xs : List Nat) : ∀ u ∈ words xs, u.oneCell' = true := by
 intro u hu
 unfold words at hu
 obtain ⟨x, _, rfl⟩ := List.mem_map.1 hu
 rfl
set_option maxRecDepth 100000 in
set_option maxHeartbeats 2000000 in
theorem Blocks_ok (a : Option Addr) (cap : Nat) (xs : List Nat) (w : World) (hl : xs.length ≤ 4096) (hr : RdL w a (words xs)) :
  Calls Tryz.prog 37 #[.slice a xs.length cap] w (RowPostS w 71 16 (nBlocks xs.length) (words (padW xs (16 * nBlocks xs.length))) 0) := by
 obtain ⟨i0, hi, hz0, hz1, hz2⟩ := info_parts info_arr16
 have hfew := fun W => few_u16 a xs.length cap W (by omega)
 rw [show fewErr xs.length = 0 from if_neg (by omega)] at hfew
 obtain ⟨m, hm⟩ : ∃ m, nBlocks xs.length = m := ⟨_, rfl⟩
 have hm' : (xs.length + 15) / 16 = m := hm
 have hb := fun W => pblocks_calls xs.length W (by omega)
 simp only [hm'] at hb
 rw [hm]
 have hmb : m ≤ 256 := by omega
 have hw1 : wrap64 (16 * (m : Int)) = ((16 * m : Nat) : Int) := by rw [ld_in (by omega) (by omega)]; omega
 have hw2 : IntKind.i64.wrap (16 * (m : Int)) = ((16 * m : Nat) : Int) := by rw [IntKind.wrap_i64]; omega
 have HFEW := Lib.hid hfew
 have HB := Lib.hid hb
 have HR := Lib.hid hr
 have HM := Lib.hid hm'
 have HL := Lib.hid hl
 clear hfew hb hr hm' hl
 go_enter Tryz.func37, Tryz.ntmps37
 go_wp2_with fail
 refine (HFEW.out _).mono ?_
 rintro e w1 ⟨rfl, hn⟩
 have HN := Lib.hid hn
 clear hn
 go_wp2_with fail
 refine (HB.out _).mono ?_
 rintro e w2 ⟨rfl, hn⟩
 replace HN := Lib.hid (HN.out.trans hn)
 clear hn
 obtain ⟨iu, hiu, hu0, hu1, hu2⟩ := info_parts info_u16
 have hms := HN.out.size
 go_wp2_with (at_make; refine wpList_make_full _ rfl _ _ 58 rfl w.heap.size 70 iu (.int .u16 0) 1 Tryz.underlying58 hiu hu0 hu1 .i64 .i64 _ _ (16 * m) rfl rfl (by omega) (by omega) (by rw [hu2]; omega) (by unfold maxLen; omega) hms ?_)
 intro w3 hown hg3
 obtain ⟨B, hB⟩ : ∃ x, w2.heap.size = x := ⟨_, rfl⟩
 have hn3 : New w2 w3 := ⟨hg3.os, by first | exact hg3.tape | exact hg3.output, by first | exact hg3.output | exact hg3.tape, hg3.size, fun j hj => hg3.block j hj (by intro h; cases h)⟩
 have hwB : w.heap.size ≤ B := by rw [← hB]; exact hms
 rw [hB] at hown ⊢
 have hbox : w3.heap[B]? = some (.cells (List.replicate (16 * m) (Value.int .u16 0)).toArray 70 (0, 0)) := by
  rcases hown.2 with ⟨h0, _⟩ | ⟨g, cap2, cur, hv, _, hc, h2, _, h3, h4⟩
  ·cases h0
  ·injection hv with hv1 _ hv2
   injection hv1 with hv1
   injection hv1 with hv1
   subst hv1
   rw [hc]
   congr 2
   rw [Nat.mul_one] at h4
   have : cur.toList = List.replicate (16 * m) (Value.int .u16 0) := by
    rw [List.take_of_length_le (by simp; omega)] at h4
    rw [h4]
    simp [madeCells, Nat.mod_one]
    rw [List.eq_replicate_iff]
    simp
   rw [← this]
 clear hown hg3 hms
 have HBOX := Lib.hid hbox
 have HWB := Lib.hid hwB
 have HBE := Lib.hid hB
 clear hbox hwB hB
 replace HN := Lib.hid (HN.out.trans hn3)
 clear hn3
 have hpos : 0 < (words xs).length → (some (⟨B, 0, none⟩ : Addr) = some ⟨B, 0, none⟩ ∧ ∃ ad, a = some ad ∧ ∀ j v, (words xs)[j]? = some v → w3.cell? (ad.add j) = some v) := fun h0 => ⟨rfl, (HR.out.new HN.out).src h0⟩
 have hwl : (words xs).length = xs.length := by simp [words]
 have hmin : (words xs).length = Nat.min xs.length (16 * m) := by rw [hwl]; have := HM.out; exact (Nat.min_eq_left (by omega)).symm
 have HPOS := Lib.hid hpos
 have HWL := Lib.hid hwl
 have HMIN := Lib.hid hmin
 clear hpos hwl hmin
 go_wp2_with ((with_reducible show wpList _ _ _ _ _ _); refine wpList_copy_splice rfl (.tmp 18) (.tmp 19) 58 58 rfl 70 Tryz.underlying58 (by rw [hiu]; simp [hu1]) _ _ _ _ _ _ rfl rfl B 0 (List.replicate (16 * m) (Value.int .u16 0)) 70 HBOX.out (words xs) HMIN.out HPOS.out (by rw [HWL.out, List.length_replicate]; have := HM.out; omega) (words_oneCell xs) w.heap.size w HN.out HWB.out ?_)
 intro w4 hb4 hn4
 have hsp : splice (List.replicate (16 * m) (Value.int .u16 0)) 0 (words xs) = words (padW xs (16 * m)) := by
  have h1 := HM.out
  rw [words_pad xs (by omega)]
  unfold splice
  rw [HWL.out]
  simp
 have hpb : w4.heap[B]? = some (.cells (words (padW xs (16 * m))).toArray 70 (0, 0)) := by rw [← hsp]; exact hb4.out
 have hN4 : New w w4 := hn4
 clear hb4 hn4 hsp HN HBOX HPOS HMIN
 have HPB := Lib.hid hpb
 have HN := Lib.hid hN4
 clear hpb hN4
 go_wp2_with fail
 refine (HB.out _).mono ?_
 rintro e w5 ⟨rfl, hn⟩
 have hpb : Box w5 B 70 (words (padW xs (16 * m))).toArray := Box.new (show Box w4 B 70 _ from HPB.out) hn
 clear HPB
 have HPB := Lib.hid hpb
 clear hpb
 replace HN := Lib.hid (HN.out.trans hn)
 clear hn
 go_wp2_with fail
 go_loopw [6, 24] (fun v i wr => ∃ (k : Nat), k ≤ m ∧ i = .int .i64 (k : Int) ∧ Hid (wr.ownsRow w5.heap.size 71 16 v k (words ((padW xs (16 * m)).take (16 * k)))) ∧ Hid (New w5 wr)) (fun _ i _ => m - (intOf i).toNat)
 case atStart => exact ⟨0, Nat.zero_le _, rfl, Lib.hid (World.ownsRow_nil _ _ _ _), Lib.hid (New.refl _)⟩
 case round =>
  obtain ⟨k, hk, rfl, HO, HM2⟩ := hrel
  by_cases hlt : k < m
  ·obtain ⟨f, hf⟩ : ∃ f : Nat → Nat, (fun j => xs.getD (16 * k + j) 0) = f := ⟨_, rfl⟩
   obtain ⟨o16, ho16⟩ : ∃ o, 16 * k = o := ⟨_, rfl⟩
   have hfd : ∀ j, xs.getD (16 * k + j) 0 = f j := fun j => by rw [← hf]
   have hnx := pad_next xs hlt
   simp only [hfd] at hnx
   have hnx2 : words ((List.range 16).map fun j => f j) = [.int .u16 (f 0 : Nat), .int .u16 (f 1 : Nat), .int .u16 (f 2 : Nat), .int .u16 (f 3 : Nat), .int .u16 (f 4 : Nat), .int .u16 (f 5 : Nat), .int .u16 (f 6 : Nat), .int .u16 (f 7 : Nat), .int .u16 (f 8 : Nat), .int .u16 (f 9 : Nat), .int .u16 (f 10 : Nat), .int .u16 (f 11 : Nat), .int .u16 (f 12 : Nat), .int .u16 (f 13 : Nat), .int .u16 (f 14 : Nat), .int .u16 (f 15 : Nat)] := rfl
   rw [hnx2, ho16] at hnx
   have hwa : wrap64 ((k : Int) * 16) = (o16 : Int) := by rw [ld_in (by omega) (by omega)]; omega
   have hwb : IntKind.i64.wrap ((k : Int) * 16) = (o16 : Int) := by rw [IntKind.wrap_i64]; omega
   have hobd : o16 + 16 ≤ 16 * m := by omega
   have hat := fun W => run_arrayAt_le W (some ⟨B, o16, none⟩) (16 * m - o16) (16 * m - o16) (by omega)
   have hbx := HPB.out.new HM2.out
   have hcell : ∀ j, j < 16 → wr.cell? ⟨B, o16 + j, none⟩ = some (.int .u16 (f j : Nat)) := by
    intro j hj
    rw [hbx.cell (o16 + j), ← hfd j, ho16]
    have : o16 + j < (padW xs (16 * m)).length := by rw [padW_len]; omega
    simp [words, padW, show o16 + j < 16 * m by omega]
   have hol : (o16 : Int) ≤ 5000 := by omega
   have hne16 : ¬ 16 * m = o16 := by omega
   have hoi : (o16 : Int) ≤ 16 * (m : Int) := by omega
   clear hnx2 hf hbx
   have HNX := Lib.hid hnx
   have HFD := Lib.hid hfd
   have HCELL := Lib.hid hcell
   have HO16 := Lib.hid ho16
   have HOBD := Lib.hid hobd
   clear hnx hfd hcell ho16 hobd
   have c0 : wr.cell? ⟨B, o16, none⟩ = some (.int .u16 (f 0 : Nat)) := HCELL.out 0 (by omega)
   have c1 : wr.cell? ⟨B, o16 + 1, none⟩ = some (.int .u16 (f 1 : Nat)) := HCELL.out 1 (by omega)
   have c2 : wr.cell? ⟨B, o16 + 2, none⟩ = some (.int .u16 (f 2 : Nat)) := HCELL.out 2 (by omega)
   have c3 : wr.cell? ⟨B, o16 + 3, none⟩ = some (.int .u16 (f 3 : Nat)) := HCELL.out 3 (by omega)
   have c4 : wr.cell? ⟨B, o16 + 4, none⟩ = some (.int .u16 (f 4 : Nat)) := HCELL.out 4 (by omega)
   have c5 : wr.cell? ⟨B, o16 + 5, none⟩ = some (.int .u16 (f 5 : Nat)) := HCELL.out 5 (by omega)
   have c6 : wr.cell? ⟨B, o16 + 6, none⟩ = some (.int .u16 (f 6 : Nat)) := HCELL.out 6 (by omega)
   have c7 : wr.cell? ⟨B, o16 + 7, none⟩ = some (.int .u16 (f 7 : Nat)) := HCELL.out 7 (by omega)
   have c8 : wr.cell? ⟨B, o16 + 8, none⟩ = some (.int .u16 (f 8 : Nat)) := HCELL.out 8 (by omega)
   have c9 : wr.cell? ⟨B, o16 + 9, none⟩ = some (.int .u16 (f 9 : Nat)) := HCELL.out 9 (by omega)
   have c10 : wr.cell? ⟨B, o16 + 10, none⟩ = some (.int .u16 (f 10 : Nat)) := HCELL.out 10 (by omega)
   have c11 : wr.cell? ⟨B, o16 + 11, none⟩ = some (.int .u16 (f 11 : Nat)) := HCELL.out 11 (by omega)
   have c12 : wr.cell? ⟨B, o16 + 12, none⟩ = some (.int .u16 (f 12 : Nat)) := HCELL.out 12 (by omega)
   have c13 : wr.cell? ⟨B, o16 + 13, none⟩ = some (.int .u16 (f 13 : Nat)) := HCELL.out 13 (by omega)
   have c14 : wr.cell? ⟨B, o16 + 14, none⟩ = some (.int .u16 (f 14 : Nat)) := HCELL.out 14 (by omega)
   have c15 : wr.cell? ⟨B, o16 + 15, none⟩ = some (.int .u16 (f 15 : Nat)) := HCELL.out 15 (by omega)
   have h1c : ∀ u ∈ ([.int .u16 (f 0 : Nat), .int .u16 (f 1 : Nat), .int .u16 (f 2 : Nat), .int .u16 (f 3 : Nat), .int .u16 (f 4 : Nat), .int .u16 (f 5 : Nat), .int .u16 (f 6 : Nat), .int .u16 (f 7 : Nat), .int .u16 (f 8 : Nat), .int .u16 (f 9 : Nat), .int .u16 (f 10 : Nat), .int .u16 (f 11 : Nat), .int .u16 (f 12 : Nat), .int .u16 (f 13 : Nat), .int .u16 (f 14 : Nat), .int .u16 (f 15 : Nat)] : List Value), u.oneCell' = true := by intro u hu; simp at hu; rcases hu with rfl | rfl | rfl | rfl | rfl | rfl | rfl | rfl | rfl | rfl | rfl | rfl | rfl | rfl | rfl | rfl <;> rfl
   have hki : (k : Int) ≤ 300 := by omega
   have H1C := Lib.hid h1c
   clear h1c
   go_wp2_with (at_builtin; refine wpList_append_own _ rfl _ _ 69 rfl w5.heap.size 71 i0 _ 16 32 Tryz.underlying69 hi hz0 hz1 hz2 rfl (by decide) _ _ _ rfl (HO.out.alloc _) ⟨wr.heap.size, 0, none⟩ 1 1 [.int .u16 (f 0 : Nat), .int .u16 (f 1 : Nat), .int .u16 (f 2 : Nat), .int .u16 (f 3 : Nat), .int .u16 (f 4 : Nat), .int .u16 (f 5 : Nat), .int .u16 (f 6 : Nat), .int .u16 (f 7 : Nat), .int .u16 (f 8 : Nat), .int .u16 (f 9 : Nat), .int .u16 (f 10 : Nat), .int .u16 (f 11 : Nat), .int .u16 (f 12 : Nat), .int .u16 (f 13 : Nat), .int .u16 (f 14 : Nat), .int .u16 (f 15 : Nat)] rfl rfl (alloc_cells _ #[.int .u16 (f 0 : Nat), .int .u16 (f 1 : Nat), .int .u16 (f 2 : Nat), .int .u16 (f 3 : Nat), .int .u16 (f 4 : Nat), .int .u16 (f 5 : Nat), .int .u16 (f 6 : Nat), .int .u16 (f 7 : Nat), .int .u16 (f 8 : Nat), .int .u16 (f 9 : Nat), .int .u16 (f 10 : Nat), .int .u16 (f 11 : Nat), .int .u16 (f 12 : Nat), .int .u16 (f 13 : Nat), .int .u16 (f 14 : Nat), .int .u16 (f 15 : Nat)] _) H1C.out (by unfold maxLen; omega) (by omega) (by have := HM2.out.size; rw [← size_alloc]; omega) ?_)
   intro v' w9 hown' hgrow _
   have hN1 := grown_newS HM2.out HO.out hgrow
   have hO1 : w9.ownsRow w5.heap.size 71 16 v' (k + 1) (words ((padW xs (16 * m)).take (16 * (k + 1)))) := by
    rw [HNX.out, ← HO16.out]
    exact hown'
   clear hown' hgrow c0 c1 c2 c3 c4 c5 c6 c7 c8 c9 c10 c11 c12 c13 c14 c15
   have HN1 := Lib.hid hN1
   have HO1 := Lib.hid hO1
   clear hN1 hO1
   go_wp2_with fail
   go_roundw
   case rel => exact ⟨k + 1, by omega, by go_num, HO1, HN1⟩
   case measure => simp [intOf]; omega
  ·have hkk : k = m := by omega
   have hO := HO.out
   rw [hkk, List.take_of_length_le (by rw [padW_len]; omega)] at hO
   clear HO
   have HO := Lib.hid hO
   have HKK := Lib.hid hkk
   clear hO hkk
   go_wp2_with fail
   go_ret2
   exact ⟨_, rfl, HN.out.trans HM2.out, own_mono HO.out HN.out.size⟩
end Go.Proofs.YtlfnibjmkfldgaaGreatDoor
