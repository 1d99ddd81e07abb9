/- Part CardTog01. -/
import Derived.ChangeKeysEq
import Derived.Laws.StructEq
import Derived.Laws.AppendOwnNone
import Derived.Test.YtlfnibjmkfldgaaGreatDoorA23
import Derived.Test.YtlfnibjmkfldgaaGreatDoorA25
import Derived.Test.YtlfnibjmkfldgaaGreatDoorA28
import Derived.Test.YtlfnibjmkfldgaaGreatDoorA29
import Derived.Test.YtlfnibjmkfldgaaGreatDoorA30
import Derived.Test.YtlfnibjmkfldgaaGreatDoorA32
namespace Go.Proofs.YtlfnibjmkfldgaaGreatDoor
open Go.RowKit Big
theorem few_int (a : Option Addr) (n cap : Nat) (w : World) (hn : n ≤ 9223372036854775807) : Calls Tryz.prog 78 #[.slice a n cap] w (RetNew w (fewErr n)) := by
 have hi : (n : Int) ≤ 9223372036854775807 := by omega
 unfold fewErr
 by_cases h : 4096 < n
 ·rw [if_pos h]
  have hlt : (4096 : Int) < (n : Int) := by omega
  have hd : decide ((4096 : Int) < (n : Int)) = true := decide_eq_true hlt
  go_enter Tryz.func78, Tryz.ntmps78
  go_wp2_with fail
  refine (pwhen_new true 5 _).mono ?_
  rintro e w1 ⟨rfl, hn⟩
  go_wp2_with fail
  go_ret
  exact ⟨rfl, hn⟩
 ·rw [if_neg h]
  have hlt : ¬ (4096 : Int) < (n : Int) := by omega
  have hd : decide ((4096 : Int) < (n : Int)) = false := decide_eq_false hlt
  go_enter Tryz.func78, Tryz.ntmps78
  go_wp2_with fail
  refine (pwhen_new false 5 _).mono ?_
  rintro e w1 ⟨rfl, hn⟩
  go_wp2_with fail
  go_ret
  exact ⟨rfl, hn⟩
end Go.Proofs.YtlfnibjmkfldgaaGreatDoor
namespace Go.Proofs.YtlfnibjmkfldgaaGreatDoor
open Go.RowKit Big
set_option maxRecDepth 100000 in
set_option maxHeartbeats 1000000 in
theorem digital_bad (a : Option Addr) (cap : Nat) (xs : List Nat) (lo hi : Nat) (v : Bool) (w : World) (hl : xs.length ≤ 9223372036854775807) (hr : RdL w a (flts xs)) (h0 : digitalErr xs lo hi ≠ 0) :
  Calls Tryz.prog 13 #[.slice a xs.length cap, .agg #[.float .f32 lo, .float .f32 hi], .bool v] w fun e w' => e = .returned (.tuple #[.slice none 0 0, .int .i64 (digitalErr xs lo hi)]) ∧ New w w' := by
 obtain ⟨e1, he1⟩ : ∃ e1, samplesErr xs = e1 := ⟨_, rfl⟩
 obtain ⟨e2, he2⟩ : ∃ e2, levelsErr lo hi = e2 := ⟨_, rfl⟩
 have hs := fun W (h : New w W) => samples_new a cap xs W hl (hr.new h)
 have hv := fun W => levels_calls lo hi W
 change ∀ W, Calls Tryz.prog 21 #[.agg #[.float .f32 lo, .float .f32 hi]] W (RetNew W (levelsErr lo hi)) at hv
 simp only [he1] at hs
 simp only [he2] at hv
 obtain ⟨r, hr1⟩ : ∃ r, (if e1 = 0 then e2 else e1) = r := ⟨_, rfl⟩
 have hrr : r = digitalErr xs lo hi := by
  rw [← hr1, ← he1, ← he2]
  rfl
 rw [← hrr] at h0 ⊢
 have ht : (r != 0) = true := by simpa using h0
 have HE1 := Lib.hid he1
 have HE2 := Lib.hid he2
 have HR1 := Lib.hid hr1
 have HS := Lib.hid hs
 have HV := Lib.hid hv
 have HRR := Lib.hid hrr
 have H0 := Lib.hid h0
 clear he1 he2 hr1 hs hv hrr h0
 clear hr
 go_enter Tryz.func13, Tryz.ntmps13
 go_wp2_with fail
 have BA := Lib.hid ((Box.alloc w (w.heap.size) 33 #[.float .f32 lo, .float .f32 hi] (by simp)).new (New.refl _))
 have HN := Lib.hid ((New.refl w).alloc (.cells #[.float .f32 lo, .float .f32 hi] 33))
 obtain ⟨p0, p1, p2, p3, p4⟩ := BA.out.two
 refine wp_region_T 6 (fun W => W.cell? ⟨w.heap.size, 0, none⟩ = some (.float .f32 lo) ∧ W.cell? ⟨w.heap.size, 1, none⟩ = some (.float .f32 hi)) 7 #[false, false, false, false, false, false, false] rfl (by kernel_rfl) (by kernel_rfl) ?_
 refine wpT_take 0 (v := ?_) rfl (by kernel_rfl) (fun _ _ _ h => h) (by exact ⟨p0, p1⟩) (Or.inl ⟨by first | kernel_rfl | rfl, ?_⟩) ?_
 rotate_left
 ·(intro W hW; (try dsimp only at hW); go_simp; try with_reducible rfl)
 try simp only [PT]
 refine wpT_take 2 (v := ?_) rfl (by kernel_rfl) (fun _ _ _ h => h) (by exact ⟨p0, p1⟩) (Or.inl ⟨by first | kernel_rfl | rfl, ?_⟩) ?_
 rotate_left
 ·(intro W hW; (try dsimp only at hW); go_simp; try with_reducible rfl)
 try simp only [PT]
 refine wpT_one 1 rfl (by kernel_rfl) (fun K hK => ?_)
 go_simp
 refine (HS.out _ HN.out.drew).mono ?_
 rintro e w1 ⟨rfl, hn⟩
 have hn := hn.undrew
 clear p0 p1 p2 p3 p4
 replace BA := Lib.hid (BA.out.new hn)
 replace HN := Lib.hid (HN.out.trans hn)
 clear hn
 obtain ⟨p0, p1, p2, p3, p4⟩ := BA.out.two
 refine hK.out _ _ (fun _ => ?_) ?_
 ·exact ⟨p0, p1⟩
 clear hK K
 try simp only [PT]
 refine wpT_one 3 rfl (by kernel_rfl) (fun K hK => ?_)
 go_simp
 refine (HV.out _).mono ?_
 rintro e w2 ⟨rfl, hn⟩
 clear p0 p1 p2 p3 p4
 replace BA := Lib.hid (BA.out.new hn)
 replace HN := Lib.hid (HN.out.trans hn)
 clear hn
 obtain ⟨p0, p1, p2, p3, p4⟩ := BA.out.two
 refine hK.out _ _ (fun _ => ?_) ?_
 ·exact ⟨p0, p1⟩
 clear hK K
 try simp only [PT]
 refine wpT_one 4 rfl (by kernel_rfl) (fun K hK => ?_)
 go_simp
 clear p0 p1 p2 p3 p4
 have HN0 := HN
 clear HN
 have BG := Lib.hid ((Box.alloc w2 (w2.heap.size) 29 #[.int .i64 e1, .int .i64 e2] (by simp)).new (New.refl _))
 have HN := Lib.hid ((New.refl w2).alloc (.cells #[.int .i64 e1, .int .i64 e2] 29))
 replace BA := Lib.hid (BA.out.new HN.out)
 have HN_ := HN0.out.trans HN.out
 clear HN HN0
 have HN := Lib.hid HN_
 clear HN_
 obtain ⟨p0, p1, p2, p3, p4⟩ := BA.out.two
 refine hK.out _ _ (fun _ => ?_) ?_
 ·exact ⟨p0, p1⟩
 clear hK K
 try simp only [PT]
 refine wpT_one 5 rfl (by kernel_rfl) (fun K hK => ?_)
 go_simp
 refine (pfirst2_new e1 e2 _ _ 29 _ BG.out).mono ?_
 rintro e w3 ⟨rfl, hn⟩
 rw [HR1.out]
 clear p0 p1 p2 p3 p4
 replace BA := Lib.hid (BA.out.new hn)
 replace HN := Lib.hid (HN.out.trans hn)
 clear hn
 obtain ⟨p0, p1, p2, p3, p4⟩ := BA.out.two
 refine hK.out _ _ (fun _ => ?_) ?_
 ·exact ⟨p0, p1⟩
 clear hK K
 try simp only [PT]
 refine wpT_tail rfl (by kernel_rfl) ?_
 simp only [List.drop_succ_cons, List.drop_zero]
 go_wp2_with fail
 go_ret2
 exact ⟨rfl, HN.out⟩
end Go.Proofs.YtlfnibjmkfldgaaGreatDoor
namespace Go.Proofs.YtlfnibjmkfldgaaGreatDoor
open Go.RowKit Big
def fromErr (len : Nat) (n : Int) : Int := if 4096 < len then 5 else if outside n 0 4096 then 3 else 0
set_option maxRecDepth 100000 in
theorem from_bad (a : Option Addr) (len cap : Nat) (before : Bool) (n : Int) (w : World) (hl : len ≤ 1000000) (h0 : fromErr len n ≠ 0) :
  Calls Tryz.prog 42 #[.slice a len cap, .bool before, .int .i64 n] w fun e w' => e = .returned (.tuple #[.slice none 0 0, .int .i64 (fromErr len n)]) ∧ New w w' := by
 obtain ⟨e1, he1⟩ : ∃ e1, fewErr len = e1 := ⟨_, rfl⟩
 obtain ⟨e2, he2⟩ : ∃ e2 : Int, (if outside n 0 4096 then 3 else 0) = e2 := ⟨_, rfl⟩
 have hfew := fun W => few_int a len cap W (by omega)
 rw [he1] at hfew
 obtain ⟨r, hr1⟩ : ∃ r, (if e1 = 0 then e2 else e1) = r := ⟨_, rfl⟩
 have hrr : r = fromErr len n := by
  rw [← hr1, ← he1, ← he2]
  unfold fewErr fromErr
  by_cases h : 4096 < len
  ·rw [if_pos h, if_pos h]; rfl
  ·rw [if_neg h, if_neg h]; rfl
 rw [← hrr] at h0 ⊢
 have ht : (r != 0) = true := by simpa using h0
 have HE1 := Lib.hid he1
 have HE2 := Lib.hid he2
 have HR1 := Lib.hid hr1
 have HFEW := Lib.hid hfew
 have HRR := Lib.hid hrr
 have H0 := Lib.hid h0
 clear he1 he2 hr1 hfew hrr h0
 go_enter Tryz.func42, Tryz.ntmps42
 go_wp2_with fail
 refine (HFEW.out _).mono ?_
 rintro e w1 ⟨rfl, hn⟩
 have HN := Lib.hid hn
 clear hn
 go_wp2_with fail
 refine (pwithin_new n 0 4096 _).mono ?_
 rintro e w2 ⟨rfl, hn⟩
 rw [HE2.out]
 replace HN := Lib.hid (HN.out.trans hn)
 clear hn
 go_wp2_with fail
 have HN0 := HN
 clear HN
 have BG := Lib.hid ((Box.alloc w2 (w2.heap.size) 29 #[.int .i64 e1, .int .i64 e2] (by simp)).new (New.refl _))
 have HN := Lib.hid ((New.refl w2).alloc (.cells #[.int .i64 e1, .int .i64 e2] 29))
 have HN_ := HN0.out.trans HN.out
 clear HN HN0
 have HN := Lib.hid HN_
 clear HN_
 refine (pfirst2_new e1 e2 _ _ 29 _ BG.out).mono ?_
 rintro e w3 ⟨rfl, hn⟩
 rw [HR1.out]
 replace HN := Lib.hid (HN.out.trans hn)
 clear hn
 go_wp2_with fail
 go_ret2
 exact ⟨rfl, HN.out⟩
end Go.Proofs.YtlfnibjmkfldgaaGreatDoor
namespace Go.Proofs.YtlfnibjmkfldgaaGreatDoor
open Go.RowKit Big
theorem grown_newS' {w wr w1 : World} {v : Value} {e : TypeId} {S : Nat} {n : Nat} {xs : List Value} (hn : New w wr) (h : wr.ownsRow w.heap.size e S v n xs) (hg : wr.grownBy w1 v.ownBlock) : New w w1 := by
 obtain ⟨a1, a2, a3, a4, a5⟩ := hn
 refine ⟨hg.os.trans a1, ?_, ?_, Nat.le_trans a4 hg.size, fun j hj => ?_⟩
 ·first | exact hg.tape.trans a2 | exact hg.output.trans a2
 ·first | exact hg.output.trans a3 | exact hg.tape.trans a3
 ·exact (hg.block j (Nat.lt_of_lt_of_le hj a4) (own_neS h hj)).trans (a5 j hj)
end Go.Proofs.YtlfnibjmkfldgaaGreatDoor
namespace Go.Proofs.YtlfnibjmkfldgaaGreatDoor
open Go.RowKit Big
set_option maxRecDepth 100000 in
theorem same_bools (a b : Option Addr) (cap cap' : Nat) (xs ys : List Bool) (w : World) (hl : xs.length ≤ 1000000) (hlen : ys.length = xs.length) (hr1 : RdL w a (bools xs)) (hr2 : RdL w b (bools ys)) (hs : ∀ (k : Nat) (h : k < xs.length) (h' : k < ys.length), (fun x y : Bool => !(x == y)) xs[k] ys[k] = false) :
  Calls Tryz.prog 22 #[.slice a xs.length cap, .slice b ys.length cap'] w fun e w' => e = .returned (.bool true) ∧ New w w' := by
 obtain ⟨n, hn⟩ : ∃ n, xs.length = n := ⟨_, rfl⟩
 rw [hlen]
 rw [hn] at hl hlen ⊢
 have hni : (n : Int) ≤ 1000000 := by omega
 have hnn : ((n : Int) != (n : Int)) = false := by simp
 have HR1 := Lib.hid hr1
 have HR2 := Lib.hid hr2
 have HS := Lib.hid hs
 have HN0 := Lib.hid hn
 have HLEN := Lib.hid hlen
 clear hr1 hr2 hs hn hlen
 go_enter Tryz.func22, Tryz.ntmps22
 go_wp2_with fail
 go_loopw [5] (fun i wr => ∃ (k : Nat), k ≤ n ∧ i = .int .i64 (k : Int) ∧ Hid (New w wr)) (fun i _ => n - (intOf i).toNat)
 case atStart => exact ⟨0, Nat.zero_le _, rfl, Lib.hid (New.refl _)⟩
 case round =>
  obtain ⟨k, hk, rfl, HN⟩ := hrel
  by_cases hlt : k < n
  ·have h1 : k < xs.length := by rw [HN0.out]; exact hlt
   have h2 : k < ys.length := by rw [HLEN.out]; exact hlt
   obtain ⟨b1, off1, rfl, hc1⟩ := HR1.out.bool k h1
   obtain ⟨b2, off2, rfl, hc2⟩ := HR2.out.bool k h2
   have hsame := HS.out k h1 h2
   obtain ⟨x, hx⟩ : ∃ x, xs[k] = x := ⟨_, rfl⟩
   obtain ⟨y, hy⟩ : ∃ y, ys[k] = y := ⟨_, rfl⟩
   rw [hx] at hc1
   rw [hy] at hc2
   rw [hx, hy] at hsame
   replace hc1 := HN.out.cell hc1
   replace hc2 := HN.out.cell hc2
   have HX := Lib.hid hx
   have HY := Lib.hid hy
   clear hx hy
   go_wp2_with fail
   go_quiet (fail)
   go_wp2_with fail
   go_roundw
   case rel => exact ⟨k + 1, by omega, by go_num, Lib.hid (HN.out.drewN nq)⟩
   case measure => simp [intOf]; omega
  ·have hkk : k = n := by omega
   have HKK := Lib.hid hkk
   clear hkk
   go_wp2_with fail
   go_ret
   exact ⟨rfl, HN.out⟩
section
variable {P : Program}
end
end Go.Proofs.YtlfnibjmkfldgaaGreatDoor
namespace Go.Proofs.YtlfnibjmkfldgaaGreatDoor
open Go.RowKit Big
def RdPost (w : World) (n : Nat) (xs : List Value) (en : Ending) (w' : World) : Prop := ∃ (a : Option Addr) (cap : Nat), en = .returned (.slice a n cap) ∧ New w w' ∧ RdL w' a xs ∧ n ≤ cap ∧ (a = none → cap = 0)
theorem own_rd' {w : World} {base : Nat} {e : TypeId} {v : Value} {n : Nat} {xs : List Value} (h : w.ownsRow base e 1 v n xs) : ∃ (a : Option Addr) (cap : Nat), v = .slice a n cap ∧ RdL w a xs ∧ n ≤ cap ∧ (a = none → cap = 0) := by
 have h1 := own_rd h
 rcases h.2 with ⟨rfl, rfl⟩ | ⟨g, cap, cur, rfl, hb, hc, h2, h3, h4, h5⟩
 ·obtain ⟨a, cap, e, hr, -⟩ := h1
  injection e with e1 e2 e3
  subst e1
  subst e3
  exact ⟨none, 0, rfl, hr, Nat.le_refl _, fun _ => rfl⟩
 ·obtain ⟨a, cap', e, hr, -⟩ := h1
  injection e with e1 e2 e3
  subst e1
  subst e3
  exact ⟨_, _, rfl, hr, h2, fun h => by cases h⟩
theorem own_none {w : World} {base : Nat} {e : TypeId} (hb : base ≤ w.heap.size) : (w.alloc (.cells #[] e)).ownsRow base e 1 (.slice (some ⟨w.heap.size, 0, none⟩) 0 0) 0 [] := by
 refine ⟨rfl, .inr ⟨w.heap.size, 0, #[], rfl, hb, ?_, Nat.le_refl _, Nat.zero_le _, rfl, rfl⟩⟩
 exact Box.alloc w _ e #[] rfl
set_option maxRecDepth 100000 in
theorem floats_calls (a : Option Addr) (cap : Nat) (vs : List Value) (w : World) (hl : vs.length ≤ 5000) (hr : RdL w a vs) (hz : a = none → cap = 0) (h1 : ∀ u ∈ vs, u.oneCell' = true) :
  Calls Tryz.prog 14 #[.slice a vs.length cap] w (RdPost w vs.length vs) := by
 obtain ⟨i0, hi, hz0, hz1, hz2⟩ := info_parts info_f32
 have hO : (w.alloc (.cells #[] 23)).ownsRow w.heap.size 23 1 (.slice (some ⟨w.heap.size, 0, none⟩) 0 0) 0 [] := own_none (e := 23) (Nat.le_refl _)
 obtain ⟨n, hn⟩ : ∃ n, vs.length = n := ⟨_, rfl⟩
 rw [hn] at hl ⊢
 cases a with
 | none =>
  have h0 : n = 0 := by
   cases vs with
   | nil => exact hn.symm
   | cons v vs => obtain ⟨b, off, e, -⟩ := hr 0 (by simp); cases e
  have hv : vs = [] := by
   cases vs with
   | nil => rfl
   | cons v vs => rw [h0] at hn; simp at hn
  subst h0
  subst hv
  rw [hz rfl]
  clear hr h1 hl hz hn
  have HO := Lib.hid hO
  clear hO
  go_enter Tryz.func14, Tryz.ntmps14
  go_wp2_with (at_builtin; refine wpList_append_own_none rfl _ _ 22 rfl w.heap.size 23 i0 1 Tryz.underlying22 hi _ 0 [] rfl HO.out rfl ?_)
  go_wp2_with fail
  go_ret
  exact ⟨_, 0, rfl, (New.refl _).alloc _, fun i hi => by simp at hi, Nat.le_refl _, fun h => by cases h⟩
 | some ad =>
  have hsrc : ∀ (j : Nat) (v : Value), vs[j]? = some v → w.cell? (ad.add j) = some v := by
   intro j v hj
   have h0 : 0 < vs.length := by have := (List.getElem?_eq_some_iff.1 hj).1; omega
   obtain ⟨ad', e, hs⟩ := hr.src h0
   injection e with e
   rw [e]
   exact hs j v hj
  clear hr hz
  have HO := Lib.hid hO
  have HSRC := Lib.hid hsrc
  have H1 := Lib.hid h1
  have HN := Lib.hid hn
  have HL := Lib.hid hl
  clear hO hsrc h1 hn hl
  go_enter Tryz.func14, Tryz.ntmps14
  go_wp2_with (at_builtin; refine wpList_append_own _ rfl _ _ 22 rfl w.heap.size 23 i0 (.float .f32 0) 1 4 Tryz.underlying22 hi hz0 hz1 hz2 rfl (by decide) _ 0 [] rfl HO.out ad n cap vs rfl (by rw [HN.out, Nat.mul_one]) (fun j u hj => by exact ((New.refl w).alloc _).cell (HSRC.out j u hj)) H1.out (by have := HL.out; unfold maxLen; omega) (by have := HL.out; omega) (by rw [← size_alloc]; omega) ?_)
  intro v' w9 hown' hgrow _
  have hN1 : New w w9 := grown_newS' ((New.refl w).alloc _) HO.out hgrow
  have hO1 : w9.ownsRow w.heap.size 23 1 v' n vs := by simpa using hown'
  clear hown' hgrow
  obtain ⟨a', cap', rfl, hrd, hc, hnn⟩ := own_rd' hO1
  clear hO1
  have HN1 := Lib.hid hN1
  have HRD := Lib.hid hrd
  have HC := Lib.hid hc
  have HNN := Lib.hid hnn
  clear hN1 hrd hc hnn
  go_wp2_with fail
  go_ret
  exact ⟨a', cap', rfl, HN1.out, HRD.out, HC.out, HNN.out⟩
end Go.Proofs.YtlfnibjmkfldgaaGreatDoor
