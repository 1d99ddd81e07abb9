/- Part CardBlk04. -/
import Derived.Laws.AppendOwnNone
import Derived.Maps.AppendAt
import Derived.Test.YtlfnibjmkfldgaaGreatDoorA23
import Derived.Test.YtlfnibjmkfldgaaGreatDoorA25
import Derived.Test.YtlfnibjmkfldgaaGreatDoorA27
import Derived.Test.YtlfnibjmkfldgaaGreatDoorA28
import Derived.Test.YtlfnibjmkfldgaaGreatDoorCardBlk01
import Derived.Test.YtlfnibjmkfldgaaGreatDoorCardBlk02
import Derived.Test.YtlfnibjmkfldgaaGreatDoorCardBlk03
namespace Go.Proofs.YtlfnibjmkfldgaaGreatDoor
open Go.RowKit Big
theorem needed_calls (n : Nat) (w : World) (hn : n ≤ 100000) : Calls Tryz.prog 45 #[.int .i64 (n : Int)] w (RetNew w (nBlocks n : Nat)) := by
 have hi : (n : Int) ≤ 100000 := by omega
 go_enter Tryz.func45, Tryz.ntmps45
 go_wp2_with fail
 go_ret
 refine ⟨ret_i64 ?_, New.refl _⟩
 unfold nBlocks
 first | rfl | omega
theorem made16 (n : Nat) : (madeCells #[.int .u16 0, .int .u16 0, .int .u16 0, .int .u16 0, .int .u16 0, .int .u16 0, .int .u16 0, .int .u16 0, .int .u16 0, .int .u16 0, .int .u16 0, .int .u16 0, .int .u16 0, .int .u16 0, .int .u16 0, .int .u16 0] n).toList = List.replicate n (Value.int .u16 0) := by
 have h : ∀ j, j < 16 → (#[.int .u16 0, .int .u16 0, .int .u16 0, .int .u16 0, .int .u16 0, .int .u16 0, .int .u16 0, .int .u16 0, .int .u16 0, .int .u16 0, .int .u16 0, .int .u16 0, .int .u16 0, .int .u16 0, .int .u16 0, .int .u16 0] : Array Value)[j]! = .int .u16 0 := by
  intro j hj
  match j, hj with
  | 0, _ | 1, _ | 2, _ | 3, _ | 4, _ | 5, _ | 6, _ | 7, _ | 8, _ | 9, _ | 10, _ | 11, _ | 12, _ | 13, _ | 14, _ | 15, _ => rfl
  | j + 16, hj => omega
 unfold madeCells
 rw [List.eq_replicate_iff]
 refine ⟨by simp, fun b hb => ?_⟩
 simp only [Array.toList_map, List.mem_map] at hb
 obtain ⟨i, -, rfl⟩ := hb
 exact h _ (Nat.mod_lt _ (by decide))
theorem box_words {w : World} {B n : Nat} {t : TypeId} {ol : List Nat} (h : Box w B t (words (ol ++ List.replicate n 0)).toArray) (h0 : 0 < n) : w.cell? ⟨B, ol.length, none⟩ = some (.int .u16 0) := by
 rw [h.cell]
 unfold words
 simp [h0]
theorem set_words (ol : List Nat) (n : Nat) (y : Nat) : (words (ol ++ List.replicate (n + 1) 0)).toArray.setIfInBounds ol.length (.int .u16 (y : Int)) = (words ((ol ++ [y]) ++ List.replicate n 0)).toArray := by
 unfold words
 simp [List.replicate_succ]
theorem pad_full (xs : List Nat) (m : Nat) (h : xs.length ≤ m) : xs ++ List.replicate (m - xs.length) 0 = padW xs m := by
 apply List.ext_getElem?
 intro i
 unfold padW
 by_cases hi : i < xs.length
 ·rw [List.getElem?_append_left hi]
  simp [show i < m by omega, hi]
 ·rw [List.getElem?_append_right (by omega)]
  by_cases him : i < m
  ·simp [him, show i - xs.length < m - xs.length by omega, List.getD_eq_getElem?_getD, List.getElem?_eq_none (show xs.length ≤ i by omega)]
  ·simp [him, show ¬ i - xs.length < m - xs.length by omega]
theorem set_next {xs : List Nat} {N k x B : Nat} {t : TypeId} {W : World} (hkx : k < xs.length) (hx : xs[k] = x) (hkN : k < 16 * N) (h : Box W B t (words (xs.take k ++ List.replicate (16 * N - k) 0)).toArray) :
  Box (W.setCell ⟨B, k, none⟩ (.int .u16 (x : Int))) B t (words (xs.take (k + 1) ++ List.replicate (16 * N - (k + 1)) 0)).toArray := by
 have hle : (xs.take k).length = k := by rw [List.length_take]; omega
 have h2 := h.set k (.int .u16 (x : Int))
 obtain ⟨n', hn'⟩ : ∃ n', 16 * N - k = n' + 1 := ⟨16 * N - k - 1, by omega⟩
 have h3 := set_words (xs.take k) n' x
 rw [hle] at h3
 rw [hn', h3] at h2
 rw [List.take_succ_eq_append_getElem hkx, hx, show 16 * N - (k + 1) = n' by omega]
 exact h2
theorem div16 (k : Nat) : ∃ d r : Nat, d * 16 + r = k ∧ r < 16 ∧ (k : Int) / 16 = (d : Int) ∧ Int.tmod (k : Int) 16 = (r : Int) ∧ (k : Int) % 16 = (r : Int) :=
 ⟨k / 16, k % 16, by omega, by omega, by omega, by rw [Int.tmod_eq_emod_of_nonneg (by omega)]; omega, by omega⟩
set_option maxRecDepth 100000 in
set_option maxHeartbeats 4000000 in
theorem less_next {k m : Nat} (h : k < m) : m - (intOf (.int .i64 ((k : Int) + 1))).toNat < m - (intOf (.int .i64 (k : Int))).toNat := by
 simp only [intOf]
 omega
theorem run_storeVar_cell {P : Program} (w : World) (b o : Nat) (ty : TypeId) (old : Value) (k : IntKind) (z : Int) (hc : w.cell? ⟨b, o, none⟩ = some old) (hf : w.frozen? ⟨b, o, none⟩ = false) (hi : (P.info? ty).map (·.size) = some 1) :
  (storeVar ty ⟨b, o, none⟩ (.int k z)).run P w = .ok () (w.setCell ⟨b, o, none⟩ (.int k z)) := by
 have hadd : (⟨b, o, none⟩ : Addr).add 0 = ⟨b, o, none⟩ := by unfold Addr.add; simp
 have hst : (store ((⟨b, o, none⟩ : Addr).add 0) (.int k z)).run P w = .ok () (w.setCell ⟨b, o, none⟩ (.int k z)) := by
  rw [hadd, run_store P w _ _ _ rfl, hc]
  simp only [hf]
  rfl
 have : (storeCells ⟨b, o, none⟩ [.int k z] 0).run P w = .ok () (w.setCell ⟨b, o, none⟩ (.int k z)) := by
  simp only [storeCells, Sem.run_bind, hst, Result.andThen_ok, Sem.run_pure]
 cases hq : P.info? ty with
 | none => simp [hq] at hi
 | some i =>
  have hs : i.size = 1 := by simpa [hq] using hi
  simp [storeVar, sizeOf, typeInfo, hq, Value.cells, hs, this]
theorem wpList_store_cell {P : Program} {ops : Array Oper} {rest : List Oper} {o : Oper} {a : Act} {w : World} {Q : Exit → Act → World → Prop} (hgd : o.guard = none) (ty : TypeId) (x y : Operand) (ho : o.op = .store ty x y)
  (b f : Nat) (k : IntKind) (z : Int) (old : Value) (hx : a.eval x = .pointer (some ⟨b, f, none⟩)) (hy : a.eval y = .int k z) (hc : w.cell? ⟨b, f, none⟩ = some old) (hf : w.frozen? ⟨b, f, none⟩ = false)
  (hi : (P.info? ty).map (·.size) = some 1) (h : wpList P ops Q rest (a.put o.dst undef) (w.setCell ⟨b, f, none⟩ (.int k z))) : wpList P ops Q (o :: rest) a w :=
 wpList_plain hgd fun _ hK => by
  unfold Oper.wp execOp
  simp only [ho, hx, hy, Instr.storeAt, Instr.sureAddr, Sem.run_bind, Sem.run_pure, Result.andThen_ok, run_storeVar_cell w b f ty old k z hc hf hi]
  exact hK _ _ h
set_option maxRecDepth 4000 in
theorem rblocks_calls (a : Option Addr) (cap m : Nat) (xs : List Nat) (w : World) (hr : RdL w a (words xs)) (hm : xs.length = m) (hl : m ≤ 4096) :
  Calls Tryz.prog 39 #[.slice a m cap] w fun e w' => ∃ B : Nat, e = .returned (.slice (some ⟨B, 0, none⟩) (nBlocks m) (nBlocks m)) ∧ New w w' ∧ RdL w' (some ⟨B, 0, none⟩) (words (padW xs (16 * nBlocks m))) := by
 obtain ⟨i0, hi0, hz0, hz1, hz2⟩ := info_parts info_arr16
 have hmi : (m : Int) ≤ 4096 := by omega
 have hnd := fun W => needed_calls m W (by omega)
 have hNb : nBlocks m ≤ 256 ∧ m ≤ 16 * nBlocks m := by unfold nBlocks; omega
 obtain ⟨N, hN⟩ : ∃ N, nBlocks m = N := ⟨_, rfl⟩
 simp only [hN] at hnd hNb ⊢
 obtain ⟨hN256, hmN⟩ := hNb
 have hNi : (N : Int) ≤ 256 := by omega
 clear hN
 have HR := Lib.hid hr
 have HMM := Lib.hid hm
 have HND := Lib.hid hnd
 clear hr hm hnd
 go_enter Tryz.func39, Tryz.ntmps39
 go_wp2_with fail
 refine (HND.out _).mono ?_
 rintro e w1 ⟨rfl, hn⟩
 have HN := Lib.hid hn
 clear hn
 have hms := HN.out.size
 go_wp2_with (at_make; refine wpList_make_full _ rfl _ _ 69 rfl w.heap.size 71 i0 (.agg #[.int .u16 0, .int .u16 0, .int .u16 0, .int .u16 0, .int .u16 0, .int .u16 0, .int .u16 0, .int .u16 0, .int .u16 0, .int .u16 0, .int .u16 0, .int .u16 0, .int .u16 0, .int .u16 0, .int .u16 0, .int .u16 0]) 16 Tryz.underlying69 hi0 hz0 hz1 .i64 .i64 _ _ N rfl rfl (by omega) (by omega) (by rw [hz2]; omega) (by unfold maxLen; omega) hms ?_)
 intro w6 hown hg6
 obtain ⟨B, hB⟩ : ∃ x, w1.heap.size = x := ⟨_, rfl⟩
 have hn6 : New w1 w6 := ⟨hg6.os, by first | exact hg6.tape | exact hg6.output, by first | exact hg6.output | exact hg6.tape, hg6.size, fun j hj => hg6.block j hj (by intro h; cases h)⟩
 have hwB : w.heap.size ≤ B := by rw [← hB]; exact hms
 rw [hB] at hown ⊢
 have hbox : Box w6 B 71 (words ([] ++ List.replicate (16 * N) 0)).toArray := by
  rcases hown.2 with ⟨h0, _⟩ | ⟨g, cap2, cur, hv, _, hc, h2, _, h3, h4⟩
  ·cases h0
  ·injection hv with hv1 _ hv2
   injection hv1 with hv1
   injection hv1 with hv1
   subst hv1
   unfold Box
   rw [hc]
   congr 2
   have : cur.toList = words (List.replicate (16 * N) 0) := by
    have hz : cur.toList = (madeCells #[.int .u16 0, .int .u16 0, .int .u16 0, .int .u16 0, .int .u16 0, .int .u16 0, .int .u16 0, .int .u16 0, .int .u16 0, .int .u16 0, .int .u16 0, .int .u16 0, .int .u16 0, .int .u16 0, .int .u16 0, .int .u16 0] (N * 16)).toList := by
     rw [List.take_of_length_le (by rw [Array.length_toList]; omega)] at h4
     rw [h4]
    rw [hz, made16, Nat.mul_comm]
    simp [words]
   rw [List.nil_append, ← this]
 clear hown hg6 hms
 replace HN := Lib.hid (HN.out.trans hn6)
 clear hn6
 have HBOX := Lib.hid hbox
 have HWB := Lib.hid hwB
 have HBE := Lib.hid hB
 clear hbox hwB hB
 go_wp2_with fail
 go_loopw [4] (fun i wr => ∃ (k : Nat), k ≤ m ∧ i = .int .i64 (k : Int) ∧ Hid (Box wr B 71 (words (xs.take k ++ List.replicate (16 * N - k) 0)).toArray) ∧ Hid (New w wr)) (fun i _ => m - (intOf i).toNat)
 case atStart => exact ⟨0, Nat.zero_le _, rfl, HBOX, HN⟩
 case round =>
  clear HN HBOX
  obtain ⟨k, hk, rfl, HBX, HN⟩ := hrel
  by_cases hlt : k < m
  ·have hkx : k < xs.length := by rw [HMM.out]; exact hlt
   obtain ⟨b, off, rfl, hcell⟩ := HR.out.u16 k hkx
   obtain ⟨x, hx⟩ : ∃ x, xs[k] = x := ⟨_, rfl⟩
   rw [hx] at hcell
   replace hcell := HN.out.cell hcell
   have hle : (xs.take k).length = k := by rw [List.length_take]; omega
   have hcb := box_words HBX.out (by omega)
   rw [hle] at hcb
   have hfz := HBX.out.frozen k
   have hlB := HBX.out.lt
   obtain ⟨d, r, hkd, hr16, hde, hme, hme2⟩ := div16 k
   have hdN : d < N := by clear hcb hfz hcell; omega
   have hcb2 : wr.cell? ⟨B, d * 16 + r, none⟩ = some (.int .u16 0) := by rw [hkd]; exact hcb
   have hfz2 : wr.frozen? ⟨B, d * 16 + r, none⟩ = false := by rw [hkd]; exact hfz
   have hd5 : d < 1000000 := Nat.lt_of_lt_of_le hdN (Nat.le_trans hN256 (by decide))
   have hdw : wrap64 (d : Int) = (d : Int) := wrap64n rfl hd5
   have hdw2 : IntKind.i64.wrap (d : Int) = (d : Int) := wrapn rfl hd5
   clear hcb hfz
   have hdi : (d : Int) < (N : Int) := Int.ofNat_lt.2 hdN
   have hri : (r : Int) < 16 := Int.ofNat_lt.2 hr16
   have hkN : k < 16 * N := Nat.lt_of_lt_of_le hlt hmN
   have hset : ∀ W : World, Box W B 71 (words (xs.take k ++ List.replicate (16 * N - k) 0)).toArray → Box (W.setCell ⟨B, d * 16 + r, none⟩ (.int .u16 (x : Int))) B 71 (words (xs.take (k + 1) ++ List.replicate (16 * N - (k + 1)) 0)).toArray := by
    intro W h
    rw [hkd]
    exact set_next hkx hx hkN h
   clear hx
   have HSET := Lib.hid hset
   have HLE := Lib.hid hle
   have HKD := Lib.hid hkd
   clear hset hle hkd
   go_wp2_with fail
   refine wp_region_T 11 (fun W => W.cell? ⟨b, off + k, none⟩ = some (.int .u16 (x : Int))) 12 #[false, false, false, false, false, false, false, false, false, false, false, false] rfl (by kernel_rfl) (by kernel_rfl) ?_
   refine wpT_take 0 (v := ?_) rfl (by kernel_rfl) (fun _ _ _ h => h) (by exact hcell) (Or.inl ⟨by first | kernel_rfl | rfl, ?_⟩) ?_
   rotate_left
   ·(intro W hW; (try dsimp only at hW); go_simp; try with_reducible rfl)
   try simp only [PT]
   refine wpT_take 1 (v := ?_) rfl (by kernel_rfl) (fun _ _ _ h => h) (by exact hcell) (Or.inl ⟨by first | kernel_rfl | rfl, ?_⟩) ?_
   rotate_left
   ·(intro W hW; (try dsimp only at hW); go_simp; try with_reducible rfl)
   try simp only [PT]
   refine wpT_take 2 (v := ?_) rfl (by kernel_rfl) (fun _ _ _ h => h) (by exact hcell) (Or.inl ⟨by first | kernel_rfl | rfl, ?_⟩) ?_
   rotate_left
   ·(intro W hW; (try dsimp only at hW); go_simp; try with_reducible rfl)
   try simp only [PT]
   refine wpT_take 3 (v := ?_) rfl (by kernel_rfl) (fun _ _ _ h => h) (by exact hcell) (Or.inl ⟨by first | kernel_rfl | rfl, ?_⟩) ?_
   rotate_left
   ·(intro W hW; (try dsimp only at hW); go_simp; try with_reducible rfl)
   try simp only [PT]
   refine wpT_take 4 (v := ?_) rfl (by kernel_rfl) (fun _ _ _ h => h) (by exact hcell) (Or.inl ⟨by first | kernel_rfl | rfl, ?_⟩) ?_
   rotate_left
   ·(intro W hW; (try dsimp only at hW); go_simp; try with_reducible rfl)
   try simp only [PT]
   refine wpT_take 5 (v := ?_) rfl (by kernel_rfl) (fun _ _ _ h => h) (by exact hcell) (Or.inl ⟨by first | kernel_rfl | rfl, ?_⟩) ?_
   rotate_left
   ·(intro W hW; (try dsimp only at hW); go_simp; try with_reducible rfl)
   try simp only [PT]
   refine wpT_take 6 (v := ?_) rfl (by kernel_rfl) (fun _ _ _ h => h) (by exact hcell) (Or.inl ⟨by first | kernel_rfl | rfl, ?_⟩) ?_
   rotate_left
   ·(intro W hW; (try dsimp only at hW); go_simp; try with_reducible rfl)
   try simp only [PT]
   refine wpT_take 7 (v := ?_) rfl (by kernel_rfl) (fun _ _ _ h => h) (by exact hcell) (Or.inl ⟨by first | kernel_rfl | rfl, ?_⟩) ?_
   rotate_left
   ·(intro W hW; (try dsimp only at hW); go_simp; try with_reducible rfl)
   try simp only [PT]
   refine wpT_take 8 (v := ?_) rfl (by kernel_rfl) (fun _ _ _ h => h) (by exact hcell) (Or.inl ⟨by first | kernel_rfl | rfl, ?_⟩) ?_
   rotate_left
   ·(intro W hW; (try dsimp only at hW); go_simp; try with_reducible rfl)
   try simp only [PT]
   refine wpT_take 9 (v := ?_) rfl (by kernel_rfl) (fun _ _ _ h => h) (by exact hcell) (Or.inl ⟨by first | kernel_rfl | rfl, ?_⟩) ?_
   rotate_left
   ·(intro W hW; (try dsimp only at hW); go_simp; try with_reducible rfl)
   try simp only [PT]
   refine wpT_take 10 (v := ?_) rfl (by kernel_rfl) (fun _ _ _ h => h) (by exact hcell) (Or.inl ⟨by first | kernel_rfl | rfl, ?_⟩) ?_
   rotate_left
   ·(intro W hW; (try dsimp only at hW); go_simp; try with_reducible rfl)
   try simp only [PT]
   refine wpT_tail rfl (by kernel_rfl) ?_
   simp only [List.drop_succ_cons, List.drop_zero]
   try dsimp only [List.getElem_toArray, List.getElem_cons_zero, List.getElem_cons_succ, List.setIfInBounds_toArray, List.set_cons_zero, List.set_cons_succ]
   try simp only [List.setIfInBounds_toArray, List.set_cons_zero, List.set_cons_succ]
   clear hcell
   go_simp
   clear hdw hdw2 hde hme hme2 hdi hri hkN hmN hNi hd5 hdN hr16
   refine wpList_store_cell rfl _ _ _ rfl B (d * 16 + r) .u16 x (.int .u16 0) rfl rfl hcb2 hfz2 (by kernel_rfl) ?_
   have hb3 := (HSET.out _ HBX.out).drew
   have hn3 := (HN.out.setCell (p := ⟨B, d * 16 + r, none⟩) HWB.out (.int .u16 (x : Int))).drew
   clear HBX HN HSET hcb2 hfz2 hlB HKD
   have HBX := Lib.hid hb3
   have HN := Lib.hid hn3
   clear hb3 hn3
   go_wp2_with fail
   exact ⟨⟨k + 1, hlt, by go_num, HBX, HN⟩, less_next hlt⟩
  ·have hkk : k = m := by omega
   have h1 := HBX.out
   rw [hkk, List.take_of_length_le (by rw [HMM.out]; omega), ← HMM.out, pad_full xs _ (by rw [HMM.out]; exact hmN)] at h1
   clear HBX
   have HBX := Lib.hid h1
   have HKK := Lib.hid hkk
   clear h1 hkk
   go_wp2_with fail
   go_ret
   exact ⟨B, rfl, HN.out, fun i hi => ⟨B, 0, rfl, by rw [Nat.zero_add, HBX.out.cell, List.getElem?_toArray, List.getElem?_eq_getElem hi]⟩⟩
end Go.Proofs.YtlfnibjmkfldgaaGreatDoor
namespace Go.Proofs.YtlfnibjmkfldgaaGreatDoor
open Go.RowKit Big
theorem unpack_take {xs : List Nat} {n k : Nat} (h : k < xs.length) (hk : k < n) : words ((xs.take n).take (k + 1)) = words ((xs.take n).take k) ++ [.int .u16 (xs[k] : Nat)] := by
 have h2 : k < (xs.take n).length := by rw [List.length_take]; omega
 rw [List.take_succ_eq_append_getElem h2]
 simp [words]
theorem unpack_stay {xs : List Nat} {n k : Nat} (hk : n ≤ k) : words ((xs.take n).take (k + 1)) = words ((xs.take n).take k) := by
 rw [List.take_take, List.take_take, Nat.min_eq_right (by omega), Nat.min_eq_right (by omega)]
theorem drop_bad {xs : List Nat} {n k : Nat} (h : k < xs.length) (hk : n ≤ k) (h0 : xs[k] ≠ 0) : ∃ x ∈ xs.drop n, x ≠ 0 :=
 ⟨xs[k], List.mem_iff_getElem.2 ⟨k - n, by rw [List.length_drop]; omega, by rw [List.getElem_drop]; congr 1; omega⟩, h0⟩
theorem drop_good {xs : List Nat} {n : Nat} (h : ∀ (j : Nat) (hj : j < xs.length), n ≤ j → xs[j] = 0) : ∀ x ∈ xs.drop n, x = 0 := by
 intro x hx
 obtain ⟨i, hi, rfl⟩ := List.mem_iff_getElem.1 hx
 rw [List.getElem_drop]
 exact h _ _ (by omega)
set_option maxRecDepth 100000 in
set_option maxHeartbeats 4000000 in
theorem runpack_main (a : Option Addr) (cap N n : Nat) (xs : List Nat) (w : World) (hr : RdL w a (words xs)) (hx : xs.length = 16 * N) (hN : N ≤ 256) (hn : n ≤ 4096) (hb : nBlocks n = N) :
  Calls Tryz.prog 40 #[.slice a N cap, .int .i64 (n : Int)] w fun e w' => New w w' ∧ ((∀ x ∈ xs.drop n, x = 0) → ∃ (a' : Option Addr) (c' : Nat), e = .returned (.tuple #[.slice a' n c', .int .i64 0]) ∧ RdL w' a' (words (xs.take n)) ∧ n ≤ c') ∧
   ((∃ x ∈ xs.drop n, x ≠ 0) → e = .returned (.tuple #[.slice none 0 0, .int .i64 1])) := by
 obtain ⟨i0, hi0, hz0, hz1, hz2⟩ := info_parts info_u16
 have hNi : (N : Int) ≤ 256 := by omega
 have hni : (n : Int) ≤ 4096 := by omega
 have hnd := fun W => needed_calls n W (by omega)
 simp only [hb] at hnd
 have hne : ((N : Int) != (N : Int)) = false := by simp
 have hnN : n ≤ 16 * N := by unfold nBlocks at hb; omega
 obtain ⟨M, hM⟩ : ∃ M, 16 * N = M := ⟨_, rfl⟩
 rw [hM] at hx hnN
 have hM4 : M ≤ 4096 := by omega
 have hMi : (M : Int) ≤ 4096 := by omega
 have hmul : IntKind.i64.wrap (16 * (N : Int)) = (M : Int) := wrapn (by omega) (by omega)
 have hmul2 : wrap64 (16 * (N : Int)) = (M : Int) := wrap64n (by omega) (by omega)
 obtain ⟨F, hF⟩ : ∃ F : Nat → List Value, ∀ k, F k = words ((xs.take n).take k) := ⟨_, fun _ => rfl⟩
 clear hb
 have HR := Lib.hid hr
 have HX := Lib.hid hx
 have HND := Lib.hid hnd
 have HM := Lib.hid hM
 have HF := Lib.hid hF
 clear hr hx hnd hM hF
 go_enter Tryz.func40, Tryz.ntmps40
 go_wp2_with fail
 refine (HND.out _).mono ?_
 rintro e w1 ⟨rfl, hn⟩
 have HN := Lib.hid hn
 clear hn
 go_wp2_with fail
 go_loopw [6, 7] (fun v i wr => ∃ (k : Nat), k ≤ M ∧ i = .int .i64 (k : Int) ∧ Hid (wr.ownsRow w.heap.size 70 1 v (F k).length (F k)) ∧ Hid (New w wr) ∧ Hid (∀ (j : Nat) (hj : j < xs.length), n ≤ j → j < k → xs[j] = 0)) (fun _ i _ => M - (intOf i).toNat)
 case atStart => exact ⟨0, Nat.zero_le _, rfl, Lib.hid (by rw [HF.out]; exact World.ownsRow_nil _ _ _ _), HN, Lib.hid (fun j hj h1 h2 => absurd h2 (Nat.not_lt_zero _))⟩
 case round =>
  clear HN
  obtain ⟨k, hk, rfl, HO, HN, HZ⟩ := hrel
  by_cases hlt : k < M
  ·have hkx : k < xs.length := by rw [HX.out]; exact hlt
   obtain ⟨b, off, rfl, hcell⟩ := HR.out.w16 k hkx
   obtain ⟨x, hxe⟩ : ∃ x, xs[k] = x := ⟨_, rfl⟩
   have hxe2 := Lib.hid hxe
   rw [hxe] at hcell
   replace hcell := HN.out.cell hcell
   obtain ⟨d, r, hkd, hr16, hde, hme, hme2⟩ := div16 k
   have hdN : d < N := by have := HM.out; omega
   have hcb : wr.cell? ⟨b, off + d * 16 + r, none⟩ = some (.int .u16 (x : Int)) := by rw [show off + d * 16 + r = off + k by omega]; exact hcell
   have hd5 : d < 1000000 := by omega
   have hdw : wrap64 (d : Int) = (d : Int) := wrap64n rfl hd5
   have hdw2 : IntKind.i64.wrap (d : Int) = (d : Int) := wrapn rfl hd5
   have hdi : (d : Int) < (N : Int) := Int.ofNat_lt.2 hdN
   have hri : (r : Int) < 16 := Int.ofNat_lt.2 hr16
   have hki : (k : Int) < (M : Int) := Int.ofNat_lt.2 hlt
   clear hcell hxe hd5
   have HKD := Lib.hid hkd
   clear hkd
   have HI0 := Lib.hid hi0
   have HZ0 := Lib.hid hz0
   have HZ1 := Lib.hid hz1
   have HZ2 := Lib.hid hz2
   clear hi0 hz0 hz1 hz2
   go_upto_region 12 with (fail)
   clear hcb hdw hdw2 hdi hri hde hme hme2 hdN hr16 HKD
   by_cases hkn : k < n
   ·have hkni : (k : Int) < (n : Int) := Int.ofNat_lt.2 hkn
    have hle : (F k).length = k := by rw [HF.out]; simp [words]; omega
    have hsn : F (k + 1) = F k ++ [.int .u16 (x : Int)] := by rw [HF.out, HF.out, unpack_take hkx hkn, hxe2.out]
    have hz2 : ∀ (j : Nat) (hj : j < xs.length), n ≤ j → j < k + 1 → xs[j] = 0 := fun j hj h1 h2 => by omega
    have hkM : k < 4096 := by omega
    clear hnN hM4
    have HLE := Lib.hid hle
    have HSN := Lib.hid hsn
    have HZZ := Lib.hid hz2
    have HKM := Lib.hid hkM
    have HKN := Lib.hid hkn
    have HK := Lib.hid hk
    clear hle hsn hz2 hkM hkn hk
    go_wp2_with (at_builtin; go_loud (refine wpList_append_own _ rfl _ _ 58 rfl w.heap.size 70 i0 (.int .u16 0) 1 2 Tryz.underlying58 HI0.out HZ0.out HZ1.out HZ2.out rfl (by decide) _ _ _ rfl (HO.out.alloc _) ⟨wr.heap.size, 0, none⟩ 1 1 [Value.int .u16 (x : Int)] rfl rfl (one_c1 _ _ _) (by intro u hu; simp at hu; rw [hu]; rfl) (by have h5 := HLE.out; have h6 := HKM.out; rw [h5]; unfold maxLen; clear hlt; omega) (by have h5 := HLE.out; have h6 := HKM.out; rw [h5]; omega) (by have := HN.out.size; rw [← size_alloc]; omega) ?_))
    intro v' w9 hown' hgrow _
    have hN1 := grown_new HN.out HO.out hgrow
    have hO1 : w9.ownsRow w.heap.size 70 1 v' (F (k + 1)).length (F (k + 1)) := by
     rw [HSN.out]
     simpa using hown'
    clear hown' hgrow
    have HN1 := Lib.hid hN1
    have HO1 := Lib.hid hO1
    clear hN1 hO1
    go_wp2_with fail
    go_roundw
    case rel => exact ⟨k + 1, hlt, by go_num, HO1, HN1, HZZ⟩
    case measure => exact less_next hlt
   ·have hkni : ¬ ((k : Int) < (n : Int)) := fun h => hkn (Int.ofNat_lt.1 h)
    have hkni2 : (n : Int) ≤ (k : Int) := by omega
    by_cases hx0 : x = 0
    ·subst hx0
     have hsn : F (k + 1) = F k := by rw [HF.out, HF.out, unpack_stay (by omega)]
     have hO1 : wr.ownsRow w.heap.size 70 1 u6 (F (k + 1)).length (F (k + 1)) := by rw [hsn]; exact HO.out
     have hz2 : ∀ (j : Nat) (hj : j < xs.length), n ≤ j → j < k + 1 → xs[j] = 0 := fun j hj h1 h2 => by
      rcases Nat.lt_or_ge j k with h | h
      ·exact HZ.out j hj h1 h
      ·have : j = k := by omega
       subst this
       exact hxe2.out
     have hz00 : ((((0 : Nat) : Int)) != 0) = false := rfl
     have HO1 := Lib.hid hO1
     have HSN := Lib.hid hsn
     have HZZ := Lib.hid hz2
     clear hO1 hsn hz2
     go_wp2_with fail
     go_roundw
     case rel => exact ⟨k + 1, hlt, by go_num, HO1, HN, HZZ⟩
     case measure => exact less_next hlt
    ·have hx1 : ((x : Int) != 0) = true := by simp; omega
     have hbad := drop_bad hkx (by omega : n ≤ k) (by rw [hxe2.out]; exact hx0)
     have hfin : New w wr ∧ ((∀ x ∈ xs.drop n, x = 0) → False) := ⟨HN.out, fun h => by obtain ⟨y, hy, hy2⟩ := hbad; exact hy2 (h y hy)⟩
     clear hbad hx0
     have HFIN := Lib.hid hfin
     clear hfin
     go_wp2_with fail
     go_ret2
     exact ⟨HFIN.out.1, fun h => (HFIN.out.2 h).elim, fun _ _ _ => rfl⟩
  ·have hkk : k = M := by omega
   have hO := HO.out
   have he : F k = words (xs.take n) := by rw [HF.out, hkk, List.take_of_length_le (by rw [List.length_take]; omega)]
   have hlen : (words (xs.take n)).length = n := by simp [words]; have := HX.out; omega
   rw [he, hlen] at hO
   obtain ⟨a7, c7, rfl, hr7, hc7, hz7⟩ := own_rdS' hO
   have hzz := drop_good (xs := xs) (n := n) fun j hj h1 => HZ.out j hj h1 (by rw [hkk, ← HX.out]; exact hj)
   clear hO HO he hlen hi0 hz0 hz1 hz2
   have HKK := Lib.hid hkk
   have HZZ := Lib.hid hzz
   have HR7 := Lib.hid hr7
   have HC7 := Lib.hid hc7
   have HZ7 := Lib.hid hz7
   clear hkk hzz hr7 hc7 hz7
   go_wp2_with fail
   go_ret2
   exact ⟨HN.out, fun _ => ⟨a7, c7, rfl, HR7.out, by have := HC7.out; omega⟩, fun h => by obtain ⟨y, hy, hy2⟩ := h; exact (hy2 (HZZ.out y hy)).elim⟩
end Go.Proofs.YtlfnibjmkfldgaaGreatDoor
namespace Go.Proofs.YtlfnibjmkfldgaaGreatDoor
open Go.RowKit Big
set_option maxRecDepth 100000 in
theorem runpack_bad (a : Option Addr) (cap N : Nat) (n : Int) (w : World) (hl : N ≤ 1000000) (h0 : unpackErr N n ≠ 0) :
  Calls Tryz.prog 40 #[.slice a N cap, .int .i64 n] w fun e w' => e = .returned (.tuple #[.slice none 0 0, .int .i64 (unpackErr N n)]) ∧ New w w' := by
 have hNi : (N : Int) ≤ 1000000 := by omega
 by_cases h256 : 256 < N
 ·have he : unpackErr N n = 5 := by unfold unpackErr; rw [if_pos h256]
  have h256i : (256 : Int) < (N : Int) := by omega
  rw [he]
  clear he h0
  go_enter Tryz.func40, Tryz.ntmps40
  go_wp2_with fail
  go_ret2
  exact ⟨rfl, New.refl _⟩
 ·have h256i : ¬ (256 : Int) < (N : Int) := by omega
  by_cases ho : outside n 0 4096 = true
  ·have he : unpackErr N n = 3 := by unfold unpackErr; rw [if_neg h256, if_pos ho]
   rw [he]
   clear he h0
   simp only [outside, Bool.or_eq_true, decide_eq_true_eq] at ho
   by_cases hn : n < 0
   ·clear ho
    go_enter Tryz.func40, Tryz.ntmps40
    go_wp2_with fail
    go_ret2
    exact ⟨rfl, New.refl _⟩
   ·have hn2 : 4096 < n := by omega
    clear ho
    go_enter Tryz.func40, Tryz.ntmps40
    go_wp2_with fail
    go_ret2
    exact ⟨rfl, New.refl _⟩
  ·have he : unpackErr N n = if N = nBlocks n.toNat then 0 else 2 := by unfold unpackErr; rw [if_neg h256, if_neg ho]
   simp only [outside, Bool.or_eq_true, decide_eq_true_eq] at ho
   obtain ⟨k, rfl⟩ : ∃ k : Nat, n = k := ⟨n.toNat, by omega⟩
   rw [Int.toNat_natCast] at he
   have hbk : N ≠ nBlocks k := fun h => h0 (by rw [he, if_pos h])
   rw [if_neg hbk] at he
   rw [he]
   have hk : (k : Int) ≤ 4096 := by omega
   have hnd := fun W => needed_calls k W (by omega)
   have hne : (((nBlocks k : Nat) : Int) != (N : Int)) = true := by simp; omega
   clear he h0 ho hbk
   have HND := Lib.hid hnd
   clear hnd
   go_enter Tryz.func40, Tryz.ntmps40
   go_wp2_with fail
   refine (HND.out _).mono ?_
   rintro e w1 ⟨rfl, hn⟩
   have HN := Lib.hid hn
   clear hn
   go_wp2_with fail
   go_ret2
   exact ⟨rfl, HN.out⟩
end Go.Proofs.YtlfnibjmkfldgaaGreatDoor
namespace Go.Proofs.YtlfnibjmkfldgaaGreatDoor
open Go.RowKit Big
def RdZ (w : World) (a : Option Addr) (rv : List Value) (xss : List (List Value)) : Prop :=
 RdLL w a rv xss ∧ ∀ (k : Nat) (a' : Option Addr) (l' c' : Nat), rv[k]? = some (.slice a' l' c') → a' = none → c' = 0
theorem RdZ.new {w w' : World} {a : Option Addr} {rv : List Value} {xss : List (List Value)} (h : RdZ w a rv xss) (hn : New w w') : RdZ w' a rv xss := ⟨h.1.new hn, h.2⟩
theorem RdZ.at {w : World} {a : Option Addr} {rv : List Value} {xss : List (List Value)} (h : RdZ w a rv xss) (k : Nat) (hk : k < xss.length) :
  ∃ (b off : Nat) (a' : Option Addr) (c' : Nat), a = some ⟨b, off, none⟩ ∧ w.cell? ⟨b, off + k, none⟩ = some (.slice a' xss[k].length c') ∧ RdL w a' xss[k] ∧ xss[k].length ≤ c' ∧ (a' = none → c' = 0) := by
 have hk' : k < rv.length := by rw [h.1.2.1]; exact hk
 obtain ⟨b, off, e, hc⟩ := h.1.1 k hk'
 obtain ⟨a', c', e', hr⟩ := h.1.2.2 k rv[k] xss[k] (List.getElem?_eq_getElem hk') (List.getElem?_eq_getElem hk)
 exact ⟨b, off, a', c', e, by rw [hc, e'], hr.1, hr.2, h.2 k a' _ c' (by rw [List.getElem?_eq_getElem hk', e'])⟩
end Go.Proofs.YtlfnibjmkfldgaaGreatDoor
