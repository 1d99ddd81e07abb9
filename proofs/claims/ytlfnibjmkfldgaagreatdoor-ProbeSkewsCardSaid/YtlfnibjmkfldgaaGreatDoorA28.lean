/- Part A28. -/
import Derived.Maps.AppendAt
import Derived.ChangeKeysEq
import Derived.Laws.StructEq
import Derived.Test.YtlfnibjmkfldgaaGreatDoorA26
import Derived.Test.YtlfnibjmkfldgaaGreatDoorA27
namespace Go.Proofs.YtlfnibjmkfldgaaGreatDoor
open Go.RowKit Big Go.Shelf
attribute [local go_sem] Oper.semAt_some
theorem columns_calls (a : Option Addr) (n cap : Nat) (w : World) : Calls Tryz.prog 69 #[.slice a n cap] w fun e w' => e = .returned (.func (.func 105) #[] #[.pointer (some ⟨w.heap.size, 0, none⟩)]) ∧ w' = w.alloc (.cells #[.slice a n cap] 57) := by
 go_enter Tryz.func69, Tryz.ntmps69
 go_wp2_with fail
 go_ret
 exact ⟨rfl, rfl⟩
def otherAt (m : Nat) : Nat → List (List Bool) → Int
 | _, [] => -1
 | k, x :: l => if x.length = m then otherAt m (k + 1) l else (k : Int)
theorem otherAt_ok {m : Nat} : ∀ (l : List (List Bool)) (k : Nat), (∀ x ∈ l, x.length = m) → otherAt m k l = -1 := by
 intro l
 induction l with
 | nil => intro k _; rfl
 | cons x l ih =>
  intro k h
  show (if x.length = m then otherAt m (k + 1) l else (k : Int)) = -1
  rw [if_pos (h x (by simp))]
  exact ih _ fun y hy => h y (by simp [hy])
theorem otherAt_drop {m : Nat} (ls : List (List Bool)) (k : Nat) (h : k < ls.length) : otherAt m k (ls.drop k) = if ls[k].length = m then otherAt m (k + 1) (ls.drop (k + 1)) else (k : Int) := by
 rw [List.drop_eq_getElem_cons h]
 rfl
set_option maxRecDepth 100000 in
set_option maxHeartbeats 1000000 in
theorem index_lines (L cap m : Nat) (rv : List Value) (ls : List (List Bool)) (B : Nat) (w : World) (hr : RdLL w (some ⟨L, 0, none⟩) rv (ls.map bools)) (hl : ls.length ≤ 1000000) (h0 : 0 < ls.length) (hm : ls[0].length = m)
  (hb : w.cell? ⟨B, 0, none⟩ = some (.slice (some ⟨L, 0, none⟩) ls.length cap)) :
  Calls Tryz.prog 104 #[.slice (some ⟨L, 0, none⟩) ls.length cap, .func (.func 68) #[] #[.pointer (some ⟨B, 0, none⟩)]] w fun e w' => e = .returned (.int .i64 (otherAt m 0 ls)) ∧ New w w' := by
 obtain ⟨N, hN⟩ : ∃ N, ls.length = N := ⟨_, rfl⟩
 obtain ⟨b0, off0, a0, c0, hab0, hcell0, -, -⟩ := hr.at 0 (by simpa using h0)
 injection hab0 with hab0
 injection hab0 with hab0 hab0'
 subst hab0 hab0'
 have hl0 : ((ls.map bools)[0]'(by simpa using h0)).length = m := by simp [bools, hm]
 rw [hl0, Nat.add_zero] at hcell0
 clear hl0
 have hcl := fun (W : World) (hn : New w W) (a : Option Addr) (n c : Nat) => words1_calls a a0 n m c c0 ls.length cap L B W h0 (hn.cell hb) (hn.cell hcell0)
 rw [hN] at hl hb ⊢
 have hNi : (N : Int) ≤ 1000000 := by omega
 clear hm h0 hcell0 hb
 have HR := Lib.hid hr
 have HCL := Lib.hid hcl
 have HN := Lib.hid hN
 clear hr hcl hN
 go_enter Tryz.func104, Tryz.ntmps104
 go_wp2_with fail
 go_loopw [8] (fun i wr => ∃ (k : Nat), k ≤ N ∧ i = .int .i64 (k : Int) ∧ Hid (otherAt m k (ls.drop k) = otherAt m 0 ls) ∧ Hid (New w wr)) (fun i _ => N - (intOf i).toNat)
 case atStart => exact ⟨0, Nat.zero_le _, rfl, Lib.hid rfl, Lib.hid (New.refl _)⟩
 case round =>
  obtain ⟨k, hk, rfl, HO, HNW⟩ := hrel
  by_cases hlt : k < N
  ·have hkl : k < ls.length := by rw [HN.out]; exact hlt
   obtain ⟨b1, off1, a1, c1, hab1, hcell, -, -⟩ := HR.out.at k (by simpa using hkl)
   injection hab1 with hab1
   injection hab1 with hab1 hab1'
   subst hab1 hab1'
   obtain ⟨x, hx⟩ : ∃ x, ls[k].length = x := ⟨_, rfl⟩
   have hxl : ((ls.map bools)[k]'(by simpa using hkl)).length = x := by simp [bools, hx]
   rw [hxl, Nat.zero_add] at hcell
   replace hcell := HNW.out.cell hcell
   have hd := otherAt_drop (m := m) ls k hkl
   rw [hx, HO.out] at hd
   have hcall := HCL.out wr HNW.out a1 x c1
   clear hxl
   by_cases he : x = m
   ·rw [if_pos he] at hd
    have hdec : decide (x ≠ m) = false := by simpa using he
    rw [hdec] at hcall
    have HD := Lib.hid hd
    have HX := Lib.hid hx
    have HCALL := Lib.hid hcall
    have HEQ := Lib.hid he
    have HDEC := Lib.hid hdec
    clear hd hx hcall he hdec
    go_wp2_with fail
    refine HCALL.out.mono ?_
    rintro e w1 ⟨rfl, hn⟩
    have hN2 := HNW.out.trans hn
    clear hcell HNW hn
    have HNW := Lib.hid hN2
    clear hN2
    go_wp2_with fail
    go_roundw
    case rel => exact ⟨k + 1, by omega, by go_num, Lib.hid HD.out.symm, HNW⟩
    case measure => simp [intOf]; omega
   ·rw [if_neg he] at hd
    have hdec : decide (x ≠ m) = true := by simpa using he
    rw [hdec] at hcall
    have HD := Lib.hid hd
    have HX := Lib.hid hx
    have HCALL := Lib.hid hcall
    have HEQ := Lib.hid he
    have HDEC := Lib.hid hdec
    clear hd hx hcall he hdec
    go_wp2_with fail
    refine HCALL.out.mono ?_
    rintro e w1 ⟨rfl, hn⟩
    have hN2 := HNW.out.trans hn
    clear hcell HNW hn
    have HNW := Lib.hid hN2
    clear hN2
    go_wp2_with fail
    go_ret
    exact ⟨by rw [HD.out]; rfl, HNW.out⟩
  ·have hkk : k = N := by omega
   have ho := HO.out
   rw [List.drop_eq_nil_of_le (by rw [HN.out]; omega)] at ho
   have HO2 := Lib.hid ho
   have HKK := Lib.hid hkk
   clear ho hkk
   go_wp2_with fail
   go_ret
   exact ⟨by rw [← HO2.out]; rfl, HNW.out⟩
set_option maxRecDepth 100000 in
theorem contains_lines (L cap m : Nat) (rv : List Value) (ls : List (List Bool)) (B : Nat) (w : World) (hr : RdLL w (some ⟨L, 0, none⟩) rv (ls.map bools)) (hl : ls.length ≤ 1000000) (h0 : 0 < ls.length) (hm : ls[0].length = m)
  (hb : w.cell? ⟨B, 0, none⟩ = some (.slice (some ⟨L, 0, none⟩) ls.length cap)) :
  Calls Tryz.prog 67 #[.slice (some ⟨L, 0, none⟩) ls.length cap, .func (.func 68) #[] #[.pointer (some ⟨B, 0, none⟩)]] w fun e w' => e = .returned (.bool (decide (0 ≤ otherAt m 0 ls))) ∧ New w w' := by
 have hi := index_lines L cap m rv ls B w hr hl h0 hm hb
 obtain ⟨r, hr2⟩ : ∃ r, otherAt m 0 ls = r := ⟨_, rfl⟩
 rw [hr2] at hi ⊢
 clear hr hm hb hr2
 have HI := Lib.hid hi
 have H0 := Lib.hid h0
 clear hi h0
 go_enter Tryz.func67, Tryz.ntmps67
 go_wp2_with fail
 refine HI.out.mono ?_
 rintro e w1 ⟨rfl, hn⟩
 go_wp2_with fail
 go_ret
 exact ⟨rfl, hn⟩
theorem words_snoc (l : List Nat) (x : Nat) : words (l ++ [x]) = words l ++ [.int .u16 (x : Int)] := by simp [words]
theorem words_len (l : List Nat) : (words l).length = l.length := by simp [words]
def bodyNP (F : Fence) (n : Nat) (P : Program) (fn : Func) (R : Ending → World → Prop) : Exit → Act → World → Prop
 | .normal, a, w | .ret, a, w => LeavesInM F n P fn a.tmps R a.defers .returning w
 | _, _, _ => False
theorem bodyNP_M {F : Fence} {n : Nat} {P : Program} {fn : Func} {R : Ending → World → Prop} (e : Exit) (a : Act) (w : World) (h : bodyNP F n P fn R e a w) : bodyPostM F n P fn R e a w := by
 cases e <;> first | exact h | exact h.elim
set_option maxRecDepth 100000 in
set_option maxHeartbeats 4000000 in
theorem Words_ok (L cap m : Nat) (rv : List Value) (ls : List (List Bool)) (w : World) (hr : RdLL w (some ⟨L, 0, none⟩) rv (ls.map bools)) (h1 : 1 ≤ ls.length) (h16 : ls.length ≤ 16) (hm : ∀ x ∈ ls, x.length = m) (hm4 : m ≤ 4096) :
  Calls Tryz.prog 28 #[.slice (some ⟨L, 0, none⟩) ls.length cap] w (RowPost w 70 (words (wordsOf ls m)) 0) := by
 have h0 : ls[0].length = m := hm _ (List.getElem_mem _)
 have hcont := fun (W : World) (B : Nat) (hn : New w W) hb => contains_lines L cap m rv ls B W (hr.new hn) (by omega) (by omega) h0 hb
 rw [otherAt_ok ls 0 hm] at hcont
 obtain ⟨b0, off0, a0, c0, hab0, hcell0, -, -⟩ := hr.at 0 (by simp; omega)
 injection hab0 with hab0
 injection hab0 with hab0 hab0'
 subst hab0 hab0'
 have hl0 : ((ls.map bools)[0]'(by simp; omega)).length = m := by simp [bools, h0]
 rw [hl0, Nat.add_zero] at hcell0
 clear hl0
 have hit := fun (l Bn : Nat) (J Jx : List Nat → World → Prop) hY (W : World) (hn : New w W) hb h0 => columns1_in Fence.wide 8 trivial rfl (by omega) l Bn (some ⟨L, 0, none⟩) cap m rv ls w hr hm h1 h16 hm4 J Jx hY W hn hb h0
 obtain ⟨N, hN⟩ : ∃ N, ls.length = N := ⟨_, rfl⟩
 rw [hN] at h1 h16
 simp only [hN] at hcont hit
 rw [hN]
 have hN1 : (1 : Int) ≤ (N : Int) := by omega
 have hN16 : (N : Int) ≤ 16 := by omega
 have hd1 : ((N : Int) == 0) = false := by rw [beq_eq_false_iff_ne]; omega
 have hd2 : decide ((16 : Int) < (N : Int)) = false := by rw [decide_eq_false_iff_not]; omega
 have hd3 : decide ((4096 : Int) < (m : Int)) = false := by rw [decide_eq_false_iff_not]; omega
 have hdd : decide ((0 : Int) ≤ -1) = false := by decide
 rw [hdd] at hcont
 obtain ⟨i0, hi, hz0, hz1, hz2⟩ := info_parts info_u16
 clear hr hm
 have HCONT := Lib.hid hcont
 have HIT := Lib.hid hit
 have HC0 := Lib.hid hcell0
 have HN0 := Lib.hid hN
 have H0 := Lib.hid h0
 clear hcont hit hcell0 hN h0
 refine callsIn_wide.1 (callsIn_of_wp_marks (n := 9) Tryz.func28 rfl trivial ?_ rfl)
 rw [wpIn_wide]
 refine wp_mono (Q := bodyNP Fence.wide 9 Tryz.prog Tryz.f28 (RowPost w 70 (words (wordsOf ls m)) 0)) ?_ bodyNP_M
 simp only [Tryz.ntmps28, List.size_toArray, List.length_cons, List.length_nil, Nat.reduceAdd, Nat.reduceSub, Array.replicate_succ, Array.replicate_zero, List.push_toArray, List.append_toArray, List.nil_append, List.cons_append]
 go_wp2_with fail
 have BA := Lib.hid ((Box.alloc w (w.heap.size) 57 #[.slice (some ⟨L, 0, none⟩) N cap] (by simp)).new (New.refl _))
 have HN := Lib.hid ((New.refl w).alloc (.cells #[.slice (some ⟨L, 0, none⟩) N cap] 57))
 obtain ⟨p0, p1, p2⟩ := BA.out.one
 refine wp_region_T 10 (fun W => W.cell? ⟨w.heap.size, 0, none⟩ = some (.slice (some ⟨L, 0, none⟩) N cap)) 11 #[false, false, false, false, false, false, false, false, false, false, false] rfl (by kernel_rfl) (by kernel_rfl) ?_
 refine wpT_take 0 (v := ?_) rfl (by kernel_rfl) (fun _ _ _ h => h) (by exact p0) (Or.inl ⟨by first | kernel_rfl | rfl, ?_⟩) ?_
 rotate_left
 ·(intro W hW; (try dsimp only at hW); go_simp; try with_reducible rfl)
 try simp only [PT]
 refine wpT_take 1 (v := ?_) rfl (by kernel_rfl) (fun _ _ _ h => h) (by exact p0) (Or.inl ⟨by first | kernel_rfl | rfl, ?_⟩) ?_
 rotate_left
 ·(intro W hW; (try dsimp only at hW); go_simp; try with_reducible rfl)
 try simp only [PT]
 refine wpT_take 2 (v := ?_) rfl (by kernel_rfl) (fun _ _ _ h => h) (by exact p0) (Or.inl ⟨by first | kernel_rfl | rfl, ?_⟩) ?_
 rotate_left
 ·(intro W hW; (try dsimp only at hW); go_simp; try with_reducible rfl)
 try simp only [PT]
 refine wpT_take 4 (v := ?_) rfl (by kernel_rfl) (fun _ _ _ h => h) (by exact p0) (Or.inl ⟨by first | kernel_rfl | rfl, ?_⟩) ?_
 rotate_left
 ·(intro W hW; (try dsimp only at hW); go_simp; try with_reducible rfl)
 try simp only [PT]
 refine wpT_take 5 (v := ?_) rfl (by kernel_rfl) (fun _ _ _ h => h) (by exact p0) (Or.inl ⟨by first | kernel_rfl | rfl, ?_⟩) ?_
 rotate_left
 ·(intro W hW; (try dsimp only at hW); go_simp; try with_reducible rfl)
 try simp only [PT]
 refine wpT_take 6 (v := ?_) rfl (by kernel_rfl) (fun _ _ _ h => h) (by exact p0) (Or.inl ⟨by first | kernel_rfl | rfl, ?_⟩) ?_
 rotate_left
 ·(intro W hW; (try dsimp only at hW); go_simp; try with_reducible rfl)
 try simp only [PT]
 refine wpT_one 3 rfl (by kernel_rfl) (fun K hK => ?_)
 go_simp
 refine (pwhen_new false 12 _).mono ?_
 rintro e w1 ⟨rfl, hn⟩
 have hn := hn.undrew
 clear p0 p1 p2
 replace BA := Lib.hid (BA.out.new hn)
 replace HN := Lib.hid (HN.out.trans hn)
 clear hn
 obtain ⟨p0, p1, p2⟩ := BA.out.one
 refine hK.out _ _ (fun _ => ?_) ?_
 ·exact p0
 clear hK K
 try simp only [PT]
 refine wpT_one 7 rfl (by kernel_rfl) (fun K hK => ?_)
 go_simp
 refine (pwhen_new false 5 _).mono ?_
 rintro e w2 ⟨rfl, hn⟩
 clear p0 p1 p2
 replace BA := Lib.hid (BA.out.new hn)
 replace HN := Lib.hid (HN.out.trans hn)
 clear hn
 obtain ⟨p0, p1, p2⟩ := BA.out.one
 refine hK.out _ _ (fun _ => ?_) ?_
 ·exact p0
 clear hK K
 try simp only [PT]
 refine wpT_one 8 rfl (by kernel_rfl) (fun K hK => ?_)
 go_simp
 clear p0 p1 p2
 have HN0 := HN
 clear HN
 have BG := Lib.hid ((Box.alloc w2 (w2.heap.size) 29 #[.int .i64 0, .int .i64 0] (by simp)).new (New.refl _))
 have HN := Lib.hid ((New.refl w2).alloc (.cells #[.int .i64 0, .int .i64 0] 29))
 replace BA := Lib.hid (BA.out.new HN.out)
 have HN_ := HN0.out.trans HN.out
 clear HN HN0
 have HN := Lib.hid HN_
 clear HN_
 obtain ⟨p0, p1, p2⟩ := BA.out.one
 refine hK.out _ _ (fun _ => ?_) ?_
 ·exact p0
 clear hK K
 try simp only [PT]
 refine wpT_one 9 rfl (by kernel_rfl) (fun K hK => ?_)
 go_simp
 refine (pfirst2_new 0 0 _ _ 29 _ BG.out).mono ?_
 rintro e w3 ⟨rfl, hn⟩
 clear p0 p1 p2
 replace BA := Lib.hid (BA.out.new hn)
 replace HN := Lib.hid (HN.out.trans hn)
 clear hn
 obtain ⟨p0, p1, p2⟩ := BA.out.one
 refine hK.out _ _ (fun _ => ?_) ?_
 ·exact p0
 clear hK K
 try simp only []
 refine wpT_tail rfl (by kernel_rfl) ?_
 simp only [List.drop_succ_cons, List.drop_zero]
 clear BG
 go_wp2_with fail
 refine (HCONT.out _ w.heap.size HN.out p0).mono ?_
 rintro e w4 ⟨rfl, hn⟩
 clear p0 p1 p2
 replace BA := Lib.hid (BA.out.new hn)
 replace HN := Lib.hid (HN.out.trans hn)
 clear hn
 obtain ⟨p0, p1, p2⟩ := BA.out.one
 have hc0 := HN.out.cell HC0.out
 go_wp2_with fail
 refine (pwhen_new false 5 _).mono ?_
 rintro e w5 ⟨rfl, hn⟩
 clear hc0
 clear p0 p1 p2
 replace BA := Lib.hid (BA.out.new hn)
 replace HN := Lib.hid (HN.out.trans hn)
 clear hn
 go_wp2_with fail
 refine (pwhen_new false 2 _).mono ?_
 rintro e w6 ⟨rfl, hn⟩
 replace BA := Lib.hid (BA.out.new hn)
 replace HN := Lib.hid (HN.out.trans hn)
 clear hn
 go_wp2_with fail
 have HN0 := HN
 clear HN
 have BG := Lib.hid ((Box.alloc w6 (w6.heap.size) 29 #[.int .i64 0, .int .i64 0] (by simp)).new (New.refl _))
 have HN := Lib.hid ((New.refl w6).alloc (.cells #[.int .i64 0, .int .i64 0] 29))
 replace BA := Lib.hid (BA.out.new HN.out)
 have HN_ := HN0.out.trans HN.out
 clear HN HN0
 have HN := Lib.hid HN_
 clear HN_
 refine (pfirst2_new 0 0 _ _ 29 _ BG.out).mono ?_
 rintro e w7 ⟨rfl, hn⟩
 replace BA := Lib.hid (BA.out.new hn)
 replace HN := Lib.hid (HN.out.trans hn)
 clear hn
 clear BG
 obtain ⟨p0, p1, p2⟩ := BA.out.one
 go_wp2_with fail
 clear p0 p1 p2
 have hN7 := HN.out
 have hB7 : Below w.heap.size w (w7.alloc (.cells #[.slice none 0 0] 58)) := hN7.alloc _
 refine (columns_calls _ _ _ _).mono ?_
 rintro e w8 ⟨rfl, rfl⟩
 go_wp2_with fail
 have bO := (Boxed.new w7 58 (.slice none 0 0)).alloc (.cells #[.slice (some ⟨L, 0, none⟩) N cap] 57)
 have bN := Boxed.new (w7.alloc (.cells #[.slice none 0 0] 58)) 57 (.slice (some ⟨L, 0, none⟩) N cap)
 rw [World.size_alloc] at bN
 have hB8 : Below w.heap.size w ((w7.alloc (.cells #[.slice none 0 0] 58)).alloc (.cells #[.slice (some ⟨L, 0, none⟩) N cap] 57)) := (hN7.alloc _).alloc _
 have hsz : ((w7.alloc (.cells #[.slice none 0 0] 58)).alloc (.cells #[.slice (some ⟨L, 0, none⟩) N cap] 57)).heap.size = w7.heap.size + 1 + 1 := by simp
 obtain ⟨w8, hw8⟩ : ∃ x, (w7.alloc (.cells #[.slice none 0 0] 58)).alloc (.cells #[.slice (some ⟨L, 0, none⟩) N cap] 57) = x := ⟨_, rfl⟩
 rw [hw8] at bO bN hB8 hsz ⊢
 obtain ⟨Bo, hBo⟩ : ∃ x, w7.heap.size = x := ⟨_, rfl⟩
 have hws : w.heap.size ≤ w7.heap.size := hN7.size
 rw [hBo] at bO bN hsz hws ⊢
 clear hw8
 have hmi : (m : Int) ≤ 4096 := by omega
 refine (wpIn_wide (n := 9)).1 ?_
 refine wpIn_rangeFunc_ownG (F := Fence.wide) (n := 9) (P := Tryz.prog) (w := w8) (a := ?fr) (g := .tmp 39) (ps := #[40]) rfl (by omega) (gf := 105) (lb := #[.pointer (some ⟨Bo + 1, 0, none⟩)]) ?hg trivial (enters_of Tryz.func105 (by kernel_rfl) rfl)
  (encs := fun x : Nat => #[.int .u16 (x : Int)]) (Kp := KeepW w.heap.size (Bo + 1)) (S := fun ys => ys = wordsOf ls m) (Sp := fun pre => pre <+: wordsOf ls m) (N := m) (w0 := w8)
  (fun l J Jx W hW _ _ hY h0 => HIT.out l (Bo + 1) J Jx hY W (New.trans hB8 hW) ((hW.cell (p := ⟨Bo + 1, 0, none⟩) (by show Bo + 1 < _; omega)).trans bN.cell) h0)
  KeepW.t (KeepW.b (by omega) (by omega)) (Below.refl _ _) (fun _ => rfl)
  (fun pre W => (∃ v, Boxed W Bo 58 v ∧ W.ownsRow w.heap.size 70 1 v pre.length (words pre) ∧ True) ∧ Boxed W (Bo + 1) 57 (.slice (some ⟨L, 0, none⟩) N cap) ∧ Below w.heap.size w W)
  (fun _ _ _ => False)
  ?hI
  (fun _ _ _ _ _ hs _ _ => hs)
  ⟨⟨_, bO, World.ownsRow_nil _ _ _ _, trivial⟩, bN, hB8⟩
  (fun x => { tmps := ((?fr : Act).tmps.setIfInBounds 40 (.int .u16 (x : Int))).setIfInBounds 8 (.int .u16 (x : Int)), defers := [] }) ?assign ?body ?done ?stop
 case hg => rfl
 case hI => exact OwnFrom.and (Own.from (holdsRow_own w.heap.size Bo 58 70 1 (fun pre => pre.length) (fun pre => words pre) (fun _ _ => True)) _) (OwnFrom.and (Own.from (boxed_own (Bo + 1) 57 fun _ => .slice (some ⟨L, 0, none⟩) N cap) _) (ownFrom_below (Nat.le_refl _) (by omega)))
 case assign =>
  intro l x W K hK
  gi_wp2
  exact hK
 case body =>
  rintro l pre x W ⟨⟨v, hv, hrow, -⟩, hBn, hB⟩ hlt
  have hc := hv.cell
  have hf := hv.frozen
  have hli : (pre.length : Int) ≤ 4096 := by omega
  simp only [List.setIfInBounds_toArray, List.set_cons_zero, List.set_cons_succ]
  gi_wp2_with (gi_at_builtin; refine wpListIn_append_own _ rfl _ _ 58 rfl w.heap.size 70 i0 (.int .u16 0) 1 2 Tryz.underlying58 hi hz0 hz1 hz2 rfl (by decide) _ _ _ rfl (hrow.alloc _) ⟨W.heap.size, 0, none⟩ 1 1 [.int .u16 (x : Int)] rfl rfl (cell_one_new _ _ _) (by simp [Value.oneCell']) (by unfold maxLen; omega) (by omega) (by have := hB.size; simp; omega) ?_; intro v' w1 hown' hgrow _; obtain ⟨g', cap', rfl⟩ := ownsRow_succ hown'; obtain ⟨hv1, hv2, hr2, hk2, hb2⟩ := hv.appended (by decide) hrow hB.size hws hown' hgrow; have hc1 := hv1.cell; have hf1 := hv1.frozen)
  have hBn1 := ((hBn.alloc _).kept hgrow (hBn.not_row (by decide) hrow)).other (B' := Bo) (by omega) (.slice (some ⟨g', 0, none⟩) (pre.length + 1) cap')
  refine ⟨hk2.from _, ⟨hb2, (show _ = _ from hBn1).trans (show W.heap[Bo + 1]? = _ from hBn).symm⟩, ⟨_, hv2, ?_, trivial⟩, hBn1, hB.trans hb2⟩
  rw [words_snoc, List.length_append]
  exact hr2
 case done =>
  rintro D ys W hD rfl ⟨⟨v, hv, hrow, -⟩, -, hB⟩ hK
  have hc := hv.cell
  have hwl : (wordsOf ls m).length = (words (wordsOf ls m)).length := (words_len _).symm
  go_wp2_with fail
  refine ⟨by simp, .inl ⟨_, _, rfl, run_takeDeferred hK, ?_⟩⟩
  refine ⟨_, results_tmp2 rfl _ _ _, _, rfl, hB.trans (belowK_b (w := w) (Nat.le_refl _) W D _ _ (by omega) hK rfl rfl), ?_⟩
  rw [← hwl]
  exact ownsRow_putObj hrow _ hK rfl
 case stop =>
  rintro D c pre W _ _ h _
  exact h.elim
end Go.Proofs.YtlfnibjmkfldgaaGreatDoor
namespace Go.Proofs.YtlfnibjmkfldgaaGreatDoor
open Go.RowKit Big
theorem RdL.u16 {w : World} {a : Option Addr} {l : List Nat} (h : RdL w a (words l)) (i : Nat) (hi : i < l.length) : ∃ b off, a = some ⟨b, off, none⟩ ∧ w.cell? ⟨b, off + i, none⟩ = some (.int .u16 (l[i] : Nat)) := by
 obtain ⟨b, off, e, hc⟩ := h i (by simpa [words] using hi)
 exact ⟨b, off, e, by rw [hc]; simp [words]⟩
set_option maxRecDepth 100000 in
theorem same_ints (a b : Option Addr) (cap cap' : Nat) (xs ys : List Int) (w : World) (hl : xs.length ≤ 1000000) (hlen : ys.length = xs.length) (hr1 : RdL w a (ints xs)) (hr2 : RdL w b (ints ys)) (hs : ∀ (k : Nat) (h : k < xs.length) (h' : k < ys.length), (fun x y : Int => x != y) xs[k] ys[k] = false) :
  Calls Tryz.prog 23 #[.slice a xs.length cap, .slice b ys.length cap'] w fun e w' => e = .returned (.bool true) ∧ New w w' := by
 obtain ⟨n, hn⟩ : ∃ n, xs.length = n := ⟨_, rfl⟩
 rw [hlen]
 rw [hn] at hl hlen ⊢
 have hni : (n : Int) ≤ 1000000 := by omega
 have hnn : ((n : Int) != (n : Int)) = false := by simp
 have HR1 := Lib.hid hr1
 have HR2 := Lib.hid hr2
 have HS := Lib.hid hs
 have HN0 := Lib.hid hn
 have HLEN := Lib.hid hlen
 clear hr1 hr2 hs hn hlen
 go_enter Tryz.func23, Tryz.ntmps23
 go_wp2_with fail
 go_loopw [5] (fun i wr => ∃ (k : Nat), k ≤ n ∧ i = .int .i64 (k : Int) ∧ Hid (New w wr)) (fun i _ => n - (intOf i).toNat)
 case atStart => exact ⟨0, Nat.zero_le _, rfl, Lib.hid (New.refl _)⟩
 case round =>
  obtain ⟨k, hk, rfl, HN⟩ := hrel
  by_cases hlt : k < n
  ·have h1 : k < xs.length := by rw [HN0.out]; exact hlt
   have h2 : k < ys.length := by rw [HLEN.out]; exact hlt
   obtain ⟨b1, off1, rfl, hc1⟩ := HR1.out.int k h1
   obtain ⟨b2, off2, rfl, hc2⟩ := HR2.out.int k h2
   have hsame := HS.out k h1 h2
   obtain ⟨x, hx⟩ : ∃ x, xs[k] = x := ⟨_, rfl⟩
   obtain ⟨y, hy⟩ : ∃ y, ys[k] = y := ⟨_, rfl⟩
   rw [hx] at hc1
   rw [hy] at hc2
   rw [hx, hy] at hsame
   replace hc1 := HN.out.cell hc1
   replace hc2 := HN.out.cell hc2
   have HX := Lib.hid hx
   have HY := Lib.hid hy
   clear hx hy
   go_wp2_with fail
   go_quiet (fail)
   go_wp2_with fail
   go_roundw
   case rel => exact ⟨k + 1, by omega, by go_num, Lib.hid (HN.out.drewN nq)⟩
   case measure => simp [intOf]; omega
  ·have hkk : k = n := by omega
   have HKK := Lib.hid hkk
   clear hkk
   go_wp2_with fail
   go_ret
   exact ⟨rfl, HN.out⟩
set_option maxRecDepth 100000 in
theorem same_words (a b : Option Addr) (cap cap' : Nat) (xs ys : List Nat) (w : World) (hl : xs.length ≤ 1000000) (hlen : ys.length = xs.length) (hr1 : RdL w a (words xs)) (hr2 : RdL w b (words ys)) (hs : ∀ (k : Nat) (h : k < xs.length) (h' : k < ys.length), (fun x y : Nat => (x : Int) != (y : Int)) xs[k] ys[k] = false) :
  Calls Tryz.prog 35 #[.slice a xs.length cap, .slice b ys.length cap'] w fun e w' => e = .returned (.bool true) ∧ New w w' := by
 obtain ⟨n, hn⟩ : ∃ n, xs.length = n := ⟨_, rfl⟩
 rw [hlen]
 rw [hn] at hl hlen ⊢
 have hni : (n : Int) ≤ 1000000 := by omega
 have hnn : ((n : Int) != (n : Int)) = false := by simp
 have HR1 := Lib.hid hr1
 have HR2 := Lib.hid hr2
 have HS := Lib.hid hs
 have HN0 := Lib.hid hn
 have HLEN := Lib.hid hlen
 clear hr1 hr2 hs hn hlen
 go_enter Tryz.func35, Tryz.ntmps35
 go_wp2_with fail
 go_loopw [5] (fun i wr => ∃ (k : Nat), k ≤ n ∧ i = .int .i64 (k : Int) ∧ Hid (New w wr)) (fun i _ => n - (intOf i).toNat)
 case atStart => exact ⟨0, Nat.zero_le _, rfl, Lib.hid (New.refl _)⟩
 case round =>
  obtain ⟨k, hk, rfl, HN⟩ := hrel
  by_cases hlt : k < n
  ·have h1 : k < xs.length := by rw [HN0.out]; exact hlt
   have h2 : k < ys.length := by rw [HLEN.out]; exact hlt
   obtain ⟨b1, off1, rfl, hc1⟩ := HR1.out.u16 k h1
   obtain ⟨b2, off2, rfl, hc2⟩ := HR2.out.u16 k h2
   have hsame := HS.out k h1 h2
   obtain ⟨x, hx⟩ : ∃ x, xs[k] = x := ⟨_, rfl⟩
   obtain ⟨y, hy⟩ : ∃ y, ys[k] = y := ⟨_, rfl⟩
   rw [hx] at hc1
   rw [hy] at hc2
   rw [hx, hy] at hsame
   replace hc1 := HN.out.cell hc1
   replace hc2 := HN.out.cell hc2
   have HX := Lib.hid hx
   have HY := Lib.hid hy
   clear hx hy
   go_wp2_with fail
   go_quiet (fail)
   go_wp2_with fail
   go_roundw
   case rel => exact ⟨k + 1, by omega, by go_num, Lib.hid (HN.out.drewN nq)⟩
   case measure => simp [intOf]; omega
  ·have hkk : k = n := by omega
   have HKK := Lib.hid hkk
   clear hkk
   go_wp2_with fail
   go_ret
   exact ⟨rfl, HN.out⟩
set_option maxRecDepth 100000 in
theorem same_floats (a b : Option Addr) (cap cap' : Nat) (xs ys : List Nat) (w : World) (hl : xs.length ≤ 1000000) (hlen : ys.length = xs.length) (hr1 : RdL w a (flts xs)) (hr2 : RdL w b (flts ys)) (hs : ∀ (k : Nat) (h : k < xs.length) (h' : k < ys.length), (fun x y : Nat => FloatKind.f32.format.order x y != some Ordering.eq) xs[k] ys[k] = false) :
  Calls Tryz.prog 27 #[.slice a xs.length cap, .slice b ys.length cap'] w fun e w' => e = .returned (.bool true) ∧ New w w' := by
 obtain ⟨n, hn⟩ : ∃ n, xs.length = n := ⟨_, rfl⟩
 rw [hlen]
 rw [hn] at hl hlen ⊢
 have hni : (n : Int) ≤ 1000000 := by omega
 have hnn : ((n : Int) != (n : Int)) = false := by simp
 have HR1 := Lib.hid hr1
 have HR2 := Lib.hid hr2
 have HS := Lib.hid hs
 have HN0 := Lib.hid hn
 have HLEN := Lib.hid hlen
 clear hr1 hr2 hs hn hlen
 go_enter Tryz.func27, Tryz.ntmps27
 go_wp2_with fail
 go_loopw [5] (fun i wr => ∃ (k : Nat), k ≤ n ∧ i = .int .i64 (k : Int) ∧ Hid (New w wr)) (fun i _ => n - (intOf i).toNat)
 case atStart => exact ⟨0, Nat.zero_le _, rfl, Lib.hid (New.refl _)⟩
 case round =>
  obtain ⟨k, hk, rfl, HN⟩ := hrel
  by_cases hlt : k < n
  ·have h1 : k < xs.length := by rw [HN0.out]; exact hlt
   have h2 : k < ys.length := by rw [HLEN.out]; exact hlt
   obtain ⟨b1, off1, rfl, hc1⟩ := HR1.out.flt k h1
   obtain ⟨b2, off2, rfl, hc2⟩ := HR2.out.flt k h2
   have hsame := HS.out k h1 h2
   obtain ⟨x, hx⟩ : ∃ x, xs[k] = x := ⟨_, rfl⟩
   obtain ⟨y, hy⟩ : ∃ y, ys[k] = y := ⟨_, rfl⟩
   rw [hx] at hc1
   rw [hy] at hc2
   rw [hx, hy] at hsame
   replace hc1 := HN.out.cell hc1
   replace hc2 := HN.out.cell hc2
   have HX := Lib.hid hx
   have HY := Lib.hid hy
   clear hx hy
   go_wp2_with fail
   go_quiet (fail)
   go_wp2_with fail
   go_roundw
   case rel => exact ⟨k + 1, by omega, by go_num, Lib.hid (HN.out.drewN nq)⟩
   case measure => simp [intOf]; omega
  ·have hkk : k = n := by omega
   have HKK := Lib.hid hkk
   clear hkk
   go_wp2_with fail
   go_ret
   exact ⟨rfl, HN.out⟩
section
variable {P : Program}
theorem run_items_ints (w : World) (d : Nat) {e : TypeId} {q q' : IntKind} (he : P.underlying e = some (.int q')) (hp : P.plainKey e = true) (xs ys : List Int) : ∀ is : List Nat, (∀ i ∈ is, i < xs.length ∧ i < ys.length) →
  (Op.eqItems (d + 1) e 1 (xs.map (.int q)).toArray (ys.map (.int q)).toArray is).run P w = .ok (is.all fun i => xs[i]? == ys[i]?) w
 | [], _ => by simp [Op.eqItems]
 | i :: is, h => by
  obtain ⟨h1, h2⟩ := h i (by simp)
  have p1 : (part e (xs.map (Value.int q)).toArray (i * 1)).run P w = .ok (.int q xs[i]) w := run_part_plain w hp (by simp [h1])
  have p2 : (part e (ys.map (Value.int q)).toArray (i * 1)).run P w = .ok (.int q ys[i]) w := run_part_plain w hp (by simp [h2])
  have ih := run_items_ints (q := q) w d he hp xs ys is (fun j hj => h j (by simp [hj]))
  have hxy : (xs[i]? == ys[i]?) = (xs[i] == ys[i]) := by simp [h1, h2]
  simp only [Op.eqItems, Sem.run_bind, p1, p2, Result.andThen_ok, run_equalIn_int w d e q q' _ _ he, List.all_cons, hxy]
  by_cases hb : (xs[i] == ys[i]) = true
  ·simp [hb, ih]
  ·simp at hb
   simp [hb]
theorem run_equal_ints (w : World) (d : Nat) {t e : TypeId} {n : Nat} {i : TypeInfo} {q q' : IntKind} (xs ys : List Int) (hu : P.underlying t = some (.array n e)) (hi : P.info? e = some i) (he : P.underlying e = some (.int q')) (hp : P.plainKey e = true) (hc : P.cellsOf e = 1) (hx : xs.length = n) (hy : ys.length = n) :
  (Op.equalIn (d + 2) t (.agg (xs.map (.int q)).toArray) (.agg (ys.map (.int q)).toArray)).run P w = .ok ((List.range n).all fun i => xs[i]? == ys[i]?) w := by
 rw [run_equalIn_array w (d + 1) _ _ hu hi, hc]
 exact run_items_ints w d he hp xs ys _ (fun j hj => by simp at hj; omega)
end
theorem int_info : ∃ i, Tryz.prog.info? 3 = some i := by
 obtain ⟨ii, hi, _⟩ := info_parts info_int
 exact ⟨ii, hi⟩
theorem neq_pair (W : World) (a b c d : Int) : (binOp .neq 55 (.agg #[.int .i64 a, .int .i64 b]) (.agg #[.int .i64 c, .int .i64 d])).run Tryz.prog W = .ok (.bool (!(a == c && b == d))) W := by
 obtain ⟨ii, hi⟩ := int_info
 have h := run_equal_ints (P := Tryz.prog) W 9998 (q := .i64) [a, b] [c, d] Tryz.underlying55 hi Tryz.underlying3 (by kernel_rfl) (by kernel_rfl) rfl rfl
 rw [run_neq_struct]
 have e1 : (Value.agg ([a, b].map (Value.int .i64)).toArray) = .agg #[.int .i64 a, .int .i64 b] := rfl
 have e2 : (Value.agg ([c, d].map (Value.int .i64)).toArray) = .agg #[.int .i64 c, .int .i64 d] := rfl
 rw [e1, e2] at h
 rw [h]
 simp [List.range_succ]
theorem pairs_len (l : List (Nat × Nat)) : (pairs l).length = 2 * l.length := by
 induction l with
 | nil => rfl
 | cons x l ih => simp [pairs] at ih ⊢; omega
theorem pairs_get : ∀ (l : List (Nat × Nat)) (k : Nat) (h : k < l.length), (pairs l)[2 * k]? = some (.int .i64 (l[k].1 : Int)) ∧ (pairs l)[2 * k + 1]? = some (.int .i64 (l[k].2 : Int))
 | x :: l, 0, _ => by simp [pairs]
 | x :: l, k + 1, h => by
  have := pairs_get l k (by simpa using h)
  have e : pairs (x :: l) = .int .i64 (x.1 : Int) :: .int .i64 (x.2 : Int) :: pairs l := by simp [pairs]
  rw [e]
  simpa [Nat.mul_add] using this
theorem RdL.pair {w : World} {a : Option Addr} {l : List (Nat × Nat)} (h : RdL w a (pairs l)) (k : Nat) (hk : k < l.length) : ∃ b off, a = some ⟨b, off, none⟩ ∧ w.cell? ⟨b, off + k * 2, none⟩ = some (.int .i64 (l[k].1 : Int)) ∧ w.cell? ⟨b, off + k * 2 + 1, none⟩ = some (.int .i64 (l[k].2 : Int)) := by
 have hl := pairs_len l
 obtain ⟨g1, g2⟩ := pairs_get l k hk
 have h1 : 2 * k < (pairs l).length := by omega
 have h2 : 2 * k + 1 < (pairs l).length := by omega
 obtain ⟨b, off, e, hc⟩ := h (2 * k) h1
 obtain ⟨b', off', e', hc'⟩ := h (2 * k + 1) h2
 rw [e] at e'
 simp at e'
 obtain ⟨rfl, rfl⟩ := e'
 rw [List.getElem?_eq_getElem h1] at g1
 rw [List.getElem?_eq_getElem h2] at g2
 refine ⟨b, off, e, ?_, ?_⟩
 ·rw [Nat.mul_comm k 2, hc, Option.some.inj g1]
 ·rw [Nat.mul_comm k 2, Nat.add_assoc, hc', Option.some.inj g2]
set_option maxRecDepth 100000 in
theorem same_pairs (a b : Option Addr) (cap cap' : Nat) (xs : List (Nat × Nat)) (w : World) (hl : xs.length ≤ 1000000) (hr1 : RdL w a (pairs xs)) (hr2 : RdL w b (pairs xs)) :
  Calls Tryz.prog 54 #[.slice a xs.length cap, .slice b xs.length cap'] w fun e w' => e = .returned (.bool true) ∧ New w w' := by
 obtain ⟨n, hn⟩ : ∃ n, xs.length = n := ⟨_, rfl⟩
 rw [hn] at hl ⊢
 have hni : (n : Int) ≤ 1000000 := by omega
 have hnn : ((n : Int) != (n : Int)) = false := by simp
 have HR1 := Lib.hid hr1
 have HR2 := Lib.hid hr2
 have HN0 := Lib.hid hn
 clear hr1 hr2 hn
 go_enter Tryz.func54, Tryz.ntmps54
 go_wp2_with fail
 go_loopw [5] (fun i wr => ∃ (k : Nat), k ≤ n ∧ i = .int .i64 (k : Int) ∧ Hid (New w wr)) (fun i _ => n - (intOf i).toNat)
 case atStart => exact ⟨0, Nat.zero_le _, rfl, Lib.hid (New.refl _)⟩
 case round =>
  obtain ⟨k, hk, rfl, HN⟩ := hrel
  by_cases hlt : k < n
  ·have h1 : k < xs.length := by rw [HN0.out]; exact hlt
   obtain ⟨b1, off1, rfl, hc1, hd1⟩ := HR1.out.pair k h1
   obtain ⟨b2, off2, rfl, hc2, hd2⟩ := HR2.out.pair k h1
   obtain ⟨x, hx⟩ : ∃ x, (xs[k].1 : Int) = x := ⟨_, rfl⟩
   obtain ⟨y, hy⟩ : ∃ y, (xs[k].2 : Int) = y := ⟨_, rfl⟩
   rw [hx] at hc1 hc2
   rw [hy] at hd1 hd2
   have hsame := fun W => neq_pair W x y x y
   rw [show (!(x == x && y == y)) = false by simp] at hsame
   replace hc1 := HN.out.cell hc1
   replace hc2 := HN.out.cell hc2
   replace hd1 := HN.out.cell hd1
   replace hd2 := HN.out.cell hd2
   have HX := Lib.hid hx
   have HY := Lib.hid hy
   clear hx hy
   go_wp2_with fail
   go_quiet (fail)
   go_wp2_with fail
   go_roundw
   case rel => exact ⟨k + 1, by omega, by go_num, Lib.hid (HN.out.drewN nq)⟩
   case measure => simp [intOf]; omega
  ·have hkk : k = n := by omega
   have HKK := Lib.hid hkk
   clear hkk
   go_wp2_with fail
   go_ret
   exact ⟨rfl, HN.out⟩
set_option maxRecDepth 100000 in
theorem sample_calls (w : World) : Calls Tryz.prog 46 #[] w fun e w' => e = .returned (.agg #[.int .i64 8, .int .i64 (-3), .int .i64 128, .string { data := #[49] }, .string { data := #[48] }]) ∧ New w w' := by
 go_enter Tryz.func46, Tryz.ntmps46
 go_wp2_with fail
 refine bodyPost_ret (v := .agg #[.int .i64 8, .int .i64 (-3), .int .i64 128, .string { data := #[49] }, .string { data := #[48] }]) (by simp [results, Tryz.results46, go_sem]) rfl ⟨rfl, ?_⟩
 exact (New.refl _).alloc _
end Go.Proofs.YtlfnibjmkfldgaaGreatDoor
