/- Part CardPack01. -/
import Derived.Deep.Onto
import Derived.Maps.AppendAt
import Derived.ChangeKeysEq
import Derived.Laws.StructEq
import Derived.Test.YtlfnibjmkfldgaaGreatDoorA19
import Derived.Test.YtlfnibjmkfldgaaGreatDoorA21
import Derived.Test.YtlfnibjmkfldgaaGreatDoorA24
import Derived.Test.YtlfnibjmkfldgaaGreatDoorA25
import Derived.Test.YtlfnibjmkfldgaaGreatDoorA26
import Derived.Test.YtlfnibjmkfldgaaGreatDoorA27
import Derived.Test.YtlfnibjmkfldgaaGreatDoorA28
namespace Go.Proofs.YtlfnibjmkfldgaaGreatDoor
open Go.RowKit Big
theorem unpack1_calls (x : Nat) (w : World) : Calls Tryz.prog 77 #[.int .u16 x] w fun e w' => e = .returned (.bool (decide (x ≠ 0))) ∧ w = w' := by
 by_cases h : x = 0
 ·subst h
  go_enter Tryz.func77, Tryz.ntmps77
  go_wp2_with fail
  go_ret
  exact ⟨rfl, rfl⟩
 ·have h1 : decide (x ≠ 0) = true := by simpa using h
  have h2 : ((x : Int) != 0) = true := by rw [bne_iff_ne]; omega
  rw [h1]
  go_enter Tryz.func77, Tryz.ntmps77
  go_wp2_with fail
  go_ret
  exact ⟨by first | rfl | exact ret_bool h2 | (simp [h]; done), rfl⟩
end Go.Proofs.YtlfnibjmkfldgaaGreatDoor
namespace Go.Proofs.YtlfnibjmkfldgaaGreatDoor
open Go.RowKit Big
set_option maxRecDepth 100000 in
set_option maxHeartbeats 1000000 in
theorem mapped_line (a : Option Addr) (cap : Nat) (vs : List Value) (ys : List Bool) (p : Addr) (w : World) (hy : ys.length = vs.length) (hl : vs.length ≤ 4096) (hr : RdL w a vs)
  (hc : ∀ (k : Nat) (h : k < vs.length) (h' : k < ys.length) (W : World), New w W → Calls Tryz.prog 72 #[vs[k], .pointer (some p)] W fun e W' => e = .returned ((Value.bool) ys[k]) ∧ New W W') :
  Calls Tryz.prog 71 #[.slice a vs.length cap, .func (.func 72) #[] #[.pointer (some p)]] w (RowRet w 4 (ys.map (Value.bool))) := by
 obtain ⟨i0, hi, hz0, hz1, hz2⟩ := info_parts info_bool
 have hli : (vs.length : Int) ≤ 4096 := by omega
 have HR := Lib.hid hr
 have HC := Lib.hid hc
 have HY := Lib.hid hy
 clear hr hc hy
 go_enter Tryz.func71, Tryz.ntmps71
 go_wp2_with fail
 go_loopw [5, 10] (fun v i wr => ∃ (k : Nat), k ≤ vs.length ∧ i = .int .i64 (k : Int) ∧ Hid (wr.ownsRow w.heap.size 4 1 v ((ys.take k).map (Value.bool)).length ((ys.take k).map (Value.bool))) ∧ Hid (New w wr)) (fun _ i _ => vs.length - (intOf i).toNat)
 case atStart => exact ⟨0, Nat.zero_le _, rfl, Lib.hid (World.ownsRow_nil _ _ _ _), Lib.hid (New.refl _)⟩
 case round =>
  obtain ⟨k, hk, rfl, HO, HN⟩ := hrel
  by_cases hlt : k < vs.length
  ·obtain ⟨b, off, rfl, hcell⟩ := HR.out k hlt
   have hcell := HN.out.cell hcell
   have hly : k < ys.length := by have := HY.out; omega
   have hcall := HC.out k hlt hly
   obtain ⟨x, hx⟩ : ∃ x, vs[k] = x := ⟨_, rfl⟩
   obtain ⟨y, hyy⟩ : ∃ y, ys[k] = y := ⟨_, rfl⟩
   have h1 : ∀ u ∈ [(Value.bool) y], u.oneCell' = true := by intro u hu; simp at hu; rw [hu]; rfl
   have ht : (ys.take (k + 1)).map (Value.bool) = (ys.take k).map (Value.bool) ++ [(Value.bool) y] := by rw [List.take_succ_eq_append_getElem hly, hyy]; simp
   have hle : ((ys.take k).map (Value.bool)).length = k := by rw [List.length_map, List.length_take]; omega
   simp only [hx, hyy] at hcall
   rw [hx] at hcell
   have HCALL := Lib.hid hcall
   have HX := Lib.hid hx
   have HYY := Lib.hid hyy
   have H1 := Lib.hid h1
   have HT := Lib.hid ht
   have HLE := Lib.hid hle
   clear hcall hx hyy h1 ht hle
   go_wp2_with fail
   refine (HCALL.out _ HN.out).mono ?_
   rintro e w1 ⟨rfl, hn⟩
   have hO := own_new HO.out hn
   have hN := HN.out.trans hn
   clear HO HN hcell
   have HO := Lib.hid hO
   have HN := Lib.hid hN
   have HN0 := Lib.hid hn
   clear hO hN hn
   go_wp2_with (at_builtin; refine wpList_append_own _ rfl _ _ 26 rfl w.heap.size 4 i0 (.bool false) 1 1 Tryz.underlying26 hi hz0 hz1 hz2 rfl (by decide) _ _ _ rfl (HO.out.alloc _) ⟨w1.heap.size, 0, none⟩ 1 1 [(Value.bool) y] rfl rfl (one_c1 _ _ _) H1.out (by have := HLE.out; unfold maxLen; omega) (by have := HLE.out; omega) (by have := HN.out.size; rw [← size_alloc]; omega) ?_)
   intro v' w2 hown' hgrow _
   have hN1 := grown_new HN.out HO.out hgrow
   have hO1 : w2.ownsRow w.heap.size 4 1 v' ((ys.take (k + 1)).map (Value.bool)).length ((ys.take (k + 1)).map (Value.bool)) := by
    rw [HT.out]
    simpa using hown'
   clear hown' hgrow
   have HN1 := Lib.hid hN1
   have HO1 := Lib.hid hO1
   clear hN1 hO1
   go_wp2_with fail
   go_roundw
   case rel => exact ⟨k + 1, by omega, by go_num, HO1, HN1⟩
   case measure => simp [intOf]; omega
  ·have hkk : k = vs.length := by omega
   have hO := HO.out
   rw [hkk, ← HY.out, List.take_length] at hO
   have HKK := Lib.hid hkk
   have HOO := Lib.hid hO
   clear hkk hO
   go_wp2_with fail
   go_ret
   exact ⟨_, rfl, HN.out, HOO.out⟩
end Go.Proofs.YtlfnibjmkfldgaaGreatDoor
namespace Go.Proofs.YtlfnibjmkfldgaaGreatDoor
open Go.RowKit Big
def bitOf (x n : Nat) : Bool := x / 2 ^ n % 2 == 1
theorem bits_and_one16 (k : Nat) (hk : k < 65536) : bits .and .u16 (k : Int) 1 = ((k % 2 : Nat) : Int) := by
 have h1 : (BitVec.ofInt 16 (k : Int)).toNat = k := by
  rw [BitVec.ofInt_natCast, BitVec.toNat_ofNat]; exact Nat.mod_eq_of_lt (by omega)
 have h2 : (BitVec.ofInt 16 1).toNat = 1 := by decide
 show IntKind.u16.wrap ((BitVec.ofInt 16 (k : Int) &&& BitVec.ofInt 16 1).toNat : Int) = _
 rw [BitVec.toNat_and, h1, h2, Nat.and_one_is_mod]
 have : k % 2 = 0 ∨ k % 2 = 1 := by omega
 rcases this with h | h <;> rw [h] <;> decide
theorem line1_calls (x n : Nat) (hx : x < 65536) (hn : n ≤ 15) (B : Nat) (W : World) (hb : W.cell? ⟨B, 0, none⟩ = some (.int .i64 (n : Int))) :
  Calls Tryz.prog 72 #[.int .u16 (x : Int), .pointer (some ⟨B, 0, none⟩)] W fun e W' => e = .returned (.bool (bitOf x n)) ∧ New W W' := by
 go_enter Tryz.func72, Tryz.ntmps72
 go_wp2_with fail
 go_ret
 refine ⟨ret_bool ?_, New.refl _⟩
 have e : (x : Int) / 2 ^ n = ((x / 2 ^ n : Nat) : Int) := by simp
 rw [e, bits_and_one16 _ (Nat.lt_of_le_of_lt (Nat.div_le_self _ _) hx)]
 unfold bitOf
 have : x / 2 ^ n % 2 = 0 ∨ x / 2 ^ n % 2 = 1 := by omega
 rcases this with h | h <;> rw [h] <;> decide
def lineErr (len : Nat) (line : Int) : Int := if 4096 < len then 5 else if outside line 0 15 then 3 else 0
set_option maxRecDepth 100000 in
theorem line_bad (a : Option Addr) (cap : Nat) (l : List Value) (line : Int) (w : World) (hl : l.length ≤ 1000000) (h0 : lineErr l.length line ≠ 0) :
  Calls Tryz.prog 30 #[.slice a l.length cap, .int .i64 line] w fun e w' => e = .returned (.tuple #[.slice none 0 0, .int .i64 (lineErr l.length line)]) ∧ New w w' := by
 obtain ⟨e1, he1⟩ : ∃ e1, fewErr l.length = e1 := ⟨_, rfl⟩
 obtain ⟨e2, he2⟩ : ∃ e2 : Int, (if outside line 0 15 then 3 else 0) = e2 := ⟨_, rfl⟩
 have hli : (l.length : Int) ≤ 9223372036854775807 := by omega
 have hfew := fun W => few_u16 a l.length cap W (by omega)
 rw [he1] at hfew
 obtain ⟨r, hr1⟩ : ∃ r, (if e1 = 0 then e2 else e1) = r := ⟨_, rfl⟩
 have hrr : r = lineErr l.length line := by
  rw [← hr1, ← he1, ← he2]
  unfold fewErr lineErr
  by_cases h : 4096 < l.length
  ·rw [if_pos h, if_pos h]; rfl
  ·rw [if_neg h, if_neg h]; rfl
 rw [← hrr] at h0 ⊢
 have ht : (r != 0) = true := by simpa using h0
 have HE1 := Lib.hid he1
 have HE2 := Lib.hid he2
 have HR1 := Lib.hid hr1
 have HFEW := Lib.hid hfew
 have HRR := Lib.hid hrr
 have H0 := Lib.hid h0
 clear he1 he2 hr1 hfew hrr h0
 go_enter Tryz.func30, Tryz.ntmps30
 go_wp2_with fail
 have BA := Lib.hid ((Box.alloc w (w.heap.size) 3 #[.int .i64 line] (by simp)).new (New.refl _))
 have HN := Lib.hid ((New.refl w).alloc (.cells #[.int .i64 line] 3))
 obtain ⟨p0, p1, p2⟩ := BA.out.one
 refine wp_region_T 6 (fun W => W.cell? ⟨w.heap.size, 0, none⟩ = some (.int .i64 line)) 7 #[false, false, false, false, false, false, false] rfl (by kernel_rfl) (by kernel_rfl) ?_
 refine wpT_take 0 (v := ?_) rfl (by kernel_rfl) (fun _ _ _ h => h) (by exact p0) (Or.inl ⟨by first | kernel_rfl | rfl, ?_⟩) ?_
 rotate_left
 ·(intro W hW; (try dsimp only at hW); go_simp; try with_reducible rfl)
 try simp only [PT]
 refine wpT_take 2 (v := ?_) rfl (by kernel_rfl) (fun _ _ _ h => h) (by exact p0) (Or.inl ⟨by first | kernel_rfl | rfl, ?_⟩) ?_
 rotate_left
 ·(intro W hW; (try dsimp only at hW); go_simp; try with_reducible rfl)
 try simp only [PT]
 refine wpT_one 1 rfl (by kernel_rfl) (fun K hK => ?_)
 go_simp
 refine (HFEW.out _).mono ?_
 rintro e w1 ⟨rfl, hn⟩
 have hn := hn.undrew
 clear p0 p1 p2
 replace BA := Lib.hid (BA.out.new hn)
 replace HN := Lib.hid (HN.out.trans hn)
 clear hn
 obtain ⟨p0, p1, p2⟩ := BA.out.one
 refine hK.out _ _ (fun _ => ?_) ?_
 ·exact p0
 clear hK K
 try simp only [PT]
 refine wpT_one 3 rfl (by kernel_rfl) (fun K hK => ?_)
 go_simp
 refine (pwithin_new line 0 15 _).mono ?_
 rintro e w2 ⟨rfl, hn⟩
 rw [HE2.out]
 clear p0 p1 p2
 replace BA := Lib.hid (BA.out.new hn)
 replace HN := Lib.hid (HN.out.trans hn)
 clear hn
 obtain ⟨p0, p1, p2⟩ := BA.out.one
 refine hK.out _ _ (fun _ => ?_) ?_
 ·exact p0
 clear hK K
 try simp only [PT]
 refine wpT_one 4 rfl (by kernel_rfl) (fun K hK => ?_)
 go_simp
 clear p0 p1 p2
 have HN0 := HN
 clear HN
 have BG := Lib.hid ((Box.alloc w2 (w2.heap.size) 29 #[.int .i64 e1, .int .i64 e2] (by simp)).new (New.refl _))
 have HN := Lib.hid ((New.refl w2).alloc (.cells #[.int .i64 e1, .int .i64 e2] 29))
 replace BA := Lib.hid (BA.out.new HN.out)
 have HN_ := HN0.out.trans HN.out
 clear HN HN0
 have HN := Lib.hid HN_
 clear HN_
 obtain ⟨p0, p1, p2⟩ := BA.out.one
 refine hK.out _ _ (fun _ => ?_) ?_
 ·exact p0
 clear hK K
 try simp only [PT]
 refine wpT_one 5 rfl (by kernel_rfl) (fun K hK => ?_)
 go_simp
 refine (pfirst2_new e1 e2 _ _ 29 _ BG.out).mono ?_
 rintro e w3 ⟨rfl, hn⟩
 rw [HR1.out]
 clear p0 p1 p2
 replace BA := Lib.hid (BA.out.new hn)
 replace HN := Lib.hid (HN.out.trans hn)
 clear hn
 obtain ⟨p0, p1, p2⟩ := BA.out.one
 refine hK.out _ _ (fun _ => ?_) ?_
 ·exact p0
 clear hK K
 try simp only [PT]
 refine wpT_tail rfl (by kernel_rfl) ?_
 simp only [List.drop_succ_cons, List.drop_zero]
 go_wp2_with fail
 go_ret2
 exact ⟨rfl, HN.out⟩
set_option maxRecDepth 100000 in
theorem line_ok (a : Option Addr) (cap : Nat) (xs : List Nat) (n : Nat) (w : World) (hl : xs.length ≤ 4096) (hx : ∀ x ∈ xs, x < 65536) (hn : n ≤ 15) (hr : RdL w a (words xs)) :
  Calls Tryz.prog 30 #[.slice a xs.length cap, .int .i64 (n : Int)] w (RowPost w 4 (bools (xs.map fun x => bitOf x n)) 0) := by
 obtain ⟨l, hxs⟩ : ∃ l, words xs = l := ⟨_, rfl⟩
 have hlen : xs.length = l.length := by rw [← hxs]; simp [words]
 obtain ⟨line, hline⟩ : ∃ z : Int, (n : Int) = z := ⟨_, rfl⟩
 rw [hlen] at hl ⊢
 rw [hline]
 obtain ⟨e1, he1⟩ : ∃ e1, fewErr l.length = e1 := ⟨_, rfl⟩
 obtain ⟨e2, he2⟩ : ∃ e2 : Int, (if outside line 0 15 then 3 else 0) = e2 := ⟨_, rfl⟩
 have hli : (l.length : Int) ≤ 9223372036854775807 := by omega
 have hfew := fun W => few_u16 a l.length cap W (by omega)
 rw [he1] at hfew
 obtain ⟨r, hr1⟩ : ∃ r, (if e1 = 0 then e2 else e1) = r := ⟨_, rfl⟩
 have hout : outside line 0 15 = false := by rw [← hline]; simp only [outside, Bool.or_eq_false_iff, decide_eq_false_iff_not]; omega
 have ht : (r != 0) = false := by
  have hfe : fewErr l.length = 0 := if_neg (by omega)
  rw [← hr1, ← he1, ← he2, hout, hfe]
  rfl
 obtain ⟨ys, hys⟩ : ∃ ys, (xs.map fun x => bitOf x n) = ys := ⟨_, rfl⟩
 have hyl : ys.length = l.length := by rw [← hys, ← hlen]; simp
 have hc : ∀ (p : Nat) (k : Nat) (h : k < l.length) (h' : k < ys.length) (W : World), W.cell? ⟨p, 0, none⟩ = some (.int .i64 line) → Calls Tryz.prog 72 #[l[k], .pointer (some ⟨p, 0, none⟩)] W fun e W' => e = .returned (.bool ys[k]) ∧ New W W' := by
  intro p k h h' W hcell
  have hk : k < xs.length := by omega
  have e1 : l[k] = .int .u16 ((xs[k] : Nat) : Int) := by simp [← hxs, words]
  have e2 : ys[k] = bitOf xs[k] n := by simp [← hys]
  rw [e1, e2]
  exact line1_calls xs[k] n (hx _ (List.getElem_mem hk)) hn p W (by rw [hcell, hline])
 rw [hys]
 rw [hxs] at hr
 have hm := fun (W : World) p (h1 : RdL W a l) (h2 : W.cell? ⟨p, 0, none⟩ = some (.int .i64 line)) => mapped_line a cap l ys ⟨p, 0, none⟩ W hyl hl h1 (fun k h h' W' hn => hc p k h h' W' (hn.cell h2))
 clear hc hys hyl hxs hlen hline hx hn
 have HE1 := Lib.hid he1
 have HE2 := Lib.hid he2
 have HR1 := Lib.hid hr1
 have HFEW := Lib.hid hfew
 have HM := Lib.hid hm
 have HR := Lib.hid hr
 clear he1 he2 hr1 hfew hm hr
 go_enter Tryz.func30, Tryz.ntmps30
 go_wp2_with fail
 have BA := Lib.hid ((Box.alloc w (w.heap.size) 3 #[.int .i64 line] (by simp)).new (New.refl _))
 have HN := Lib.hid ((New.refl w).alloc (.cells #[.int .i64 line] 3))
 obtain ⟨p0, p1, p2⟩ := BA.out.one
 refine wp_region_T 6 (fun W => W.cell? ⟨w.heap.size, 0, none⟩ = some (.int .i64 line)) 7 #[false, false, false, false, false, false, false] rfl (by kernel_rfl) (by kernel_rfl) ?_
 refine wpT_take 0 (v := ?_) rfl (by kernel_rfl) (fun _ _ _ h => h) (by exact p0) (Or.inl ⟨by first | kernel_rfl | rfl, ?_⟩) ?_
 rotate_left
 ·(intro W hW; (try dsimp only at hW); go_simp; try with_reducible rfl)
 try simp only [PT]
 refine wpT_take 2 (v := ?_) rfl (by kernel_rfl) (fun _ _ _ h => h) (by exact p0) (Or.inl ⟨by first | kernel_rfl | rfl, ?_⟩) ?_
 rotate_left
 ·(intro W hW; (try dsimp only at hW); go_simp; try with_reducible rfl)
 try simp only [PT]
 refine wpT_one 1 rfl (by kernel_rfl) (fun K hK => ?_)
 go_simp
 refine (HFEW.out _).mono ?_
 rintro e w1 ⟨rfl, hn⟩
 have hn := hn.undrew
 clear p0 p1 p2
 replace BA := Lib.hid (BA.out.new hn)
 replace HN := Lib.hid (HN.out.trans hn)
 clear hn
 obtain ⟨p0, p1, p2⟩ := BA.out.one
 refine hK.out _ _ (fun _ => ?_) ?_
 ·exact p0
 clear hK K
 try simp only [PT]
 refine wpT_one 3 rfl (by kernel_rfl) (fun K hK => ?_)
 go_simp
 refine (pwithin_new line 0 15 _).mono ?_
 rintro e w2 ⟨rfl, hn⟩
 rw [HE2.out]
 clear p0 p1 p2
 replace BA := Lib.hid (BA.out.new hn)
 replace HN := Lib.hid (HN.out.trans hn)
 clear hn
 obtain ⟨p0, p1, p2⟩ := BA.out.one
 refine hK.out _ _ (fun _ => ?_) ?_
 ·exact p0
 clear hK K
 try simp only [PT]
 refine wpT_one 4 rfl (by kernel_rfl) (fun K hK => ?_)
 go_simp
 clear p0 p1 p2
 have HN0 := HN
 clear HN
 have BG := Lib.hid ((Box.alloc w2 (w2.heap.size) 29 #[.int .i64 e1, .int .i64 e2] (by simp)).new (New.refl _))
 have HN := Lib.hid ((New.refl w2).alloc (.cells #[.int .i64 e1, .int .i64 e2] 29))
 replace BA := Lib.hid (BA.out.new HN.out)
 have HN_ := HN0.out.trans HN.out
 clear HN HN0
 have HN := Lib.hid HN_
 clear HN_
 obtain ⟨p0, p1, p2⟩ := BA.out.one
 refine hK.out _ _ (fun _ => ?_) ?_
 ·exact p0
 clear hK K
 try simp only [PT]
 refine wpT_one 5 rfl (by kernel_rfl) (fun K hK => ?_)
 go_simp
 refine (pfirst2_new e1 e2 _ _ 29 _ BG.out).mono ?_
 rintro e w3 ⟨rfl, hn⟩
 rw [HR1.out]
 clear p0 p1 p2
 replace BA := Lib.hid (BA.out.new hn)
 replace HN := Lib.hid (HN.out.trans hn)
 clear hn
 obtain ⟨p0, p1, p2⟩ := BA.out.one
 refine hK.out _ _ (fun _ => ?_) ?_
 ·exact p0
 clear hK K
 try simp only [PT]
 refine wpT_tail rfl (by kernel_rfl) ?_
 simp only [List.drop_succ_cons, List.drop_zero]
 go_wp2_with fail
 refine (HM.out _ _ (HR.out.new HN.out) p0).mono ?_
 rintro e w4 ⟨v, rfl, hn, ho⟩
 have ho' := World.ownsRow.mono ho HN.out.size
 clear ho
 have HO := Lib.hid ho'
 clear ho'
 replace BA := Lib.hid (BA.out.new hn)
 replace HN := Lib.hid (HN.out.trans hn)
 clear hn
 go_wp2_with fail
 go_ret2
 exact ⟨_, rfl, HN.out, HO.out⟩
end Go.Proofs.YtlfnibjmkfldgaaGreatDoor
namespace Go.Proofs.YtlfnibjmkfldgaaGreatDoor
open Go.RowKit Big
theorem run_arrayAt (w : World) (a : Option Addr) (c : Nat) : Sem.run Tryz.prog (Instr.arrayAt 71 (.slice a 16 c)) w = .ok (.pointer a) w := by
 have h := run_underlying Tryz.underlying71 w
 simp [Instr.arrayAt, go_sem, h]
set_option maxRecDepth 100000 in
set_option maxHeartbeats 2000000 in
theorem block_ok (b off cap : Nat) (f : Nat → Nat) (w : World) (hc : ∀ i, i < 16 → w.cell? ⟨b, off + i, none⟩ = some (.int .u16 (f i : Nat))) :
  Calls Tryz.prog 36 #[.slice (some ⟨b, off, none⟩) 16 cap] w fun e w' => e = .returned (.tuple #[.agg #[.int .u16 (f 0 : Nat), .int .u16 (f 1 : Nat), .int .u16 (f 2 : Nat), .int .u16 (f 3 : Nat), .int .u16 (f 4 : Nat), .int .u16 (f 5 : Nat), .int .u16 (f 6 : Nat), .int .u16 (f 7 : Nat), .int .u16 (f 8 : Nat), .int .u16 (f 9 : Nat), .int .u16 (f 10 : Nat), .int .u16 (f 11 : Nat), .int .u16 (f 12 : Nat), .int .u16 (f 13 : Nat), .int .u16 (f 14 : Nat), .int .u16 (f 15 : Nat)], .int .i64 0]) ∧ New w w' := by
 have hfew := fun W => few_u16 (some ⟨b, off, none⟩) 16 cap W (by omega)
 rw [show fewErr 16 = 0 from rfl] at hfew
 have hat := fun W => run_arrayAt W (some ⟨b, off, none⟩) cap
 have hb : b < w.heap.size := lt_of_cell (hc 0 (by omega))
 have HFEW := Lib.hid hfew
 have HC := Lib.hid hc
 have HB := Lib.hid hb
 clear hfew hc hb
 go_enter Tryz.func36, Tryz.ntmps36
 go_wp2_with fail
 have BP := Lib.hid ((Box.alloc w (w.heap.size) 71 #[.int .u16 0, .int .u16 0, .int .u16 0, .int .u16 0, .int .u16 0, .int .u16 0, .int .u16 0, .int .u16 0, .int .u16 0, .int .u16 0, .int .u16 0, .int .u16 0, .int .u16 0, .int .u16 0, .int .u16 0, .int .u16 0] (by simp)).new (New.refl _))
 have HN := Lib.hid ((New.refl w).alloc (.cells #[.int .u16 0, .int .u16 0, .int .u16 0, .int .u16 0, .int .u16 0, .int .u16 0, .int .u16 0, .int .u16 0, .int .u16 0, .int .u16 0, .int .u16 0, .int .u16 0, .int .u16 0, .int .u16 0, .int .u16 0, .int .u16 0] 71))
 refine (HFEW.out _).mono ?_
 rintro e w1 ⟨rfl, hn⟩
 replace BP := Lib.hid (BP.out.new hn)
 replace HN := Lib.hid (HN.out.trans hn)
 clear hn
 go_wp2_with fail
 refine (pwhen_new false 2 _).mono ?_
 rintro e w2 ⟨rfl, hn⟩
 replace BP := Lib.hid (BP.out.new hn)
 replace HN := Lib.hid (HN.out.trans hn)
 clear hn
 go_wp2_with fail
 have HN0 := HN
 clear HN
 have BG := Lib.hid ((Box.alloc w2 (w2.heap.size) 29 #[.int .i64 0, .int .i64 0] (by simp)).new (New.refl _))
 have HN := Lib.hid ((New.refl w2).alloc (.cells #[.int .i64 0, .int .i64 0] 29))
 replace BP := Lib.hid (BP.out.new HN.out)
 have HN_ := HN0.out.trans HN.out
 clear HN HN0
 have HN := Lib.hid HN_
 clear HN_
 refine (pfirst2_new 0 0 _ _ 29 _ BG.out).mono ?_
 rintro e w3 ⟨rfl, hn⟩
 replace BP := Lib.hid (BP.out.new hn)
 replace HN := Lib.hid (HN.out.trans hn)
 clear hn
 have p0 : w3.cell? ⟨w.heap.size, 0, none⟩ = some (.int .u16 0) := BP.out.cell 0
 have p1 : w3.cell? ⟨w.heap.size, 1, none⟩ = some (.int .u16 0) := BP.out.cell 1
 have p2 : w3.cell? ⟨w.heap.size, 2, none⟩ = some (.int .u16 0) := BP.out.cell 2
 have p3 : w3.cell? ⟨w.heap.size, 3, none⟩ = some (.int .u16 0) := BP.out.cell 3
 have p4 : w3.cell? ⟨w.heap.size, 4, none⟩ = some (.int .u16 0) := BP.out.cell 4
 have p5 : w3.cell? ⟨w.heap.size, 5, none⟩ = some (.int .u16 0) := BP.out.cell 5
 have p6 : w3.cell? ⟨w.heap.size, 6, none⟩ = some (.int .u16 0) := BP.out.cell 6
 have p7 : w3.cell? ⟨w.heap.size, 7, none⟩ = some (.int .u16 0) := BP.out.cell 7
 have p8 : w3.cell? ⟨w.heap.size, 8, none⟩ = some (.int .u16 0) := BP.out.cell 8
 have p9 : w3.cell? ⟨w.heap.size, 9, none⟩ = some (.int .u16 0) := BP.out.cell 9
 have p10 : w3.cell? ⟨w.heap.size, 10, none⟩ = some (.int .u16 0) := BP.out.cell 10
 have p11 : w3.cell? ⟨w.heap.size, 11, none⟩ = some (.int .u16 0) := BP.out.cell 11
 have p12 : w3.cell? ⟨w.heap.size, 12, none⟩ = some (.int .u16 0) := BP.out.cell 12
 have p13 : w3.cell? ⟨w.heap.size, 13, none⟩ = some (.int .u16 0) := BP.out.cell 13
 have p14 : w3.cell? ⟨w.heap.size, 14, none⟩ = some (.int .u16 0) := BP.out.cell 14
 have p15 : w3.cell? ⟨w.heap.size, 15, none⟩ = some (.int .u16 0) := BP.out.cell 15
 have q0 : w3.frozen? ⟨w.heap.size, 0, none⟩ = false := BP.out.frozen 0
 have q1 : w3.frozen? ⟨w.heap.size, 1, none⟩ = false := BP.out.frozen 1
 have q2 : w3.frozen? ⟨w.heap.size, 2, none⟩ = false := BP.out.frozen 2
 have q3 : w3.frozen? ⟨w.heap.size, 3, none⟩ = false := BP.out.frozen 3
 have q4 : w3.frozen? ⟨w.heap.size, 4, none⟩ = false := BP.out.frozen 4
 have q5 : w3.frozen? ⟨w.heap.size, 5, none⟩ = false := BP.out.frozen 5
 have q6 : w3.frozen? ⟨w.heap.size, 6, none⟩ = false := BP.out.frozen 6
 have q7 : w3.frozen? ⟨w.heap.size, 7, none⟩ = false := BP.out.frozen 7
 have q8 : w3.frozen? ⟨w.heap.size, 8, none⟩ = false := BP.out.frozen 8
 have q9 : w3.frozen? ⟨w.heap.size, 9, none⟩ = false := BP.out.frozen 9
 have q10 : w3.frozen? ⟨w.heap.size, 10, none⟩ = false := BP.out.frozen 10
 have q11 : w3.frozen? ⟨w.heap.size, 11, none⟩ = false := BP.out.frozen 11
 have q12 : w3.frozen? ⟨w.heap.size, 12, none⟩ = false := BP.out.frozen 12
 have q13 : w3.frozen? ⟨w.heap.size, 13, none⟩ = false := BP.out.frozen 13
 have q14 : w3.frozen? ⟨w.heap.size, 14, none⟩ = false := BP.out.frozen 14
 have q15 : w3.frozen? ⟨w.heap.size, 15, none⟩ = false := BP.out.frozen 15
 have c0 : w3.cell? ⟨b, off, none⟩ = some (.int .u16 (f 0 : Nat)) := HN.out.cell (HC.out 0 (by omega))
 have c1 : w3.cell? ⟨b, off + 1, none⟩ = some (.int .u16 (f 1 : Nat)) := HN.out.cell (HC.out 1 (by omega))
 have c2 : w3.cell? ⟨b, off + 2, none⟩ = some (.int .u16 (f 2 : Nat)) := HN.out.cell (HC.out 2 (by omega))
 have c3 : w3.cell? ⟨b, off + 3, none⟩ = some (.int .u16 (f 3 : Nat)) := HN.out.cell (HC.out 3 (by omega))
 have c4 : w3.cell? ⟨b, off + 4, none⟩ = some (.int .u16 (f 4 : Nat)) := HN.out.cell (HC.out 4 (by omega))
 have c5 : w3.cell? ⟨b, off + 5, none⟩ = some (.int .u16 (f 5 : Nat)) := HN.out.cell (HC.out 5 (by omega))
 have c6 : w3.cell? ⟨b, off + 6, none⟩ = some (.int .u16 (f 6 : Nat)) := HN.out.cell (HC.out 6 (by omega))
 have c7 : w3.cell? ⟨b, off + 7, none⟩ = some (.int .u16 (f 7 : Nat)) := HN.out.cell (HC.out 7 (by omega))
 have c8 : w3.cell? ⟨b, off + 8, none⟩ = some (.int .u16 (f 8 : Nat)) := HN.out.cell (HC.out 8 (by omega))
 have c9 : w3.cell? ⟨b, off + 9, none⟩ = some (.int .u16 (f 9 : Nat)) := HN.out.cell (HC.out 9 (by omega))
 have c10 : w3.cell? ⟨b, off + 10, none⟩ = some (.int .u16 (f 10 : Nat)) := HN.out.cell (HC.out 10 (by omega))
 have c11 : w3.cell? ⟨b, off + 11, none⟩ = some (.int .u16 (f 11 : Nat)) := HN.out.cell (HC.out 11 (by omega))
 have c12 : w3.cell? ⟨b, off + 12, none⟩ = some (.int .u16 (f 12 : Nat)) := HN.out.cell (HC.out 12 (by omega))
 have c13 : w3.cell? ⟨b, off + 13, none⟩ = some (.int .u16 (f 13 : Nat)) := HN.out.cell (HC.out 13 (by omega))
 have c14 : w3.cell? ⟨b, off + 14, none⟩ = some (.int .u16 (f 14 : Nat)) := HN.out.cell (HC.out 14 (by omega))
 have c15 : w3.cell? ⟨b, off + 15, none⟩ = some (.int .u16 (f 15 : Nat)) := HN.out.cell (HC.out 15 (by omega))
 have l0 := BP.out.lt
 have hne : b ≠ w.heap.size := by have := HB.out; omega
 go_wp2_with fail
 refine bodyPost_ret (v := .tuple #[.agg #[.int .u16 (f 0 : Nat), .int .u16 (f 1 : Nat), .int .u16 (f 2 : Nat), .int .u16 (f 3 : Nat), .int .u16 (f 4 : Nat), .int .u16 (f 5 : Nat), .int .u16 (f 6 : Nat), .int .u16 (f 7 : Nat), .int .u16 (f 8 : Nat), .int .u16 (f 9 : Nat), .int .u16 (f 10 : Nat), .int .u16 (f 11 : Nat), .int .u16 (f 12 : Nat), .int .u16 (f 13 : Nat), .int .u16 (f 14 : Nat), .int .u16 (f 15 : Nat)], .int .i64 0]) (by simp [results, Tryz.results36, go_sem, p0, p1, p2, p3, p4, p5, p6, p7, p8, p9, p10, p11, p12, p13, p14, p15]) rfl ?_
 refine ⟨rfl, ?_⟩
 have hN := HN.out
 repeat (with_reducible refine New.setCell ?_ (Nat.le_refl _) _)
 exact hN
end Go.Proofs.YtlfnibjmkfldgaaGreatDoor
namespace Go.Proofs.YtlfnibjmkfldgaaGreatDoor
open Go.RowKit Big
theorem grown_newS' {w wr w1 : World} {v : Value} {e : TypeId} {S : Nat} {n : Nat} {xs : List Value} (hn : New w wr) (h : wr.ownsRow w.heap.size e S v n xs) (hg : wr.grownBy w1 v.ownBlock) : New w w1 := by
 obtain ⟨a1, a2, a3, a4, a5⟩ := hn
 refine ⟨hg.os.trans a1, ?_, ?_, Nat.le_trans a4 hg.size, fun j hj => ?_⟩
 ·first | exact hg.tape.trans a2 | exact hg.output.trans a2
 ·first | exact hg.output.trans a3 | exact hg.tape.trans a3
 ·exact (hg.block j (Nat.lt_of_lt_of_le hj a4) (own_neS h hj)).trans (a5 j hj)
theorem info_bsl : (Tryz.prog.info? 26).map (fun i => (i.zero, i.size, i.bytes)) = some (some (.slice none 0 0), 1, 24) := by kernel_rfl
end Go.Proofs.YtlfnibjmkfldgaaGreatDoor
namespace Go.Proofs.YtlfnibjmkfldgaaGreatDoor
open Go.RowKit Big Go.Shelf
attribute [local go_sem] Oper.semAt_some
theorem otherAt_bad {m : Nat} : ∀ (l : List (List Bool)) (k : Nat), (∃ x ∈ l, x.length ≠ m) → 0 ≤ otherAt m k l := by
 intro l
 induction l with
 | nil => intro k h; obtain ⟨x, hx, _⟩ := h; cases hx
 | cons x l ih =>
  intro k h
  show 0 ≤ (if x.length = m then otherAt m (k + 1) l else (k : Int))
  by_cases hx : x.length = m
  ·rw [if_pos hx]
   refine ih _ ?_
   obtain ⟨y, hy, hne⟩ := h
   rcases List.mem_cons.1 hy with rfl | hy
   ·exact absurd hx hne
   ·exact ⟨y, hy, hne⟩
  ·rw [if_neg hx]; omega
end Go.Proofs.YtlfnibjmkfldgaaGreatDoor
namespace Go.Proofs.YtlfnibjmkfldgaaGreatDoor
open Go.RowKit Big
set_option maxRecDepth 100000 in
theorem same_bools (a b : Option Addr) (cap cap' : Nat) (xs ys : List Bool) (w : World) (hl : xs.length ≤ 1000000) (hlen : ys.length = xs.length) (hr1 : RdL w a (bools xs)) (hr2 : RdL w b (bools ys)) (hs : ∀ (k : Nat) (h : k < xs.length) (h' : k < ys.length), (fun x y : Bool => !(x == y)) xs[k] ys[k] = false) :
  Calls Tryz.prog 22 #[.slice a xs.length cap, .slice b ys.length cap'] w fun e w' => e = .returned (.bool true) ∧ New w w' := by
 obtain ⟨n, hn⟩ : ∃ n, xs.length = n := ⟨_, rfl⟩
 rw [hlen]
 rw [hn] at hl hlen ⊢
 have hni : (n : Int) ≤ 1000000 := by omega
 have hnn : ((n : Int) != (n : Int)) = false := by simp
 have HR1 := Lib.hid hr1
 have HR2 := Lib.hid hr2
 have HS := Lib.hid hs
 have HN0 := Lib.hid hn
 have HLEN := Lib.hid hlen
 clear hr1 hr2 hs hn hlen
 go_enter Tryz.func22, Tryz.ntmps22
 go_wp2_with fail
 go_loopw [5] (fun i wr => ∃ (k : Nat), k ≤ n ∧ i = .int .i64 (k : Int) ∧ Hid (New w wr)) (fun i _ => n - (intOf i).toNat)
 case atStart => exact ⟨0, Nat.zero_le _, rfl, Lib.hid (New.refl _)⟩
 case round =>
  obtain ⟨k, hk, rfl, HN⟩ := hrel
  by_cases hlt : k < n
  ·have h1 : k < xs.length := by rw [HN0.out]; exact hlt
   have h2 : k < ys.length := by rw [HLEN.out]; exact hlt
   obtain ⟨b1, off1, rfl, hc1⟩ := HR1.out.bool k h1
   obtain ⟨b2, off2, rfl, hc2⟩ := HR2.out.bool k h2
   have hsame := HS.out k h1 h2
   obtain ⟨x, hx⟩ : ∃ x, xs[k] = x := ⟨_, rfl⟩
   obtain ⟨y, hy⟩ : ∃ y, ys[k] = y := ⟨_, rfl⟩
   rw [hx] at hc1
   rw [hy] at hc2
   rw [hx, hy] at hsame
   replace hc1 := HN.out.cell hc1
   replace hc2 := HN.out.cell hc2
   have HX := Lib.hid hx
   have HY := Lib.hid hy
   clear hx hy
   go_wp2_with fail
   go_quiet (fail)
   go_wp2_with fail
   go_roundw
   case rel => exact ⟨k + 1, by omega, by go_num, Lib.hid (HN.out.drewN nq)⟩
   case measure => simp [intOf]; omega
  ·have hkk : k = n := by omega
   have HKK := Lib.hid hkk
   clear hkk
   go_wp2_with fail
   go_ret
   exact ⟨rfl, HN.out⟩
section
variable {P : Program}
end
end Go.Proofs.YtlfnibjmkfldgaaGreatDoor
