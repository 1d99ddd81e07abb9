/- Part A10. -/
import Derived.Test.YtlfnibjmkfldgaaGreatDoorA09
namespace Go.Proofs.YtlfnibjmkfldgaaGreatDoor
open Go.RowKit Big
def IsFrac (w : World) (v : Value) (q : Rat) : Prop := ∃ (s : Int) (a : Option Addr) (l c : Nat) (s' : Int) (a' : Option Addr) (l' c' : Nat),
 v = .agg #[.int .i64 s, .slice a l c, .int .i64 s', .slice a' l' c'] ∧ IsInt w (.agg #[.int .i64 s, .slice a l c]) q.num ∧ IsInt w (.agg #[.int .i64 s', .slice a' l' c']) (q.den : Int)
theorem IsFrac.new {w w' : World} {v : Value} {q : Rat} (h : IsFrac w v q) (hn : New w w') : IsFrac w' v q := by
 obtain ⟨s, a, l, c, s', a', l', c', h1, h2, h3⟩ := h
 exact ⟨s, a, l, c, s', a', l', c', h1, h2.new hn, h3.new hn⟩
theorem IsFrac.shape {w : World} {v : Value} {q : Rat} (h : IsFrac w v q) : ∃ (s : Int) (a : Option Addr) (l c : Nat) (s' : Int) (a' : Option Addr) (l' c' : Nat), v = .agg #[.int .i64 s, .slice a l c, .int .i64 s', .slice a' l' c'] := by
 obtain ⟨s, a, l, c, s', a', l', c', h1, -, -⟩ := h
 exact ⟨s, a, l, c, s', a', l', c', h1⟩
theorem IsFrac.parts {w : World} {q : Rat} {s : Int} {a : Option Addr} {l c : Nat} {s' : Int} {a' : Option Addr} {l' c' : Nat} (h : IsFrac w (.agg #[.int .i64 s, .slice a l c, .int .i64 s', .slice a' l' c']) q) :
  IsInt w (.agg #[.int .i64 s, .slice a l c]) q.num ∧ IsInt w (.agg #[.int .i64 s', .slice a' l' c']) (q.den : Int) := by
 obtain ⟨t, b, m, d, t', b', m', d', h1, h2, h3⟩ := h
 injection h1 with h1
 simp at h1
 obtain ⟨⟨rfl, rfl⟩, ⟨rfl, rfl, rfl⟩, ⟨rfl, rfl⟩, rfl, rfl, rfl⟩ := h1
 exact ⟨h2, h3⟩
theorem IsFrac.put4 {w : World} {v : Value} {q : Rat} (h : IsFrac w v q) {B : Nat} {t : TypeId} {s s' : Int} {a a' : Option Addr} {l c l' c' : Nat} (hb : Box w B t #[.int .i64 s, .slice a l c, .int .i64 s', .slice a' l' c']) (n n' : Int) (b b' : Option Addr) (m k m' k' : Nat) :
  IsFrac ((((w.setCell ⟨B, 0, none⟩ (.int .i64 n)).setCell ⟨B, 1, none⟩ (.slice b m k)).setCell ⟨B, 2, none⟩ (.int .i64 n')).setCell ⟨B, 3, none⟩ (.slice b' m' k')) v q := by
 obtain ⟨s, a, l, c, s', a', l', c', h1, h2, h3⟩ := h
 exact ⟨s, a, l, c, s', a', l', c', h1, h2.put4 hb _ _ _ _ _ _ _ _, h3.put4 hb _ _ _ _ _ _ _ _⟩
def FracPost (w : World) (q : Rat) (e : Ending) (w' : World) : Prop := ∃ v : Value, e = .returned v ∧ New w w' ∧ IsFrac w' v q
theorem frac_ret {w w6 : World} {q : Rat} {B : Nat} {t : TypeId} {s s' : Int} {a a' : Option Addr} {l c l' c' : Nat} {n n' : Int} {b b' : Option Addr} {m k m' k' : Nat} (hN : New w w6) (bp : Box w6 B t #[.int .i64 s, .slice a l c, .int .i64 s', .slice a' l' c']) (hB : w.heap.size ≤ B)
  (h1 : IsInt w6 (.agg #[.int .i64 n, .slice b m k]) q.num) (h2 : IsInt w6 (.agg #[.int .i64 n', .slice b' m' k']) (q.den : Int)) :
  FracPost w q (.returned (.agg #[.int .i64 n, .slice b m k, .int .i64 n', .slice b' m' k'])) ((((w6.setCell ⟨B, 0, none⟩ (.int .i64 n)).setCell ⟨B, 1, none⟩ (.slice b m k)).setCell ⟨B, 2, none⟩ (.int .i64 n')).setCell ⟨B, 3, none⟩ (.slice b' m' k')) :=
 ⟨_, rfl, hN.put4 hB _ _ _ _, _, _, _, _, _, _, _, _, rfl, h1.put4 bp _ _ _ _ _ _ _ _, h2.put4 bp _ _ _ _ _ _ _ _⟩
theorem FracPost.alloc {w w' : World} {q : Rat} {e : Ending} (h : FracPost w q e w') (o : Obj) : FracPost w q e (w'.alloc o) := by
 obtain ⟨v, h1, h2, h3⟩ := h
 exact ⟨v, h1, h2.alloc _, h3.new ((New.refl _).alloc _)⟩
theorem IsInt.one (w : World) : IsInt w (.agg #[.int .i64 1, .slice none 0 0]) ((1 : Nat) : Int) := .small rfl (by omega) (by omega)
set_option maxRecDepth 100000 in
theorem whole_calls (va : Value) (x : Int) (w : World) (hx : IsInt w va x) : Calls Tryz.prog 118 #[va] w (FracPost w (x : Rat)) := by
 obtain ⟨sa, aa, la, ca, rfl⟩ := hx.shape
 obtain ⟨q, hq⟩ : ∃ q, (x : Rat) = q := ⟨_, rfl⟩
 rw [hq]
 have HX := Lib.hid hx
 have HQ := Lib.hid hq
 clear hx hq
 go_enter Tryz.func118, Tryz.ntmps118
 go_wp2_with fail
 have BA := Lib.hid ((Box.alloc w (w.heap.size) 138 #[.int .i64 sa, .slice aa la ca] (by simp)).new ((New.refl _).alloc (.cells #[.int .i64 0, .slice none 0 0, .int .i64 0, .slice none 0 0] 140)))
 have BP := Lib.hid ((Box.alloc (w.alloc (.cells #[.int .i64 sa, .slice aa la ca] 138)) (w.heap.size + 1) 140 #[.int .i64 0, .slice none 0 0, .int .i64 0, .slice none 0 0] (by simp)).new (New.refl _))
 have HN := Lib.hid (((New.refl w).alloc (.cells #[.int .i64 sa, .slice aa la ca] 138)).alloc (.cells #[.int .i64 0, .slice none 0 0, .int .i64 0, .slice none 0 0] 140))
 obtain ⟨a0, a1, a2, a3, a4⟩ := BA.out.two
 refine wp_region_T 3 (fun W => W.cell? ⟨w.heap.size, 0, none⟩ = some (.int .i64 sa) ∧ W.cell? ⟨w.heap.size, 1, none⟩ = some (.slice aa la ca)) 4 #[false, false, false, false] rfl (by kernel_rfl) (by kernel_rfl) ?_
 refine wpT_take 0 (v := ?_) rfl (by kernel_rfl) (fun _ _ _ h => h) (by exact ⟨a0, a1⟩) (Or.inl ⟨by first | kernel_rfl | rfl, ?_⟩) ?_
 rotate_left
 ·(intro W hW; (try dsimp only at hW); go_simp; try with_reducible rfl)
 try simp only [PT]
 refine wpT_one 1 rfl (by kernel_rfl) (fun K hK => ?_)
 go_simp
 refine (of_calls 1 _).mono ?_
 rintro e w1 ⟨rfl, hn⟩
 have hn := hn.undrew
 clear a0 a1 a2 a3 a4
 replace BA := Lib.hid (BA.out.new hn)
 replace BP := Lib.hid (BP.out.new hn)
 replace HN := Lib.hid (HN.out.trans hn)
 clear hn
 obtain ⟨a0, a1, a2, a3, a4⟩ := BA.out.two
 refine hK.out _ _ (fun _ => ?_) ?_
 ·exact ⟨a0, a1⟩
 clear hK K
 try simp only [PT]
 refine wpT_take 2 (v := ?_) rfl (by kernel_rfl) (fun _ _ _ h => h) (by exact ⟨a0, a1⟩) (Or.inl ⟨by first | kernel_rfl | rfl, ?_⟩) ?_
 rotate_left
 ·(intro W hW; (try dsimp only at hW); go_simp; try with_reducible rfl)
 try simp only [PT]
 refine wpT_tail rfl (by kernel_rfl) ?_
 simp only [List.drop_succ_cons, List.drop_zero]
 obtain ⟨⟨p0, p1, p2, p3⟩, p4, p5, p6, p7, p8⟩ := BP.out.four
 go_wp2_with fail
 refine bodyPost_ret (v := .agg #[.int .i64 sa, .slice aa la ca, .int .i64 1, .slice none 0 0]) (by simp [results, Tryz.results118, go_sem, p0, p1, p2, p3]) rfl ?_
 exact frac_ret HN.out BP.out (by omega) (by rw [← HQ.out, Rat.num_intCast]; exact HX.out.new HN.out) (by rw [← HQ.out, Rat.den_intCast]; exact IsInt.one _)
set_option maxRecDepth 100000 in
theorem f_calls (x : Int) (w : World) (lo : -9223372036854775808 ≤ x) (hi : x ≤ 9223372036854775807) : Calls Tryz.prog 108 #[.int .i64 x] w (FracPost w (x : Rat)) := by
 obtain ⟨q, hq⟩ : ∃ q, (x : Rat) = q := ⟨_, rfl⟩
 rw [hq]
 have hs : ∀ W, IsInt W (.agg #[.int .i64 x, .slice none 0 0]) x := fun W => .small rfl lo hi
 have HS := Lib.hid hs
 have HQ := Lib.hid hq
 clear hs hq
 go_enter Tryz.func108, Tryz.ntmps108
 go_wp2_with fail
 have BP := Lib.hid ((Box.alloc w (w.heap.size) 140 #[.int .i64 0, .slice none 0 0, .int .i64 0, .slice none 0 0] (by simp)).new (New.refl _))
 have HN := Lib.hid ((New.refl w).alloc (.cells #[.int .i64 0, .slice none 0 0, .int .i64 0, .slice none 0 0] 140))
 refine (of_calls x _).mono ?_
 rintro e w1 ⟨rfl, hn⟩
 replace BP := Lib.hid (BP.out.new hn)
 replace HN := Lib.hid (HN.out.trans hn)
 clear hn
 go_wp2_with fail
 refine (whole_calls _ x _ (HS.out _)).mono ?_
 rintro e w2 ⟨v, rfl, hn, hf⟩
 rw [HQ.out] at hf
 obtain ⟨s, a, l, c, s', a', l', c', rfl⟩ := hf.shape
 have HF := Lib.hid hf
 clear hf
 replace BP := Lib.hid (BP.out.new hn)
 replace HN := Lib.hid (HN.out.trans hn)
 clear hn
 obtain ⟨⟨p0, p1, p2, p3⟩, p4, p5, p6, p7, p8⟩ := BP.out.four
 go_wp2_with fail
 refine bodyPost_ret (v := .agg #[.int .i64 s, .slice a l c, .int .i64 s', .slice a' l' c']) (by simp [results, Tryz.results108, go_sem, p0, p1, p2, p3]) rfl ?_
 exact frac_ret HN.out BP.out (by omega) HF.out.parts.1 HF.out.parts.2
end Go.Proofs.YtlfnibjmkfldgaaGreatDoor
namespace Go.Proofs.YtlfnibjmkfldgaaGreatDoor
open Go.RowKit Big
theorem IsInt.none_or {w : World} {s : Int} {a : Option Addr} {l c : Nat} {z : Int} (h : IsInt w (.agg #[.int .i64 s, .slice a l c]) z) : (a.isNone = true ∧ s = z) ∨ (a.isNone = false ∧ z ≠ 1) := by
 rcases h with ⟨h, lo, hi⟩ | ⟨b, off, n, cap, f, s, h, hs, hw, h0, hv, hz⟩
 ·injection h with h; simp at h
  obtain ⟨rfl, rfl, rfl, rfl⟩ := h
  exact .inl ⟨rfl, rfl⟩
 ·injection h with h; simp at h
  obtain ⟨rfl, rfl, rfl, rfl⟩ := h
  refine .inr ⟨rfl, ?_⟩
  rcases hs with rfl | rfl <;> omega
set_option maxRecDepth 100000 in
theorem isWhole_calls (va : Value) (q : Rat) (w : World) (hx : IsFrac w va q) : Calls Tryz.prog 128 #[va] w fun e w' => e = .returned (.bool (decide (q.den = 1))) ∧ New w w' := by
 have q1 := eql_nil
 obtain ⟨s, a, l, c, s', a', l', c', rfl, h1, h2⟩ := hx
 rcases h2.none_or with ⟨hn, rfl⟩ | ⟨hn, hz⟩
 ·clear h1 h2
  by_cases h1 : q.den = 1
  ·have hd : ((q.den : Int) == 1) = true := by simp [h1]
   rw [decide_eq_true h1]
   have H1 := Lib.hid h1
   clear h1
   go_enter Tryz.func128, Tryz.ntmps128
   go_wp2_with fail
   go_ret
   exact ⟨rfl, (New.refl w).alloc _⟩
  ·have hd : ((q.den : Int) == 1) = false := by simp; omega
   rw [decide_eq_false h1]
   have H1 := Lib.hid h1
   clear h1
   go_enter Tryz.func128, Tryz.ntmps128
   go_wp2_with fail
   go_ret
   exact ⟨rfl, (New.refl w).alloc _⟩
 ·rw [decide_eq_false (fun h => hz (by rw [h]; rfl))]
  clear h1 h2 hz
  go_enter Tryz.func128, Tryz.ntmps128
  go_wp2_with fail
  go_ret
  exact ⟨rfl, (New.refl w).alloc _⟩
set_option maxRecDepth 100000 in
theorem fsign_calls (va : Value) (q : Rat) (w : World) (hx : IsFrac w va q) : Calls Tryz.prog 93 #[va] w fun e w' => e = .returned (.int .i64 q.num.sign) ∧ New w w' := by
 obtain ⟨s, a, l, c, s', a', l', c', rfl, h1, h2⟩ := hx
 have H1 := Lib.hid h1
 have H2 := Lib.hid h2
 clear h1 h2
 go_enter Tryz.func93, Tryz.ntmps93
 go_wp2_with fail
 have BA := Lib.hid ((Box.alloc w (w.heap.size) 140 #[.int .i64 s, .slice a l c, .int .i64 s', .slice a' l' c'] (by simp)).new (New.refl _))
 have HN := Lib.hid ((New.refl w).alloc (.cells #[.int .i64 s, .slice a l c, .int .i64 s', .slice a' l' c'] 140))
 refine (sign_calls _ q.num _ (H1.out.new HN.out)).mono ?_
 rintro e w1 ⟨rfl, hn⟩
 replace HN := Lib.hid (HN.out.trans hn)
 clear hn
 go_wp2_with fail
 go_ret
 exact ⟨rfl, HN.out⟩
set_option maxRecDepth 100000 in
theorem fneg_calls (va : Value) (q : Rat) (w : World) (hx : IsFrac w va q) : Calls Tryz.prog 123 #[va] w (FracPost w (-q)) := by
 obtain ⟨s, a, l, c, s', a', l', c', rfl, h1, h2⟩ := hx
 obtain ⟨r, hr⟩ : ∃ r, -q = r := ⟨_, rfl⟩
 rw [hr]
 have H1 := Lib.hid h1
 have H2 := Lib.hid h2
 have HR := Lib.hid hr
 clear h1 h2 hr
 go_enter Tryz.func123, Tryz.ntmps123
 go_wp2_with fail
 have BA := Lib.hid ((Box.alloc w (w.heap.size) 140 #[.int .i64 s, .slice a l c, .int .i64 s', .slice a' l' c'] (by simp)).new ((New.refl _).alloc (.cells #[.int .i64 0, .slice none 0 0, .int .i64 0, .slice none 0 0] 140)))
 have BP := Lib.hid ((Box.alloc (w.alloc (.cells #[.int .i64 s, .slice a l c, .int .i64 s', .slice a' l' c'] 140)) (w.heap.size + 1) 140 #[.int .i64 0, .slice none 0 0, .int .i64 0, .slice none 0 0] (by simp)).new (New.refl _))
 have HN := Lib.hid (((New.refl w).alloc (.cells #[.int .i64 s, .slice a l c, .int .i64 s', .slice a' l' c'] 140)).alloc (.cells #[.int .i64 0, .slice none 0 0, .int .i64 0, .slice none 0 0] 140))
 obtain ⟨⟨b0, b1, b2, b3⟩, b4, b5, b6, b7, b8⟩ := BA.out.four
 refine wp_region_T 6 (fun W => W.cell? ⟨w.heap.size, 0, none⟩ = some (.int .i64 s) ∧ W.cell? ⟨w.heap.size, 1, none⟩ = some (.slice a l c) ∧ W.cell? ⟨w.heap.size, 2, none⟩ = some (.int .i64 s') ∧ W.cell? ⟨w.heap.size, 3, none⟩ = some (.slice a' l' c')) 7 #[false, false, false, false, false, false, false] rfl (by kernel_rfl) (by kernel_rfl) ?_
 refine wpT_take 0 (v := ?_) rfl (by kernel_rfl) (fun _ _ _ h => h) (by exact ⟨b0, b1, b2, b3⟩) (Or.inl ⟨by first | kernel_rfl | rfl, ?_⟩) ?_
 rotate_left
 ·(intro W hW; (try dsimp only at hW); go_simp; try with_reducible rfl)
 try simp only [PT]
 refine wpT_take 1 (v := ?_) rfl (by kernel_rfl) (fun _ _ _ h => h) (by exact ⟨b0, b1, b2, b3⟩) (Or.inl ⟨by first | kernel_rfl | rfl, ?_⟩) ?_
 rotate_left
 ·(intro W hW; (try dsimp only at hW); go_simp; try with_reducible rfl)
 try simp only [PT]
 refine wpT_take 3 (v := ?_) rfl (by kernel_rfl) (fun _ _ _ h => h) (by exact ⟨b0, b1, b2, b3⟩) (Or.inl ⟨by first | kernel_rfl | rfl, ?_⟩) ?_
 rotate_left
 ·(intro W hW; (try dsimp only at hW); go_simp; try with_reducible rfl)
 try simp only [PT]
 refine wpT_take 4 (v := ?_) rfl (by kernel_rfl) (fun _ _ _ h => h) (by exact ⟨b0, b1, b2, b3⟩) (Or.inl ⟨by first | kernel_rfl | rfl, ?_⟩) ?_
 rotate_left
 ·(intro W hW; (try dsimp only at hW); go_simp; try with_reducible rfl)
 try simp only [PT]
 refine wpT_one 2 rfl (by kernel_rfl) (fun K hK => ?_)
 go_simp
 refine (neg_calls _ q.num _ (H1.out.new HN.out.drew)).mono ?_
 rintro e w1 ⟨v, rfl, hn, hi⟩
 have hn := hn.undrew
 obtain ⟨s5, a5, l5, c5, rfl⟩ := hi.shape
 have HI := Lib.hid hi
 clear hi
 clear b0 b1 b2 b3 b4 b5 b6 b7 b8
 replace BA := Lib.hid (BA.out.new hn)
 replace BP := Lib.hid (BP.out.new hn)
 replace HN := Lib.hid (HN.out.trans hn)
 clear hn
 obtain ⟨⟨b0, b1, b2, b3⟩, b4, b5, b6, b7, b8⟩ := BA.out.four
 refine hK.out _ _ (fun _ => ?_) ?_
 ·exact ⟨b0, b1, b2, b3⟩
 clear hK K
 try simp only [PT]
 refine wpT_take 5 (v := ?_) rfl (by kernel_rfl) (fun _ _ _ h => h) (by exact ⟨b0, b1, b2, b3⟩) (Or.inl ⟨by first | kernel_rfl | rfl, ?_⟩) ?_
 rotate_left
 ·(intro W hW; (try dsimp only at hW); go_simp; try with_reducible rfl)
 try simp only [PT]
 refine wpT_tail rfl (by kernel_rfl) ?_
 simp only [List.drop_succ_cons, List.drop_zero]
 obtain ⟨⟨p0, p1, p2, p3⟩, p4, p5, p6, p7, p8⟩ := BP.out.four
 go_wp2_with fail
 refine bodyPost_ret (v := .agg #[.int .i64 s5, .slice a5 l5 c5, .int .i64 s', .slice a' l' c']) (by simp [results, Tryz.results123, go_sem, p0, p1, p2, p3]) rfl ?_
 exact frac_ret HN.out BP.out (by omega) (by rw [← HR.out, Rat.neg_num]; exact HI.out) (by rw [← HR.out]; exact H2.out.new HN.out)
end Go.Proofs.YtlfnibjmkfldgaaGreatDoor
