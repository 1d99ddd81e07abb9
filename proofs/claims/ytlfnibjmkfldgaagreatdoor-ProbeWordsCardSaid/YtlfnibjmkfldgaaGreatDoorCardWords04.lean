/- Part CardWords04. -/
import Derived.Laws.AppendOwnNone
import Derived.Test.YtlfnibjmkfldgaaGreatDoorA29
import Derived.Test.YtlfnibjmkfldgaaGreatDoorA31
import Derived.Test.YtlfnibjmkfldgaaGreatDoorA32
import Derived.Test.YtlfnibjmkfldgaaGreatDoorCardWords01
import Derived.Test.YtlfnibjmkfldgaaGreatDoorCardWords02
import Derived.Test.YtlfnibjmkfldgaaGreatDoorCardWords03
namespace Go.Proofs.YtlfnibjmkfldgaaGreatDoor
open Go.RowKit Big
theorem lines_first {ls : List (List Bool)} {N : Nat} (hN : ls.length = N) {e1 e2 r1 : Int} {b1 b2 : Bool} (hb1 : ((N : Int) == 0) = b1) (hb2 : decide ((16 : Int) < (N : Int)) = b2)
  (he1 : (if b1 then 12 else 0) = e1) (he2 : (if b2 then 5 else 0) = e2) (hr1 : (if e1 = 0 then e2 else e1) = r1) : (r1 ≠ 0 → linesErr ls = r1) ∧ (r1 = 0 → 1 ≤ N ∧ N ≤ 16) := by
 by_cases h0 : N = 0
 ·subst h0
  obtain rfl : ls = [] := List.eq_nil_of_length_eq_zero hN
  have : b1 = true := by rw [← hb1]; rfl
  subst this
  simp at he1
  subst he1
  simp at hr1
  subst hr1
  exact ⟨fun _ => rfl, fun h => by omega⟩
 ·have hb : b1 = false := by rw [← hb1, beq_eq_false_iff_ne]; omega
  subst hb
  simp at he1
  subst he1
  simp at hr1
  subst hr1
  have hc := linesErr_cons (ls := ls) (by omega)
  by_cases h16 : 16 < N
  ·have hb : b2 = true := by rw [← hb2, decide_eq_true_eq]; omega
   subst hb
   simp at he2
   subst he2
   exact ⟨fun _ => by rw [hc, if_pos (.inl (by omega))], fun h => by omega⟩
  ·have hb : b2 = false := by rw [← hb2, decide_eq_false_iff_not]; omega
   subst hb
   simp at he2
   subst he2
   exact ⟨fun h => absurd rfl h, fun _ => by omega⟩
theorem lines_second {ls : List (List Bool)} {N m : Nat} (hN : ls.length = N) (h1 : 1 ≤ N) (h16 : N ≤ 16) (hm : (ls[0]'(by omega)).length = m) {e3 e4 r2 : Int} {b3 b4 : Bool} (hb3 : decide ((4096 : Int) < (m : Int)) = b3) (hb4 : decide (0 ≤ otherAt m 0 ls) = b4)
  (he3 : (if b3 then 5 else 0) = e3) (he4 : (if b4 then 2 else 0) = e4) (hr2 : (if e3 = 0 then e4 else e3) = r2) : linesErr ls = r2 := by
 rw [linesErr_cons (by omega), hm]
 by_cases h4 : 4096 < m
 ·have hb : b3 = true := by rw [← hb3, decide_eq_true_eq]; omega
  subst hb
  simp at he3
  subst he3
  simp at hr2
  subst hr2
  rw [if_pos (.inr h4)]
 ·have hb : b3 = false := by rw [← hb3, decide_eq_false_iff_not]; omega
  subst hb
  simp at he3
  subst he3
  simp at hr2
  subst hr2
  rw [if_neg (by omega)]
  by_cases ha : ∀ x ∈ ls, x.length = m
  ·have hb : b4 = false := by rw [← hb4, otherAt_ok ls 0 ha]; rfl
   subst hb
   simp at he4
   rw [if_pos (by simpa using ha)]
   exact he4
  ·have hx : ∃ x ∈ ls, x.length ≠ m := by
    simpa using ha
   have hb : b4 = true := by rw [← hb4, decide_eq_true_eq]; exact otherAt_bad ls 0 hx
   subst hb
   simp at he4
   rw [if_neg (by simpa using ha)]
   exact he4
set_option maxRecDepth 100000 in
set_option maxHeartbeats 2000000 in
theorem words_bad (a : Option Addr) (cap N : Nat) (rv : List Value) (ls : List (List Bool)) (w : World) (hr : RdLL w a rv (ls.map bools)) (hN : ls.length = N) (hl : N ≤ 1000000) (ha : 0 < N → ∃ L, a = some ⟨L, 0, none⟩) (h0 : linesErr ls ≠ 0) :
  Calls Tryz.prog 28 #[.slice a N cap] w fun e w' => e = .returned (.tuple #[.slice none 0 0, .int .i64 (linesErr ls)]) ∧ New w w' := by
 obtain ⟨r, hres⟩ : ∃ r, linesErr ls = r := ⟨_, rfl⟩
 rw [hres] at h0 ⊢
 obtain ⟨b1, hb1⟩ : ∃ b, ((N : Int) == 0) = b := ⟨_, rfl⟩
 obtain ⟨b2, hb2⟩ : ∃ b, decide ((16 : Int) < (N : Int)) = b := ⟨_, rfl⟩
 obtain ⟨e1, he1⟩ : ∃ e : Int, (if b1 then 12 else 0) = e := ⟨_, rfl⟩
 obtain ⟨e2, he2⟩ : ∃ e : Int, (if b2 then 5 else 0) = e := ⟨_, rfl⟩
 obtain ⟨r1, hr1⟩ : ∃ r : Int, (if e1 = 0 then e2 else e1) = r := ⟨_, rfl⟩
 obtain ⟨f1, f2⟩ := lines_first hN hb1 hb2 he1 he2 hr1
 have f1 : r1 ≠ 0 → r = r1 := fun h => hres.symm.trans (f1 h)
 have hsec : r1 = 0 → ∃ (L m : Nat) (a0 : Option Addr) (c0 : Nat), a = some ⟨L, 0, none⟩ ∧ (0 : Int) < (N : Int) ∧ w.cell? ⟨L, 0, none⟩ = some (.slice a0 m c0) ∧
   (∀ (W : World) (B : Nat), New w W → W.cell? ⟨B, 0, none⟩ = some (.slice (some ⟨L, 0, none⟩) N cap) → Calls Tryz.prog 67 #[.slice (some ⟨L, 0, none⟩) N cap, .func (.func 68) #[] #[.pointer (some ⟨B, 0, none⟩)]] W fun e w' => e = .returned (.bool (decide (0 ≤ otherAt m 0 ls))) ∧ New W w') ∧
   (∀ (e3 e4 r2 : Int) (b3 b4 : Bool), decide ((4096 : Int) < (m : Int)) = b3 → decide (0 ≤ otherAt m 0 ls) = b4 → (if b3 then 5 else 0) = e3 → (if b4 then 2 else 0) = e4 → (if e3 = 0 then e4 else e3) = r2 → r = r2) := by
  intro h
  obtain ⟨h1, h16⟩ := f2 h
  obtain ⟨L, rfl⟩ := ha h1
  have hpos : 0 < ls.length := by omega
  obtain ⟨b0, off0, a0, c0, hab0, hcell0, -, -⟩ := hr.at 0 (by simpa using hpos)
  injection hab0 with hab0
  injection hab0 with hab0 hab0'
  subst hab0 hab0'
  have hl0 : ((ls.map bools)[0]'(by simpa using hpos)).length = ls[0].length := by simp [bools]
  rw [hl0, Nat.add_zero] at hcell0
  refine ⟨L, ls[0].length, a0, c0, rfl, by omega, hcell0, fun W B hn hb => ?_, fun e3 e4 r2 b3 b4 g1 g2 g3 g4 g5 => ?_⟩
  ·have := contains_lines L cap ls[0].length rv ls B W (hr.new hn) (by omega) hpos rfl (by rw [hN]; exact hb)
   rw [hN] at this
   exact this
  ·exact hres.symm.trans (lines_second hN h1 h16 rfl g1 g2 g3 g4 g5)
 clear f2 hr ha hres hN hl
 have htr : (r != 0) = true := by simpa using h0
 have HE1 := Lib.hid he1
 have HE2 := Lib.hid he2
 have HR1 := Lib.hid hr1
 have F1 := Lib.hid f1
 have HSEC := Lib.hid hsec
 have H0 := Lib.hid h0
 clear he1 he2 hr1 f1 hsec h0
 go_enter Tryz.func28, Tryz.ntmps28
 go_wp2_with fail
 have BA := Lib.hid ((Box.alloc w (w.heap.size) 57 #[.slice a N cap] (by simp)).new (New.refl _))
 have HN := Lib.hid ((New.refl w).alloc (.cells #[.slice a N cap] 57))
 obtain ⟨p0, p1, p2⟩ := BA.out.one
 refine wp_region_T 10 (fun W => W.cell? ⟨w.heap.size, 0, none⟩ = some (.slice a N cap)) 11 #[false, false, false, false, false, false, false, false, false, false, false] rfl (by kernel_rfl) (by kernel_rfl) ?_
 refine wpT_take 0 (v := ?_) rfl (by kernel_rfl) (fun _ _ _ h => h) (by exact p0) (Or.inl ⟨by first | kernel_rfl | rfl, ?_⟩) ?_
 rotate_left
 ·(intro W hW; (try dsimp only at hW); go_simp; try with_reducible rfl)
 try simp only [PT]
 refine wpT_take 1 (v := ?_) rfl (by kernel_rfl) (fun _ _ _ h => h) (by exact p0) (Or.inl ⟨by first | kernel_rfl | rfl, ?_⟩) ?_
 rotate_left
 ·(intro W hW; (try dsimp only at hW); go_simp; try with_reducible rfl)
 try simp only [PT]
 refine wpT_take 2 (v := ?_) rfl (by kernel_rfl) (fun _ _ _ h => h) (by exact p0) (Or.inl ⟨by first | kernel_rfl | rfl, ?_⟩) ?_
 rotate_left
 ·(intro W hW; (try dsimp only at hW); go_simp; try with_reducible rfl)
 try simp only [PT]
 refine wpT_take 4 (v := ?_) rfl (by kernel_rfl) (fun _ _ _ h => h) (by exact p0) (Or.inl ⟨by first | kernel_rfl | rfl, ?_⟩) ?_
 rotate_left
 ·(intro W hW; (try dsimp only at hW); go_simp; try with_reducible rfl)
 try simp only [PT]
 refine wpT_take 5 (v := ?_) rfl (by kernel_rfl) (fun _ _ _ h => h) (by exact p0) (Or.inl ⟨by first | kernel_rfl | rfl, ?_⟩) ?_
 rotate_left
 ·(intro W hW; (try dsimp only at hW); go_simp; try with_reducible rfl)
 try simp only [PT]
 refine wpT_take 6 (v := ?_) rfl (by kernel_rfl) (fun _ _ _ h => h) (by exact p0) (Or.inl ⟨by first | kernel_rfl | rfl, ?_⟩) ?_
 rotate_left
 ·(intro W hW; (try dsimp only at hW); go_simp; try with_reducible rfl)
 try simp only [PT]
 refine wpT_one 3 rfl (by kernel_rfl) (fun K hK => ?_)
 go_simp
 refine (pwhen_new b1 12 _).mono ?_
 rintro e w1 ⟨rfl, hn⟩
 rw [HE1.out]
 have hn := hn.undrew
 clear p0 p1 p2
 replace BA := Lib.hid (BA.out.new hn)
 replace HN := Lib.hid (HN.out.trans hn)
 clear hn
 obtain ⟨p0, p1, p2⟩ := BA.out.one
 refine hK.out _ _ (fun _ => ?_) ?_
 ·exact p0
 clear hK K
 try simp only [PT]
 refine wpT_one 7 rfl (by kernel_rfl) (fun K hK => ?_)
 go_simp
 refine (pwhen_new b2 5 _).mono ?_
 rintro e w2 ⟨rfl, hn⟩
 rw [HE2.out]
 clear p0 p1 p2
 replace BA := Lib.hid (BA.out.new hn)
 replace HN := Lib.hid (HN.out.trans hn)
 clear hn
 obtain ⟨p0, p1, p2⟩ := BA.out.one
 refine hK.out _ _ (fun _ => ?_) ?_
 ·exact p0
 clear hK K
 try simp only [PT]
 refine wpT_one 8 rfl (by kernel_rfl) (fun K hK => ?_)
 go_simp
 clear p0 p1 p2
 have HN0 := HN
 clear HN
 have BG := Lib.hid ((Box.alloc w2 (w2.heap.size) 29 #[.int .i64 e1, .int .i64 e2] (by simp)).new (New.refl _))
 have HN := Lib.hid ((New.refl w2).alloc (.cells #[.int .i64 e1, .int .i64 e2] 29))
 replace BA := Lib.hid (BA.out.new HN.out)
 have HN_ := HN0.out.trans HN.out
 clear HN HN0
 have HN := Lib.hid HN_
 clear HN_
 obtain ⟨p0, p1, p2⟩ := BA.out.one
 refine hK.out _ _ (fun _ => ?_) ?_
 ·exact p0
 clear hK K
 try simp only [PT]
 refine wpT_one 9 rfl (by kernel_rfl) (fun K hK => ?_)
 go_simp
 refine (pfirst2_new e1 e2 _ _ 29 _ BG.out).mono ?_
 rintro e w3 ⟨rfl, hn⟩
 rw [HR1.out]
 clear p0 p1 p2
 replace BA := Lib.hid (BA.out.new hn)
 replace HN := Lib.hid (HN.out.trans hn)
 clear hn
 obtain ⟨p0, p1, p2⟩ := BA.out.one
 refine hK.out _ _ (fun _ => ?_) ?_
 ·exact p0
 clear hK K
 try simp only [PT]
 refine wpT_tail rfl (by kernel_rfl) ?_
 simp only [List.drop_succ_cons, List.drop_zero]
 clear BG
 by_cases hr10 : r1 = 0
 ·obtain ⟨L, m, a0, c0, rfl, hN1, hcell0, hcont, hfin⟩ := HSEC.out hr10
  obtain ⟨b3, hb3⟩ : ∃ b, decide ((4096 : Int) < (m : Int)) = b := ⟨_, rfl⟩
  obtain ⟨b4, hb4⟩ : ∃ b, decide (0 ≤ otherAt m 0 ls) = b := ⟨_, rfl⟩
  obtain ⟨e3, he3⟩ : ∃ e : Int, (if b3 then 5 else 0) = e := ⟨_, rfl⟩
  obtain ⟨e4, he4⟩ : ∃ e : Int, (if b4 then 2 else 0) = e := ⟨_, rfl⟩
  obtain ⟨r2, hr2⟩ : ∃ r : Int, (if e3 = 0 then e4 else e3) = r := ⟨_, rfl⟩
  have hrr := hfin e3 e4 r2 b3 b4 hb3 hb4 he3 he4 hr2
  rw [hb4] at hcont
  clear hfin hb4
  subst hr10
  have hc0 := Lib.hid hcell0
  clear hcell0
  have HCONT := Lib.hid hcont
  have HE3 := Lib.hid he3
  have HE4 := Lib.hid he4
  have HR2 := Lib.hid hr2
  have HRR := Lib.hid hrr
  clear hcont he3 he4 hr2 hrr
  go_wp2_with fail
  refine (HCONT.out _ w.heap.size HN.out p0).mono ?_
  rintro e w4 ⟨rfl, hn⟩
  clear p0 p1 p2
  replace BA := Lib.hid (BA.out.new hn)
  replace HN := Lib.hid (HN.out.trans hn)
  clear hn
  obtain ⟨p0, p1, p2⟩ := BA.out.one
  have hc1 := HN.out.cell hc0.out
  go_wp2_with fail
  refine (pwhen_new b3 5 _).mono ?_
  rintro e w5 ⟨rfl, hn⟩
  rw [HE3.out]
  clear hc1
  clear p0 p1 p2
  replace BA := Lib.hid (BA.out.new hn)
  replace HN := Lib.hid (HN.out.trans hn)
  clear hn
  go_wp2_with fail
  refine (pwhen_new b4 2 _).mono ?_
  rintro e w6 ⟨rfl, hn⟩
  rw [HE4.out]
  replace BA := Lib.hid (BA.out.new hn)
  replace HN := Lib.hid (HN.out.trans hn)
  clear hn
  go_wp2_with fail
  have HN0 := HN
  clear HN
  have BG := Lib.hid ((Box.alloc w6 (w6.heap.size) 29 #[.int .i64 e3, .int .i64 e4] (by simp)).new (New.refl _))
  have HN := Lib.hid ((New.refl w6).alloc (.cells #[.int .i64 e3, .int .i64 e4] 29))
  replace BA := Lib.hid (BA.out.new HN.out)
  have HN_ := HN0.out.trans HN.out
  clear HN HN0
  have HN := Lib.hid HN_
  clear HN_
  refine (pfirst2_new e3 e4 _ _ 29 _ BG.out).mono ?_
  rintro e w7 ⟨rfl, hn⟩
  rw [HR2.out, ← HRR.out]
  replace BA := Lib.hid (BA.out.new hn)
  replace HN := Lib.hid (HN.out.trans hn)
  clear hn
  clear BG
  go_wp2_with fail
  go_ret2
  exact ⟨rfl, HN.out⟩
 ·have hrr := F1.out hr10
  subst hrr
  go_wp2_with fail
  go_ret2
  exact ⟨rfl, HN.out⟩
end Go.Proofs.YtlfnibjmkfldgaaGreatDoor
namespace Go.Proofs.YtlfnibjmkfldgaaGreatDoor
open Go.RowKit Big
theorem own_rdS' {w : World} {base : Nat} {e : TypeId} {S : Nat} {v : Value} {n : Nat} {xs : List Value} (h : w.ownsRow base e S v n xs) : ∃ (a : Option Addr) (cap : Nat), v = .slice a n cap ∧ RdL w a xs ∧ n ≤ cap ∧ (a = none → cap = 0) := by
 have h1 := own_rdS h
 rcases h.2 with ⟨rfl, rfl⟩ | ⟨g, cap, cur, rfl, hb, hc, h2, h3, h4, h5⟩
 ·obtain ⟨a, cap, e, hr, -⟩ := h1
  injection e with e1 e2 e3
  subst e1
  subst e3
  exact ⟨none, 0, rfl, hr, Nat.le_refl _, fun _ => rfl⟩
 ·obtain ⟨a, cap', e, hr, -⟩ := h1
  injection e with e1 e2 e3
  subst e1
  subst e3
  exact ⟨_, _, rfl, hr, h2, fun h => by cases h⟩
theorem own_noneS (w : World) (t : TypeId) (S : Nat) : (w.alloc (.cells #[] t)).ownsRow w.heap.size t S (.slice (some ⟨w.heap.size, 0, none⟩) 0 0) 0 [] := by
 refine ⟨by simp, .inr ⟨w.heap.size, 0, #[], rfl, Nat.le_refl _, ?_, Nat.le_refl _, Nat.zero_le _, by simp, by simp⟩⟩
 exact Box.alloc w _ t #[] rfl
theorem wpList_append_copy {P : Program} {ops : Array Oper} {rest : List Oper} {o : Oper} {a : Act} {Q : Exit → Act → World → Prop} (hgd : o.guard = none) (s x : Operand) (t : TypeId)
  (ho : o.op = .call { callee := .builtin .append, args := #[s, x], argTypes := #[t, t] })
  (e : TypeId) (i : TypeInfo) (z : Value) (size bytes : Nat) (ht : P.underlying t = some (.slice e)) (hi : P.info? e = some i) (hz : i.zero = some z)
  (hsize : i.size = size) (hby : i.bytes = bytes) (hzs : z.cells.size = size) (hsz : 0 < size) (w : World)
  (hs : a.eval s = .slice (some ⟨w.heap.size, 0, none⟩) 0 0) (xa : Option Addr) (m c : Nat) (news : List Value) (hx : a.eval x = .slice xa m c) (hl : news.length = m * size) (hr : RdL w xa news) (hz0 : xa = none → c = 0)
  (h1 : ∀ u ∈ news, u.oneCell' = true) (h63 : m ≤ maxLen) (hbytes : m * bytes ≤ 140737488355328)
  (h : ∀ (a' : Option Addr) (c' : Nat) (w' : World), New w w' → w'.ownsRow w.heap.size e size (.slice a' m c') m news → RdL w' a' news → m ≤ c' → (a' = none → c' = 0) → wpList P ops Q rest (a.put o.dst (.slice a' m c')) w') :
  wpList P ops Q (o :: rest) a (w.alloc (.cells #[] e)) := by
 have hown := own_noneS w e size
 have hb : w.heap.size ≤ (w.alloc (.cells #[] e)).heap.size := ((New.refl w).alloc _).size
 by_cases h0 : xa = none
 ·subst h0
  have hm : m = 0 := by
   rcases Nat.eq_zero_or_pos m with h | h
   ·exact h
   ·obtain ⟨b, off, e, -⟩ := hr 0 (by rw [hl]; exact Nat.mul_pos h hsz)
    cases e
  subst hm
  rw [hz0 rfl] at hx
  have hn : news = [] := by
   rw [Nat.zero_mul] at hl
   exact List.eq_nil_of_length_eq_zero hl
  subst hn
  refine wpList_append_own_none hgd s x t ho w.heap.size e i size ht hi _ 0 [] hs hown hx ?_
  exact h _ _ _ ((New.refl w).alloc _) hown (fun i hi => by simp at hi) (Nat.le_refl _) (fun h => by cases h)
 ·obtain ⟨ad, rfl⟩ : ∃ ad, xa = some ad := by
   cases xa with
   | none => exact absurd rfl h0
   | some ad => exact ⟨ad, rfl⟩
  have hsrc : ∀ (j : Nat) (v : Value), news[j]? = some v → (w.alloc (.cells #[] e)).cell? (ad.add j) = some v := by
   intro j v hj
   have h0 : 0 < news.length := by have := (List.getElem?_eq_some_iff.1 hj).1; omega
   obtain ⟨ad', e, hs⟩ := hr.src h0
   injection e with e
   rw [e]
   exact ((New.refl w).alloc _).cell (hs j v hj)
  refine wpList_append_own _ hgd s x t ho w.heap.size e i z size bytes ht hi hz hsize hby hzs hsz _ 0 [] hs hown ad m c news hx hl hsrc h1 (by omega) (by simpa using hbytes) hb ?_
  intro v' w9 hown' hgrow _
  have hN1 : New w w9 := grown_newS' ((New.refl w).alloc _) hown hgrow
  rw [Nat.zero_add, List.nil_append] at hown'
  obtain ⟨a', c', rfl, hrd, hc, hnn⟩ := own_rdS' hown'
  exact h a' c' w9 hN1 hown' hrd hc hnn
end Go.Proofs.YtlfnibjmkfldgaaGreatDoor
