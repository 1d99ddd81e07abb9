/- Part CardBlk01. -/
import Derived.ChangeKeysEq
import Derived.Laws.StructEq
import Derived.Laws.AppendOwnNone
import Derived.Test.YtlfnibjmkfldgaaGreatDoorA19
import Derived.Test.YtlfnibjmkfldgaaGreatDoorA21
import Derived.Test.YtlfnibjmkfldgaaGreatDoorA24
import Derived.Test.YtlfnibjmkfldgaaGreatDoorA25
import Derived.Test.YtlfnibjmkfldgaaGreatDoorA26
import Derived.Test.YtlfnibjmkfldgaaGreatDoorA28
namespace Go.Proofs.YtlfnibjmkfldgaaGreatDoor
open Go.RowKit Big
theorem unpack1_calls (x : Nat) (w : World) : Calls Tryz.prog 77 #[.int .u16 x] w fun e w' => e = .returned (.bool (decide (x ≠ 0))) ∧ w = w' := by
 by_cases h : x = 0
 ·subst h
  go_enter Tryz.func77, Tryz.ntmps77
  go_wp2_with fail
  go_ret
  exact ⟨rfl, rfl⟩
 ·have h1 : decide (x ≠ 0) = true := by simpa using h
  have h2 : ((x : Int) != 0) = true := by rw [bne_iff_ne]; omega
  rw [h1]
  go_enter Tryz.func77, Tryz.ntmps77
  go_wp2_with fail
  go_ret
  exact ⟨by first | rfl | exact ret_bool h2 | (simp [h]; done), rfl⟩
end Go.Proofs.YtlfnibjmkfldgaaGreatDoor
namespace Go.Proofs.YtlfnibjmkfldgaaGreatDoor
open Go.RowKit Big
theorem run_arrayAt (w : World) (a : Option Addr) (c : Nat) : Sem.run Tryz.prog (Instr.arrayAt 71 (.slice a 16 c)) w = .ok (.pointer a) w := by
 have h := run_underlying Tryz.underlying71 w
 simp [Instr.arrayAt, go_sem, h]
set_option maxRecDepth 100000 in
set_option maxHeartbeats 2000000 in
theorem block_ok (b off cap : Nat) (f : Nat → Nat) (w : World) (hc : ∀ i, i < 16 → w.cell? ⟨b, off + i, none⟩ = some (.int .u16 (f i : Nat))) :
  Calls Tryz.prog 36 #[.slice (some ⟨b, off, none⟩) 16 cap] w fun e w' => e = .returned (.tuple #[.agg #[.int .u16 (f 0 : Nat), .int .u16 (f 1 : Nat), .int .u16 (f 2 : Nat), .int .u16 (f 3 : Nat), .int .u16 (f 4 : Nat), .int .u16 (f 5 : Nat), .int .u16 (f 6 : Nat), .int .u16 (f 7 : Nat), .int .u16 (f 8 : Nat), .int .u16 (f 9 : Nat), .int .u16 (f 10 : Nat), .int .u16 (f 11 : Nat), .int .u16 (f 12 : Nat), .int .u16 (f 13 : Nat), .int .u16 (f 14 : Nat), .int .u16 (f 15 : Nat)], .int .i64 0]) ∧ New w w' := by
 have hfew := fun W => few_u16 (some ⟨b, off, none⟩) 16 cap W (by omega)
 rw [show fewErr 16 = 0 from rfl] at hfew
 have hat := fun W => run_arrayAt W (some ⟨b, off, none⟩) cap
 have hb : b < w.heap.size := lt_of_cell (hc 0 (by omega))
 have HFEW := Lib.hid hfew
 have HC := Lib.hid hc
 have HB := Lib.hid hb
 clear hfew hc hb
 go_enter Tryz.func36, Tryz.ntmps36
 go_wp2_with fail
 have BP := Lib.hid ((Box.alloc w (w.heap.size) 71 #[.int .u16 0, .int .u16 0, .int .u16 0, .int .u16 0, .int .u16 0, .int .u16 0, .int .u16 0, .int .u16 0, .int .u16 0, .int .u16 0, .int .u16 0, .int .u16 0, .int .u16 0, .int .u16 0, .int .u16 0, .int .u16 0] (by simp)).new (New.refl _))
 have HN := Lib.hid ((New.refl w).alloc (.cells #[.int .u16 0, .int .u16 0, .int .u16 0, .int .u16 0, .int .u16 0, .int .u16 0, .int .u16 0, .int .u16 0, .int .u16 0, .int .u16 0, .int .u16 0, .int .u16 0, .int .u16 0, .int .u16 0, .int .u16 0, .int .u16 0] 71))
 refine (HFEW.out _).mono ?_
 rintro e w1 ⟨rfl, hn⟩
 replace BP := Lib.hid (BP.out.new hn)
 replace HN := Lib.hid (HN.out.trans hn)
 clear hn
 go_wp2_with fail
 refine (pwhen_new false 2 _).mono ?_
 rintro e w2 ⟨rfl, hn⟩
 replace BP := Lib.hid (BP.out.new hn)
 replace HN := Lib.hid (HN.out.trans hn)
 clear hn
 go_wp2_with fail
 have HN0 := HN
 clear HN
 have BG := Lib.hid ((Box.alloc w2 (w2.heap.size) 29 #[.int .i64 0, .int .i64 0] (by simp)).new (New.refl _))
 have HN := Lib.hid ((New.refl w2).alloc (.cells #[.int .i64 0, .int .i64 0] 29))
 replace BP := Lib.hid (BP.out.new HN.out)
 have HN_ := HN0.out.trans HN.out
 clear HN HN0
 have HN := Lib.hid HN_
 clear HN_
 refine (pfirst2_new 0 0 _ _ 29 _ BG.out).mono ?_
 rintro e w3 ⟨rfl, hn⟩
 replace BP := Lib.hid (BP.out.new hn)
 replace HN := Lib.hid (HN.out.trans hn)
 clear hn
 have p0 : w3.cell? ⟨w.heap.size, 0, none⟩ = some (.int .u16 0) := BP.out.cell 0
 have p1 : w3.cell? ⟨w.heap.size, 1, none⟩ = some (.int .u16 0) := BP.out.cell 1
 have p2 : w3.cell? ⟨w.heap.size, 2, none⟩ = some (.int .u16 0) := BP.out.cell 2
 have p3 : w3.cell? ⟨w.heap.size, 3, none⟩ = some (.int .u16 0) := BP.out.cell 3
 have p4 : w3.cell? ⟨w.heap.size, 4, none⟩ = some (.int .u16 0) := BP.out.cell 4
 have p5 : w3.cell? ⟨w.heap.size, 5, none⟩ = some (.int .u16 0) := BP.out.cell 5
 have p6 : w3.cell? ⟨w.heap.size, 6, none⟩ = some (.int .u16 0) := BP.out.cell 6
 have p7 : w3.cell? ⟨w.heap.size, 7, none⟩ = some (.int .u16 0) := BP.out.cell 7
 have p8 : w3.cell? ⟨w.heap.size, 8, none⟩ = some (.int .u16 0) := BP.out.cell 8
 have p9 : w3.cell? ⟨w.heap.size, 9, none⟩ = some (.int .u16 0) := BP.out.cell 9
 have p10 : w3.cell? ⟨w.heap.size, 10, none⟩ = some (.int .u16 0) := BP.out.cell 10
 have p11 : w3.cell? ⟨w.heap.size, 11, none⟩ = some (.int .u16 0) := BP.out.cell 11
 have p12 : w3.cell? ⟨w.heap.size, 12, none⟩ = some (.int .u16 0) := BP.out.cell 12
 have p13 : w3.cell? ⟨w.heap.size, 13, none⟩ = some (.int .u16 0) := BP.out.cell 13
 have p14 : w3.cell? ⟨w.heap.size, 14, none⟩ = some (.int .u16 0) := BP.out.cell 14
 have p15 : w3.cell? ⟨w.heap.size, 15, none⟩ = some (.int .u16 0) := BP.out.cell 15
 have q0 : w3.frozen? ⟨w.heap.size, 0, none⟩ = false := BP.out.frozen 0
 have q1 : w3.frozen? ⟨w.heap.size, 1, none⟩ = false := BP.out.frozen 1
 have q2 : w3.frozen? ⟨w.heap.size, 2, none⟩ = false := BP.out.frozen 2
 have q3 : w3.frozen? ⟨w.heap.size, 3, none⟩ = false := BP.out.frozen 3
 have q4 : w3.frozen? ⟨w.heap.size, 4, none⟩ = false := BP.out.frozen 4
 have q5 : w3.frozen? ⟨w.heap.size, 5, none⟩ = false := BP.out.frozen 5
 have q6 : w3.frozen? ⟨w.heap.size, 6, none⟩ = false := BP.out.frozen 6
 have q7 : w3.frozen? ⟨w.heap.size, 7, none⟩ = false := BP.out.frozen 7
 have q8 : w3.frozen? ⟨w.heap.size, 8, none⟩ = false := BP.out.frozen 8
 have q9 : w3.frozen? ⟨w.heap.size, 9, none⟩ = false := BP.out.frozen 9
 have q10 : w3.frozen? ⟨w.heap.size, 10, none⟩ = false := BP.out.frozen 10
 have q11 : w3.frozen? ⟨w.heap.size, 11, none⟩ = false := BP.out.frozen 11
 have q12 : w3.frozen? ⟨w.heap.size, 12, none⟩ = false := BP.out.frozen 12
 have q13 : w3.frozen? ⟨w.heap.size, 13, none⟩ = false := BP.out.frozen 13
 have q14 : w3.frozen? ⟨w.heap.size, 14, none⟩ = false := BP.out.frozen 14
 have q15 : w3.frozen? ⟨w.heap.size, 15, none⟩ = false := BP.out.frozen 15
 have c0 : w3.cell? ⟨b, off, none⟩ = some (.int .u16 (f 0 : Nat)) := HN.out.cell (HC.out 0 (by omega))
 have c1 : w3.cell? ⟨b, off + 1, none⟩ = some (.int .u16 (f 1 : Nat)) := HN.out.cell (HC.out 1 (by omega))
 have c2 : w3.cell? ⟨b, off + 2, none⟩ = some (.int .u16 (f 2 : Nat)) := HN.out.cell (HC.out 2 (by omega))
 have c3 : w3.cell? ⟨b, off + 3, none⟩ = some (.int .u16 (f 3 : Nat)) := HN.out.cell (HC.out 3 (by omega))
 have c4 : w3.cell? ⟨b, off + 4, none⟩ = some (.int .u16 (f 4 : Nat)) := HN.out.cell (HC.out 4 (by omega))
 have c5 : w3.cell? ⟨b, off + 5, none⟩ = some (.int .u16 (f 5 : Nat)) := HN.out.cell (HC.out 5 (by omega))
 have c6 : w3.cell? ⟨b, off + 6, none⟩ = some (.int .u16 (f 6 : Nat)) := HN.out.cell (HC.out 6 (by omega))
 have c7 : w3.cell? ⟨b, off + 7, none⟩ = some (.int .u16 (f 7 : Nat)) := HN.out.cell (HC.out 7 (by omega))
 have c8 : w3.cell? ⟨b, off + 8, none⟩ = some (.int .u16 (f 8 : Nat)) := HN.out.cell (HC.out 8 (by omega))
 have c9 : w3.cell? ⟨b, off + 9, none⟩ = some (.int .u16 (f 9 : Nat)) := HN.out.cell (HC.out 9 (by omega))
 have c10 : w3.cell? ⟨b, off + 10, none⟩ = some (.int .u16 (f 10 : Nat)) := HN.out.cell (HC.out 10 (by omega))
 have c11 : w3.cell? ⟨b, off + 11, none⟩ = some (.int .u16 (f 11 : Nat)) := HN.out.cell (HC.out 11 (by omega))
 have c12 : w3.cell? ⟨b, off + 12, none⟩ = some (.int .u16 (f 12 : Nat)) := HN.out.cell (HC.out 12 (by omega))
 have c13 : w3.cell? ⟨b, off + 13, none⟩ = some (.int .u16 (f 13 : Nat)) := HN.out.cell (HC.out 13 (by omega))
 have c14 : w3.cell? ⟨b, off + 14, none⟩ = some (.int .u16 (f 14 : Nat)) := HN.out.cell (HC.out 14 (by omega))
 have c15 : w3.cell? ⟨b, off + 15, none⟩ = some (.int .u16 (f 15 : Nat)) := HN.out.cell (HC.out 15 (by omega))
 have l0 := BP.out.lt
 have hne : b ≠ w.heap.size := by have := HB.out; omega
 go_wp2_with fail
 refine bodyPost_ret (v := .tuple #[.agg #[.int .u16 (f 0 : Nat), .int .u16 (f 1 : Nat), .int .u16 (f 2 : Nat), .int .u16 (f 3 : Nat), .int .u16 (f 4 : Nat), .int .u16 (f 5 : Nat), .int .u16 (f 6 : Nat), .int .u16 (f 7 : Nat), .int .u16 (f 8 : Nat), .int .u16 (f 9 : Nat), .int .u16 (f 10 : Nat), .int .u16 (f 11 : Nat), .int .u16 (f 12 : Nat), .int .u16 (f 13 : Nat), .int .u16 (f 14 : Nat), .int .u16 (f 15 : Nat)], .int .i64 0]) (by simp [results, Tryz.results36, go_sem, p0, p1, p2, p3, p4, p5, p6, p7, p8, p9, p10, p11, p12, p13, p14, p15]) rfl ?_
 refine ⟨rfl, ?_⟩
 have hN := HN.out
 repeat (with_reducible refine New.setCell ?_ (Nat.le_refl _) _)
 exact hN
end Go.Proofs.YtlfnibjmkfldgaaGreatDoor
namespace Go.Proofs.YtlfnibjmkfldgaaGreatDoor
open Go.RowKit Big
theorem grown_newS' {w wr w1 : World} {v : Value} {e : TypeId} {S : Nat} {n : Nat} {xs : List Value} (hn : New w wr) (h : wr.ownsRow w.heap.size e S v n xs) (hg : wr.grownBy w1 v.ownBlock) : New w w1 := by
 obtain ⟨a1, a2, a3, a4, a5⟩ := hn
 refine ⟨hg.os.trans a1, ?_, ?_, Nat.le_trans a4 hg.size, fun j hj => ?_⟩
 ·first | exact hg.tape.trans a2 | exact hg.output.trans a2
 ·first | exact hg.output.trans a3 | exact hg.tape.trans a3
 ·exact (hg.block j (Nat.lt_of_lt_of_le hj a4) (own_neS h hj)).trans (a5 j hj)
end Go.Proofs.YtlfnibjmkfldgaaGreatDoor
namespace Go.Proofs.YtlfnibjmkfldgaaGreatDoor
open Go.RowKit Big
section
variable {P : Program}
end
set_option maxRecDepth 100000 in
theorem Length_calls (a b : Int) (w : World) : Calls Tryz.prog 11 #[.int .i64 a, .int .i64 b] w fun e w' => e = .returned (.bool (a ≤ b || (4096 < a && a ≤ 4098))) ∧ w' = w := by
 go_enter Tryz.func11, Tryz.ntmps11
 by_cases h1 : a ≤ b <;> by_cases h2 : 4096 < a <;> by_cases h3 : a ≤ 4098 <;> (go_wp2_with fail; go_ret; exact ⟨by simp [h1, h2, h3], rfl⟩)
end Go.Proofs.YtlfnibjmkfldgaaGreatDoor
namespace Go.Proofs.YtlfnibjmkfldgaaGreatDoor
open Go.RowKit Big
set_option maxRecDepth 100000 in
theorem blocks_bad (a : Option Addr) (n cap : Nat) (w : World) (hn : n ≤ 1000000) (h0 : fewErr n ≠ 0) :
  Calls Tryz.prog 37 #[.slice a n cap] w fun e w' => e = .returned (.tuple #[.slice none 0 0, .int .i64 (fewErr n)]) ∧ New w w' := by
 obtain ⟨e1, he1⟩ : ∃ e1, fewErr n = e1 := ⟨_, rfl⟩
 have hfew := fun W => few_u16 a n cap W (by omega)
 rw [he1] at hfew h0 ⊢
 have hne : (e1 != 0) = true := by rw [bne_iff_ne]; exact h0
 have HFEW := Lib.hid hfew
 have HE1 := Lib.hid he1
 clear hfew he1
 go_enter Tryz.func37, Tryz.ntmps37
 go_wp2_with fail
 refine (HFEW.out _).mono ?_
 rintro e w1 ⟨rfl, hn⟩
 have HN := Lib.hid hn
 clear hn
 go_wp2_with fail
 go_ret2
 exact ⟨rfl, HN.out⟩
end Go.Proofs.YtlfnibjmkfldgaaGreatDoor
namespace Go.Proofs.YtlfnibjmkfldgaaGreatDoor
open Go.RowKit Big
theorem own_rdS' {w : World} {base : Nat} {e : TypeId} {S : Nat} {v : Value} {n : Nat} {xs : List Value} (h : w.ownsRow base e S v n xs) : ∃ (a : Option Addr) (cap : Nat), v = .slice a n cap ∧ RdL w a xs ∧ n ≤ cap ∧ (a = none → cap = 0) := by
 have h1 := own_rdS h
 rcases h.2 with ⟨rfl, rfl⟩ | ⟨g, cap, cur, rfl, hb, hc, h2, h3, h4, h5⟩
 ·obtain ⟨a, cap, e, hr, -⟩ := h1
  injection e with e1 e2 e3
  subst e1
  subst e3
  exact ⟨none, 0, rfl, hr, Nat.le_refl _, fun _ => rfl⟩
 ·obtain ⟨a, cap', e, hr, -⟩ := h1
  injection e with e1 e2 e3
  subst e1
  subst e3
  exact ⟨_, _, rfl, hr, h2, fun h => by cases h⟩
theorem own_noneS (w : World) (t : TypeId) (S : Nat) : (w.alloc (.cells #[] t)).ownsRow w.heap.size t S (.slice (some ⟨w.heap.size, 0, none⟩) 0 0) 0 [] := by
 refine ⟨by simp, .inr ⟨w.heap.size, 0, #[], rfl, Nat.le_refl _, ?_, Nat.le_refl _, Nat.zero_le _, by simp, by simp⟩⟩
 exact Box.alloc w _ t #[] rfl
theorem wpList_append_copy {P : Program} {ops : Array Oper} {rest : List Oper} {o : Oper} {a : Act} {Q : Exit → Act → World → Prop} (hgd : o.guard = none) (s x : Operand) (t : TypeId)
  (ho : o.op = .call { callee := .builtin .append, args := #[s, x], argTypes := #[t, t] })
  (e : TypeId) (i : TypeInfo) (z : Value) (size bytes : Nat) (ht : P.underlying t = some (.slice e)) (hi : P.info? e = some i) (hz : i.zero = some z)
  (hsize : i.size = size) (hby : i.bytes = bytes) (hzs : z.cells.size = size) (hsz : 0 < size) (w : World)
  (hs : a.eval s = .slice (some ⟨w.heap.size, 0, none⟩) 0 0) (xa : Option Addr) (m c : Nat) (news : List Value) (hx : a.eval x = .slice xa m c) (hl : news.length = m * size) (hr : RdL w xa news) (hz0 : xa = none → c = 0)
  (h1 : ∀ u ∈ news, u.oneCell' = true) (h63 : m ≤ maxLen) (hbytes : m * bytes ≤ 140737488355328)
  (h : ∀ (a' : Option Addr) (c' : Nat) (w' : World), New w w' → w'.ownsRow w.heap.size e size (.slice a' m c') m news → RdL w' a' news → m ≤ c' → (a' = none → c' = 0) → wpList P ops Q rest (a.put o.dst (.slice a' m c')) w') :
  wpList P ops Q (o :: rest) a (w.alloc (.cells #[] e)) := by
 have hown := own_noneS w e size
 have hb : w.heap.size ≤ (w.alloc (.cells #[] e)).heap.size := ((New.refl w).alloc _).size
 by_cases h0 : xa = none
 ·subst h0
  have hm : m = 0 := by
   rcases Nat.eq_zero_or_pos m with h | h
   ·exact h
   ·obtain ⟨b, off, e, -⟩ := hr 0 (by rw [hl]; exact Nat.mul_pos h hsz)
    cases e
  subst hm
  rw [hz0 rfl] at hx
  have hn : news = [] := by
   rw [Nat.zero_mul] at hl
   exact List.eq_nil_of_length_eq_zero hl
  subst hn
  refine wpList_append_own_none hgd s x t ho w.heap.size e i size ht hi _ 0 [] hs hown hx ?_
  exact h _ _ _ ((New.refl w).alloc _) hown (fun i hi => by simp at hi) (Nat.le_refl _) (fun h => by cases h)
 ·obtain ⟨ad, rfl⟩ : ∃ ad, xa = some ad := by
   cases xa with
   | none => exact absurd rfl h0
   | some ad => exact ⟨ad, rfl⟩
  have hsrc : ∀ (j : Nat) (v : Value), news[j]? = some v → (w.alloc (.cells #[] e)).cell? (ad.add j) = some v := by
   intro j v hj
   have h0 : 0 < news.length := by have := (List.getElem?_eq_some_iff.1 hj).1; omega
   obtain ⟨ad', e, hs⟩ := hr.src h0
   injection e with e
   rw [e]
   exact ((New.refl w).alloc _).cell (hs j v hj)
  refine wpList_append_own _ hgd s x t ho w.heap.size e i z size bytes ht hi hz hsize hby hzs hsz _ 0 [] hs hown ad m c news hx hl hsrc h1 (by omega) (by simpa using hbytes) hb ?_
  intro v' w9 hown' hgrow _
  have hN1 : New w w9 := grown_newS' ((New.refl w).alloc _) hown hgrow
  rw [Nat.zero_add, List.nil_append] at hown'
  obtain ⟨a', c', rfl, hrd, hc, hnn⟩ := own_rdS' hown'
  exact h a' c' w9 hN1 hown' hrd hc hnn
end Go.Proofs.YtlfnibjmkfldgaaGreatDoor
