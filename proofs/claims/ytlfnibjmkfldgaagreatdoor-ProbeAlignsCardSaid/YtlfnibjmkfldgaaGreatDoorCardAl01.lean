/- Part CardAl01. -/
import Derived.ChangeKeysEq
import Derived.Laws.StructEq
import Derived.Laws.AppendOwnNone
import Derived.Maps.AppendAt
import Derived.Test.YtlfnibjmkfldgaaGreatDoorA28
import Derived.Test.YtlfnibjmkfldgaaGreatDoorA29
import Derived.Test.YtlfnibjmkfldgaaGreatDoorA30
import Derived.Test.YtlfnibjmkfldgaaGreatDoorA32
namespace Go.Proofs.YtlfnibjmkfldgaaGreatDoor
open Go.RowKit Big
theorem grown_newS' {w wr w1 : World} {v : Value} {e : TypeId} {S : Nat} {n : Nat} {xs : List Value} (hn : New w wr) (h : wr.ownsRow w.heap.size e S v n xs) (hg : wr.grownBy w1 v.ownBlock) : New w w1 := by
 obtain ⟨a1, a2, a3, a4, a5⟩ := hn
 refine ⟨hg.os.trans a1, ?_, ?_, Nat.le_trans a4 hg.size, fun j hj => ?_⟩
 ·first | exact hg.tape.trans a2 | exact hg.output.trans a2
 ·first | exact hg.output.trans a3 | exact hg.tape.trans a3
 ·exact (hg.block j (Nat.lt_of_lt_of_le hj a4) (own_neS h hj)).trans (a5 j hj)
end Go.Proofs.YtlfnibjmkfldgaaGreatDoor
namespace Go.Proofs.YtlfnibjmkfldgaaGreatDoor
open Go.RowKit Big
def neqF (x y : Nat) : Bool := FloatKind.f32.format.order x y != some Ordering.eq
section
variable {P : Program}
end
set_option maxRecDepth 100000 in
theorem Length_calls (a b : Int) (w : World) : Calls Tryz.prog 11 #[.int .i64 a, .int .i64 b] w fun e w' => e = .returned (.bool (a ≤ b || (4096 < a && a ≤ 4098))) ∧ w' = w := by
 go_enter Tryz.func11, Tryz.ntmps11
 by_cases h1 : a ≤ b <;> by_cases h2 : 4096 < a <;> by_cases h3 : a ≤ 4098 <;> (go_wp2_with fail; go_ret; exact ⟨by simp [h1, h2, h3], rfl⟩)
end Go.Proofs.YtlfnibjmkfldgaaGreatDoor
namespace Go.Proofs.YtlfnibjmkfldgaaGreatDoor
open Go.RowKit Big
theorem own_rdS' {w : World} {base : Nat} {e : TypeId} {S : Nat} {v : Value} {n : Nat} {xs : List Value} (h : w.ownsRow base e S v n xs) : ∃ (a : Option Addr) (cap : Nat), v = .slice a n cap ∧ RdL w a xs ∧ n ≤ cap ∧ (a = none → cap = 0) := by
 have h1 := own_rdS h
 rcases h.2 with ⟨rfl, rfl⟩ | ⟨g, cap, cur, rfl, hb, hc, h2, h3, h4, h5⟩
 ·obtain ⟨a, cap, e, hr, -⟩ := h1
  injection e with e1 e2 e3
  subst e1
  subst e3
  exact ⟨none, 0, rfl, hr, Nat.le_refl _, fun _ => rfl⟩
 ·obtain ⟨a, cap', e, hr, -⟩ := h1
  injection e with e1 e2 e3
  subst e1
  subst e3
  exact ⟨_, _, rfl, hr, h2, fun h => by cases h⟩
theorem own_noneS (w : World) (t : TypeId) (S : Nat) : (w.alloc (.cells #[] t)).ownsRow w.heap.size t S (.slice (some ⟨w.heap.size, 0, none⟩) 0 0) 0 [] := by
 refine ⟨by simp, .inr ⟨w.heap.size, 0, #[], rfl, Nat.le_refl _, ?_, Nat.le_refl _, Nat.zero_le _, by simp, by simp⟩⟩
 exact Box.alloc w _ t #[] rfl
theorem wpList_append_copy {P : Program} {ops : Array Oper} {rest : List Oper} {o : Oper} {a : Act} {Q : Exit → Act → World → Prop} (hgd : o.guard = none) (s x : Operand) (t : TypeId)
  (ho : o.op = .call { callee := .builtin .append, args := #[s, x], argTypes := #[t, t] })
  (e : TypeId) (i : TypeInfo) (z : Value) (size bytes : Nat) (ht : P.underlying t = some (.slice e)) (hi : P.info? e = some i) (hz : i.zero = some z)
  (hsize : i.size = size) (hby : i.bytes = bytes) (hzs : z.cells.size = size) (hsz : 0 < size) (w : World)
  (hs : a.eval s = .slice (some ⟨w.heap.size, 0, none⟩) 0 0) (xa : Option Addr) (m c : Nat) (news : List Value) (hx : a.eval x = .slice xa m c) (hl : news.length = m * size) (hr : RdL w xa news) (hz0 : xa = none → c = 0)
  (h1 : ∀ u ∈ news, u.oneCell' = true) (h63 : m ≤ maxLen) (hbytes : m * bytes ≤ 140737488355328)
  (h : ∀ (a' : Option Addr) (c' : Nat) (w' : World), New w w' → w'.ownsRow w.heap.size e size (.slice a' m c') m news → RdL w' a' news → m ≤ c' → (a' = none → c' = 0) → wpList P ops Q rest (a.put o.dst (.slice a' m c')) w') :
  wpList P ops Q (o :: rest) a (w.alloc (.cells #[] e)) := by
 have hown := own_noneS w e size
 have hb : w.heap.size ≤ (w.alloc (.cells #[] e)).heap.size := ((New.refl w).alloc _).size
 by_cases h0 : xa = none
 ·subst h0
  have hm : m = 0 := by
   rcases Nat.eq_zero_or_pos m with h | h
   ·exact h
   ·obtain ⟨b, off, e, -⟩ := hr 0 (by rw [hl]; exact Nat.mul_pos h hsz)
    cases e
  subst hm
  rw [hz0 rfl] at hx
  have hn : news = [] := by
   rw [Nat.zero_mul] at hl
   exact List.eq_nil_of_length_eq_zero hl
  subst hn
  refine wpList_append_own_none hgd s x t ho w.heap.size e i size ht hi _ 0 [] hs hown hx ?_
  exact h _ _ _ ((New.refl w).alloc _) hown (fun i hi => by simp at hi) (Nat.le_refl _) (fun h => by cases h)
 ·obtain ⟨ad, rfl⟩ : ∃ ad, xa = some ad := by
   cases xa with
   | none => exact absurd rfl h0
   | some ad => exact ⟨ad, rfl⟩
  have hsrc : ∀ (j : Nat) (v : Value), news[j]? = some v → (w.alloc (.cells #[] e)).cell? (ad.add j) = some v := by
   intro j v hj
   have h0 : 0 < news.length := by have := (List.getElem?_eq_some_iff.1 hj).1; omega
   obtain ⟨ad', e, hs⟩ := hr.src h0
   injection e with e
   rw [e]
   exact ((New.refl w).alloc _).cell (hs j v hj)
  refine wpList_append_own _ hgd s x t ho w.heap.size e i z size bytes ht hi hz hsize hby hzs hsz _ 0 [] hs hown ad m c news hx hl hsrc h1 (by omega) (by simpa using hbytes) hb ?_
  intro v' w9 hown' hgrow _
  have hN1 : New w w9 := grown_newS' ((New.refl w).alloc _) hown hgrow
  rw [Nat.zero_add, List.nil_append] at hown'
  obtain ⟨a', c', rfl, hrd, hc, hnn⟩ := own_rdS' hown'
  exact h a' c' w9 hN1 hown' hrd hc hnn
end Go.Proofs.YtlfnibjmkfldgaaGreatDoor
namespace Go.Proofs.YtlfnibjmkfldgaaGreatDoor
open Go.RowKit Big
theorem flts_cell (xs : List Nat) : ∀ u ∈ flts xs, u.oneCell' = true := by intro u hu; simp [flts] at hu; obtain ⟨x, -, rfl⟩ := hu; rfl
def RdZ (w : World) (a : Option Addr) (rv : List Value) (xss : List (List Value)) : Prop :=
 RdLL w a rv xss ∧ ∀ (k : Nat) (a' : Option Addr) (l' c' : Nat), rv[k]? = some (.slice a' l' c') → a' = none → c' = 0
theorem RdZ.new {w w' : World} {a : Option Addr} {rv : List Value} {xss : List (List Value)} (h : RdZ w a rv xss) (hn : New w w') : RdZ w' a rv xss := ⟨h.1.new hn, h.2⟩
theorem RdZ.at {w : World} {a : Option Addr} {rv : List Value} {xss : List (List Value)} (h : RdZ w a rv xss) (k : Nat) (hk : k < xss.length) :
  ∃ (b off : Nat) (a' : Option Addr) (c' : Nat), a = some ⟨b, off, none⟩ ∧ w.cell? ⟨b, off + k, none⟩ = some (.slice a' xss[k].length c') ∧ RdL w a' xss[k] ∧ xss[k].length ≤ c' ∧ (a' = none → c' = 0) := by
 have hk' : k < rv.length := by rw [h.1.2.1]; exact hk
 obtain ⟨b, off, e, hc⟩ := h.1.1 k hk'
 obtain ⟨a', c', e', hr⟩ := h.1.2.2 k rv[k] xss[k] (List.getElem?_eq_getElem hk') (List.getElem?_eq_getElem hk)
 exact ⟨b, off, a', c', e, by rw [hc, e'], hr.1, hr.2, h.2 k a' _ c' (by rw [List.getElem?_eq_getElem hk', e'])⟩
theorem RowsOf.rdz {w : World} {base : Nat} {ts te : TypeId} {out : Value} {xss : List (List Value)} (h : RowsOf w base ts te out xss) :
  ∃ (a : Option Addr) (cap : Nat) (vs : List Value), out = .slice a xss.length cap ∧ RdZ w a vs xss ∧ (0 < xss.length → ∃ L, a = some ⟨L, 0, none⟩) ∧ xss.length ≤ cap ∧ (a = none → cap = 0) := by
 obtain ⟨vs, h1, h2, h3⟩ := h
 obtain ⟨a, cap, e, hr, hc, hz⟩ := own_rdS' h1
 refine ⟨a, cap, vs, by rw [e, h2], ⟨⟨hr, h2, fun k v xs hk hx => ?_⟩, fun k a' l' c' hk ha => ?_⟩, fun h0 => ?_, by rw [← h2]; exact hc, hz⟩
 ·obtain ⟨a', c', e', hr', hc', -⟩ := own_rdS' (h3 k v xs hk hx).1
  exact ⟨a', c', e', hr', hc'⟩
 ·have hkl : k < vs.length := (List.getElem?_eq_some_iff.1 hk).1
  have hx : xss[k]? = some (xss[k]'(by omega)) := List.getElem?_eq_getElem (by omega)
  obtain ⟨a2, c2, e', -, -, hz'⟩ := own_rdS' (h3 k _ _ hk hx).1
  injection e' with e1 e2 e3
  rw [e3]
  exact hz' (by rw [← e1]; exact ha)
 ·rcases h1.2 with ⟨rfl, h4⟩ | ⟨g, cap2, cur, e2, _⟩
  ·omega
  ·rw [e] at e2
   injection e2 with e2
   exact ⟨g, e2⟩
set_option maxRecDepth 100000 in
theorem floats_row (a : Option Addr) (cap m : Nat) (xs : List Nat) (w : World) (hm : xs.length = m) (hl : m ≤ 5000) (hr : RdL w a (flts xs)) (hz : a = none → cap = 0) :
  Calls Tryz.prog 14 #[.slice a m cap] w (RowRet w 23 (flts xs)) := by
 obtain ⟨i0, hi0, hz0, hz1, hz2⟩ := info_parts info_f32
 have hlen : (flts xs).length = m * 1 := by simp [flts, hm]
 have HR := Lib.hid hr
 have HZ := Lib.hid hz
 have HLEN := Lib.hid hlen
 have HM := Lib.hid hm
 clear hr hz hlen hm
 go_enter Tryz.func14, Tryz.ntmps14
 go_wp2_with (at_builtin; refine wpList_append_copy rfl _ _ 22 rfl 23 i0 (.float .f32 0) 1 4 Tryz.underlying22 hi0 hz0 hz1 hz2 rfl (by decide) _ rfl a m cap (flts xs) rfl HLEN.out HR.out HZ.out (flts_cell xs) (by unfold maxLen; omega) (by omega) ?_)
 intro a1 c1 w1 hn ho _ _ _
 have hl2 : (flts xs).length = m := by rw [HLEN.out, Nat.mul_one]
 have HN := Lib.hid hn
 have HO := Lib.hid ho
 have HL2 := Lib.hid hl2
 clear hn ho hl2
 go_wp2_with fail
 go_ret
 exact ⟨_, rfl, HN.out, by rw [HL2.out]; exact HO.out⟩
end Go.Proofs.YtlfnibjmkfldgaaGreatDoor
