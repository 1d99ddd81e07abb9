/- Part CardReb04. -/
import Derived.Laws.AppendOwnNone
import Derived.Test.YtlfnibjmkfldgaaGreatDoorA16
import Derived.Test.YtlfnibjmkfldgaaGreatDoorA24
import Derived.Test.YtlfnibjmkfldgaaGreatDoorA29
import Derived.Test.YtlfnibjmkfldgaaGreatDoorA32
import Derived.Test.YtlfnibjmkfldgaaGreatDoorA33
import Derived.Test.YtlfnibjmkfldgaaGreatDoorCardReb01
import Derived.Test.YtlfnibjmkfldgaaGreatDoorCardReb03
namespace Go.Proofs.YtlfnibjmkfldgaaGreatDoor
open Go.RowKit Big
theorem own_rdS' {w : World} {base : Nat} {e : TypeId} {S : Nat} {v : Value} {n : Nat} {xs : List Value} (h : w.ownsRow base e S v n xs) : ∃ (a : Option Addr) (cap : Nat), v = .slice a n cap ∧ RdL w a xs ∧ n ≤ cap ∧ (a = none → cap = 0) := by
 have h1 := own_rdS h
 rcases h.2 with ⟨rfl, rfl⟩ | ⟨g, cap, cur, rfl, hb, hc, h2, h3, h4, h5⟩
 ·obtain ⟨a, cap, e, hr, -⟩ := h1
  injection e with e1 e2 e3
  subst e1
  subst e3
  exact ⟨none, 0, rfl, hr, Nat.le_refl _, fun _ => rfl⟩
 ·obtain ⟨a, cap', e, hr, -⟩ := h1
  injection e with e1 e2 e3
  subst e1
  subst e3
  exact ⟨_, _, rfl, hr, h2, fun h => by cases h⟩
theorem own_noneS (w : World) (t : TypeId) (S : Nat) : (w.alloc (.cells #[] t)).ownsRow w.heap.size t S (.slice (some ⟨w.heap.size, 0, none⟩) 0 0) 0 [] := by
 refine ⟨by simp, .inr ⟨w.heap.size, 0, #[], rfl, Nat.le_refl _, ?_, Nat.le_refl _, Nat.zero_le _, by simp, by simp⟩⟩
 exact Box.alloc w _ t #[] rfl
theorem wpList_append_copy {P : Program} {ops : Array Oper} {rest : List Oper} {o : Oper} {a : Act} {Q : Exit → Act → World → Prop} (hgd : o.guard = none) (s x : Operand) (t : TypeId)
  (ho : o.op = .call { callee := .builtin .append, args := #[s, x], argTypes := #[t, t] })
  (e : TypeId) (i : TypeInfo) (z : Value) (size bytes : Nat) (ht : P.underlying t = some (.slice e)) (hi : P.info? e = some i) (hz : i.zero = some z)
  (hsize : i.size = size) (hby : i.bytes = bytes) (hzs : z.cells.size = size) (hsz : 0 < size) (w : World)
  (hs : a.eval s = .slice (some ⟨w.heap.size, 0, none⟩) 0 0) (xa : Option Addr) (m c : Nat) (news : List Value) (hx : a.eval x = .slice xa m c) (hl : news.length = m * size) (hr : RdL w xa news) (hz0 : xa = none → c = 0)
  (h1 : ∀ u ∈ news, u.oneCell' = true) (h63 : m ≤ maxLen) (hbytes : m * bytes ≤ 140737488355328)
  (h : ∀ (a' : Option Addr) (c' : Nat) (w' : World), New w w' → w'.ownsRow w.heap.size e size (.slice a' m c') m news → RdL w' a' news → m ≤ c' → (a' = none → c' = 0) → wpList P ops Q rest (a.put o.dst (.slice a' m c')) w') :
  wpList P ops Q (o :: rest) a (w.alloc (.cells #[] e)) := by
 have hown := own_noneS w e size
 have hb : w.heap.size ≤ (w.alloc (.cells #[] e)).heap.size := ((New.refl w).alloc _).size
 by_cases h0 : xa = none
 ·subst h0
  have hm : m = 0 := by
   rcases Nat.eq_zero_or_pos m with h | h
   ·exact h
   ·obtain ⟨b, off, e, -⟩ := hr 0 (by rw [hl]; exact Nat.mul_pos h hsz)
    cases e
  subst hm
  rw [hz0 rfl] at hx
  have hn : news = [] := by
   rw [Nat.zero_mul] at hl
   exact List.eq_nil_of_length_eq_zero hl
  subst hn
  refine wpList_append_own_none hgd s x t ho w.heap.size e i size ht hi _ 0 [] hs hown hx ?_
  exact h _ _ _ ((New.refl w).alloc _) hown (fun i hi => by simp at hi) (Nat.le_refl _) (fun h => by cases h)
 ·obtain ⟨ad, rfl⟩ : ∃ ad, xa = some ad := by
   cases xa with
   | none => exact absurd rfl h0
   | some ad => exact ⟨ad, rfl⟩
  have hsrc : ∀ (j : Nat) (v : Value), news[j]? = some v → (w.alloc (.cells #[] e)).cell? (ad.add j) = some v := by
   intro j v hj
   have h0 : 0 < news.length := by have := (List.getElem?_eq_some_iff.1 hj).1; omega
   obtain ⟨ad', e, hs⟩ := hr.src h0
   injection e with e
   rw [e]
   exact ((New.refl w).alloc _).cell (hs j v hj)
  refine wpList_append_own _ hgd s x t ho w.heap.size e i z size bytes ht hi hz hsize hby hzs hsz _ 0 [] hs hown ad m c news hx hl hsrc h1 (by omega) (by simpa using hbytes) hb ?_
  intro v' w9 hown' hgrow _
  have hN1 : New w w9 := grown_newS' ((New.refl w).alloc _) hown hgrow
  rw [Nat.zero_add, List.nil_append] at hown'
  obtain ⟨a', c', rfl, hrd, hc, hnn⟩ := own_rdS' hown'
  exact h a' c' w9 hN1 hown' hrd hc hnn
end Go.Proofs.YtlfnibjmkfldgaaGreatDoor
namespace Go.Proofs.YtlfnibjmkfldgaaGreatDoor
open Go.RowKit Big
theorem rdl_nil (w : World) (a : Option Addr) : RdL w a [] := fun i hi => by simp at hi
theorem sameb_self (a b : Option Addr) (cap cap' : Nat) (xs : List Bool) (w : World) (hl : xs.length ≤ 1000000) (hr1 : RdL w a (bools xs)) (hr2 : RdL w b (bools xs)) :
  Calls Tryz.prog 22 #[.slice a xs.length cap, .slice b xs.length cap'] w fun e w' => e = .returned (.bool true) ∧ New w w' :=
 same_bools a b cap cap' xs xs w hl rfl hr1 hr2 (by intro k h h'; simp)
end Go.Proofs.YtlfnibjmkfldgaaGreatDoor
namespace Go.Proofs.YtlfnibjmkfldgaaGreatDoor
def AwakeOk : Prop := ∀ w, Env w → Calls Tryz.prog 12 #[] w fun e w' => e = .returned (.bool true) ∧ New w w'
end Go.Proofs.YtlfnibjmkfldgaaGreatDoor
