/- Part CardWords02. -/
import Derived.Laws.AppendOwnNone
import Derived.Test.YtlfnibjmkfldgaaGreatDoorA32
import Derived.Test.YtlfnibjmkfldgaaGreatDoorCardWords01
namespace Go.Proofs.YtlfnibjmkfldgaaGreatDoor
open Go.RowKit Big
def RdPost (w : World) (n : Nat) (xs : List Value) (en : Ending) (w' : World) : Prop := ∃ (a : Option Addr) (cap : Nat), en = .returned (.slice a n cap) ∧ New w w' ∧ RdL w' a xs ∧ n ≤ cap ∧ (a = none → cap = 0)
theorem own_rd' {w : World} {base : Nat} {e : TypeId} {v : Value} {n : Nat} {xs : List Value} (h : w.ownsRow base e 1 v n xs) : ∃ (a : Option Addr) (cap : Nat), v = .slice a n cap ∧ RdL w a xs ∧ n ≤ cap ∧ (a = none → cap = 0) := by
 have h1 := own_rd h
 rcases h.2 with ⟨rfl, rfl⟩ | ⟨g, cap, cur, rfl, hb, hc, h2, h3, h4, h5⟩
 ·obtain ⟨a, cap, e, hr, -⟩ := h1
  injection e with e1 e2 e3
  subst e1
  subst e3
  exact ⟨none, 0, rfl, hr, Nat.le_refl _, fun _ => rfl⟩
 ·obtain ⟨a, cap', e, hr, -⟩ := h1
  injection e with e1 e2 e3
  subst e1
  subst e3
  exact ⟨_, _, rfl, hr, h2, fun h => by cases h⟩
theorem own_none {w : World} {base : Nat} {e : TypeId} (hb : base ≤ w.heap.size) : (w.alloc (.cells #[] e)).ownsRow base e 1 (.slice (some ⟨w.heap.size, 0, none⟩) 0 0) 0 [] := by
 refine ⟨rfl, .inr ⟨w.heap.size, 0, #[], rfl, hb, ?_, Nat.le_refl _, Nat.zero_le _, rfl, rfl⟩⟩
 exact Box.alloc w _ e #[] rfl
set_option maxRecDepth 100000 in
theorem words_calls (a : Option Addr) (cap : Nat) (vs : List Value) (w : World) (hl : vs.length ≤ 5000) (hr : RdL w a vs) (hz : a = none → cap = 0) (h1 : ∀ u ∈ vs, u.oneCell' = true) :
  Calls Tryz.prog 31 #[.slice a vs.length cap] w (RdPost w vs.length vs) := by
 obtain ⟨i0, hi, hz0, hz1, hz2⟩ := info_parts info_u16
 have hO : (w.alloc (.cells #[] 70)).ownsRow w.heap.size 70 1 (.slice (some ⟨w.heap.size, 0, none⟩) 0 0) 0 [] := own_none (e := 70) (Nat.le_refl _)
 obtain ⟨n, hn⟩ : ∃ n, vs.length = n := ⟨_, rfl⟩
 rw [hn] at hl ⊢
 cases a with
 | none =>
  have h0 : n = 0 := by
   cases vs with
   | nil => exact hn.symm
   | cons v vs => obtain ⟨b, off, e, -⟩ := hr 0 (by simp); cases e
  have hv : vs = [] := by
   cases vs with
   | nil => rfl
   | cons v vs => rw [h0] at hn; simp at hn
  subst h0
  subst hv
  rw [hz rfl]
  clear hr h1 hl hz hn
  have HO := Lib.hid hO
  clear hO
  go_enter Tryz.func31, Tryz.ntmps31
  go_wp2_with (at_builtin; refine wpList_append_own_none rfl _ _ 58 rfl w.heap.size 70 i0 1 Tryz.underlying58 hi _ 0 [] rfl HO.out rfl ?_)
  go_wp2_with fail
  go_ret
  exact ⟨_, 0, rfl, (New.refl _).alloc _, fun i hi => by simp at hi, Nat.le_refl _, fun h => by cases h⟩
 | some ad =>
  have hsrc : ∀ (j : Nat) (v : Value), vs[j]? = some v → w.cell? (ad.add j) = some v := by
   intro j v hj
   have h0 : 0 < vs.length := by have := (List.getElem?_eq_some_iff.1 hj).1; omega
   obtain ⟨ad', e, hs⟩ := hr.src h0
   injection e with e
   rw [e]
   exact hs j v hj
  clear hr hz
  have HO := Lib.hid hO
  have HSRC := Lib.hid hsrc
  have H1 := Lib.hid h1
  have HN := Lib.hid hn
  have HL := Lib.hid hl
  clear hO hsrc h1 hn hl
  go_enter Tryz.func31, Tryz.ntmps31
  go_wp2_with (at_builtin; refine wpList_append_own _ rfl _ _ 58 rfl w.heap.size 70 i0 (.int .u16 0) 1 2 Tryz.underlying58 hi hz0 hz1 hz2 rfl (by decide) _ 0 [] rfl HO.out ad n cap vs rfl (by rw [HN.out, Nat.mul_one]) (fun j u hj => by exact ((New.refl w).alloc _).cell (HSRC.out j u hj)) H1.out (by have := HL.out; unfold maxLen; omega) (by have := HL.out; omega) (by rw [← size_alloc]; omega) ?_)
  intro v' w9 hown' hgrow _
  have hN1 : New w w9 := grown_newS' ((New.refl w).alloc _) HO.out hgrow
  have hO1 : w9.ownsRow w.heap.size 70 1 v' n vs := by simpa using hown'
  clear hown' hgrow
  obtain ⟨a', cap', rfl, hrd, hc, hnn⟩ := own_rd' hO1
  clear hO1
  have HN1 := Lib.hid hN1
  have HRD := Lib.hid hrd
  have HC := Lib.hid hc
  have HNN := Lib.hid hnn
  clear hN1 hrd hc hnn
  go_wp2_with fail
  go_ret
  exact ⟨a', cap', rfl, HN1.out, HRD.out, HC.out, HNN.out⟩
end Go.Proofs.YtlfnibjmkfldgaaGreatDoor
