/- Part CardSk03. -/
import Derived.Deep.DeepCutAuto
import Derived.Laws.AppendOwnNone
import Derived.Maps.AppendAt
import Derived.Test.YtlfnibjmkfldgaaGreatDoorA13
import Derived.Test.YtlfnibjmkfldgaaGreatDoorA20
import Derived.Test.YtlfnibjmkfldgaaGreatDoorA25
import Derived.Test.YtlfnibjmkfldgaaGreatDoorA27
import Derived.Test.YtlfnibjmkfldgaaGreatDoorA28
import Derived.Test.YtlfnibjmkfldgaaGreatDoorA29
import Derived.Test.YtlfnibjmkfldgaaGreatDoorCardSk01
import Derived.Test.YtlfnibjmkfldgaaGreatDoorCardSk02
namespace Go.Proofs.YtlfnibjmkfldgaaGreatDoor
open Go.RowKit Big
def skF (c : Nat → Int) : Nat → Int
 | 0 => 0
 | k + 1 => max (skF c k) (c k)
def skT (m : Int) (c : Nat → Int) : Nat → Int
 | 0 => m
 | k + 1 => min (skT m c k) (c k)
def skPiece (xs : List Nat) (lo hi : Int) : List Nat := (xs.drop lo.toNat).take (hi.toNat - lo.toNat)
def skRs (xs : List Nat) (lo hi : Nat → Int) (k : Nat) : List (List Nat) := (List.range k).map fun j => skPiece xs (lo j) (hi j)
def skSs (lo : Nat → Int) (d : Int) (k : Nat) : List Int := (List.range k).map fun j => d - lo j
theorem skRs_snoc (xs : List Nat) (lo hi : Nat → Int) (k : Nat) : (skRs xs lo hi (k + 1)).map flts = (skRs xs lo hi k).map flts ++ [flts (skPiece xs (lo k) (hi k))] := by simp [skRs, List.range_succ]
theorem skSs_snoc (lo : Nat → Int) (d : Int) (k : Nat) : ints (skSs lo d (k + 1)) = ints (skSs lo d k) ++ [.int .i64 (d - lo k)] := by simp [skSs, List.range_succ, ints]
theorem skRs_len (xs : List Nat) (lo hi : Nat → Int) (k : Nat) : (skRs xs lo hi k).length = k := by simp [skRs]
theorem skSs_len (lo : Nat → Int) (d : Int) (k : Nat) : (skSs lo d k).length = k := by simp [skSs]
theorem skRs_get (xs : List Nat) (lo hi : Nat → Int) (k j : Nat) (h : j < (skRs xs lo hi k).length) : (skRs xs lo hi k)[j] = skPiece xs (lo j) (hi j) := by simp [skRs]
theorem skSs_get (lo : Nat → Int) (d : Int) (k j : Nat) (h : j < (skSs lo d k).length) : (skSs lo d k)[j] = d - lo j := by simp [skSs]
theorem skF_ge (c : Nat → Int) : ∀ k, 0 ≤ skF c k ∧ ∀ j, j < k → c j ≤ skF c k := by
 intro k
 induction k with
 | zero => exact ⟨Int.le_refl _, fun j h => by omega⟩
 | succ k ih =>
  have e : skF c (k + 1) = max (skF c k) (c k) := rfl
  refine ⟨by rw [e]; omega, fun j h => ?_⟩
  rcases Nat.lt_or_ge j k with h1 | h1
  ·have := ih.2 j h1; rw [e]; omega
  ·obtain rfl : j = k := by omega
   rw [e]; omega
theorem skT_le (m : Int) (c : Nat → Int) : ∀ k, skT m c k ≤ m ∧ ∀ j, j < k → skT m c k ≤ c j := by
 intro k
 induction k with
 | zero => exact ⟨Int.le_refl _, fun j h => by omega⟩
 | succ k ih =>
  have e : skT m c (k + 1) = min (skT m c k) (c k) := rfl
  refine ⟨by rw [e]; omega, fun j h => ?_⟩
  rcases Nat.lt_or_ge j k with h1 | h1
  ·have := ih.2 j h1; rw [e]; omega
  ·obtain rfl : j = k := by omega
   rw [e]; omega
theorem skT_ge0 (m : Int) (c : Nat → Int) (hm : 0 ≤ m) : ∀ k, (∀ j, j < k → 0 ≤ c j) → 0 ≤ skT m c k := by
 intro k
 induction k with
 | zero => intro _; exact hm
 | succ k ih =>
  intro h
  have e : skT m c (k + 1) = min (skT m c k) (c k) := rfl
  have := ih fun j hj => h j (by omega)
  have := h k (by omega)
  rw [e]; omega
theorem alF_sk (lo : Nat → Int) (d : Int) (K : Nat) (h1 : 1 ≤ K) (h0 : ∀ j, j < K → 0 ≤ lo j) : alF (skSs lo d K) = skF lo K - d := by
 have hl := skSs_len lo d K
 have hh : (skSs lo d K).headD 0 = d - lo 0 := by
  obtain ⟨k, rfl⟩ : ∃ k, K = k + 1 := ⟨K - 1, by omega⟩
  simp [skSs, List.range_succ_eq_map]
 unfold alF
 rw [hh]
 have key : ∀ k, k ≤ K → 0 < k → alFrom (-(d - lo 0)) ((skSs lo d K).take k) = skF lo k - d := by
  intro k
  induction k with
  | zero => intro _ h; omega
  | succ k ih =>
   intro hk _
   have hz : k < (skSs lo d K).length := by omega
   have e : skF lo (k + 1) = max (skF lo k) (lo k) := rfl
   rw [List.take_succ_eq_append_getElem hz]
   unfold alFrom
   rw [List.foldl_append, skSs_get, e]
   simp only [List.foldl_cons, List.foldl_nil]
   by_cases hk0 : k = 0
   ·subst hk0
    have e0 : skF lo 0 = 0 := rfl
    have := h0 0 (by omega)
    rw [e0]
    simp only [List.take_zero, List.foldl_nil]
    omega
   ·have := ih (by omega) (by omega)
    unfold alFrom at this
    rw [this]; omega
 have := key K (Nat.le_refl _) (by omega)
 rw [List.take_of_length_le (by omega)] at this
 exact this
theorem alT_sk (xs : List Nat) (lo hi : Nat → Int) (d : Int) (K : Nat) (h1 : 1 ≤ K) (h0 : ∀ j, j < K → 0 ≤ lo j ∧ lo j ≤ hi j ∧ hi j ≤ (xs.length : Int)) : alT (skRs xs lo hi K) (skSs lo d K) = skT (xs.length : Int) hi K - d := by
 have hlen : ∀ j, j < K → ((skPiece xs (lo j) (hi j)).length : Int) = hi j - lo j := fun j hj => by
  have := h0 j hj
  unfold skPiece
  rw [List.length_take, List.length_drop]; omega
 have hh : (skSs lo d K).headD 0 = d - lo 0 := by
  obtain ⟨k, rfl⟩ : ∃ k, K = k + 1 := ⟨K - 1, by omega⟩
  simp [skSs, List.range_succ_eq_map]
 have hr : (((skRs xs lo hi K).headD []).length : Int) = hi 0 - lo 0 := by
  rw [← hlen 0 (by omega)]
  obtain ⟨k, rfl⟩ : ∃ k, K = k + 1 := ⟨K - 1, by omega⟩
  simp [skRs, List.range_succ_eq_map]
 have hpl : (alPairs (skRs xs lo hi K) (skSs lo d K)).length = K := by simp [alPairs, skRs_len, skSs_len]
 unfold alT
 rw [hh, hr]
 have key : ∀ k, k ≤ K → 0 < k → alTo (hi 0 - lo 0 - (d - lo 0)) ((alPairs (skRs xs lo hi K) (skSs lo d K)).take k) = skT (xs.length : Int) hi k - d := by
  intro k
  induction k with
  | zero => intro _ h; omega
  | succ k ih =>
   intro hk _
   have hz : k < (alPairs (skRs xs lo hi K) (skSs lo d K)).length := by omega
   have hp : (alPairs (skRs xs lo hi K) (skSs lo d K))[k] = ((skPiece xs (lo k) (hi k)).length, d - lo k) := by simp [alPairs, skRs, skSs]
   have e : skT (xs.length : Int) hi (k + 1) = min (skT (xs.length : Int) hi k) (hi k) := rfl
   rw [List.take_succ_eq_append_getElem hz]
   unfold alTo
   rw [List.foldl_append, hp, e]
   simp only [List.foldl_cons, List.foldl_nil]
   rw [hlen k (by omega)]
   by_cases hk0 : k = 0
   ·subst hk0
    have e0 : skT (xs.length : Int) hi 0 = (xs.length : Int) := rfl
    have := h0 0 (by omega)
    rw [e0]
    simp only [List.take_zero, List.foldl_nil]
    omega
   ·have := ih (by omega) (by omega)
    unfold alTo at this
    rw [this]; omega
 have := key K (Nat.le_refl _) (by omega)
 rw [List.take_of_length_le (by omega)] at this
 exact this
theorem samplesErr_piece {xs : List Nat} (h : samplesErr xs = 0) (lo hi : Int) : samplesErr (skPiece xs lo hi) = 0 := by
 have h1 := samplesErr_len h
 have h2 := fins_of h
 unfold samplesErr
 have hl : (skPiece xs lo hi).length ≤ xs.length := by unfold skPiece; rw [List.length_take, List.length_drop]; omega
 rw [if_neg (by omega), if_pos]
 rw [List.all_eq_true]
 intro x hx
 exact h2 x (List.mem_of_mem_drop (List.mem_of_mem_take hx))
theorem recErr_all : ∀ {rs : List (List Nat)}, (∀ x ∈ rs, samplesErr x = 0) → recErr rs = 0
 | [], _ => rfl
 | x :: r, h => by
  unfold recErr
  rw [if_pos (h x (by simp))]
  exact recErr_all fun y hy => h y (by simp [hy])
theorem skewErr_all : ∀ {ss : List Int}, (∀ s ∈ ss, -1000 ≤ s ∧ s ≤ 1000) → skewErr ss = 0
 | [], _ => rfl
 | s :: r, h => by
  unfold skewErr
  have := h s (by simp)
  rw [if_neg (by simp only [outside, Bool.not_eq_true, Bool.or_eq_false_iff, decide_eq_false_iff_not]; omega)]
  exact skewErr_all fun y hy => h y (by simp [hy])
theorem sk_aligned {xs : List Nat} {lo hi : Nat → Int} {d : Int} {K : Nat} (h1 : 1 ≤ K) (h6 : K ≤ 6) (hs : samplesErr xs = 0) (hx : xs.length ≤ 64) (hd : -100 ≤ d ∧ d ≤ 100) (h0 : ∀ j, j < K → 0 ≤ lo j ∧ lo j ≤ hi j ∧ hi j ≤ (xs.length : Int)) :
  alE (skRs xs lo hi K) (skSs lo d K) = (if skF lo K < skT (xs.length : Int) hi K then 0 else 16) ∧
  (skF lo K < skT (xs.length : Int) hi K → alP (skRs xs lo hi K) (skSs lo d K) = List.replicate K ((skPiece xs (skF lo K) (skT (xs.length : Int) hi K)).map addz)) := by
 have eF := alF_sk lo d K h1 fun j hj => (h0 j hj).1
 have eT := alT_sk xs lo hi d K h1 h0
 have eE : alErr (skRs xs lo hi K) (skSs lo d K) = 0 := by
  unfold alErr
  rw [skRs_len, skSs_len, if_neg (by omega), if_neg (by omega), if_pos, if_pos rfl]
  ·refine skewErr_all fun s hs => ?_
   simp only [skSs, List.mem_map, List.mem_range] at hs
   obtain ⟨j, hj, rfl⟩ := hs
   have := h0 j hj
   omega
  ·refine recErr_all fun x hx => ?_
   simp only [skRs, List.mem_map, List.mem_range] at hx
   obtain ⟨j, hj, rfl⟩ := hx
   exact samplesErr_piece hs _ _
 have eA : alE (skRs xs lo hi K) (skSs lo d K) = (if skF lo K < skT (xs.length : Int) hi K then 0 else 16) := by
  unfold alE
  rw [if_pos eE, eF, eT]
  by_cases h : skF lo K < skT (xs.length : Int) hi K
  ·rw [if_pos h, if_pos (by omega)]
  ·rw [if_neg h, if_neg (by omega)]
 refine ⟨eA, fun hlt => ?_⟩
 unfold alP
 rw [if_pos (by rw [eA, if_pos hlt]), eF, eT]
 apply List.ext_getElem
 ·simp [alPieces, skRs_len, skSs_len]
 ·intro j g1 g2
  have hj : j < K := by simpa using g2
  have hb := h0 j hj
  have hF := (skF_ge lo K).2 j hj
  have hF0 := (skF_ge lo K).1
  have hT := (skT_le (xs.length : Int) hi K).2 j hj
  simp only [alPieces, List.getElem_zipWith, List.getElem_replicate]
  rw [skRs_get, skSs_get]
  unfold alPiece skPiece
  congr 1
  rw [List.drop_take, List.drop_drop, List.take_take]
  generalize skF lo K = F at *
  generalize skT (xs.length : Int) hi K = T at *
  have e1 : (lo j).toNat + (F - d + (d - lo j)).toNat = F.toNat := by omega
  rw [e1]
  congr 1
  omega
theorem own_apart {w : World} {base base' : Nat} {t t' : TypeId} {S S' : Nat} {v v' : Value} {n n' : Nat} {xs xs' : List Value} (h : w.ownsRow base t S v n xs) (h' : w.ownsRow base' t' S' v' n' xs') (ht : t ≠ t') : v.ownBlock = none ∨ v.ownBlock ≠ v'.ownBlock := by
 rcases h.2 with ⟨rfl, _⟩ | ⟨g, cap, cur, rfl, _, h1, _⟩
 ·exact .inl rfl
 ·rcases h'.2 with ⟨rfl, _⟩ | ⟨g', cap', cur', rfl, _, h1', _⟩
  ·exact .inr (by intro h; cases h)
  ·right
   intro e
   injection e with e
   simp only at e
   subst e
   rw [h1] at h1'
   injection h1' with h1'
   injection h1' with _ h1' _
   exact ht h1'
theorem box_apart {w : World} {base B : Nat} {t t' : TypeId} {S : Nat} {v : Value} {n : Nat} {xs : List Value} {cs : Array Value} (h : w.ownsRow base t S v n xs) (h' : Box w B t' cs) (ht : t ≠ t') : v.ownBlock ≠ some B := by
 rcases h.2 with ⟨rfl, _⟩ | ⟨g, cap, cur, rfl, _, h1, _⟩
 ·intro h; cases h
 ·intro e
  injection e with e
  simp only at e
  subst e
  unfold Box at h'
  rw [h1] at h'
  injection h' with h'
  injection h' with _ h' _
  exact ht h'
theorem Box.grow {w w' : World} {B : Nat} {t : TypeId} {cs : Array Value} {r : Option Nat} (h : Box w B t cs) (hg : w.grownBy w' r) (hne : r ≠ some B) : Box w' B t cs := by
 unfold Box at h ⊢
 rw [hg.block B (Box.lt h) (fun e => hne e.symm)]
 exact h
theorem RowsOf.apart {w w' : World} {base base' : Nat} {ts te ti : TypeId} {S : Nat} {out v : Value} {xss : List (List Value)} {n : Nat} {xs : List Value} (h : RowsOf w base ts te out xss) (hv : w.ownsRow base' ti S v n xs) (hg : w.grownBy w' v.ownBlock) (h1 : ts ≠ ti) (h2 : te ≠ ti) : RowsOf w' base ts te out xss := by
 obtain ⟨vs, r1, r2, r3⟩ := h
 refine ⟨vs, World.ownsRow.kept r1 hg (own_apart r1 hv h1), r2, fun k u ys hk hx => ?_⟩
 obtain ⟨s1, s2⟩ := r3 k u ys hk hx
 exact ⟨World.ownsRow.kept s1 hg (own_apart s1 hv h2), s2⟩
structure Sk3 (w0 w : World) (v7 v8 v9 : Value) (R : List (List Value)) (S O : List Value) (n8 n9 : Nat) : Prop where
 r : RowsOf w w0.heap.size 22 23 v7 R
 s : w.ownsRow w0.heap.size 3 1 v8 n8 S
 o : w.ownsRow w0.heap.size 3 1 v9 n9 O
 d : v8.ownBlock = none ∨ v8.ownBlock ≠ v9.ownBlock
 n : New w0 w
theorem Sk3.new {w0 w w' : World} {v7 v8 v9 : Value} {R : List (List Value)} {S O : List Value} {n8 n9 : Nat} (h : Sk3 w0 w v7 v8 v9 R S O n8 n9) (hn : New w w') : Sk3 w0 w' v7 v8 v9 R S O n8 n9 := ⟨h.r.new hn, own_newS h.s hn, own_newS h.o hn, h.d, h.n.trans hn⟩
theorem Sk3.push8 {w0 w w' : World} {v7 v8 v9 v' : Value} {R : List (List Value)} {S O S' : List Value} {n8 n9 m8 : Nat} (h : Sk3 w0 w v7 v8 v9 R S O n8 n9) (hown : w'.ownsRow w0.heap.size 3 1 v' m8 S') (hg : w.grownBy w' v8.ownBlock) (hat : v'.ownBlock = v8.ownBlock ∨ v'.ownBlock = some w.heap.size) : Sk3 w0 w' v7 v' v9 R S' O m8 n9 := by
 have hd : v9.ownBlock = none ∨ v9.ownBlock ≠ v8.ownBlock := by
  rcases h.d with e | e
  ·cases h9 : v9.ownBlock with
   | none => exact .inl rfl
   | some g => exact .inr (by rw [e]; intro h; cases h)
  ·exact .inr (Ne.symm e)
 refine ⟨h.r.apart h.s hg (by decide) (by decide), hown, World.ownsRow.kept h.o hg hd, ?_, grown_newS' h.n h.s hg⟩
 rcases hat with e | e
 ·rw [e]; exact h.d
 ·right
  rw [e]
  intro e2
  have := (own_lt h.o e2.symm).2
  omega
theorem Sk3.push9 {w0 w w' : World} {v7 v8 v9 v' : Value} {R : List (List Value)} {S O O' : List Value} {n8 n9 m9 : Nat} (h : Sk3 w0 w v7 v8 v9 R S O n8 n9) (hown : w'.ownsRow w0.heap.size 3 1 v' m9 O') (hg : w.grownBy w' v9.ownBlock) (hat : v'.ownBlock = v9.ownBlock ∨ v'.ownBlock = some w.heap.size) : Sk3 w0 w' v7 v8 v' R S O' n8 m9 := by
 refine ⟨h.r.apart h.o hg (by decide) (by decide), World.ownsRow.kept h.s hg h.d, hown, ?_, grown_newS' h.n h.o hg⟩
 rcases hat with e | e
 ·rw [e]; exact h.d
 ·cases h8 : v8.ownBlock with
  | none => exact .inl rfl
  | some g =>
   right
   rw [e]
   intro e2
   injection e2 with e2
   have := (own_lt h.s h8).2
   omega
theorem Sk3.push7 {w0 wr w1 w2 : World} {v7 v8 v9 v' v : Value} {R : List (List Value)} {S O : List Value} {n8 n9 : Nat} {xs : List Value} {o : Obj} (h : Sk3 w0 wr v7 v8 v9 R S O n8 n9) (hn : New wr w1) (hv : w1.ownsRow wr.heap.size 23 1 v xs.length xs)
  (vs : List Value) (r1 : wr.ownsRow w0.heap.size 22 1 v7 vs.length vs) (r2 : vs.length = R.length) (r3 : ∀ (k : Nat) (v : Value) (xs : List Value), vs[k]? = some v → R[k]? = some xs → wr.ownsRow w0.heap.size 23 1 v xs.length xs ∧ (v.ownBlock = none ∨ v.ownBlock ≠ v7.ownBlock))
  (hown : w2.ownsRow w0.heap.size 22 1 v' (vs.length + 1) (vs ++ [v])) (hg : (w1.alloc o).grownBy w2 v7.ownBlock) (hat : v'.ownBlock = v7.ownBlock ∨ v'.ownBlock = some (w1.heap.size + 1)) : Sk3 w0 w2 v' v8 v9 (R ++ [xs]) S O n8 n9 := by
 have h1 := h.new (hn.alloc o)
 have r1' := own_newS r1 (hn.alloc o)
 refine ⟨RowsOf.snoc r1 r2 r3 hn hv h.n.size hown hg hat, World.ownsRow.kept h1.s hg (own_apart h1.s r1' (by decide)), World.ownsRow.kept h1.o hg (own_apart h1.o r1' (by decide)), h.d, grown_newS' (h.n.trans (hn.alloc o)) r1' hg⟩
theorem box_push {w w' : World} {base B : Nat} {t t' : TypeId} {S : Nat} {v : Value} {n : Nat} {xs : List Value} {cs : Array Value} {o : Obj} (h : Box w B t cs) (hv : w.ownsRow base t' S v n xs) (hg : (w.alloc o).grownBy w' v.ownBlock) (ht : t' ≠ t) : Box w' B t cs :=
 Box.grow (Box.new h ((New.refl w).alloc o)) hg (box_apart (World.ownsRow.alloc hv o) (Box.new h ((New.refl w).alloc o)) ht)
theorem own_fresh {w : World} {base : Nat} {t : TypeId} {S : Nat} {v : Value} {n : Nat} {xs : List Value} (h : w.ownsRow base t S v n xs) : v.ownBlock ≠ some w.heap.size := fun e => by
 have := (own_lt h e).2
 omega
theorem sliced_floats {w : World} {a a' : Option Addr} {ca m l0 l1 : Nat} {xs : List Nat} (hmc : m ≤ ca) (h01 : l0 ≤ l1) (h1 : l1 ≤ m) (hm : xs.length = m) (hza : a = none → ca = 0) (hr : RdL w a (flts xs))
  (ha : (if ca = l0 then a else Option.map (fun x => x.add l0) a) = a') : RdL w a' (flts (skPiece xs (l0 : Int) (l1 : Int))) ∧ (a' = none → ca - l0 = 0) := by
 subst ha
 have hpl : (skPiece xs (l0 : Int) (l1 : Int)).length = l1 - l0 := by unfold skPiece; rw [List.length_take, List.length_drop, hm]; omega
 constructor
 ·intro i hi
  have hi2 : i < l1 - l0 := by simpa [flts, hpl] using hi
  obtain ⟨b, off, rfl, hc⟩ := hr (l0 + i) (by simp [flts, hm]; omega)
  rw [if_neg (by omega)]
  refine ⟨b, off + l0, ?_, ?_⟩
  ·simp only [Option.map_some, Addr.add]
   split
   ·rename_i h; subst h; rfl
   ·rfl
  ·rw [Nat.add_assoc, hc]
   simp [flts, skPiece]
 ·intro h
  by_cases hc : ca = l0
  ·omega
  ·rw [if_neg hc] at h
   have : a = none := by
    cases a with
    | none => rfl
    | some a => cases h
   have := hza this
   omega
end Go.Proofs.YtlfnibjmkfldgaaGreatDoor
