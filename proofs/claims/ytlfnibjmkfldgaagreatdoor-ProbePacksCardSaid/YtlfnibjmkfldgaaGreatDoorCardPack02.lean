/- Part CardPack02. -/
import Derived.Laws.AppendOwnNone
import Derived.Test.YtlfnibjmkfldgaaGreatDoorA23
import Derived.Test.YtlfnibjmkfldgaaGreatDoorA25
import Derived.Test.YtlfnibjmkfldgaaGreatDoorA28
import Derived.Test.YtlfnibjmkfldgaaGreatDoorCardPack01
namespace Go.Proofs.YtlfnibjmkfldgaaGreatDoor
open Go.RowKit Big
set_option maxRecDepth 100000 in
theorem blocks_bad (a : Option Addr) (n cap : Nat) (w : World) (hn : n ≤ 1000000) (h0 : fewErr n ≠ 0) :
  Calls Tryz.prog 37 #[.slice a n cap] w fun e w' => e = .returned (.tuple #[.slice none 0 0, .int .i64 (fewErr n)]) ∧ New w w' := by
 obtain ⟨e1, he1⟩ : ∃ e1, fewErr n = e1 := ⟨_, rfl⟩
 have hfew := fun W => few_u16 a n cap W (by omega)
 rw [he1] at hfew h0 ⊢
 have hne : (e1 != 0) = true := by rw [bne_iff_ne]; exact h0
 have HFEW := Lib.hid hfew
 have HE1 := Lib.hid he1
 clear hfew he1
 go_enter Tryz.func37, Tryz.ntmps37
 go_wp2_with fail
 refine (HFEW.out _).mono ?_
 rintro e w1 ⟨rfl, hn⟩
 have HN := Lib.hid hn
 clear hn
 go_wp2_with fail
 go_ret2
 exact ⟨rfl, HN.out⟩
end Go.Proofs.YtlfnibjmkfldgaaGreatDoor
namespace Go.Proofs.YtlfnibjmkfldgaaGreatDoor
open Go.RowKit Big
theorem own_rdS' {w : World} {base : Nat} {e : TypeId} {S : Nat} {v : Value} {n : Nat} {xs : List Value} (h : w.ownsRow base e S v n xs) : ∃ (a : Option Addr) (cap : Nat), v = .slice a n cap ∧ RdL w a xs ∧ n ≤ cap ∧ (a = none → cap = 0) := by
 have h1 := own_rdS h
 rcases h.2 with ⟨rfl, rfl⟩ | ⟨g, cap, cur, rfl, hb, hc, h2, h3, h4, h5⟩
 ·obtain ⟨a, cap, e, hr, -⟩ := h1
  injection e with e1 e2 e3
  subst e1
  subst e3
  exact ⟨none, 0, rfl, hr, Nat.le_refl _, fun _ => rfl⟩
 ·obtain ⟨a, cap', e, hr, -⟩ := h1
  injection e with e1 e2 e3
  subst e1
  subst e3
  exact ⟨_, _, rfl, hr, h2, fun h => by cases h⟩
theorem own_noneS (w : World) (t : TypeId) (S : Nat) : (w.alloc (.cells #[] t)).ownsRow w.heap.size t S (.slice (some ⟨w.heap.size, 0, none⟩) 0 0) 0 [] := by
 refine ⟨by simp, .inr ⟨w.heap.size, 0, #[], rfl, Nat.le_refl _, ?_, Nat.le_refl _, Nat.zero_le _, by simp, by simp⟩⟩
 exact Box.alloc w _ t #[] rfl
theorem wpList_append_copy {P : Program} {ops : Array Oper} {rest : List Oper} {o : Oper} {a : Act} {Q : Exit → Act → World → Prop} (hgd : o.guard = none) (s x : Operand) (t : TypeId)
  (ho : o.op = .call { callee := .builtin .append, args := #[s, x], argTypes := #[t, t] })
  (e : TypeId) (i : TypeInfo) (z : Value) (size bytes : Nat) (ht : P.underlying t = some (.slice e)) (hi : P.info? e = some i) (hz : i.zero = some z)
  (hsize : i.size = size) (hby : i.bytes = bytes) (hzs : z.cells.size = size) (hsz : 0 < size) (w : World)
  (hs : a.eval s = .slice (some ⟨w.heap.size, 0, none⟩) 0 0) (xa : Option Addr) (m c : Nat) (news : List Value) (hx : a.eval x = .slice xa m c) (hl : news.length = m * size) (hr : RdL w xa news) (hz0 : xa = none → c = 0)
  (h1 : ∀ u ∈ news, u.oneCell' = true) (h63 : m ≤ maxLen) (hbytes : m * bytes ≤ 140737488355328)
  (h : ∀ (a' : Option Addr) (c' : Nat) (w' : World), New w w' → w'.ownsRow w.heap.size e size (.slice a' m c') m news → RdL w' a' news → m ≤ c' → (a' = none → c' = 0) → wpList P ops Q rest (a.put o.dst (.slice a' m c')) w') :
  wpList P ops Q (o :: rest) a (w.alloc (.cells #[] e)) := by
 have hown := own_noneS w e size
 have hb : w.heap.size ≤ (w.alloc (.cells #[] e)).heap.size := ((New.refl w).alloc _).size
 by_cases h0 : xa = none
 ·subst h0
  have hm : m = 0 := by
   rcases Nat.eq_zero_or_pos m with h | h
   ·exact h
   ·obtain ⟨b, off, e, -⟩ := hr 0 (by rw [hl]; exact Nat.mul_pos h hsz)
    cases e
  subst hm
  rw [hz0 rfl] at hx
  have hn : news = [] := by
   rw [Nat.zero_mul] at hl
   exact List.eq_nil_of_length_eq_zero hl
  subst hn
  refine wpList_append_own_none hgd s x t ho w.heap.size e i size ht hi _ 0 [] hs hown hx ?_
  exact h _ _ _ ((New.refl w).alloc _) hown (fun i hi => by simp at hi) (Nat.le_refl _) (fun h => by cases h)
 ·obtain ⟨ad, rfl⟩ : ∃ ad, xa = some ad := by
   cases xa with
   | none => exact absurd rfl h0
   | some ad => exact ⟨ad, rfl⟩
  have hsrc : ∀ (j : Nat) (v : Value), news[j]? = some v → (w.alloc (.cells #[] e)).cell? (ad.add j) = some v := by
   intro j v hj
   have h0 : 0 < news.length := by have := (List.getElem?_eq_some_iff.1 hj).1; omega
   obtain ⟨ad', e, hs⟩ := hr.src h0
   injection e with e
   rw [e]
   exact ((New.refl w).alloc _).cell (hs j v hj)
  refine wpList_append_own _ hgd s x t ho w.heap.size e i z size bytes ht hi hz hsize hby hzs hsz _ 0 [] hs hown ad m c news hx hl hsrc h1 (by omega) (by simpa using hbytes) hb ?_
  intro v' w9 hown' hgrow _
  have hN1 : New w w9 := grown_newS' ((New.refl w).alloc _) hown hgrow
  rw [Nat.zero_add, List.nil_append] at hown'
  obtain ⟨a', c', rfl, hrd, hc, hnn⟩ := own_rdS' hown'
  exact h a' c' w9 hN1 hown' hrd hc hnn
end Go.Proofs.YtlfnibjmkfldgaaGreatDoor
namespace Go.Proofs.YtlfnibjmkfldgaaGreatDoor
open Go.RowKit Big
def nzAt : Nat → List Nat → Int
 | _, [] => -1
 | k, x :: l => if x = 0 then nzAt (k + 1) l else (k : Int)
theorem nzAt_ok : ∀ (l : List Nat) (k : Nat), (∀ x ∈ l, x = 0) → nzAt k l = -1
 | [], _, _ => rfl
 | x :: l, k, h => by
  unfold nzAt
  rw [if_pos (h x (by simp))]
  exact nzAt_ok l (k + 1) (fun y hy => h y (by simp [hy]))
theorem nzAt_bad : ∀ (l : List Nat) (k : Nat), (∃ x ∈ l, x ≠ 0) → 0 ≤ nzAt k l
 | [], _, h => by obtain ⟨x, hx, _⟩ := h; simp at hx
 | x :: l, k, h => by
  unfold nzAt
  by_cases h0 : x = 0
  ·rw [if_pos h0]
   refine nzAt_bad l (k + 1) ?_
   obtain ⟨y, hy, hy0⟩ := h
   rcases List.mem_cons.1 hy with rfl | hy
   ·exact absurd h0 hy0
   ·exact ⟨y, hy, hy0⟩
  ·rw [if_neg h0]; omega
theorem nzAt_drop (xs : List Nat) (k : Nat) (h : k < xs.length) : nzAt k (xs.drop k) = if xs[k] = 0 then nzAt (k + 1) (xs.drop (k + 1)) else (k : Int) := by
 rw [List.drop_eq_getElem_cons h]
 rfl
theorem RdL.w16 {w : World} {a : Option Addr} {l : List Nat} (h : RdL w a (words l)) (i : Nat) (hi : i < l.length) : ∃ b off, a = some ⟨b, off, none⟩ ∧ w.cell? ⟨b, off + i, none⟩ = some (.int .u16 (l[i] : Nat)) := by
 obtain ⟨b, off, e, hc⟩ := h i (by simpa [words] using hi)
 exact ⟨b, off, e, by rw [hc]; simp [words]⟩
set_option maxRecDepth 100000 in
theorem index_words (a : Option Addr) (cap N : Nat) (xs : List Nat) (w : World) (hr : RdL w a (words xs)) (hN : xs.length = N) (hl : N ≤ 1000000) :
  Calls Tryz.prog 106 #[.slice a N cap, .func (.func 77) #[] #[]] w fun e w' => e = .returned (.int .i64 (nzAt 0 xs)) ∧ New w w' := by
 have hNi : (N : Int) ≤ 1000000 := by omega
 have HR := Lib.hid hr
 have HNN := Lib.hid hN
 clear hr hN
 go_enter Tryz.func106, Tryz.ntmps106
 go_wp2_with fail
 go_loopw [8] (fun i wr => ∃ (k : Nat), k ≤ N ∧ i = .int .i64 (k : Int) ∧ Hid (nzAt 0 xs = nzAt k (xs.drop k)) ∧ Hid (New w wr)) (fun i _ => N - (intOf i).toNat)
 case atStart => exact ⟨0, Nat.zero_le _, rfl, Lib.hid rfl, Lib.hid (New.refl _)⟩
 case round =>
  obtain ⟨k, hk, rfl, HO, HN⟩ := hrel
  by_cases hlt : k < N
  ·have hkl : k < xs.length := by rw [HNN.out]; exact hlt
   obtain ⟨b1, off1, rfl, hcell⟩ := HR.out.w16 k hkl
   have hd := nzAt_drop xs k hkl
   obtain ⟨x, hx⟩ : ∃ x, xs[k] = x := ⟨_, rfl⟩
   rw [hx] at hcell hd
   replace hcell := HN.out.cell hcell
   have hcall := fun W => unpack1_calls x W
   obtain ⟨d, hdd⟩ : ∃ d, decide (x ≠ 0) = d := ⟨_, rfl⟩
   simp only [hdd] at hcall
   cases d with
   | false =>
    have h0 : x = 0 := by simpa using hdd
    rw [if_pos h0] at hd
    clear hdd h0
    have HD := Lib.hid hd
    have HX := Lib.hid hx
    have HCALL := Lib.hid hcall
    clear hd hx hcall
    go_wp2_with fail
    refine (HCALL.out _).mono ?_
    rintro e w1 ⟨rfl, hw1⟩
    subst hw1
    go_wp2_with fail
    go_roundw
    case rel => exact ⟨k + 1, by omega, by go_num, Lib.hid (HO.out.trans HD.out), HN⟩
    case measure => simp [intOf]; omega
   | true =>
    have h0 : ¬ x = 0 := by simpa using hdd
    rw [if_neg h0] at hd
    clear hdd h0
    have HD := Lib.hid hd
    have HX := Lib.hid hx
    have HCALL := Lib.hid hcall
    clear hd hx hcall
    go_wp2_with fail
    refine (HCALL.out _).mono ?_
    rintro e w1 ⟨rfl, hw1⟩
    subst hw1
    go_wp2_with fail
    go_ret
    exact ⟨by rw [HO.out, HD.out]; rfl, HN.out⟩
  ·have hkk : k = N := by omega
   have ho := HO.out
   rw [List.drop_eq_nil_of_le (by rw [HNN.out]; omega)] at ho
   have HO2 := Lib.hid ho
   have HKK := Lib.hid hkk
   clear ho hkk
   go_wp2_with fail
   go_ret
   exact ⟨by rw [HO2.out]; rfl, HN.out⟩
theorem contains_words (a : Option Addr) (cap N : Nat) (xs : List Nat) (w : World) (hr : RdL w a (words xs)) (hN : xs.length = N) (hl : N ≤ 1000000) :
  Calls Tryz.prog 76 #[.slice a N cap, .func (.func 77) #[] #[]] w fun e w' => e = .returned (.bool (decide (0 ≤ nzAt 0 xs))) ∧ New w w' := by
 have hi := index_words a cap N xs w hr hN hl
 obtain ⟨r, hr2⟩ : ∃ r, nzAt 0 xs = r := ⟨_, rfl⟩
 rw [hr2] at hi ⊢
 clear hr hr2
 have HI := Lib.hid hi
 clear hi
 go_enter Tryz.func76, Tryz.ntmps76
 go_wp2_with fail
 refine HI.out.mono ?_
 rintro e w1 ⟨rfl, hn⟩
 go_wp2_with fail
 go_ret
 exact ⟨rfl, hn⟩
theorem pblocks_any (n : Int) (w : World) : Calls Tryz.prog 75 #[.int .i64 n] w fun e w' => (∃ z, e = .returned (.int .i64 z)) ∧ New w w' := by
 go_enter Tryz.func75, Tryz.ntmps75
 go_wp2_with fail
 go_ret
 exact ⟨⟨_, rfl⟩, New.refl _⟩
def unpackErr (N : Nat) (n : Int) : Int := if 256 < N then 5 else if outside n 0 4096 then 3 else if N = nBlocks n.toNat then 0 else 2
set_option maxRecDepth 100000 in
theorem unpack_bad (a : Option Addr) (cap N : Nat) (n : Int) (w : World) (hl : N ≤ 1000000) (h0 : unpackErr N n ≠ 0) :
  Calls Tryz.prog 38 #[.slice a N cap, .int .i64 n] w fun e w' => e = .returned (.tuple #[.slice none 0 0, .int .i64 (unpackErr N n)]) ∧ New w w' := by
 obtain ⟨r, hres⟩ : ∃ r, unpackErr N n = r := ⟨_, rfl⟩
 rw [hres] at h0 ⊢
 have hNi : (N : Int) ≤ 1000000 := by omega
 obtain ⟨b1, hb1⟩ : ∃ b, decide ((256 : Int) < (N : Int)) = b := ⟨_, rfl⟩
 obtain ⟨e1, he1⟩ : ∃ e : Int, (if b1 then 5 else 0) = e := ⟨_, rfl⟩
 obtain ⟨e2, he2⟩ : ∃ e : Int, (if outside n 0 4096 then 3 else 0) = e := ⟨_, rfl⟩
 have hbl : ∀ W, Calls Tryz.prog 75 #[.int .i64 n] W fun e w' => (∃ z : Int, e = .returned (.int .i64 z) ∧ (e1 = 0 → e2 = 0 → z = (nBlocks n.toNat : Nat))) ∧ New W w' := by
  intro W
  by_cases h : e2 = 0
  ·have ho : outside n 0 4096 = false := by
    cases hh : outside n 0 4096 with
    | false => rfl
    | true => rw [hh] at he2; simp at he2; omega
   simp only [outside, Bool.or_eq_false_iff, decide_eq_false_iff_not] at ho
   obtain ⟨k, rfl⟩ : ∃ k : Nat, n = k := ⟨n.toNat, by omega⟩
   refine (pblocks_calls k W (by omega)).mono fun e w' hp => ?_
   exact ⟨⟨_, hp.1, fun _ _ => by rw [Int.toNat_natCast]; rfl⟩, hp.2⟩
  ·refine (pblocks_any n W).mono fun e w' hp => ?_
   obtain ⟨⟨z, hz⟩, hn⟩ := hp
   exact ⟨⟨z, hz, fun _ h' => absurd h' h⟩, hn⟩
 have hfin : ∀ z e3 : Int, (e1 = 0 → e2 = 0 → z = (nBlocks n.toNat : Nat)) → (if ((N : Int) != z) then (2 : Int) else 0) = e3 → (if e1 = 0 then (if e2 = 0 then e3 else e2) else e1) = r := by
  intro z e3 hz he3
  rw [← hres]
  unfold unpackErr
  by_cases h256 : 256 < N
  ·have : b1 = true := by rw [← hb1, decide_eq_true_eq]; omega
   subst this
   simp at he1
   subst he1
   rw [if_pos h256]
   rfl
  ·have : b1 = false := by rw [← hb1, decide_eq_false_iff_not]; omega
   subst this
   simp at he1
   subst he1
   rw [if_neg h256, if_pos rfl]
   by_cases ho : outside n 0 4096 = true
   ·rw [if_pos ho] at he2 ⊢
    subst he2
    rfl
   ·rw [if_neg ho] at he2 ⊢
    subst he2
    rw [if_pos rfl, ← he3, hz rfl rfl]
    by_cases hN : N = nBlocks n.toNat
    ·rw [if_pos hN, if_neg (by simp; omega)]
    ·rw [if_neg hN, if_pos (by rw [bne_iff_ne]; omega)]
 have htr : (r != 0) = true := by simpa using h0
 clear hres hl
 have HE1 := Lib.hid he1
 have HE2 := Lib.hid he2
 have HBL := Lib.hid hbl
 have HFIN := Lib.hid hfin
 have H0 := Lib.hid h0
 clear he1 he2 hbl hfin h0
 go_enter Tryz.func38, Tryz.ntmps38
 go_wp2_with fail
 refine (pwhen_new b1 5 _).mono ?_
 rintro e w1 ⟨rfl, hn⟩
 rw [HE1.out]
 have HN := Lib.hid hn
 clear hn
 go_wp2_with fail
 refine (pwithin_new n 0 4096 _).mono ?_
 rintro e w2 ⟨rfl, hn⟩
 rw [HE2.out]
 replace HN := Lib.hid (HN.out.trans hn)
 clear hn
 go_wp2_with fail
 refine (HBL.out _).mono ?_
 rintro e w3 ⟨⟨z, rfl, hz⟩, hn⟩
 replace HN := Lib.hid (HN.out.trans hn)
 clear hn
 obtain ⟨b3, hb3⟩ : ∃ b, ((N : Int) != z) = b := ⟨_, rfl⟩
 obtain ⟨e3, he3⟩ : ∃ e : Int, (if b3 then 2 else 0) = e := ⟨_, rfl⟩
 have hrr := HFIN.out z e3 hz (by rw [hb3]; exact he3)
 clear hz
 have HE3 := Lib.hid he3
 have HRR := Lib.hid hrr
 clear he3 hrr
 go_wp2_with fail
 refine (pwhen_new b3 2 _).mono ?_
 rintro e w4 ⟨rfl, hn⟩
 rw [HE3.out]
 replace HN := Lib.hid (HN.out.trans hn)
 clear hn
 go_wp2_with fail
 have HN0 := HN
 clear HN
 have BG := Lib.hid ((Box.alloc w4 (w4.heap.size) 29 #[.int .i64 e1, .int .i64 e2, .int .i64 e3] (by simp)).new (New.refl _))
 have HN := Lib.hid ((New.refl w4).alloc (.cells #[.int .i64 e1, .int .i64 e2, .int .i64 e3] 29))
 have HN_ := HN0.out.trans HN.out
 clear HN HN0
 have HN := Lib.hid HN_
 clear HN_
 refine (pfirst3_new e1 e2 e3 _ _ 29 _ BG.out).mono ?_
 rintro e w5 ⟨rfl, hn⟩
 rw [HRR.out]
 replace HN := Lib.hid (HN.out.trans hn)
 clear hn
 clear BG
 go_wp2_with fail
 go_ret2
 exact ⟨rfl, HN.out⟩
end Go.Proofs.YtlfnibjmkfldgaaGreatDoor
namespace Go.Proofs.YtlfnibjmkfldgaaGreatDoor
open Go.RowKit Big
theorem neq16 (W : World) (f : Nat → Nat) : (binOp .neq 71 (.agg #[.int .u16 (f 0 : Nat), .int .u16 (f 1 : Nat), .int .u16 (f 2 : Nat), .int .u16 (f 3 : Nat), .int .u16 (f 4 : Nat), .int .u16 (f 5 : Nat), .int .u16 (f 6 : Nat), .int .u16 (f 7 : Nat), .int .u16 (f 8 : Nat), .int .u16 (f 9 : Nat), .int .u16 (f 10 : Nat), .int .u16 (f 11 : Nat), .int .u16 (f 12 : Nat), .int .u16 (f 13 : Nat), .int .u16 (f 14 : Nat), .int .u16 (f 15 : Nat)]) (.agg #[.int .u16 (f 0 : Nat), .int .u16 (f 1 : Nat), .int .u16 (f 2 : Nat), .int .u16 (f 3 : Nat), .int .u16 (f 4 : Nat), .int .u16 (f 5 : Nat), .int .u16 (f 6 : Nat), .int .u16 (f 7 : Nat), .int .u16 (f 8 : Nat), .int .u16 (f 9 : Nat), .int .u16 (f 10 : Nat), .int .u16 (f 11 : Nat), .int .u16 (f 12 : Nat), .int .u16 (f 13 : Nat), .int .u16 (f 14 : Nat), .int .u16 (f 15 : Nat)])).run Tryz.prog W = .ok (.bool false) W := by
 obtain ⟨ii, hi, _⟩ := info_parts info_u16
 have h := run_equal_ints (P := Tryz.prog) W 9998 (q := .u16) ((List.range 16).map fun j => ((f j : Nat) : Int)) ((List.range 16).map fun j => ((f j : Nat) : Int)) Tryz.underlying71 hi Tryz.underlying70 (by kernel_rfl) (by kernel_rfl) (by simp) (by simp)
 have e1 : (Value.agg (((List.range 16).map fun j => ((f j : Nat) : Int)).map (Value.int .u16)).toArray) = .agg #[.int .u16 (f 0 : Nat), .int .u16 (f 1 : Nat), .int .u16 (f 2 : Nat), .int .u16 (f 3 : Nat), .int .u16 (f 4 : Nat), .int .u16 (f 5 : Nat), .int .u16 (f 6 : Nat), .int .u16 (f 7 : Nat), .int .u16 (f 8 : Nat), .int .u16 (f 9 : Nat), .int .u16 (f 10 : Nat), .int .u16 (f 11 : Nat), .int .u16 (f 12 : Nat), .int .u16 (f 13 : Nat), .int .u16 (f 14 : Nat), .int .u16 (f 15 : Nat)] := rfl
 rw [e1] at h
 rw [run_neq_struct, h]
 simp
theorem block_cells {w wr : World} {b off k N : Nat} {xs : List Nat} (hr : RdL w (some ⟨b, off, none⟩) (words xs)) (hn : New w wr) (hx : xs.length = 16 * N) (hk : k < N) :
  ∀ j, j < 16 → wr.cell? ⟨b, off + k * 16 + j, none⟩ = some (.int .u16 (xs.getD (16 * k + j) 0 : Nat)) := by
 intro j hj
 have hl : 16 * k + j < xs.length := by rw [hx]; omega
 obtain ⟨b2, off2, e2, hc2⟩ := hr.w16 (16 * k + j) hl
 injection e2 with e2
 injection e2 with e2 e3
 subst e2 e3
 rw [show off + k * 16 + j = off + (16 * k + j) by omega, hn.cell hc2]
 simp [List.getD_eq_getElem?_getD, List.getElem?_eq_getElem hl]
end Go.Proofs.YtlfnibjmkfldgaaGreatDoor
