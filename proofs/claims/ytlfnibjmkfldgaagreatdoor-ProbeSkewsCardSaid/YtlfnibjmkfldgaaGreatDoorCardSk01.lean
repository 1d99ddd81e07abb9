/- Part CardSk01. -/
import Derived.ChangeKeysEq
import Derived.Laws.StructEq
import Derived.Laws.AppendOwnNone
import Derived.Maps.AppendAt
import Derived.Test.YtlfnibjmkfldgaaGreatDoorA24
import Derived.Test.YtlfnibjmkfldgaaGreatDoorA25
import Derived.Test.YtlfnibjmkfldgaaGreatDoorA26
import Derived.Test.YtlfnibjmkfldgaaGreatDoorA27
import Derived.Test.YtlfnibjmkfldgaaGreatDoorA28
namespace Go.Proofs.YtlfnibjmkfldgaaGreatDoor
open Go.RowKit Big
theorem grown_newS' {w wr w1 : World} {v : Value} {e : TypeId} {S : Nat} {n : Nat} {xs : List Value} (hn : New w wr) (h : wr.ownsRow w.heap.size e S v n xs) (hg : wr.grownBy w1 v.ownBlock) : New w w1 := by
 obtain ⟨a1, a2, a3, a4, a5⟩ := hn
 refine ⟨hg.os.trans a1, ?_, ?_, Nat.le_trans a4 hg.size, fun j hj => ?_⟩
 ·first | exact hg.tape.trans a2 | exact hg.output.trans a2
 ·first | exact hg.output.trans a3 | exact hg.tape.trans a3
 ·exact (hg.block j (Nat.lt_of_lt_of_le hj a4) (own_neS h hj)).trans (a5 j hj)
end Go.Proofs.YtlfnibjmkfldgaaGreatDoor
namespace Go.Proofs.YtlfnibjmkfldgaaGreatDoor
open Go.RowKit Big
def neqF (x y : Nat) : Bool := FloatKind.f32.format.order x y != some Ordering.eq
section
variable {P : Program}
end
end Go.Proofs.YtlfnibjmkfldgaaGreatDoor
namespace Go.Proofs.YtlfnibjmkfldgaaGreatDoor
open Go.RowKit Big
theorem own_rdS' {w : World} {base : Nat} {e : TypeId} {S : Nat} {v : Value} {n : Nat} {xs : List Value} (h : w.ownsRow base e S v n xs) : ∃ (a : Option Addr) (cap : Nat), v = .slice a n cap ∧ RdL w a xs ∧ n ≤ cap ∧ (a = none → cap = 0) := by
 have h1 := own_rdS h
 rcases h.2 with ⟨rfl, rfl⟩ | ⟨g, cap, cur, rfl, hb, hc, h2, h3, h4, h5⟩
 ·obtain ⟨a, cap, e, hr, -⟩ := h1
  injection e with e1 e2 e3
  subst e1
  subst e3
  exact ⟨none, 0, rfl, hr, Nat.le_refl _, fun _ => rfl⟩
 ·obtain ⟨a, cap', e, hr, -⟩ := h1
  injection e with e1 e2 e3
  subst e1
  subst e3
  exact ⟨_, _, rfl, hr, h2, fun h => by cases h⟩
theorem own_noneS (w : World) (t : TypeId) (S : Nat) : (w.alloc (.cells #[] t)).ownsRow w.heap.size t S (.slice (some ⟨w.heap.size, 0, none⟩) 0 0) 0 [] := by
 refine ⟨by simp, .inr ⟨w.heap.size, 0, #[], rfl, Nat.le_refl _, ?_, Nat.le_refl _, Nat.zero_le _, by simp, by simp⟩⟩
 exact Box.alloc w _ t #[] rfl
theorem wpList_append_copy {P : Program} {ops : Array Oper} {rest : List Oper} {o : Oper} {a : Act} {Q : Exit → Act → World → Prop} (hgd : o.guard = none) (s x : Operand) (t : TypeId)
  (ho : o.op = .call { callee := .builtin .append, args := #[s, x], argTypes := #[t, t] })
  (e : TypeId) (i : TypeInfo) (z : Value) (size bytes : Nat) (ht : P.underlying t = some (.slice e)) (hi : P.info? e = some i) (hz : i.zero = some z)
  (hsize : i.size = size) (hby : i.bytes = bytes) (hzs : z.cells.size = size) (hsz : 0 < size) (w : World)
  (hs : a.eval s = .slice (some ⟨w.heap.size, 0, none⟩) 0 0) (xa : Option Addr) (m c : Nat) (news : List Value) (hx : a.eval x = .slice xa m c) (hl : news.length = m * size) (hr : RdL w xa news) (hz0 : xa = none → c = 0)
  (h1 : ∀ u ∈ news, u.oneCell' = true) (h63 : m ≤ maxLen) (hbytes : m * bytes ≤ 140737488355328)
  (h : ∀ (a' : Option Addr) (c' : Nat) (w' : World), New w w' → w'.ownsRow w.heap.size e size (.slice a' m c') m news → RdL w' a' news → m ≤ c' → (a' = none → c' = 0) → wpList P ops Q rest (a.put o.dst (.slice a' m c')) w') :
  wpList P ops Q (o :: rest) a (w.alloc (.cells #[] e)) := by
 have hown := own_noneS w e size
 have hb : w.heap.size ≤ (w.alloc (.cells #[] e)).heap.size := ((New.refl w).alloc _).size
 by_cases h0 : xa = none
 ·subst h0
  have hm : m = 0 := by
   rcases Nat.eq_zero_or_pos m with h | h
   ·exact h
   ·obtain ⟨b, off, e, -⟩ := hr 0 (by rw [hl]; exact Nat.mul_pos h hsz)
    cases e
  subst hm
  rw [hz0 rfl] at hx
  have hn : news = [] := by
   rw [Nat.zero_mul] at hl
   exact List.eq_nil_of_length_eq_zero hl
  subst hn
  refine wpList_append_own_none hgd s x t ho w.heap.size e i size ht hi _ 0 [] hs hown hx ?_
  exact h _ _ _ ((New.refl w).alloc _) hown (fun i hi => by simp at hi) (Nat.le_refl _) (fun h => by cases h)
 ·obtain ⟨ad, rfl⟩ : ∃ ad, xa = some ad := by
   cases xa with
   | none => exact absurd rfl h0
   | some ad => exact ⟨ad, rfl⟩
  have hsrc : ∀ (j : Nat) (v : Value), news[j]? = some v → (w.alloc (.cells #[] e)).cell? (ad.add j) = some v := by
   intro j v hj
   have h0 : 0 < news.length := by have := (List.getElem?_eq_some_iff.1 hj).1; omega
   obtain ⟨ad', e, hs⟩ := hr.src h0
   injection e with e
   rw [e]
   exact ((New.refl w).alloc _).cell (hs j v hj)
  refine wpList_append_own _ hgd s x t ho w.heap.size e i z size bytes ht hi hz hsize hby hzs hsz _ 0 [] hs hown ad m c news hx hl hsrc h1 (by omega) (by simpa using hbytes) hb ?_
  intro v' w9 hown' hgrow _
  have hN1 : New w w9 := grown_newS' ((New.refl w).alloc _) hown hgrow
  rw [Nat.zero_add, List.nil_append] at hown'
  obtain ⟨a', c', rfl, hrd, hc, hnn⟩ := own_rdS' hown'
  exact h a' c' w9 hN1 hown' hrd hc hnn
end Go.Proofs.YtlfnibjmkfldgaaGreatDoor
namespace Go.Proofs.YtlfnibjmkfldgaaGreatDoor
open Go.RowKit Big
theorem flts_cell (xs : List Nat) : ∀ u ∈ flts xs, u.oneCell' = true := by intro u hu; simp [flts] at hu; obtain ⟨x, -, rfl⟩ := hu; rfl
def RdZ (w : World) (a : Option Addr) (rv : List Value) (xss : List (List Value)) : Prop :=
 RdLL w a rv xss ∧ ∀ (k : Nat) (a' : Option Addr) (l' c' : Nat), rv[k]? = some (.slice a' l' c') → a' = none → c' = 0
theorem RdZ.new {w w' : World} {a : Option Addr} {rv : List Value} {xss : List (List Value)} (h : RdZ w a rv xss) (hn : New w w') : RdZ w' a rv xss := ⟨h.1.new hn, h.2⟩
theorem RdZ.at {w : World} {a : Option Addr} {rv : List Value} {xss : List (List Value)} (h : RdZ w a rv xss) (k : Nat) (hk : k < xss.length) :
  ∃ (b off : Nat) (a' : Option Addr) (c' : Nat), a = some ⟨b, off, none⟩ ∧ w.cell? ⟨b, off + k, none⟩ = some (.slice a' xss[k].length c') ∧ RdL w a' xss[k] ∧ xss[k].length ≤ c' ∧ (a' = none → c' = 0) := by
 have hk' : k < rv.length := by rw [h.1.2.1]; exact hk
 obtain ⟨b, off, e, hc⟩ := h.1.1 k hk'
 obtain ⟨a', c', e', hr⟩ := h.1.2.2 k rv[k] xss[k] (List.getElem?_eq_getElem hk') (List.getElem?_eq_getElem hk)
 exact ⟨b, off, a', c', e, by rw [hc, e'], hr.1, hr.2, h.2 k a' _ c' (by rw [List.getElem?_eq_getElem hk', e'])⟩
set_option maxRecDepth 100000 in
theorem floats_row (a : Option Addr) (cap m : Nat) (xs : List Nat) (w : World) (hm : xs.length = m) (hl : m ≤ 5000) (hr : RdL w a (flts xs)) (hz : a = none → cap = 0) :
  Calls Tryz.prog 14 #[.slice a m cap] w (RowRet w 23 (flts xs)) := by
 obtain ⟨i0, hi0, hz0, hz1, hz2⟩ := info_parts info_f32
 have hlen : (flts xs).length = m * 1 := by simp [flts, hm]
 have HR := Lib.hid hr
 have HZ := Lib.hid hz
 have HLEN := Lib.hid hlen
 have HM := Lib.hid hm
 clear hr hz hlen hm
 go_enter Tryz.func14, Tryz.ntmps14
 go_wp2_with (at_builtin; refine wpList_append_copy rfl _ _ 22 rfl 23 i0 (.float .f32 0) 1 4 Tryz.underlying22 hi0 hz0 hz1 hz2 rfl (by decide) _ rfl a m cap (flts xs) rfl HLEN.out HR.out HZ.out (flts_cell xs) (by unfold maxLen; omega) (by omega) ?_)
 intro a1 c1 w1 hn ho _ _ _
 have hl2 : (flts xs).length = m := by rw [HLEN.out, Nat.mul_one]
 have HN := Lib.hid hn
 have HO := Lib.hid ho
 have HL2 := Lib.hid hl2
 clear hn ho hl2
 go_wp2_with fail
 go_ret
 exact ⟨_, rfl, HN.out, by rw [HL2.out]; exact HO.out⟩
end Go.Proofs.YtlfnibjmkfldgaaGreatDoor
namespace Go.Proofs.YtlfnibjmkfldgaaGreatDoor
open Go.RowKit Big
def recErr : List (List Nat) → Int
 | [] => 0
 | x :: r => if samplesErr x = 0 then recErr r else samplesErr x
def skewErr : List Int → Int
 | [] => 0
 | s :: r => if outside s (-1000) 1000 then 3 else skewErr r
def alErr (rs : List (List Nat)) (ss : List Int) : Int :=
 if rs.length = 0 then 12 else if 8 < rs.length then 5 else if recErr rs = 0 then (if ss.length = rs.length then skewErr ss else 2) else recErr rs
theorem recErr_drop (rs : List (List Nat)) (k : Nat) (h : k < rs.length) : recErr (rs.drop k) = if samplesErr rs[k] = 0 then recErr (rs.drop (k + 1)) else samplesErr rs[k] := by
 rw [List.drop_eq_getElem_cons h]
 rfl
theorem skewErr_drop (ss : List Int) (k : Nat) (h : k < ss.length) : skewErr (ss.drop k) = if outside ss[k] (-1000) 1000 then 3 else skewErr (ss.drop (k + 1)) := by
 rw [List.drop_eq_getElem_cons h]
 rfl
theorem recErr_ok : ∀ {rs : List (List Nat)}, recErr rs = 0 → ∀ x ∈ rs, samplesErr x = 0
 | [], _, x, hx => by simp at hx
 | y :: r, h, x, hx => by
  unfold recErr at h
  by_cases hy : samplesErr y = 0
  ·rw [if_pos hy] at h
   rcases List.mem_cons.1 hx with rfl | hx
   ·exact hy
   ·exact recErr_ok h x hx
  ·rw [if_neg hy] at h
   exact absurd h hy
theorem skewErr_ok : ∀ {ss : List Int}, skewErr ss = 0 → ∀ s ∈ ss, -1000 ≤ s ∧ s ≤ 1000
 | [], _, x, hx => by simp at hx
 | y :: r, h, x, hx => by
  unfold skewErr at h
  by_cases hy : outside y (-1000) 1000 = true
  ·rw [if_pos hy] at h
   omega
  ·rw [if_neg hy] at h
   rcases List.mem_cons.1 hx with rfl | hx
   ·simp only [outside, Bool.not_eq_true, Bool.or_eq_false_iff, decide_eq_false_iff_not] at hy
    omega
   ·exact skewErr_ok h x hx
theorem samplesErr_len {x : List Nat} (h : samplesErr x = 0) : x.length ≤ 4096 := by
 unfold samplesErr at h
 split at h
 ·cases h
 ·omega
theorem alErr_ok {rs : List (List Nat)} {ss : List Int} (h : alErr rs ss = 0) : 1 ≤ rs.length ∧ rs.length ≤ 8 ∧ ss.length = rs.length ∧ recErr rs = 0 ∧ skewErr ss = 0 := by
 unfold alErr at h
 by_cases c1 : rs.length = 0
 ·rw [if_pos c1] at h; omega
 ·rw [if_neg c1] at h
  by_cases c2 : 8 < rs.length
  ·rw [if_pos c2] at h; omega
  ·rw [if_neg c2] at h
   by_cases c3 : recErr rs = 0
   ·rw [if_pos c3] at h
    by_cases c4 : ss.length = rs.length
    ·rw [if_pos c4] at h
     exact ⟨by omega, by omega, c4, c3, h⟩
    ·rw [if_neg c4] at h; omega
   ·rw [if_neg c3] at h
    exact absurd h c3
theorem al_first {rs : List (List Nat)} {ss : List Int} {n : Nat} (hN : rs.length = n) {e1 e2 r1 : Int} {b1 b2 : Bool} (hb1 : ((n : Int) == 0) = b1) (hb2 : decide ((8 : Int) < (n : Int)) = b2)
  (he1 : (if b1 then 12 else 0) = e1) (he2 : (if b2 then 5 else 0) = e2) (hr1 : (if e1 = 0 then e2 else e1) = r1) :
  (r1 ≠ 0 → alErr rs ss = r1) ∧ (r1 = 0 → 1 ≤ n ∧ n ≤ 8 ∧ alErr rs ss = if recErr rs = 0 then (if ss.length = rs.length then skewErr ss else 2) else recErr rs) := by
 subst hN
 unfold alErr
 by_cases h0 : rs.length = 0
 ·have hb : b1 = true := by rw [← hb1, h0]; rfl
  subst hb
  simp at he1
  subst he1
  simp at hr1
  subst hr1
  exact ⟨fun _ => if_pos h0, fun h => by omega⟩
 ·have hb : b1 = false := by rw [← hb1, beq_eq_false_iff_ne]; omega
  subst hb
  simp at he1
  subst he1
  simp at hr1
  subst hr1
  rw [if_neg h0]
  by_cases h8 : 8 < rs.length
  ·have hb : b2 = true := by rw [← hb2, decide_eq_true_eq]; omega
   subst hb
   simp at he2
   subst he2
   exact ⟨fun _ => if_pos h8, fun h => by omega⟩
  ·have hb : b2 = false := by rw [← hb2, decide_eq_false_iff_not]; omega
   subst hb
   simp at he2
   subst he2
   exact ⟨fun h => absurd rfl h, fun _ => ⟨by omega, by omega, if_neg h8⟩⟩
set_option maxRecDepth 100000 in
set_option maxHeartbeats 4000000 in
theorem aligned_bad (a b : Option Addr) (cap cap' n m : Nat) (rv : List Value) (rs : List (List Nat)) (ss : List Int) (w : World) (hr : RdLL w a rv (rs.map flts)) (hs : RdL w b (ints ss)) (hn : rs.length = n) (hm : ss.length = m) (hl : n ≤ 100000) (hlm : m ≤ 100000) (hv : ∀ (k : Nat) (h : k < rs.length), rs[k].length ≤ 9223372036854775807) (r : Int) (hres : alErr rs ss = r) (h0 : r ≠ 0) :
  Calls Tryz.prog 24 #[.slice a n cap, .slice b m cap'] w fun e w' => e = .returned (.tuple #[.slice none 0 0, .int .i64 r]) ∧ New w w' := by
 have hni : (n : Int) ≤ 100000 := by omega
 have hmi : (m : Int) ≤ 100000 := by omega
 obtain ⟨b1, hb1⟩ : ∃ b, ((n : Int) == 0) = b := ⟨_, rfl⟩
 obtain ⟨b2, hb2⟩ : ∃ b, decide ((8 : Int) < (n : Int)) = b := ⟨_, rfl⟩
 obtain ⟨e1, he1⟩ : ∃ e : Int, (if b1 then 12 else 0) = e := ⟨_, rfl⟩
 obtain ⟨e2, he2⟩ : ∃ e : Int, (if b2 then 5 else 0) = e := ⟨_, rfl⟩
 obtain ⟨r1, hr1⟩ : ∃ r : Int, (if e1 = 0 then e2 else e1) = r := ⟨_, rfl⟩
 obtain ⟨f1, f2⟩ := al_first (ss := ss) hn hb1 hb2 he1 he2 hr1
 rw [hres] at f1 f2
 have htr : (r != 0) = true := by simpa using h0
 clear hres
 have HE1 := Lib.hid he1
 have HE2 := Lib.hid he2
 have HR1 := Lib.hid hr1
 have F1 := Lib.hid f1
 have F2 := Lib.hid f2
 have H0 := Lib.hid h0
 have HR := Lib.hid hr
 have HS := Lib.hid hs
 have HV := Lib.hid hv
 have HN0 := Lib.hid hn
 have HM0 := Lib.hid hm
 clear he1 he2 hr1 f1 f2 h0 hr hs hv hn hm
 go_enter Tryz.func24, Tryz.ntmps24
 go_wp2_with fail
 refine (pwhen_new b1 12 _).mono ?_
 rintro e w1 ⟨rfl, hn⟩
 rw [HE1.out]
 have HN := Lib.hid hn
 clear hn
 go_wp2_with fail
 refine (pwhen_new b2 5 _).mono ?_
 rintro e w2 ⟨rfl, hn⟩
 rw [HE2.out]
 replace HN := Lib.hid (HN.out.trans hn)
 clear hn
 go_wp2_with fail
 have HN0 := HN
 clear HN
 have BG := Lib.hid ((Box.alloc w2 (w2.heap.size) 29 #[.int .i64 e1, .int .i64 e2] (by simp)).new (New.refl _))
 have HN := Lib.hid ((New.refl w2).alloc (.cells #[.int .i64 e1, .int .i64 e2] 29))
 have HN_ := HN0.out.trans HN.out
 clear HN HN0
 have HN := Lib.hid HN_
 clear HN_
 refine (pfirst2_new e1 e2 _ _ 29 _ BG.out).mono ?_
 rintro e w3 ⟨rfl, hn⟩
 rw [HR1.out]
 replace HN := Lib.hid (HN.out.trans hn)
 clear hn
 clear BG
 by_cases hr10 : r1 = 0
 ·have h2 := F2.out hr10
  obtain ⟨-, -, hrr⟩ := h2
  subst hr10
  have HRR := Lib.hid hrr
  clear hrr
  go_wp2_with fail
  go_loopw [35] (fun i wr => ∃ (k : Nat), k ≤ n ∧ i = .int .i64 (k : Int) ∧ Hid (recErr rs = recErr (rs.drop k)) ∧ Hid (New w wr)) (fun i _ => n - (intOf i).toNat)
  case atStart => exact ⟨0, Nat.zero_le _, rfl, Lib.hid rfl, HN⟩
  case round =>
   clear HN
   obtain ⟨k, hk, rfl, HK, HN⟩ := hrel
   by_cases hlt : k < n
   ·have hkr : k < rs.length := by rw [HN0.out]; exact hlt
    obtain ⟨b1', off, a1, c1, rfl, hcell, hr1, hrc1⟩ := HR.out.at k (by simpa using hkr)
    have hxb := HV.out k hkr
    have hdr := recErr_drop rs k hkr
    obtain ⟨x, hx⟩ : ∃ x, rs[k] = x := ⟨_, rfl⟩
    have hxm : (rs.map flts)[k]'(by simpa using hkr) = flts x := by simp [hx]
    have hxl : (flts x).length = x.length := by simp [flts]
    rw [hxm, hxl] at hcell
    rw [hxm] at hr1
    rw [hx] at hxb hdr
    clear hrc1
    obtain ⟨s, hse⟩ : ∃ s, samplesErr x = s := ⟨_, rfl⟩
    have hcall := samples_new a1 c1 x wr hxb (hr1.new HN.out)
    rw [hse] at hcall hdr
    have hcell := HN.out.cell hcell
    by_cases hs0 : s = 0
    ·subst hs0
     rw [if_pos rfl] at hdr
     have HX := Lib.hid hx
     have HXM := Lib.hid hxm
     have HXL := Lib.hid hxl
     have HCALL := Lib.hid hcall
     have HR1' := Lib.hid hr1
     have HDR := Lib.hid hdr
     have HSE := Lib.hid hse
     clear hx hxm hxl hcall hr1 hdr hse
     go_wp2_with fail
     refine HCALL.out.mono ?_
     rintro e w4 ⟨rfl, hn⟩
     clear hcell
     replace HN := Lib.hid (HN.out.trans hn)
     clear hn
     go_wp2_with fail
     go_roundw
     case rel => exact ⟨k + 1, by omega, by go_num, Lib.hid (HK.out.trans HDR.out), HN⟩
     case measure => simp [intOf]; omega
    ·have hst : (s != 0) = true := by simpa using hs0
     rw [if_neg hs0] at hdr
     have hrs : r = s := by rw [HRR.out, HK.out, hdr, if_neg hs0]
     have HX := Lib.hid hx
     have HXM := Lib.hid hxm
     have HXL := Lib.hid hxl
     have HCALL := Lib.hid hcall
     have HR1' := Lib.hid hr1
     have HDR := Lib.hid hdr
     have HSE := Lib.hid hse
     have HRS := Lib.hid hrs
     have HS0 := Lib.hid hs0
     clear hx hxm hxl hcall hr1 hdr hse hrs hs0
     go_wp2_with fail
     refine HCALL.out.mono ?_
     rintro e w4 ⟨rfl, hn⟩
     clear hcell
     replace HN := Lib.hid (HN.out.trans hn)
     clear hn
     go_wp2_with fail
     go_ret2
     exact ⟨by rw [HRS.out]; rfl, HN.out⟩
   ·have hkk : k = n := by omega
    have hre : recErr rs = 0 := by rw [HK.out, hkk, ← HN0.out, List.drop_length]; rfl
    have hrr2 := HRR.out
    rw [if_pos hre, HM0.out, HN0.out] at hrr2
    clear hre HRR HK
    have HKK := Lib.hid hkk
    have HRR := Lib.hid hrr2
    clear hkk hrr2
    by_cases hmn : m = n
    ·subst hmn
     have hne : ((m : Int) != (m : Int)) = false := by simp
     have hrr3 := HRR.out
     rw [if_pos rfl] at hrr3
     clear HRR
     have HRR := Lib.hid hrr3
     clear hrr3
     go_wp2_with fail
     go_loopw [52] (fun i wr => ∃ (k : Nat), k ≤ m ∧ i = .int .i64 (k : Int) ∧ Hid (skewErr ss = skewErr (ss.drop k)) ∧ Hid (New w wr)) (fun i _ => m - (intOf i).toNat)
     case atStart => exact ⟨0, Nat.zero_le _, rfl, Lib.hid rfl, HN⟩
     case round =>
      clear HN
      obtain ⟨j, hj, rfl, HK, HN⟩ := hrel
      by_cases hlt2 : j < m
      ·have hjs : j < ss.length := by rw [HM0.out]; exact hlt2
       obtain ⟨b1', off, rfl, hcell⟩ := HS.out.int j hjs
       have hdr := skewErr_drop ss j hjs
       obtain ⟨s, hse⟩ : ∃ s, ss[j] = s := ⟨_, rfl⟩
       rw [hse] at hcell hdr
       have hcell := HN.out.cell hcell
       have hw := fun W => pwithin_new s (-1000) 1000 W
       obtain ⟨o, ho⟩ : ∃ o, outside s (-1000) 1000 = o := ⟨_, rfl⟩
       simp only [ho] at hw hdr
       clear ho
       cases o with
       | false =>
        simp only [Bool.false_eq_true, if_false] at hw hdr
        have HW := Lib.hid hw
        have HDR := Lib.hid hdr
        have HSE := Lib.hid hse
        clear hw hdr hse
        go_wp2_with fail
        refine (HW.out _).mono ?_
        rintro e w4 ⟨rfl, hn⟩
        clear hcell
        replace HN := Lib.hid (HN.out.trans hn)
        clear hn
        go_wp2_with fail
        go_roundw
        case rel => exact ⟨j + 1, by omega, by go_num, Lib.hid (HK.out.trans HDR.out), HN⟩
        case measure => simp [intOf]; omega
       | true =>
        simp only [if_true] at hw hdr
        have hr3 : r = 3 := by rw [HRR.out, HK.out, hdr]
        have HW := Lib.hid hw
        have HDR := Lib.hid hdr
        have HSE := Lib.hid hse
        have HR3 := Lib.hid hr3
        clear hw hdr hse hr3
        go_wp2_with fail
        refine (HW.out _).mono ?_
        rintro e w4 ⟨rfl, hn⟩
        clear hcell
        replace HN := Lib.hid (HN.out.trans hn)
        clear hn
        go_wp2_with fail
        go_ret2
        exact ⟨by rw [HR3.out]; rfl, HN.out⟩
      ·exfalso
       have hjj : j = m := by omega
       have := HRR.out
       rw [HK.out, hjj, ← HM0.out, List.drop_length] at this
       exact H0.out this
    ·have hne : ((m : Int) != (n : Int)) = true := by rw [bne_iff_ne]; omega
     have hr2 : r = 2 := by have := HRR.out; rw [if_neg hmn] at this; exact this
     clear HRR
     have HR2 := Lib.hid hr2
     clear hr2
     go_wp2_with fail
     go_ret2
     exact ⟨by rw [HR2.out]; rfl, HN.out⟩
 ·have hrr := F1.out hr10
  subst hrr
  go_wp2_with fail
  go_ret2
  exact ⟨rfl, HN.out⟩
end Go.Proofs.YtlfnibjmkfldgaaGreatDoor
