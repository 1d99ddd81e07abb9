/- Part CardReb05. -/
import Derived.Deep.DeepCutAuto
import Derived.Laws.AppendOwnNone
import Derived.Maps.AppendAt
import Derived.Test.YtlfnibjmkfldgaaGreatDoorA16
import Derived.Test.YtlfnibjmkfldgaaGreatDoorA24
import Derived.Test.YtlfnibjmkfldgaaGreatDoorA29
import Derived.Test.YtlfnibjmkfldgaaGreatDoorA32
import Derived.Test.YtlfnibjmkfldgaaGreatDoorA33
import Derived.Test.YtlfnibjmkfldgaaGreatDoorCardReb01
import Derived.Test.YtlfnibjmkfldgaaGreatDoorCardReb02
import Derived.Test.YtlfnibjmkfldgaaGreatDoorCardReb03
import Derived.Test.YtlfnibjmkfldgaaGreatDoorCardReb04
namespace Go.Proofs.YtlfnibjmkfldgaaGreatDoor
open Go.RowKit Big
def fromL (m : Nat) (n : Int) (ts : List Int) (b : Bool) : List Bool := if changesErr m n ts = 0 then (fromS ts b n.toNat).2.2 else []
theorem changes_front {m : Nat} {n : Int} {ts : List Int} : (fromErr m n ≠ 0 → changesErr m n ts = fromErr m n) ∧ (fromErr m n = 0 → m ≤ 4096 ∧ 0 ≤ n ∧ n ≤ 4096 ∧ changesErr m n ts = chkFrom n none ts) := by
 unfold fromErr changesErr
 by_cases h : 4096 < m
 ·rw [if_pos h, if_pos h]
  exact ⟨fun _ => rfl, fun h => by omega⟩
 ·rw [if_neg h, if_neg h]
  by_cases h2 : n < 0 ∨ 4096 < n
  ·have ho : outside n 0 4096 = true := by
    simp only [outside, Bool.or_eq_true, decide_eq_true_eq]
    omega
   rw [ho, if_pos h2]
   exact ⟨fun _ => rfl, fun h => by simp at h⟩
  ·have ho : outside n 0 4096 = false := by
    simp only [outside, Bool.or_eq_false_iff, decide_eq_false_iff_not]
    omega
   rw [ho, if_neg h2]
   exact ⟨fun h => absurd rfl h, fun _ => ⟨by omega, by omega, by omega, rfl⟩⟩
theorem pfrom_calls (a : Option Addr) (cap m : Nat) (ts : List Int) (b0 : Bool) (n : Int) (w : World) (hm : ts.length = m) (hl : m ≤ 1000000) (hcap : m ≤ cap) (hr : RdL w a (ints ts)) :
  Calls Tryz.prog 42 #[.slice a m cap, .bool b0, .int .i64 n] w fun e w' => ∃ (a' : Option Addr) (c' : Nat), e = .returned (.tuple #[.slice a' (fromL m n ts b0).length c', .int .i64 (changesErr m n ts)]) ∧ New w w' ∧ RdL w' a' (bools (fromL m n ts b0)) := by
 obtain ⟨h1, h2⟩ := @changes_front m n ts
 by_cases h0 : fromErr m n = 0
 ·obtain ⟨h3, h4, h5, h6⟩ := h2 h0
  obtain ⟨k, rfl⟩ : ∃ k : Nat, n = k := ⟨n.toNat, by omega⟩
  unfold fromL
  rw [h6, Int.toNat_natCast]
  obtain ⟨r, hr'⟩ : ∃ r, chkFrom (k : Int) none ts = r := ⟨_, rfl⟩
  rw [hr']
  refine (from_main a cap m k ts b0 w hm h3 hcap (by omega) hr r hr').mono fun e w' hp => ?_
  obtain ⟨v, rfl, hn, hb, hg⟩ := hp
  by_cases hr0 : r = 0
  ·obtain ⟨B, c, rfl, hrd⟩ := hg hr0
   rw [if_pos hr0]
   exact ⟨_, c, by rw [(fromS_len ts b0 k).1], hn, hrd⟩
  ·rw [if_neg hr0, hb hr0]
   exact ⟨none, 0, rfl, hn, rdl_nil _ _⟩
 ·have h3 := h1 h0
  unfold fromL
  rw [h3, if_neg h0]
  refine (from_bad a m cap b0 n w hl h0).mono fun e w' hp => ?_
  exact ⟨none, 0, hp.1, hp.2, rdl_nil _ _⟩
theorem sameb_nil' (a : Option Addr) (cap : Nat) (xs : List Bool) (w : World) (h : xs = []) :
  Calls Tryz.prog 22 #[.slice a xs.length cap, .slice none 0 0] w fun e w' => e = .returned (.bool true) ∧ New w w' := by
 subst h
 exact same_bools a none cap 0 [] [] w (by simp) rfl (rdl_nil _ _) (rdl_nil _ _) (by intro k h; simp at h)
theorem ints_one (xs : List Int) : ∀ u ∈ ints xs, u.oneCell' = true := by intro u hu; simp [ints] at hu; obtain ⟨x, -, rfl⟩ := hu; rfl
set_option maxRecDepth 100000 in
set_option maxHeartbeats 4000000 in
theorem reb_out (haw : AwakeOk) (a : Option Addr) (ca m : Nat) (b0 : Bool) (n : Int) (w : World) (he : Env w)
  (h : ((m : Int) ≤ 64 || (4096 < (m : Int) && (m : Int) ≤ 4098)) = false ∨ (100 < n ∧ n ≤ 4096)) :
  Calls Tryz.prog 8 #[.slice a m ca, .bool b0, .int .i64 n] w fun e w' => e = .returned (.bool true) ∧ New w w' := by
 have h1 := fun W => Length_calls m 64 W
 obtain ⟨p, hp⟩ : ∃ p : Bool, ((m : Int) ≤ 64 || (4096 < (m : Int) && (m : Int) ≤ 4098)) = p := ⟨_, rfl⟩
 simp only [hp] at h1 h
 clear hp
 have HN := Lib.hid (New.refl w)
 have H1 := Lib.hid h1
 have HE := Lib.hid he
 have HAW := Lib.hid haw
 clear h1 he haw
 cases p with
 | false =>
  clear h
  go_enter Tryz.func8, Tryz.ntmps8
  go_wp2_with fail
  refine (H1.out _).mono ?_
  rintro e w' ⟨rfl, rfl⟩
  go_wp2_with fail
  refine (HAW.out _ (HE.out.new HN.out)).mono ?_
  rintro e w9 ⟨rfl, hn⟩
  replace HN := Lib.hid (HN.out.trans hn)
  clear hn
  go_wp2_with fail
  go_ret
  exact ⟨rfl, HN.out⟩
 | true =>
  have h2 : 100 < n ∧ n ≤ 4096 := by simpa using h
  obtain ⟨h3, h4⟩ := h2
  have h5 : decide (100 < n) = true := decide_eq_true h3
  have h6 : decide (n ≤ 4096) = true := decide_eq_true h4
  clear h
  go_enter Tryz.func8, Tryz.ntmps8
  go_wp2_with fail
  refine (H1.out _).mono ?_
  rintro e w' ⟨rfl, rfl⟩
  go_wp2_with fail
  refine (HAW.out _ (HE.out.new HN.out)).mono ?_
  rintro e w9 ⟨rfl, hn⟩
  replace HN := Lib.hid (HN.out.trans hn)
  clear hn
  go_wp2_with fail
  go_ret
  exact ⟨rfl, HN.out⟩
set_option maxRecDepth 100000 in
set_option maxHeartbeats 8000000 in
theorem reb_main (haw : AwakeOk) (a : Option Addr) (ca m : Nat) (ts : List Int) (b0 : Bool) (n : Int) (w : World) (he : Env w) (hm : ts.length = m) (hm4 : m ≤ 4098)
  (hp : ((m : Int) ≤ 64 || (4096 < (m : Int) && (m : Int) ≤ 4098)) = true) (hg : ¬ (100 < n ∧ n ≤ 4096)) (hr : RdL w a (ints ts)) (hz : a = none → ca = 0) :
  Calls Tryz.prog 8 #[.slice a m ca, .bool b0, .int .i64 n] w fun e w' => e = .returned (.bool true) ∧ New w w' := by
 have h1 := fun W => Length_calls m 64 W
 simp only [hp] at h1
 clear hp
 obtain ⟨i0, hi0, hz0, hz1, hz2⟩ := info_parts info_int
 have hl : (ints ts).length = m * 1 := by simp [ints, hm]
 obtain ⟨e1, he1⟩ : ∃ e1, changesErr m n ts = e1 := ⟨_, rfl⟩
 have hpf := fun a' c' W hc h => pfrom_calls a' c' m ts b0 n W hm (by omega) hc h
 have hck : ∀ W, New w W → Calls Tryz.prog 43 #[.slice a m ca, .int .i64 n] W (RetNew W e1) := by
  intro W hW
  have := rcheck_calls a ca m ts n W hm (by omega) (hr.new hW)
  rw [he1] at this
  exact this
 have hk : e1 = 0 → ∃ k : Nat, n = k ∧ k ≤ 4096 := fun h => by
  by_cases h0 : fromErr m n = 0
  ·obtain ⟨-, h4, h5, -⟩ := (@changes_front m n ts).2 h0
   exact ⟨n.toNat, by omega, by omega⟩
  ·have := (@changes_front m n ts).1 h0
   rw [he1] at this
   omega
 have hrf : ∀ (k : Nat) W, n = (k : Int) → k ≤ 4096 → e1 = 0 → New w W → Calls Tryz.prog 44 #[.slice a m ca, .bool b0, .int .i64 (k : Int)] W fun e W' => ∃ (a' : Option Addr) (c' : Nat), e = .returned (.slice a' (fromL m n ts b0).length c') ∧ New W W' ∧ RdL W' a' (bools (fromL m n ts b0)) := by
  intro k W hkn hk4 h0 hW
  refine (rfrom_calls a ca m k ts b0 W hm (by omega) hk4 (hr.new hW)).mono fun e W' hp => ?_
  obtain ⟨v, rfl, hn, ho⟩ := hp
  obtain ⟨a', c', rfl, hrd, -⟩ := own_rd ho
  have e : fromL m n ts b0 = (fromS ts b0 k).2.2 := by unfold fromL; rw [he1, if_pos h0, hkn, Int.toNat_natCast]
  rw [e]
  exact ⟨a', c', by simp [bools], hn, hrd⟩
 have hnil : e1 ≠ 0 → fromL m n ts b0 = [] := fun h => by unfold fromL; rw [he1, if_neg h]
 have hfl : (fromL m n ts b0).length ≤ 1000000 := by
  by_cases h0 : e1 = 0
  ·obtain ⟨k, hk1, hk2⟩ := hk h0
   unfold fromL
   rw [he1, if_pos h0, hk1, Int.toNat_natCast, (fromS_len ts b0 k).1]
   omega
  ·rw [hnil h0]; simp
 obtain ⟨L, hL⟩ : ∃ L, fromL m n ts b0 = L := ⟨_, rfl⟩
 simp only [he1, hL] at hpf hrf hnil hfl
 clear he1 hL
 have hrf' : e1 = 0 → _ := fun h k W h2 h3 h4 => hrf k W h2 h3 h h4
 have H1 := Lib.hid h1
 have HE := Lib.hid he
 have HAW := Lib.hid haw
 have HM := Lib.hid hm
 have HR := Lib.hid hr
 have HZ := Lib.hid hz
 have HL := Lib.hid hl
 have HPF := Lib.hid hpf
 have HCK := Lib.hid hck
 have HK := Lib.hid hk
 have HRF0 := Lib.hid hrf'
 have HNIL := Lib.hid hnil
 have HFL := Lib.hid hfl
 clear h1 he haw hm hr hz hl hpf hck hk hrf' hnil hfl
 clear hrf
 by_cases hn : 100 < n
 ·have h4 : ¬ n ≤ 4096 := fun h => hg ⟨hn, h⟩
  have h5 : decide (100 < n) = true := decide_eq_true hn
  have h6 : decide (n ≤ 4096) = false := decide_eq_false h4
  clear hg
  go_enter Tryz.func8, Tryz.ntmps8
  go_wp2_with fail
  refine (H1.out _).mono ?_
  rintro e w' ⟨rfl, rfl⟩
  go_wp2_with (at_builtin; refine wpList_append_copy rfl _ _ 34 rfl 3 i0 (.int .i64 0) 1 8 Tryz.underlying34 hi0 hz0 hz1 hz2 rfl (by decide) _ rfl a m ca (ints ts) rfl HL.out HR.out HZ.out (ints_one _) (by unfold maxLen; omega) (by omega) ?_)
  intro a1 c1 w1 hn _ hr1 hc1 _
  have HN := Lib.hid hn
  clear hn
  have HR1 := Lib.hid hr1
  have HC1 := Lib.hid hc1
  clear hr1 hc1
  go_wp2_with fail
  refine (HPF.out _ _ _ HC1.out HR1.out).mono ?_
  rintro e w2 ⟨a2, c2, rfl, hn, hr2⟩
  replace HN := Lib.hid (HN.out.trans hn)
  clear hn
  clear HR1 HC1
  have HR2 := Lib.hid hr2
  clear hr2
  go_wp2_with fail
  refine (HCK.out _ HN.out).mono ?_
  rintro e w3 ⟨rfl, hn⟩
  replace HR2 := Lib.hid (HR2.out.new hn)
  replace HN := Lib.hid (HN.out.trans hn)
  clear hn
  by_cases h0 : e1 = 0
  ·subst h0
   obtain ⟨k, rfl, hk4⟩ := HK.out (by first | rfl | trivial)
   go_wp2_with fail
   refine (HRF0.out (by first | rfl | trivial) k _ rfl hk4 HN.out).mono ?_
   rintro e w4 ⟨a4, c4, rfl, hn, hr4⟩
   replace HR2 := Lib.hid (HR2.out.new hn)
   replace HN := Lib.hid (HN.out.trans hn)
   clear hn
   have HR4 := Lib.hid hr4
   clear hr4
   go_wp2_with fail
   refine (sameb_self a2 a4 c2 c4 _ _ HFL.out HR2.out HR4.out).mono ?_
   rintro e w5 ⟨rfl, hn⟩
   replace HN := Lib.hid (HN.out.trans hn)
   clear hn
   go_wp2_with fail
   refine (HAW.out _ (HE.out.new HN.out)).mono ?_
   rintro e w9 ⟨rfl, hn⟩
   replace HN := Lib.hid (HN.out.trans hn)
   clear hn
   go_wp2_with fail
   go_ret
   exact ⟨rfl, HN.out⟩
  ·have hee : (e1 == e1) = true := by simp
   have h00 : (e1 == 0) = false := by simpa using h0
   have hnil := HNIL.out h0
   have HNL := Lib.hid hnil
   clear hnil
   go_wp2_with fail
   refine (sameb_nil' a2 c2 _ _ HNL.out).mono ?_
   rintro e w5 ⟨rfl, hn⟩
   replace HN := Lib.hid (HN.out.trans hn)
   clear hn
   go_wp2_with fail
   refine (HAW.out _ (HE.out.new HN.out)).mono ?_
   rintro e w9 ⟨rfl, hn⟩
   replace HN := Lib.hid (HN.out.trans hn)
   clear hn
   go_wp2_with fail
   go_ret
   exact ⟨rfl, HN.out⟩
 ·have h5 : decide (100 < n) = false := decide_eq_false hn
  clear hg
  go_enter Tryz.func8, Tryz.ntmps8
  go_wp2_with fail
  refine (H1.out _).mono ?_
  rintro e w' ⟨rfl, rfl⟩
  go_wp2_with (at_builtin; refine wpList_append_copy rfl _ _ 34 rfl 3 i0 (.int .i64 0) 1 8 Tryz.underlying34 hi0 hz0 hz1 hz2 rfl (by decide) _ rfl a m ca (ints ts) rfl HL.out HR.out HZ.out (ints_one _) (by unfold maxLen; omega) (by omega) ?_)
  intro a1 c1 w1 hn _ hr1 hc1 _
  have HN := Lib.hid hn
  clear hn
  have HR1 := Lib.hid hr1
  have HC1 := Lib.hid hc1
  clear hr1 hc1
  go_wp2_with fail
  refine (HPF.out _ _ _ HC1.out HR1.out).mono ?_
  rintro e w2 ⟨a2, c2, rfl, hn, hr2⟩
  replace HN := Lib.hid (HN.out.trans hn)
  clear hn
  clear HR1 HC1
  have HR2 := Lib.hid hr2
  clear hr2
  go_wp2_with fail
  refine (HCK.out _ HN.out).mono ?_
  rintro e w3 ⟨rfl, hn⟩
  replace HR2 := Lib.hid (HR2.out.new hn)
  replace HN := Lib.hid (HN.out.trans hn)
  clear hn
  by_cases h0 : e1 = 0
  ·subst h0
   obtain ⟨k, rfl, hk4⟩ := HK.out (by first | rfl | trivial)
   go_wp2_with fail
   refine (HRF0.out (by first | rfl | trivial) k _ rfl hk4 HN.out).mono ?_
   rintro e w4 ⟨a4, c4, rfl, hn, hr4⟩
   replace HR2 := Lib.hid (HR2.out.new hn)
   replace HN := Lib.hid (HN.out.trans hn)
   clear hn
   have HR4 := Lib.hid hr4
   clear hr4
   go_wp2_with fail
   refine (sameb_self a2 a4 c2 c4 _ _ HFL.out HR2.out HR4.out).mono ?_
   rintro e w5 ⟨rfl, hn⟩
   replace HN := Lib.hid (HN.out.trans hn)
   clear hn
   go_wp2_with fail
   refine (HAW.out _ (HE.out.new HN.out)).mono ?_
   rintro e w9 ⟨rfl, hn⟩
   replace HN := Lib.hid (HN.out.trans hn)
   clear hn
   go_wp2_with fail
   go_ret
   exact ⟨rfl, HN.out⟩
  ·have hee : (e1 == e1) = true := by simp
   have h00 : (e1 == 0) = false := by simpa using h0
   have hnil := HNIL.out h0
   have HNL := Lib.hid hnil
   clear hnil
   go_wp2_with fail
   refine (sameb_nil' a2 c2 _ _ HNL.out).mono ?_
   rintro e w5 ⟨rfl, hn⟩
   replace HN := Lib.hid (HN.out.trans hn)
   clear hn
   go_wp2_with fail
   refine (HAW.out _ (HE.out.new HN.out)).mono ?_
   rintro e w9 ⟨rfl, hn⟩
   replace HN := Lib.hid (HN.out.trans hn)
   clear hn
   go_wp2_with fail
   go_ret
   exact ⟨rfl, HN.out⟩
theorem reb_calls (haw : AwakeOk) (a : Option Addr) (ca : Nat) (ts : List Int) (b0 : Bool) (n : Int) (w : World) (he : Env w) (hr : RdL w a (ints ts)) (hz : a = none → ca = 0) :
  Calls Tryz.prog 8 #[.slice a ts.length ca, .bool b0, .int .i64 n] w fun e w' => e = .returned (.bool true) ∧ New w w' := by
 cases hp : ((ts.length : Int) ≤ 64 || (4096 < (ts.length : Int) && (ts.length : Int) ≤ 4098) : Bool) with
 | false => exact reb_out haw a ca _ b0 n w he (.inl hp)
 | true =>
  have h1 : ts.length ≤ 4098 := by simp at hp; omega
  by_cases hg : 100 < n ∧ n ≤ 4096
  ·exact reb_out haw a ca _ b0 n w he (.inr hg)
  ·exact reb_main haw a ca _ ts b0 n w he rfl h1 hp hg hr hz
end Go.Proofs.YtlfnibjmkfldgaaGreatDoor
namespace Go.Proofs.YtlfnibjmkfldgaaGreatDoor
open Go.RowKit Big
def RdZ (w : World) (a : Option Addr) (rv : List Value) (xss : List (List Value)) : Prop :=
 RdLL w a rv xss ∧ ∀ (k : Nat) (a' : Option Addr) (l' c' : Nat), rv[k]? = some (.slice a' l' c') → a' = none → c' = 0
theorem RdZ.new {w w' : World} {a : Option Addr} {rv : List Value} {xss : List (List Value)} (h : RdZ w a rv xss) (hn : New w w') : RdZ w' a rv xss := ⟨h.1.new hn, h.2⟩
theorem RdZ.at {w : World} {a : Option Addr} {rv : List Value} {xss : List (List Value)} (h : RdZ w a rv xss) (k : Nat) (hk : k < xss.length) :
  ∃ (b off : Nat) (a' : Option Addr) (c' : Nat), a = some ⟨b, off, none⟩ ∧ w.cell? ⟨b, off + k, none⟩ = some (.slice a' xss[k].length c') ∧ RdL w a' xss[k] ∧ xss[k].length ≤ c' ∧ (a' = none → c' = 0) := by
 have hk' : k < rv.length := by rw [h.1.2.1]; exact hk
 obtain ⟨b, off, e, hc⟩ := h.1.1 k hk'
 obtain ⟨a', c', e', hr⟩ := h.1.2.2 k rv[k] xss[k] (List.getElem?_eq_getElem hk') (List.getElem?_eq_getElem hk)
 exact ⟨b, off, a', c', e, by rw [hc, e'], hr.1, hr.2, h.2 k a' _ c' (by rw [List.getElem?_eq_getElem hk', e'])⟩
end Go.Proofs.YtlfnibjmkfldgaaGreatDoor
