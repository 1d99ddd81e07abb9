/- Part CardWords06. -/
import Derived.Deep.DeepCutAuto
import Derived.Laws.AppendOwnNone
import Derived.Maps.AppendAt
import Derived.Test.YtlfnibjmkfldgaaGreatDoorA16
import Derived.Test.YtlfnibjmkfldgaaGreatDoorA24
import Derived.Test.YtlfnibjmkfldgaaGreatDoorA29
import Derived.Test.YtlfnibjmkfldgaaGreatDoorA31
import Derived.Test.YtlfnibjmkfldgaaGreatDoorA32
import Derived.Test.YtlfnibjmkfldgaaGreatDoorA33
import Derived.Test.YtlfnibjmkfldgaaGreatDoorCardWords01
import Derived.Test.YtlfnibjmkfldgaaGreatDoorCardWords02
import Derived.Test.YtlfnibjmkfldgaaGreatDoorCardWords03
import Derived.Test.YtlfnibjmkfldgaaGreatDoorCardWords04
import Derived.Test.YtlfnibjmkfldgaaGreatDoorCardWords05
namespace Go.Proofs.YtlfnibjmkfldgaaGreatDoor
open Go.RowKit Big
def wordsL (ls : List (List Bool)) : List Nat := if linesErr ls = 0 then wordsOf ls (ls.headD []).length else []
def lineL (xs : List Nat) (line : Int) : List Bool := if lineErr xs.length line = 0 then xs.map (fun x => bitOf x line.toNat) else []
theorem lines_ok {ls : List (List Bool)} (h : linesErr ls = 0) : 1 ≤ ls.length ∧ ls.length ≤ 16 ∧ (ls.headD []).length ≤ 4096 ∧ ∀ x ∈ ls, x.length = (ls.headD []).length := by
 cases ls with
 | nil => exact absurd h (by decide)
 | cons l0 r =>
  rw [linesErr_cons (by simp)] at h
  have hd : ((l0 :: r).headD []) = l0 := rfl
  rw [hd]
  simp only [List.getElem_cons_zero] at h
  by_cases c1 : 16 < (l0 :: r).length ∨ 4096 < l0.length
  ·rw [if_pos c1] at h; omega
  ·rw [if_neg c1] at h
   by_cases c2 : ((l0 :: r).all fun l => l.length == l0.length) = true
   ·refine ⟨by simp, by omega, by omega, fun x hx => ?_⟩
    have := List.all_eq_true.1 c2 x hx
    simpa using this
   ·rw [if_neg c2] at h; omega
theorem pwords_all (a : Option Addr) (cap N : Nat) (rv : List Value) (ls : List (List Bool)) (w : World) (hr : RdLL w a rv (ls.map bools)) (hN : ls.length = N) (hl : N ≤ 1000000) (ha : 0 < N → ∃ L, a = some ⟨L, 0, none⟩) :
  Calls Tryz.prog 28 #[.slice a N cap] w fun e w' => ∃ (a' : Option Addr) (c' : Nat), e = .returned (.tuple #[.slice a' (wordsL ls).length c', .int .i64 (linesErr ls)]) ∧ New w w' ∧ RdL w' a' (words (wordsL ls)) := by
 unfold wordsL
 by_cases h : linesErr ls = 0
 ·rw [if_pos h, h]
  obtain ⟨h1, h2, h3, h4⟩ := lines_ok h
  obtain ⟨L, rfl⟩ := ha (by omega)
  have := Words_ok L cap (ls.headD []).length rv ls w hr h1 h2 h4 h3
  rw [hN] at this
  refine this.mono fun e w' hp => ?_
  exact hp.rd _ (by simp [words])
 ·rw [if_neg h]
  refine (words_bad a cap N rv ls w hr hN hl ha h).mono fun e w' hp => ?_
  exact ⟨none, 0, hp.1, hp.2, rdl_nil _ _⟩
theorem rwords_all (a : Option Addr) (cap N : Nat) (rv : List Value) (ls : List (List Bool)) (w : World) (hr : RdLL w a rv (ls.map bools)) (hN : ls.length = N) (h : linesErr ls = 0) :
  Calls Tryz.prog 33 #[.slice a N cap] w fun e w' => ∃ (a' : Option Addr) (c' : Nat), e = .returned (.slice a' (wordsL ls).length c') ∧ New w w' ∧ RdL w' a' (words (wordsL ls)) := by
 unfold wordsL
 rw [if_pos h]
 obtain ⟨h1, h2, h3, h4⟩ := lines_ok h
 refine (rwords_calls a cap N (ls.headD []).length rv ls w hr hN (by omega) (by omega) (fun k hk => h4 _ (List.getElem_mem hk)) h3).mono fun e w' hp => ?_
 obtain ⟨v, rfl, hn, ho⟩ := hp
 obtain ⟨a', c', rfl, hrd, -⟩ := own_rd ho
 exact ⟨a', c', by simp [words], hn, hrd⟩
theorem line_in {m : Nat} {line : Int} (h : lineErr m line = 0) : m ≤ 4096 ∧ 0 ≤ line ∧ line ≤ 15 := by
 unfold lineErr at h
 split at h
 ·cases h
 ·rename_i h1
  split at h
  ·cases h
  ·rename_i h2
   simp only [outside, Bool.not_eq_true, Bool.or_eq_false_iff, decide_eq_false_iff_not] at h2
   omega
theorem pline_all (a : Option Addr) (cap m : Nat) (xs : List Nat) (line : Int) (w : World) (hm : xs.length = m) (hl : m ≤ 1000000) (hx : ∀ x ∈ xs, x < 65536) (hr : RdL w a (words xs)) :
  Calls Tryz.prog 30 #[.slice a m cap, .int .i64 line] w fun e w' => ∃ (a' : Option Addr) (c' : Nat), e = .returned (.tuple #[.slice a' (lineL xs line).length c', .int .i64 (lineErr m line)]) ∧ New w w' ∧ RdL w' a' (bools (lineL xs line)) := by
 subst hm
 unfold lineL
 by_cases h : lineErr xs.length line = 0
 ·rw [if_pos h, h]
  obtain ⟨h1, h2, h3⟩ := line_in h
  obtain ⟨n, rfl⟩ : ∃ n : Nat, line = n := ⟨line.toNat, by omega⟩
  refine (line_ok a cap xs n w h1 hx (by omega) hr).mono fun e w' hp => ?_
  exact hp.rd _ (by simp [bools])
 ·rw [if_neg h]
  have := line_bad a cap (words xs) line w (by rw [words_len]; exact hl) (by rw [words_len]; exact h)
  rw [words_len] at this
  refine this.mono fun e w' hp => ?_
  exact ⟨none, 0, hp.1, hp.2, rdl_nil _ _⟩
theorem rline_all (a : Option Addr) (cap m : Nat) (xs : List Nat) (line : Int) (w : World) (hm : xs.length = m) (hx : ∀ x ∈ xs, x < 65536) (hr : RdL w a (words xs)) (h : lineErr m line = 0) :
  Calls Tryz.prog 34 #[.slice a m cap, .int .i64 line] w fun e w' => ∃ (a' : Option Addr) (c' : Nat), e = .returned (.slice a' (lineL xs line).length c') ∧ New w w' ∧ RdL w' a' (bools (lineL xs line)) := by
 unfold lineL
 rw [hm, if_pos h]
 obtain ⟨h1, h2, h3⟩ := line_in h
 obtain ⟨n, rfl⟩ : ∃ n : Nat, line = n := ⟨line.toNat, by omega⟩
 refine (rline_calls a cap m n xs w hm h1 hx (by omega) hr).mono fun e w' hp => ?_
 obtain ⟨v, rfl, hn, ho⟩ := hp
 obtain ⟨a', c', rfl, hrd, -⟩ := own_rd ho
 exact ⟨a', c', by simp [bools], hn, hrd⟩
theorem samew_nil (a : Option Addr) (cap : Nat) (xs : List Nat) (w : World) (h : xs = []) :
  Calls Tryz.prog 35 #[.slice a xs.length cap, .slice none 0 0] w fun e w' => e = .returned (.bool true) ∧ New w w' := by
 subst h
 exact same_words a none cap 0 [] [] w (by simp) rfl (rdl_nil _ _) (rdl_nil _ _) (by intro k h; simp at h)
theorem sameb_nil2 (a : Option Addr) (cap : Nat) (xs : List Bool) (w : World) (h : xs = []) :
  Calls Tryz.prog 22 #[.slice a xs.length cap, .slice none 0 0] w fun e w' => e = .returned (.bool true) ∧ New w w' := by
 subst h
 exact same_bools a none cap 0 [] [] w (by simp) rfl (rdl_nil _ _) (rdl_nil _ _) (by intro k h; simp at h)
theorem words_cell (xs : List Nat) : ∀ u ∈ words xs, u.oneCell' = true := by intro u hu; simp [words] at hu; obtain ⟨x, -, rfl⟩ := hu; rfl
set_option maxRecDepth 100000 in
set_option maxHeartbeats 8000000 in
theorem words_law (haw : AwakeOk) (a b : Option Addr) (ca cb N m : Nat) (rv : List Value) (ls : List (List Bool)) (xs : List Nat) (line : Int) (w : World) (he : Env w) (hN : ls.length = N) (hm : xs.length = m) (_hNl : N ≤ maxLen)
  (hr : RdZ w a rv (ls.map bools)) (hrb : RdL w b (words xs)) (hx : ∀ x ∈ xs, x < 65536) (hzb : b = none → cb = 0) :
  Calls Tryz.prog 6 #[.slice a N ca, .slice b m cb, .int .i64 line] w fun e w' => e = .returned (.bool true) ∧ New w w' := by
 have HN := Lib.hid (New.refl w)
 by_cases h18 : 18 < N
 ·have hi18 : (18 : Int) < (N : Int) := by omega
  have hd18 : decide ((18 : Int) < (N : Int)) = true := decide_eq_true hi18
  clear hr hrb hx hN hm
  have HE := Lib.hid he
  have HAW := Lib.hid haw
  clear he haw
  go_enter Tryz.func6, Tryz.ntmps6
  go_wp2_with fail
  refine (HAW.out _ (HE.out.new HN.out)).mono ?_
  rintro e w99 ⟨rfl, hn⟩
  replace HN := Lib.hid (HN.out.trans hn)
  clear hn
  go_wp2_with fail
  go_ret
  exact ⟨rfl, HN.out⟩
 have hi18 : ¬ (18 : Int) < (N : Int) := by omega
 have hd18 : decide ((18 : Int) < (N : Int)) = false := decide_eq_false hi18
 have h1 := fun W => Length_calls m 64 W
 obtain ⟨p, hp⟩ : ∃ p : Bool, ((m : Int) ≤ 64 || (4096 < (m : Int) && (m : Int) ≤ 4098)) = p := ⟨_, rfl⟩
 simp only [hp] at h1
 cases p with
 | false =>
  clear hr hrb hx hN hm hp h18
  have HE := Lib.hid he
  have HAW := Lib.hid haw
  have H1 := Lib.hid h1
  clear he haw h1
  go_enter Tryz.func6, Tryz.ntmps6
  go_wp2_with fail
  refine (H1.out _).mono ?_
  rintro e w' ⟨rfl, rfl⟩
  go_wp2_with fail
  refine (HAW.out _ (HE.out.new HN.out)).mono ?_
  rintro e w99 ⟨rfl, hn⟩
  replace HN := Lib.hid (HN.out.trans hn)
  clear hn
  go_wp2_with fail
  go_ret
  exact ⟨rfl, HN.out⟩
 | true =>
  have hm4 : m ≤ 4098 := by simp at hp; omega
  clear hp
  have hNi : (N : Int) ≤ 18 := by omega
  obtain ⟨e1, he1⟩ : ∃ e1, linesErr ls = e1 := ⟨_, rfl⟩
  obtain ⟨e2, he2⟩ : ∃ e2, lineErr m line = e2 := ⟨_, rfl⟩
  obtain ⟨WW, hWW⟩ : ∃ WW, wordsL ls = WW := ⟨_, rfl⟩
  obtain ⟨LL, hLL⟩ : ∃ LL, lineL xs line = LL := ⟨_, rfl⟩
  have hcp := fun W (hn : New w W) h => copied_calls a ca N rv ls W (hr.new hn) hN (by omega) h
  have hpw := fun a' cap' rv' W hrr ha => pwords_all a' cap' N rv' ls W hrr hN (by omega) ha
  simp only [he1, hWW] at hpw
  have hxl : (words xs).length = m := by rw [words_len, hm]
  have hwc : ∀ W, New w W → Calls Tryz.prog 31 #[.slice b m cb] W (RdPost W m (words xs)) := by
   intro W hW
   have := words_calls b cb (words xs) W (by omega) (hrb.new hW) hzb (words_cell xs)
   rw [hxl] at this
   exact this
  have hpl := fun a' cap' W hrr => pline_all a' cap' m xs line W hm (by omega) hx hrr
  simp only [he2, hLL] at hpl
  have hck : ∀ W, New w W → Calls Tryz.prog 32 #[.slice a N ca] W (RetNew W e1) := by
   intro W hW
   have := rlines_calls a ca N rv ls W (hr.new hW).1 hN (by omega)
   rw [he1] at this
   exact this
  have hrw : ∀ W, New w W → e1 = 0 → Calls Tryz.prog 33 #[.slice a N ca] W fun e W' => ∃ (a' : Option Addr) (c' : Nat), e = .returned (.slice a' WW.length c') ∧ New W W' ∧ RdL W' a' (words WW) := by
   intro W hW h0
   have := rwords_all a ca N rv ls W (hr.new hW).1 hN (he1.trans h0)
   rw [hWW] at this
   exact this
  have hrl : ∀ W, New w W → e2 = 0 → Calls Tryz.prog 34 #[.slice b m cb, .int .i64 line] W fun e W' => ∃ (a' : Option Addr) (c' : Nat), e = .returned (.slice a' LL.length c') ∧ New W W' ∧ RdL W' a' (bools LL) := by
   intro W hW h0
   have := rline_all b cb m xs line W hm hx (hrb.new hW) (he2.trans h0)
   rw [hLL] at this
   exact this
  have hwn : e1 ≠ 0 → WW = [] := fun h => by rw [← hWW]; unfold wordsL; rw [if_neg (by rw [he1]; exact h)]
  have hln : e2 ≠ 0 → LL = [] := fun h => by rw [← hLL]; unfold lineL; rw [if_neg (by rw [hm, he2]; exact h)]
  have hwb : WW.length ≤ 1000000 := by
   by_cases h0 : e1 = 0
   ·obtain ⟨-, -, h3, -⟩ := lines_ok (he1.trans h0)
    rw [← hWW]
    unfold wordsL
    rw [if_pos (he1.trans h0)]
    simp only [wordsOf, List.length_map, List.length_range]
    omega
   ·rw [hwn h0]; simp
  have hlb : LL.length ≤ 1000000 := by
   by_cases h0 : e2 = 0
   ·rw [← hLL]
    unfold lineL
    rw [if_pos (by rw [hm]; exact he2.trans h0), List.length_map]
    omega
   ·rw [hln h0]; simp
  have he2' : ((4096 : Int) < (m : Int) → e2 = 5) ∧ (¬ (4096 : Int) < (m : Int) → (line < 0 ∨ 15 < line) → e2 = 3) ∧ (¬ (4096 : Int) < (m : Int) → ¬ (line < 0 ∨ 15 < line) → e2 = 0) := by
   rw [← he2]
   unfold lineErr
   refine ⟨fun h => if_pos (by omega), fun h h' => ?_, fun h h' => ?_⟩
   ·rw [if_neg (by omega), if_pos (by simp only [outside, Bool.or_eq_true, decide_eq_true_eq]; omega)]
   ·rw [if_neg (by omega), if_neg (by simp only [outside, Bool.not_eq_true, Bool.or_eq_false_iff, decide_eq_false_iff_not]; omega)]
  have hat : ∀ (k : Nat) (h : k < ls.length), ∃ (b' off' : Nat) (a' : Option Addr) (c' : Nat), a = some ⟨b', off', none⟩ ∧ w.cell? ⟨b', off' + k, none⟩ = some (.slice a' ls[k].length c') := fun k h => by
   obtain ⟨b', off', a', c', e, hc, -⟩ := hr.at k (by simpa using h)
   have e3 : ((ls.map bools)[k]'(by simpa using h)).length = ls[k].length := by simp [bools]
   rw [e3] at hc
   exact ⟨b', off', a', c', e, hc⟩
  clear he1 he2 hWW hLL hxl hx hrb hr hm h18
  have HE := Lib.hid he
  have HAW := Lib.hid haw
  have H1 := Lib.hid h1
  have HNN := Lib.hid hN
  have HCP := Lib.hid hcp
  have HPW := Lib.hid hpw
  have HWC := Lib.hid hwc
  have HPL := Lib.hid hpl
  have HCK := Lib.hid hck
  have HRW := Lib.hid hrw
  have HRL := Lib.hid hrl
  have HWN := Lib.hid hwn
  have HLN := Lib.hid hln
  have HWB := Lib.hid hwb
  have HLB := Lib.hid hlb
  have HE2 := Lib.hid he2'
  have HAT := Lib.hid hat
  clear he haw h1 hN hcp hpw hwc hpl hck hrw hrl hwn hln hwb hlb he2' hat
  go_enter Tryz.func6, Tryz.ntmps6
  go_wp2_with fail
  refine (H1.out _).mono ?_
  rintro e w' ⟨rfl, hw'⟩
  rw [hw']
  clear hw' H1
  go_wp2_with fail
  go_loopw [29] (fun i wr => ∃ (k : Nat), k ≤ N ∧ i = .int .i64 (k : Int) ∧ Hid (∀ (j : Nat) (h : j < ls.length), j < k → ls[j].length ≤ 5000) ∧ wr = w) (fun i _ => N - (intOf i).toNat)
  case atStart => exact ⟨0, Nat.zero_le _, rfl, Lib.hid (fun j h h' => by omega), rfl⟩
  case round =>
   obtain ⟨k, hk, rfl, HK, rfl⟩ := hrel
   by_cases hlt : k < N
   ·have hk1 : k < ls.length := by rw [HNN.out]; exact hlt
    obtain ⟨b', off', a', c', rfl, hcell⟩ := HAT.out k hk1
    obtain ⟨l, hl⟩ : ∃ l, ls[k].length = l := ⟨_, rfl⟩
    rw [hl] at hcell
    have h1 := fun W => Length_calls l 40 W
    obtain ⟨q, hq⟩ : ∃ q : Bool, ((l : Int) ≤ 40 || (4096 < (l : Int) && (l : Int) ≤ 4098)) = q := ⟨_, rfl⟩
    simp only [hq] at h1
    cases q with
    | false =>
     clear hq hl
     have H1 := Lib.hid h1
     clear h1
     go_wp2_with fail
     refine (H1.out _).mono ?_
     rintro e w' ⟨rfl, hw'⟩
     rw [hw']
     clear hw'
     go_wp2_with fail
     refine (HAW.out _ (HE.out.new HN.out)).mono ?_
     rintro e w99 ⟨rfl, hn⟩
     replace HN := Lib.hid (HN.out.trans hn)
     clear hn
     go_wp2_with fail
     go_ret
     exact ⟨rfl, HN.out⟩
    | true =>
     have hl5 : l ≤ 5000 := by simp at hq; omega
     have hK2 : ∀ (j : Nat) (h : j < ls.length), j < k + 1 → ls[j].length ≤ 5000 := fun j h h' => by
      by_cases hjk : j = k
      ·subst hjk; rw [hl]; exact hl5
      ·exact HK.out j h (by omega)
     clear hq hl
     have H1 := Lib.hid h1
     have HK2 := Lib.hid hK2
     clear h1 hK2
     go_wp2_with fail
     refine (H1.out _).mono ?_
     rintro e w' ⟨rfl, hw'⟩
     rw [hw']
     clear hw'
     go_wp2_with fail
     go_roundw
     case rel => exact ⟨k + 1, by omega, by go_num, HK2, by first | rfl | trivial⟩
     case measure => simp [intOf]; omega
   ·have hkk : k = N := by omega
    have hcp2 := HCP.out _ HN.out (fun j h => HK.out j h (by rw [hkk, ← HNN.out]; exact h))
    clear HK HCP HAT
    have HCP := Lib.hid hcp2
    have HKK := Lib.hid hkk
    clear hcp2 hkk
    go_wp2_with fail
    refine HCP.out.mono ?_
    rintro e w1 ⟨v1, rfl, hn, ho⟩
    have ho2 := ho.rdz
    clear ho
    obtain ⟨a1, c1, rv1, rfl, hz1, ha1, hc1, -⟩ := ho2
    have hlm : (ls.map bools).length = N := by rw [List.length_map]; exact HNN.out
    rw [hlm] at ha1 hc1 ⊢
    clear hlm
    replace HN := Lib.hid (HN.out.trans hn)
    clear hn
    have HZ1 := Lib.hid hz1
    have HA1 := Lib.hid ha1
    have HC1 := Lib.hid hc1
    clear hz1 ha1 hc1
    go_wp2_with fail
    refine (HPW.out _ _ _ _ HZ1.out.1 HA1.out).mono ?_
    rintro e w2 ⟨a9, c9, rfl, hn, hr9⟩
    replace HN := Lib.hid (HN.out.trans hn)
    clear hn
    have HR9 := Lib.hid hr9
    clear hr9
    clear HZ1 HA1 HC1
    go_wp2_with fail
    refine (HWC.out _ HN.out).mono ?_
    rintro e w3 ⟨a4, c4, rfl, hn, hr4, -, -⟩
    replace HR9 := Lib.hid (HR9.out.new hn)
    replace HN := Lib.hid (HN.out.trans hn)
    clear hn
    have HR4 := Lib.hid hr4
    clear hr4
    go_wp2_with fail
    refine (HPL.out _ _ _ HR4.out).mono ?_
    rintro e w5 ⟨a11, c11, rfl, hn, hr11⟩
    replace HR9 := Lib.hid (HR9.out.new hn)
    replace HN := Lib.hid (HN.out.trans hn)
    clear hn
    have HR11 := Lib.hid hr11
    clear hr11
    clear HR4
    go_wp2_with fail
    refine (HCK.out _ HN.out).mono ?_
    rintro e w6 ⟨rfl, hn⟩
    replace HR9 := Lib.hid (HR9.out.new hn)
    replace HR11 := Lib.hid (HR11.out.new hn)
    replace HN := Lib.hid (HN.out.trans hn)
    clear hn
    by_cases h0 : e1 = 0
    ·subst h0
     go_wp2_with fail
     refine (HRW.out _ HN.out (by first | rfl | trivial)).mono ?_
     rintro e w7 ⟨a14, c14, rfl, hn, hr14⟩
     replace HR9 := Lib.hid (HR9.out.new hn)
     replace HR11 := Lib.hid (HR11.out.new hn)
     replace HN := Lib.hid (HN.out.trans hn)
     clear hn
     have hsw := fun W' (hW : New w7 W') => samew_self a9 a14 c9 c14 WW W' HWB.out (HR9.out.new hW) (hr14.new hW)
     have HSW := Lib.hid hsw
     clear hsw
     clear hr14 HR9
     by_cases h4 : (4096 : Int) < (m : Int)
     ·have hd4 : decide ((4096 : Int) < (m : Int)) = true := decide_eq_true h4
      obtain rfl : e2 = 5 := HE2.out.1 (by omega)
      have hbn := HLN.out (by decide)
      have hsb : ∀ W', New w7 W' → _ := fun W' _ => sameb_nil2 a11 c11 LL W' hbn
      have HSB := Lib.hid hsb
      have HBN := Lib.hid hbn
      clear hsb hbn
      go_wp2_with fail
      refine (HSW.out _ (New.refl _)).mono ?_
      rintro e w20 ⟨rfl, hn⟩
      have HM1 := Lib.hid hn
      replace HN := Lib.hid (HN.out.trans hn)
      clear hn
      go_wp2_with fail
      refine (HSB.out _ HM1.out).mono ?_
      rintro e w21 ⟨rfl, hn⟩
      replace HN := Lib.hid (HN.out.trans hn)
      clear hn
      clear HM1
      go_wp2_with fail
      refine (HAW.out _ (HE.out.new HN.out)).mono ?_
      rintro e w99 ⟨rfl, hn⟩
      replace HN := Lib.hid (HN.out.trans hn)
      clear hn
      go_wp2_with fail
      go_ret
      exact ⟨rfl, HN.out⟩
     ·have hd4 : decide ((4096 : Int) < (m : Int)) = false := decide_eq_false h4
      by_cases hl0 : line < 0
      ·have hdl : decide (line < 0) = true := decide_eq_true hl0
       obtain rfl : e2 = 3 := HE2.out.2.1 (by omega) (by omega)
       have hbn := HLN.out (by decide)
       have hsb : ∀ W', New w7 W' → _ := fun W' _ => sameb_nil2 a11 c11 LL W' hbn
       have HSB := Lib.hid hsb
       have HBN := Lib.hid hbn
       clear hsb hbn
       go_wp2_with fail
       refine (HSW.out _ (New.refl _)).mono ?_
       rintro e w20 ⟨rfl, hn⟩
       have HM1 := Lib.hid hn
       replace HN := Lib.hid (HN.out.trans hn)
       clear hn
       go_wp2_with fail
       refine (HSB.out _ HM1.out).mono ?_
       rintro e w21 ⟨rfl, hn⟩
       replace HN := Lib.hid (HN.out.trans hn)
       clear hn
       clear HM1
       go_wp2_with fail
       refine (HAW.out _ (HE.out.new HN.out)).mono ?_
       rintro e w99 ⟨rfl, hn⟩
       replace HN := Lib.hid (HN.out.trans hn)
       clear hn
       go_wp2_with fail
       go_ret
       exact ⟨rfl, HN.out⟩
      ·have hdl : decide (line < 0) = false := decide_eq_false hl0
       by_cases hl15 : 15 < line
       ·have hdh : decide (15 < line) = true := decide_eq_true hl15
        obtain rfl : e2 = 3 := HE2.out.2.1 (by omega) (by omega)
        have hbn := HLN.out (by decide)
        have hsb : ∀ W', New w7 W' → _ := fun W' _ => sameb_nil2 a11 c11 LL W' hbn
        have HSB := Lib.hid hsb
        have HBN := Lib.hid hbn
        clear hsb hbn
        go_wp2_with fail
        refine (HSW.out _ (New.refl _)).mono ?_
        rintro e w20 ⟨rfl, hn⟩
        have HM1 := Lib.hid hn
        replace HN := Lib.hid (HN.out.trans hn)
        clear hn
        go_wp2_with fail
        refine (HSB.out _ HM1.out).mono ?_
        rintro e w21 ⟨rfl, hn⟩
        replace HN := Lib.hid (HN.out.trans hn)
        clear hn
        clear HM1
        go_wp2_with fail
        refine (HAW.out _ (HE.out.new HN.out)).mono ?_
        rintro e w99 ⟨rfl, hn⟩
        replace HN := Lib.hid (HN.out.trans hn)
        clear hn
        go_wp2_with fail
        go_ret
        exact ⟨rfl, HN.out⟩
       ·have hdh : decide (15 < line) = false := decide_eq_false hl15
        obtain rfl : e2 = 0 := HE2.out.2.2 (by omega) (by omega)
        go_wp2_with fail
        refine (HRL.out _ HN.out (by first | rfl | trivial)).mono ?_
        rintro e w15 ⟨a15, c15, rfl, hn, hr15⟩
        have hsw := fun W' hW => HSW.out W' (hn.trans hW)
        clear HSW
        replace HR11 := Lib.hid (HR11.out.new hn)
        replace HN := Lib.hid (HN.out.trans hn)
        clear hn
        have hsb := fun W' (hW : New w15 W') => sameb_self a11 a15 c11 c15 LL W' HLB.out (HR11.out.new hW) (hr15.new hW)
        have HSW := Lib.hid hsw
        have HSB := Lib.hid hsb
        clear hsw hsb
        clear hr15
        go_wp2_with fail
        refine (HSW.out _ (New.refl _)).mono ?_
        rintro e w20 ⟨rfl, hn⟩
        have HM1 := Lib.hid hn
        replace HN := Lib.hid (HN.out.trans hn)
        clear hn
        go_wp2_with fail
        refine (HSB.out _ HM1.out).mono ?_
        rintro e w21 ⟨rfl, hn⟩
        replace HN := Lib.hid (HN.out.trans hn)
        clear hn
        clear HM1
        go_wp2_with fail
        refine (HAW.out _ (HE.out.new HN.out)).mono ?_
        rintro e w99 ⟨rfl, hn⟩
        replace HN := Lib.hid (HN.out.trans hn)
        clear hn
        go_wp2_with fail
        go_ret
        exact ⟨rfl, HN.out⟩
    ·have hee : (e1 == e1) = true := by simp
     have h00 : (e1 == 0) = false := by simpa using h0
     have hnil := HWN.out h0
     have hsw : ∀ W', New w6 W' → _ := fun W' _ => samew_nil a9 c9 WW W' hnil
     have HSW := Lib.hid hsw
     have HNL := Lib.hid hnil
     clear hsw hnil
     clear HR9
     by_cases h4 : (4096 : Int) < (m : Int)
     ·have hd4 : decide ((4096 : Int) < (m : Int)) = true := decide_eq_true h4
      obtain rfl : e2 = 5 := HE2.out.1 (by omega)
      have hbn := HLN.out (by decide)
      have hsb : ∀ W', New w6 W' → _ := fun W' _ => sameb_nil2 a11 c11 LL W' hbn
      have HSB := Lib.hid hsb
      have HBN := Lib.hid hbn
      clear hsb hbn
      go_wp2_with fail
      refine (HSW.out _ (New.refl _)).mono ?_
      rintro e w20 ⟨rfl, hn⟩
      have HM1 := Lib.hid hn
      replace HN := Lib.hid (HN.out.trans hn)
      clear hn
      go_wp2_with fail
      refine (HSB.out _ HM1.out).mono ?_
      rintro e w21 ⟨rfl, hn⟩
      replace HN := Lib.hid (HN.out.trans hn)
      clear hn
      clear HM1
      go_wp2_with fail
      refine (HAW.out _ (HE.out.new HN.out)).mono ?_
      rintro e w99 ⟨rfl, hn⟩
      replace HN := Lib.hid (HN.out.trans hn)
      clear hn
      go_wp2_with fail
      go_ret
      exact ⟨rfl, HN.out⟩
     ·have hd4 : decide ((4096 : Int) < (m : Int)) = false := decide_eq_false h4
      by_cases hl0 : line < 0
      ·have hdl : decide (line < 0) = true := decide_eq_true hl0
       obtain rfl : e2 = 3 := HE2.out.2.1 (by omega) (by omega)
       have hbn := HLN.out (by decide)
       have hsb : ∀ W', New w6 W' → _ := fun W' _ => sameb_nil2 a11 c11 LL W' hbn
       have HSB := Lib.hid hsb
       have HBN := Lib.hid hbn
       clear hsb hbn
       go_wp2_with fail
       refine (HSW.out _ (New.refl _)).mono ?_
       rintro e w20 ⟨rfl, hn⟩
       have HM1 := Lib.hid hn
       replace HN := Lib.hid (HN.out.trans hn)
       clear hn
       go_wp2_with fail
       refine (HSB.out _ HM1.out).mono ?_
       rintro e w21 ⟨rfl, hn⟩
       replace HN := Lib.hid (HN.out.trans hn)
       clear hn
       clear HM1
       go_wp2_with fail
       refine (HAW.out _ (HE.out.new HN.out)).mono ?_
       rintro e w99 ⟨rfl, hn⟩
       replace HN := Lib.hid (HN.out.trans hn)
       clear hn
       go_wp2_with fail
       go_ret
       exact ⟨rfl, HN.out⟩
      ·have hdl : decide (line < 0) = false := decide_eq_false hl0
       by_cases hl15 : 15 < line
       ·have hdh : decide (15 < line) = true := decide_eq_true hl15
        obtain rfl : e2 = 3 := HE2.out.2.1 (by omega) (by omega)
        have hbn := HLN.out (by decide)
        have hsb : ∀ W', New w6 W' → _ := fun W' _ => sameb_nil2 a11 c11 LL W' hbn
        have HSB := Lib.hid hsb
        have HBN := Lib.hid hbn
        clear hsb hbn
        go_wp2_with fail
        refine (HSW.out _ (New.refl _)).mono ?_
        rintro e w20 ⟨rfl, hn⟩
        have HM1 := Lib.hid hn
        replace HN := Lib.hid (HN.out.trans hn)
        clear hn
        go_wp2_with fail
        refine (HSB.out _ HM1.out).mono ?_
        rintro e w21 ⟨rfl, hn⟩
        replace HN := Lib.hid (HN.out.trans hn)
        clear hn
        clear HM1
        go_wp2_with fail
        refine (HAW.out _ (HE.out.new HN.out)).mono ?_
        rintro e w99 ⟨rfl, hn⟩
        replace HN := Lib.hid (HN.out.trans hn)
        clear hn
        go_wp2_with fail
        go_ret
        exact ⟨rfl, HN.out⟩
       ·have hdh : decide (15 < line) = false := decide_eq_false hl15
        obtain rfl : e2 = 0 := HE2.out.2.2 (by omega) (by omega)
        go_wp2_with fail
        refine (HRL.out _ HN.out (by first | rfl | trivial)).mono ?_
        rintro e w15 ⟨a15, c15, rfl, hn, hr15⟩
        have hsw := fun W' hW => HSW.out W' (hn.trans hW)
        clear HSW
        replace HR11 := Lib.hid (HR11.out.new hn)
        replace HN := Lib.hid (HN.out.trans hn)
        clear hn
        have hsb := fun W' (hW : New w15 W') => sameb_self a11 a15 c11 c15 LL W' HLB.out (HR11.out.new hW) (hr15.new hW)
        have HSW := Lib.hid hsw
        have HSB := Lib.hid hsb
        clear hsw hsb
        clear hr15
        go_wp2_with fail
        refine (HSW.out _ (New.refl _)).mono ?_
        rintro e w20 ⟨rfl, hn⟩
        have HM1 := Lib.hid hn
        replace HN := Lib.hid (HN.out.trans hn)
        clear hn
        go_wp2_with fail
        refine (HSB.out _ HM1.out).mono ?_
        rintro e w21 ⟨rfl, hn⟩
        replace HN := Lib.hid (HN.out.trans hn)
        clear hn
        clear HM1
        go_wp2_with fail
        refine (HAW.out _ (HE.out.new HN.out)).mono ?_
        rintro e w99 ⟨rfl, hn⟩
        replace HN := Lib.hid (HN.out.trans hn)
        clear hn
        go_wp2_with fail
        go_ret
        exact ⟨rfl, HN.out⟩
end Go.Proofs.YtlfnibjmkfldgaaGreatDoor
