/- Part CardTog05. -/
import Derived.Deep.DeepCutAuto
import Derived.Laws.AppendOwnNone
import Derived.Test.YtlfnibjmkfldgaaGreatDoorA16
import Derived.Test.YtlfnibjmkfldgaaGreatDoorA24
import Derived.Test.YtlfnibjmkfldgaaGreatDoorA29
import Derived.Test.YtlfnibjmkfldgaaGreatDoorA32
import Derived.Test.YtlfnibjmkfldgaaGreatDoorA33
import Derived.Test.YtlfnibjmkfldgaaGreatDoorCardTog01
import Derived.Test.YtlfnibjmkfldgaaGreatDoorCardTog02
import Derived.Test.YtlfnibjmkfldgaaGreatDoorCardTog03
import Derived.Test.YtlfnibjmkfldgaaGreatDoorCardTog04
namespace Go.Proofs.YtlfnibjmkfldgaaGreatDoor
open Go.RowKit Big
theorem chg_ge (l : List Bool) : ∀ (b : Bool) (k : Nat), ∀ t ∈ chg b k l, (k : Int) ≤ t := by
 induction l with
 | nil => intro b k t ht; simp [chg] at ht
 | cons x l ih =>
  intro b k t ht
  have h : t ∈ (if x != b then (k : Int) :: chg x (k + 1) l else chg x (k + 1) l) := ht
  split at h
  ·rcases List.mem_cons.1 h with rfl | h
   ·omega
   ·have := ih x (k + 1) t h; omega
  ·have := ih x (k + 1) t h; omega
theorem chk_chg (n : Nat) (l : List Bool) : ∀ (b : Bool) (k : Nat) (p : Option Int), k + l.length ≤ n → (∀ q, p = some q → q < (k : Int)) → chkFrom (n : Int) p (chg b k l) = 0 := by
 induction l with
 | nil => intro b k p _ _; cases p <;> rfl
 | cons x l ih =>
  intro b k p h hp
  have hl : k + 1 + l.length ≤ n := by simp at h; omega
  show chkFrom (n : Int) p (if x != b then (k : Int) :: chg x (k + 1) l else chg x (k + 1) l) = 0
  split
  ·have hih := ih x (k + 1) (some (k : Int)) hl (fun q hq => by injection hq with e; omega)
   unfold chkFrom
   rw [if_neg (by omega), if_neg, hih]
   cases p with
   | none => simp
   | some q =>
    have := hp q rfl
    simp
    omega
  ·exact ih x (k + 1) p hl (fun q hq => by have := hp q hq; omega)
theorem chg_append (l1 : List Bool) : ∀ (b : Bool) (k : Nat) (l2 : List Bool), chg b k (l1 ++ l2) = chg b k l1 ++ chg (lastB b l1) (k + l1.length) l2 := by
 induction l1 with
 | nil => intro b k l2; rfl
 | cons x l1 ih =>
  intro b k l2
  show (if x != b then (k : Int) :: chg x (k + 1) (l1 ++ l2) else chg x (k + 1) (l1 ++ l2)) = (if x != b then (k : Int) :: chg x (k + 1) l1 else chg x (k + 1) l1) ++ chg (lastB x l1) (k + (l1.length + 1)) l2
  have e : k + (l1.length + 1) = k + 1 + l1.length := by omega
  rw [ih, e]
  split <;> rfl
theorem fromS_chg (l : List Bool) (b : Bool) : ∀ i, i ≤ l.length → fromS (chg b 0 l) b i = ((chg b 0 (l.take i)).length, lastB b (l.take i), l.take i)
 | 0, _ => rfl
 | i + 1, h => by
  have hi : i < l.length := by omega
  have ih := fromS_chg l b i (by omega)
  obtain ⟨x, hx⟩ : ∃ x, l[i] = x := ⟨_, rfl⟩
  have hsplit : chg b 0 l = chg b 0 (l.take i) ++ chg (lastB b (l.take i)) i (x :: l.drop (i + 1)) := by
   have h1 := chg_append (l.take i) b 0 (l.drop i)
   rw [List.take_append_drop] at h1
   have h2 : (l.take i).length = i := by rw [List.length_take]; omega
   rw [h2, Nat.zero_add, List.drop_eq_getElem_cons hi, hx] at h1
   exact h1
  have ht : l.take (i + 1) = l.take i ++ [x] := by rw [List.take_succ_eq_append_getElem hi, hx]
  unfold fromS
  rw [ih]
  simp only
  obtain ⟨y, hy⟩ : ∃ y, lastB b (l.take i) = y := ⟨_, rfl⟩
  have hget : (chg b 0 l)[(chg b 0 (l.take i)).length]? = (chg y i (x :: l.drop (i + 1)))[0]? := by
   rw [hsplit, hy, List.getElem?_append_right (Nat.le_refl _), Nat.sub_self]
  rw [hget, ht, lastB_snoc, chg_snoc, hy]
  have h2 : (l.take i).length = i := by rw [List.length_take]; omega
  by_cases hxy : x = y
  ·subst hxy
   have hne : (chg x i (x :: l.drop (i + 1)))[0]? ≠ some (i : Int) := by
    have e : chg x i (x :: l.drop (i + 1)) = chg x (i + 1) (l.drop (i + 1)) := by show (if x != x then _ else _) = _; simp
    rw [e]
    intro hc
    have hm : (i : Int) ∈ chg x (i + 1) (l.drop (i + 1)) := List.mem_of_getElem? hc
    have := chg_ge _ _ _ _ hm
    omega
   rw [if_neg hne]
   simp
  ·have hb : (x != y) = true := by simpa using hxy
   have heq : (chg y i (x :: l.drop (i + 1)))[0]? = some (i : Int) := by
    show (if x != y then (i : Int) :: chg x (i + 1) (l.drop (i + 1)) else chg x (i + 1) (l.drop (i + 1)))[0]? = _
    rw [if_pos hb]
    rfl
   rw [if_pos heq, hb, if_pos rfl]
   have hn : (!y) = x := by cases x <;> cases y <;> simp_all
   rw [hn]
   simp
theorem keepL_take (lo hi : Nat) (xs : List Nat) : ∀ (v : Bool) (k : Nat), (keepL lo hi v xs).take k = keepL lo hi v (xs.take k) := by
 induction xs with
 | nil => intro v k; cases k <;> rfl
 | cons x xs ih =>
  intro v k
  cases k with
  | zero => rfl
  | succ k =>
   show keepF lo hi v x :: (keepL lo hi (keepF lo hi v x) xs).take k = keepF lo hi v x :: keepL lo hi (keepF lo hi v x) (xs.take k)
   rw [ih]
def stV (lo hi : Nat) (v : Bool) (xs : List Nat) (k : Nat) : Bool := lastB v (keepL lo hi v (xs.take k))
theorem st_next (lo hi : Nat) (v : Bool) (xs : List Nat) (k : Nat) (h : k < xs.length) (h' : k < (keepL lo hi v xs).length) :
  (keepL lo hi v xs)[k] = keepF lo hi (stV lo hi v xs k) xs[k] ∧ stV lo hi v xs (k + 1) = keepF lo hi (stV lo hi v xs k) xs[k] := by
 have e : keepL lo hi v (xs.take (k + 1)) = keepL lo hi v (xs.take k) ++ [keepF lo hi (stV lo hi v xs k) xs[k]] := by
  rw [List.take_succ_eq_append_getElem h, keepL_snoc]
  rfl
 constructor
 ·have h1 := keepL_take lo hi xs v (k + 1)
  rw [e, List.take_succ_eq_append_getElem h', keepL_take] at h1
  have := List.append_cancel_left h1
  simpa using this
 ·unfold stV
  rw [e, lastB_snoc]
  rfl
theorem chg_back {xs : List Bool} {n : Nat} (h : xs.length = n) (h4 : n ≤ 4096) : changesErr (chg false 0 xs).length (n : Int) (chg false 0 xs) = 0 ∧ fromL (chg false 0 xs).length (n : Int) (chg false 0 xs) false = xs := by
 have hc : (chg false 0 xs).length ≤ xs.length := chg_len xs false 0
 have h1 : changesErr (chg false 0 xs).length (n : Int) (chg false 0 xs) = 0 := by
  unfold changesErr
  rw [if_neg (by omega), if_neg (by omega)]
  exact chk_chg n xs false 0 none (by omega) (fun q hq => by cases hq)
 refine ⟨h1, ?_⟩
 unfold fromL
 rw [if_pos h1, Int.toNat_natCast, ← h, fromS_chg xs false xs.length (Nat.le_refl _)]
 simp
set_option maxRecDepth 100000 in
set_option maxHeartbeats 4000000 in
theorem tog_out (haw : AwakeOk) (n : Nat) (a : Option Addr) (ca : Nat) (lo hi : Nat) (xs : List Nat) (w : World) (he : Env w) (hn : xs.length = n) (hr : RdL w a (flts xs)) (h0 : 64 < n ∨ digitalErr xs lo hi ≠ 0) :
  Calls Tryz.prog 9 #[.slice a n ca, .agg #[.float .f32 lo, .float .f32 hi]] w fun e w' => e = .returned (.bool true) ∧ New w w' := by
 by_cases h64 : 64 < n
 ·have hi64 : (64 : Int) < (n : Int) := by omega
  have hd64 : decide ((64 : Int) < (n : Int)) = true := decide_eq_true hi64
  clear hr h0 hn
  have HE := Lib.hid he
  have HAW := Lib.hid haw
  clear he haw
  go_enter Tryz.func9, Tryz.ntmps9
  go_wp2_with fail
  have BA := Lib.hid ((Box.alloc w (w.heap.size) 25 #[.float .f32 lo, .float .f32 hi] (by simp)).new (New.refl _))
  have HN := Lib.hid ((New.refl w).alloc (.cells #[.float .f32 lo, .float .f32 hi] 25))
  refine (HAW.out _ (HE.out.new HN.out)).mono ?_
  rintro e w99 ⟨rfl, hn⟩
  replace HN := Lib.hid (HN.out.trans hn)
  clear hn
  go_wp2_with fail
  go_ret
  exact ⟨rfl, HN.out⟩
 have hi64 : ¬ (64 : Int) < (n : Int) := by omega
 have hd64 : decide ((64 : Int) < (n : Int)) = false := decide_eq_false hi64
 have h1 : digitalErr xs lo hi ≠ 0 := by
  rcases h0 with h | h
  ·exact absurd h h64
  ·exact h
 obtain ⟨s, hs⟩ : ∃ s, samplesErr xs = s := ⟨_, rfl⟩
 obtain ⟨lv, hlv⟩ : ∃ lv, levelsErr lo hi = lv := ⟨_, rfl⟩
 have h2 : (if s = 0 then lv else s) ≠ 0 := by rw [← hs, ← hlv]; exact h1
 have hsam : ∀ W, New w W → Calls Tryz.prog 17 #[.slice a n ca] W (RetNew W s) := by
  intro W hW
  have := rsamples_calls a ca xs W (by omega) (hr.new hW)
  rw [hn, hs] at this
  exact this
 have hle : ∀ W, Calls Tryz.prog 18 #[.agg #[.float .f32 lo, .float .f32 hi]] W (RetNew W lv) := by
  intro W
  have := rlevels_calls lo hi W
  rw [hlv] at this
  exact this
 clear h0 h1 hs hlv hr hn
 have HE := Lib.hid he
 have HAW := Lib.hid haw
 have HSAM := Lib.hid hsam
 have HLE := Lib.hid hle
 clear he haw hsam hle
 by_cases hs0 : s = 0
 ·subst hs0
  rw [if_pos rfl] at h2
  have hlt : (lv != 0) = true := by simpa using h2
  clear h2
  go_enter Tryz.func9, Tryz.ntmps9
  go_wp2_with fail
  have BA := Lib.hid ((Box.alloc w (w.heap.size) 25 #[.float .f32 lo, .float .f32 hi] (by simp)).new (New.refl _))
  have HN := Lib.hid ((New.refl w).alloc (.cells #[.float .f32 lo, .float .f32 hi] 25))
  refine (HSAM.out _ HN.out).mono ?_
  rintro e w1 ⟨rfl, hn⟩
  replace BA := Lib.hid (BA.out.new hn)
  replace HN := Lib.hid (HN.out.trans hn)
  clear hn
  obtain ⟨p0, p1, p2, p3, p4⟩ := BA.out.two
  go_wp2_with fail
  clear p0 p1 p2 p3 p4
  refine (HLE.out _).mono ?_
  rintro e w2 ⟨rfl, hn⟩
  replace BA := Lib.hid (BA.out.new hn)
  replace HN := Lib.hid (HN.out.trans hn)
  clear hn
  go_wp2_with fail
  refine (HAW.out _ (HE.out.new HN.out)).mono ?_
  rintro e w99 ⟨rfl, hn⟩
  replace HN := Lib.hid (HN.out.trans hn)
  clear hn
  go_wp2_with fail
  go_ret
  exact ⟨rfl, HN.out⟩
 ·have hst : (s != 0) = true := by simpa using hs0
  clear h2
  go_enter Tryz.func9, Tryz.ntmps9
  go_wp2_with fail
  have BA := Lib.hid ((Box.alloc w (w.heap.size) 25 #[.float .f32 lo, .float .f32 hi] (by simp)).new (New.refl _))
  have HN := Lib.hid ((New.refl w).alloc (.cells #[.float .f32 lo, .float .f32 hi] 25))
  refine (HSAM.out _ HN.out).mono ?_
  rintro e w1 ⟨rfl, hn⟩
  replace BA := Lib.hid (BA.out.new hn)
  replace HN := Lib.hid (HN.out.trans hn)
  clear hn
  go_wp2_with fail
  refine (HAW.out _ (HE.out.new HN.out)).mono ?_
  rintro e w99 ⟨rfl, hn⟩
  replace HN := Lib.hid (HN.out.trans hn)
  clear hn
  go_wp2_with fail
  go_ret
  exact ⟨rfl, HN.out⟩
set_option maxRecDepth 100000 in
set_option maxHeartbeats 8000000 in
theorem tog_main (haw : AwakeOk) (n : Nat) (a : Option Addr) (ca : Nat) (lo hi : Nat) (xs : List Nat) (w : World) (he : Env w) (hn : xs.length = n) (hn64 : n ≤ 64) (hr : RdL w a (flts xs)) (hza : a = none → ca = 0) (h0 : digitalErr xs lo hi = 0) :
  Calls Tryz.prog 9 #[.slice a n ca, .agg #[.float .f32 lo, .float .f32 hi]] w fun e w' => e = .returned (.bool true) ∧ New w w' := by
 have hi64 : ¬ (64 : Int) < (n : Int) := by omega
 have hd64 : decide ((64 : Int) < (n : Int)) = false := decide_eq_false hi64
 have hni : (n : Int) ≤ 64 := by omega
 have hs0 : samplesErr xs = 0 := by
  unfold digitalErr at h0
  by_cases h : samplesErr xs = 0
  ·exact h
  ·rw [if_neg h] at h0; exact absurd h0 h
 have hl0 : levelsErr lo hi = 0 := by
  unfold digitalErr at h0
  rw [if_pos hs0] at h0
  exact h0
 have hsam : ∀ W, New w W → Calls Tryz.prog 17 #[.slice a n ca] W (RetNew W 0) := by
  intro W hW
  have := rsamples_calls a ca xs W (by omega) (hr.new hW)
  rw [hn, hs0] at this
  exact this
 have hle : ∀ W, Calls Tryz.prog 18 #[.agg #[.float .f32 lo, .float .f32 hi]] W (RetNew W 0) := by
  intro W
  have := rlevels_calls lo hi W
  rw [hl0] at this
  exact this
 have hfl : (flts xs).length = n := by simp [flts, hn]
 have hf : ∀ W, New w W → Calls Tryz.prog 14 #[.slice a n ca] W (RdPost W n (flts xs)) := by
  intro W hW
  have := floats_calls a ca (flts xs) W (by omega) (hr.new hW) hza (by intro u hu; simp [flts] at hu; obtain ⟨x, -, rfl⟩ := hu; rfl)
  rw [hfl] at this
  exact this
 have hdg : ∀ v, digL xs lo hi v = keepL lo hi v xs := fun v => if_pos h0
 obtain ⟨AA, hAA⟩ : ∃ AA, keepL lo hi false xs = AA := ⟨_, rfl⟩
 obtain ⟨BB, hBB⟩ : ∃ BB, keepL lo hi true xs = BB := ⟨_, rfl⟩
 have hAl : AA.length = n := by rw [← hAA, keepL_len, hn]
 have hBl : BB.length = n := by rw [← hBB, keepL_len, hn]
 have hch : ∀ a' c' W, RdL W a' (bools AA) → Calls Tryz.prog 15 #[.slice a' n c', .bool false] W (RowPost W 3 (ints (chg false 0 AA)) 0) := by
  intro a' c' W h
  have := changes_ok a' c' AA false W (by omega) h
  rw [hAl] at this
  exact this
 obtain ⟨m, hm⟩ : ∃ m, (chg false 0 AA).length = m := ⟨_, rfl⟩
 have hml : m ≤ 64 := by have := chg_len AA false 0; omega
 have hbk := chg_back hAl (by omega)
 rw [hm] at hbk
 have hfr : ∀ a' c' W, m ≤ c' → RdL W a' (ints (chg false 0 AA)) → Calls Tryz.prog 42 #[.slice a' m c', .bool false, .int .i64 (n : Int)] W fun e w' => ∃ (a' : Option Addr) (c' : Nat), e = .returned (.tuple #[.slice a' n c', .int .i64 0]) ∧ New W w' ∧ RdL w' a' (bools AA) := by
  intro a' c' W hc h
  have := pfrom_calls a' c' m (chg false 0 AA) false (n : Int) W hm (by omega) hc h
  rw [hbk.1, hbk.2, hAl] at this
  exact this
 have hcl : (ints (chg false 0 AA)).length = m := by simp [ints, hm]
 have hst : ∀ (k : Nat) (h : k < xs.length) (h1 : k < AA.length) (h2 : k < BB.length), (AA[k] = keepF lo hi (stV lo hi false xs k) xs[k] ∧ stV lo hi false xs (k + 1) = keepF lo hi (stV lo hi false xs k) xs[k]) ∧ (BB[k] = keepF lo hi (stV lo hi true xs k) xs[k] ∧ stV lo hi true xs (k + 1) = keepF lo hi (stV lo hi true xs k) xs[k]) := by
  intro k h h1 h2
  subst hAA hBB
  exact ⟨st_next lo hi false xs k h h1, st_next lo hi true xs k h h2⟩
 obtain ⟨SA, hSA⟩ : ∃ SA, stV lo hi false xs = SA := ⟨_, rfl⟩
 obtain ⟨SB, hSB⟩ : ∃ SB, stV lo hi true xs = SB := ⟨_, rfl⟩
 have hA0 : SA 0 = false := by rw [← hSA]; rfl
 have hB0 : SB 0 = true := by rw [← hSB]; rfl
 simp only [hSA, hSB] at hst
 have hdA := (hdg false).trans hAA
 have hdB := (hdg true).trans hBB
 have hga : ∀ a' c' W, RdL W a' (flts xs) → Calls Tryz.prog 13 #[.slice a' n c', .agg #[.float .f32 lo, .float .f32 hi], .bool false] W fun e w' => ∃ (a2 : Option Addr) (c2 : Nat), e = .returned (.tuple #[.slice a2 n c2, .int .i64 0]) ∧ New W w' ∧ RdL w' a2 (bools AA) := by
  intro a' c' W h
  have := pdig_calls a' c' n xs lo hi false W hn (by omega) h
  rw [hdA, h0, hAl] at this
  exact this
 have hgb : ∀ a' c' W, RdL W a' (flts xs) → Calls Tryz.prog 13 #[.slice a' n c', .agg #[.float .f32 lo, .float .f32 hi], .bool true] W fun e w' => ∃ (a2 : Option Addr) (c2 : Nat), e = .returned (.tuple #[.slice a2 n c2, .int .i64 0]) ∧ New W w' ∧ RdL w' a2 (bools BB) := by
  intro a' c' W h
  have := pdig_calls a' c' n xs lo hi true W hn (by omega) h
  rw [hdB, h0, hBl] at this
  exact this
 have hsb : ∀ a1 a2 c1 c2 W, RdL W a1 (bools AA) → RdL W a2 (bools AA) → Calls Tryz.prog 22 #[.slice a1 n c1, .slice a2 n c2] W fun e w' => e = .returned (.bool true) ∧ New W w' := by
  intro a1 a2 c1 c2 W h1 h2
  have := sameb_self a1 a2 c1 c2 AA W (by omega) h1 h2
  rw [hAl] at this
  exact this
 clear hAA hBB hSA hSB hs0 hl0 hfl hbk hm hdg hdA hdB h0
 have HE := Lib.hid he
 have HAW := Lib.hid haw
 have HSAM := Lib.hid hsam
 have HLE := Lib.hid hle
 have HF := Lib.hid hf
 have HCH := Lib.hid hch
 have HFR := Lib.hid hfr
 have HST0 := Lib.hid hst
 have HGA := Lib.hid hga
 have HGB := Lib.hid hgb
 have HSB := Lib.hid hsb
 have HR := Lib.hid hr
 have HNN := Lib.hid hn
 have HAL := Lib.hid hAl
 have HBL := Lib.hid hBl
 have HCL := Lib.hid hcl
 have HA0 := Lib.hid hA0
 have HB0 := Lib.hid hB0
 clear he haw hsam hle hf hch hfr hst hga hgb hsb hr hn hAl hBl hcl hA0 hB0
 clear hza
 go_enter Tryz.func9, Tryz.ntmps9
 go_wp2_with fail
 have BA := Lib.hid ((Box.alloc w (w.heap.size) 25 #[.float .f32 lo, .float .f32 hi] (by simp)).new (New.refl _))
 have HN := Lib.hid ((New.refl w).alloc (.cells #[.float .f32 lo, .float .f32 hi] 25))
 refine (HSAM.out _ HN.out).mono ?_
 rintro e w1 ⟨rfl, hn⟩
 replace BA := Lib.hid (BA.out.new hn)
 replace HN := Lib.hid (HN.out.trans hn)
 clear hn
 obtain ⟨p0, p1, p2, p3, p4⟩ := BA.out.two
 go_wp2_with fail
 clear p0 p1 p2 p3 p4
 refine (HLE.out _).mono ?_
 rintro e w2 ⟨rfl, hn⟩
 replace BA := Lib.hid (BA.out.new hn)
 replace HN := Lib.hid (HN.out.trans hn)
 clear hn
 go_wp2_with fail
 obtain ⟨pa0, pa1, pa2, pa3, pa4⟩ := BA.out.two
 refine wp_region_T 8 (fun W => W.cell? ⟨w.heap.size, 0, none⟩ = some (.float .f32 lo) ∧ W.cell? ⟨w.heap.size, 1, none⟩ = some (.float .f32 hi)) 9 #[false, false, false, false, false, false, false, false, false] rfl (by kernel_rfl) (by kernel_rfl) ?_
 refine wpT_take 0 (v := ?_) rfl (by kernel_rfl) (fun _ _ _ h => h) (by exact ⟨pa0, pa1⟩) (Or.inl ⟨by first | kernel_rfl | rfl, ?_⟩) ?_
 rotate_left
 ·(intro W hW; (try dsimp only at hW); go_simp; try with_reducible rfl)
 try simp only [PT]
 refine wpT_take 2 (v := ?_) rfl (by kernel_rfl) (fun _ _ _ h => h) (by exact ⟨pa0, pa1⟩) (Or.inl ⟨by first | kernel_rfl | rfl, ?_⟩) ?_
 rotate_left
 ·(intro W hW; (try dsimp only at hW); go_simp; try with_reducible rfl)
 try simp only [PT]
 refine wpT_one 1 rfl (by kernel_rfl) (fun K hK => ?_)
 go_simp
 refine (HF.out _ (HN.out.drew)).mono ?_
 rintro e w3 ⟨af1, cf1, rfl, hn, hrf, -⟩
 have hn := hn.undrew
 clear pa0 pa1 pa2 pa3 pa4
 replace BA := Lib.hid (BA.out.new hn)
 replace HN := Lib.hid (HN.out.trans hn)
 clear hn
 have HRF := Lib.hid hrf
 clear hrf
 obtain ⟨pa0, pa1, pa2, pa3, pa4⟩ := BA.out.two
 refine hK.out _ _ (fun _ => ?_) ?_
 ·exact ⟨pa0, pa1⟩
 clear hK K
 try simp only [PT]
 refine wpT_one 3 rfl (by kernel_rfl) (fun K hK => ?_)
 go_simp
 refine (HGA.out _ _ _ HRF.out).mono ?_
 rintro e w4 ⟨ad1, cd1, rfl, hn, hrd⟩
 clear pa0 pa1 pa2 pa3 pa4
 replace BA := Lib.hid (BA.out.new hn)
 replace HN := Lib.hid (HN.out.trans hn)
 clear hn
 clear HRF
 have HRA := Lib.hid hrd
 clear hrd
 obtain ⟨pa0, pa1, pa2, pa3, pa4⟩ := BA.out.two
 refine hK.out _ _ (fun _ => ?_) ?_
 ·exact ⟨pa0, pa1⟩
 clear hK K
 try simp only [PT]
 refine wpT_take 4 (v := ?_) rfl (by kernel_rfl) (fun _ _ _ h => h) (by exact ⟨pa0, pa1⟩) (Or.inl ⟨by first | kernel_rfl | rfl, ?_⟩) ?_
 rotate_left
 ·(intro W hW; (try dsimp only at hW); go_simp; try with_reducible rfl)
 try simp only [PT]
 refine wpT_take 5 (v := ?_) rfl (by kernel_rfl) (fun _ _ _ h => h) (by exact ⟨pa0, pa1⟩) (Or.inl ⟨by first | kernel_rfl | rfl, ?_⟩) ?_
 rotate_left
 ·(intro W hW; (try dsimp only at hW); go_simp; try with_reducible rfl)
 try simp only [PT]
 refine wpT_take 6 (v := ?_) rfl (by kernel_rfl) (fun _ _ _ h => h) (by exact ⟨pa0, pa1⟩) (Or.inl ⟨by first | kernel_rfl | rfl, ?_⟩) ?_
 rotate_left
 ·(intro W hW; (try dsimp only at hW); go_simp; try with_reducible rfl)
 try simp only [PT]
 refine wpT_take 7 (v := ?_) rfl (by kernel_rfl) (fun _ _ _ h => h) (by exact ⟨pa0, pa1⟩) (Or.inl ⟨by first | kernel_rfl | rfl, ?_⟩) ?_
 rotate_left
 ·(intro W hW; (try dsimp only at hW); go_simp; try with_reducible rfl)
 try simp only [PT]
 refine wpT_tail rfl (by kernel_rfl) ?_
 simp only [List.drop_succ_cons, List.drop_zero]
 clear pa0 pa1 pa2 pa3 pa4
 go_wp2_with fail
 obtain ⟨pa0, pa1, pa2, pa3, pa4⟩ := BA.out.two
 refine wp_region_T 8 (fun W => W.cell? ⟨w.heap.size, 0, none⟩ = some (.float .f32 lo) ∧ W.cell? ⟨w.heap.size, 1, none⟩ = some (.float .f32 hi)) 9 #[false, false, false, false, false, false, false, false, false] rfl (by kernel_rfl) (by kernel_rfl) ?_
 refine wpT_take 0 (v := ?_) rfl (by kernel_rfl) (fun _ _ _ h => h) (by exact ⟨pa0, pa1⟩) (Or.inl ⟨by first | kernel_rfl | rfl, ?_⟩) ?_
 rotate_left
 ·(intro W hW; (try dsimp only at hW); go_simp; try with_reducible rfl)
 try simp only [PT]
 refine wpT_take 2 (v := ?_) rfl (by kernel_rfl) (fun _ _ _ h => h) (by exact ⟨pa0, pa1⟩) (Or.inl ⟨by first | kernel_rfl | rfl, ?_⟩) ?_
 rotate_left
 ·(intro W hW; (try dsimp only at hW); go_simp; try with_reducible rfl)
 try simp only [PT]
 refine wpT_one 1 rfl (by kernel_rfl) (fun K hK => ?_)
 go_simp
 refine (HF.out _ (HN.out.drew)).mono ?_
 rintro e w5 ⟨af2, cf2, rfl, hn, hrf, -⟩
 have hn := hn.undrew
 clear pa0 pa1 pa2 pa3 pa4
 replace BA := Lib.hid (BA.out.new hn)
 replace HRA := Lib.hid (HRA.out.new hn)
 replace HN := Lib.hid (HN.out.trans hn)
 clear hn
 have HRF := Lib.hid hrf
 clear hrf
 obtain ⟨pa0, pa1, pa2, pa3, pa4⟩ := BA.out.two
 refine hK.out _ _ (fun _ => ?_) ?_
 ·exact ⟨pa0, pa1⟩
 clear hK K
 try simp only [PT]
 refine wpT_one 3 rfl (by kernel_rfl) (fun K hK => ?_)
 go_simp
 refine (HGB.out _ _ _ HRF.out).mono ?_
 rintro e w6 ⟨ad2, cd2, rfl, hn, hrd⟩
 clear pa0 pa1 pa2 pa3 pa4
 replace BA := Lib.hid (BA.out.new hn)
 replace HRA := Lib.hid (HRA.out.new hn)
 replace HN := Lib.hid (HN.out.trans hn)
 clear hn
 clear HRF
 have HRB := Lib.hid hrd
 clear hrd
 obtain ⟨pa0, pa1, pa2, pa3, pa4⟩ := BA.out.two
 refine hK.out _ _ (fun _ => ?_) ?_
 ·exact ⟨pa0, pa1⟩
 clear hK K
 try simp only [PT]
 refine wpT_take 4 (v := ?_) rfl (by kernel_rfl) (fun _ _ _ h => h) (by exact ⟨pa0, pa1⟩) (Or.inl ⟨by first | kernel_rfl | rfl, ?_⟩) ?_
 rotate_left
 ·(intro W hW; (try dsimp only at hW); go_simp; try with_reducible rfl)
 try simp only [PT]
 refine wpT_take 5 (v := ?_) rfl (by kernel_rfl) (fun _ _ _ h => h) (by exact ⟨pa0, pa1⟩) (Or.inl ⟨by first | kernel_rfl | rfl, ?_⟩) ?_
 rotate_left
 ·(intro W hW; (try dsimp only at hW); go_simp; try with_reducible rfl)
 try simp only [PT]
 refine wpT_take 6 (v := ?_) rfl (by kernel_rfl) (fun _ _ _ h => h) (by exact ⟨pa0, pa1⟩) (Or.inl ⟨by first | kernel_rfl | rfl, ?_⟩) ?_
 rotate_left
 ·(intro W hW; (try dsimp only at hW); go_simp; try with_reducible rfl)
 try simp only [PT]
 refine wpT_take 7 (v := ?_) rfl (by kernel_rfl) (fun _ _ _ h => h) (by exact ⟨pa0, pa1⟩) (Or.inl ⟨by first | kernel_rfl | rfl, ?_⟩) ?_
 rotate_left
 ·(intro W hW; (try dsimp only at hW); go_simp; try with_reducible rfl)
 try simp only [PT]
 refine wpT_tail rfl (by kernel_rfl) ?_
 simp only [List.drop_succ_cons, List.drop_zero]
 clear pa0 pa1 pa2 pa3 pa4
 go_wp2_with fail
 refine (HCH.out _ _ _ HRA.out).mono ?_
 rintro e w7 ⟨v7, rfl, hn, ho⟩
 rw [HCL.out] at ho
 obtain ⟨a9, c9, rfl, hr9, hc9, -⟩ := own_rd' ho
 clear ho
 replace BA := Lib.hid (BA.out.new hn)
 replace HRA := Lib.hid (HRA.out.new hn)
 replace HRB := Lib.hid (HRB.out.new hn)
 replace HN := Lib.hid (HN.out.trans hn)
 clear hn
 go_wp2_with fail
 refine (HFR.out _ _ _ hc9 hr9).mono ?_
 rintro e w8 ⟨a11, c11, rfl, hn, hr11⟩
 clear hr9 hc9
 replace BA := Lib.hid (BA.out.new hn)
 replace HRA := Lib.hid (HRA.out.new hn)
 replace HRB := Lib.hid (HRB.out.new hn)
 replace HN := Lib.hid (HN.out.trans hn)
 clear hn
 have HR11 := Lib.hid hr11
 clear hr11
 go_wp2_with fail
 refine (HSB.out _ _ _ _ _ HRA.out HR11.out).mono ?_
 rintro e w9 ⟨rfl, hn⟩
 clear HR11
 replace BA := Lib.hid (BA.out.new hn)
 replace HRA := Lib.hid (HRA.out.new hn)
 replace HRB := Lib.hid (HRB.out.new hn)
 replace HN := Lib.hid (HN.out.trans hn)
 clear hn
 go_wp2_with fail
 go_loopw [13, 14, 87] (fun d l i wr => ∃ (k : Nat) (dc la lb : Bool), k ≤ n ∧ d = .bool dc ∧ l = .bool la ∧ i = .int .i64 (k : Int) ∧ Hid (SA k = la) ∧ Hid (SB k = lb) ∧ Hid (dc = true → la = lb) ∧ Hid (dc = false → la = false ∧ lb = true) ∧ Hid (New w9 wr)) (fun _ _ i _ => n - (intOf i).toNat)
 case atStart => exact ⟨0, false, false, true, Nat.zero_le _, rfl, rfl, rfl, HA0, HB0, Lib.hid (by simp), Lib.hid (by simp), Lib.hid (New.refl _)⟩
 case round =>
  obtain ⟨k, dc, la, lb, hk, rfl, rfl, rfl, HSA, HSB1, HD1, HD2, HM⟩ := hrel
  by_cases hlt : k < n
  ·have hkx : k < xs.length := by rw [HNN.out]; exact hlt
   have hka : k < AA.length := by rw [HAL.out]; exact hlt
   have hkb : k < BB.length := by rw [HBL.out]; exact hlt
   obtain ⟨b1, off1, rfl, hcell⟩ := HR.out k (by simpa [flts] using hkx)
   obtain ⟨b2, off2, rfl, hcA⟩ := HRA.out.bool k hka
   obtain ⟨b3, off3, rfl, hcB⟩ := HRB.out.bool k hkb
   obtain ⟨⟨s1, s2⟩, s3, s4⟩ := HST0.out k hkx hka hkb
   rw [HSA.out] at s1 s2
   rw [HSB1.out] at s3 s4
   clear HSA HSB1
   obtain ⟨x, hx⟩ : ∃ x, xs[k] = x := ⟨_, rfl⟩
   have hxe : (flts xs)[k]'(by simpa [flts] using hkx) = .float .f32 x := by simp [flts, hx]
   rw [hxe] at hcell
   obtain ⟨va, hva⟩ : ∃ v, AA[k] = v := ⟨_, rfl⟩
   obtain ⟨vb, hvb⟩ : ∃ v, BB[k] = v := ⟨_, rfl⟩
   rw [hx] at s1 s2 s3 s4
   rw [hva] at s1 hcA
   rw [hvb] at s3 hcB
   rw [← s1] at s2
   rw [← s3] at s4
   replace hcell := (HN.out.trans HM.out).cell hcell
   replace hcA := HM.out.cell hcA
   replace hcB := HM.out.cell hcB
   obtain ⟨pa0, pa1, pa2, pa3, pa4⟩ := (BA.out.new HM.out).two
   clear hx hxe hva hvb
   cases dc with
   | true =>
    have hd := HD1.out rfl
    subst hd
    clear HD1 HD2
    cases la with
    | true =>
     cases hg : geqF x hi with
     | true =>
      obtain rfl : va = true := by rw [s1]; unfold keepF; rw [hg]; rfl
      obtain rfl : vb = true := by rw [s3]; unfold keepF; rw [hg]; rfl
      unfold geqF at hg
      clear s1 s3
      have HSA1 := Lib.hid s2
      have HSB1 := Lib.hid s4
      clear s2 s4
      go_wp2_with fail
      go_quiet (fail)
      go_wp2_with fail
      go_roundw
      case rel => exact ⟨k + 1, true, true, true, by omega, rfl, rfl, by go_num, HSA1, HSB1, Lib.hid (by simp), Lib.hid (by simp), Lib.hid (HM.out.drewN _)⟩
      case measure => simp [intOf]; omega
     | false =>
      cases hq : leqF x lo with
      | true =>
       obtain rfl : va = false := by rw [s1]; unfold keepF; rw [hg, hq]; rfl
       obtain rfl : vb = false := by rw [s3]; unfold keepF; rw [hg, hq]; rfl
       unfold geqF at hg
       unfold leqF at hq
       clear s1 s3
       have HSA1 := Lib.hid s2
       have HSB1 := Lib.hid s4
       clear s2 s4
       go_wp2_with fail
       go_quiet (fail)
       go_wp2_with fail
       go_roundw
       case rel => exact ⟨k + 1, true, false, false, by omega, rfl, rfl, by go_num, HSA1, HSB1, Lib.hid (by simp), Lib.hid (by simp), Lib.hid (HM.out.drewN _)⟩
       case measure => simp [intOf]; omega
      | false =>
       obtain rfl : va = true := by rw [s1]; unfold keepF; rw [hg, hq]; rfl
       obtain rfl : vb = true := by rw [s3]; unfold keepF; rw [hg, hq]; rfl
       unfold geqF at hg
       unfold leqF at hq
       clear s1 s3
       have HSA1 := Lib.hid s2
       have HSB1 := Lib.hid s4
       clear s2 s4
       go_wp2_with fail
       go_quiet (fail)
       go_wp2_with fail
       go_roundw
       case rel => exact ⟨k + 1, true, true, true, by omega, rfl, rfl, by go_num, HSA1, HSB1, Lib.hid (by simp), Lib.hid (by simp), Lib.hid (HM.out.drewN _)⟩
       case measure => simp [intOf]; omega
    | false =>
     cases hg : geqF x hi with
     | true =>
      obtain rfl : va = true := by rw [s1]; unfold keepF; rw [hg]; rfl
      obtain rfl : vb = true := by rw [s3]; unfold keepF; rw [hg]; rfl
      unfold geqF at hg
      clear s1 s3
      have HSA1 := Lib.hid s2
      have HSB1 := Lib.hid s4
      clear s2 s4
      go_wp2_with fail
      go_quiet (fail)
      go_wp2_with fail
      go_roundw
      case rel => exact ⟨k + 1, true, true, true, by omega, rfl, rfl, by go_num, HSA1, HSB1, Lib.hid (by simp), Lib.hid (by simp), Lib.hid (HM.out.drewN _)⟩
      case measure => simp [intOf]; omega
     | false =>
      cases hq : leqF x lo with
      | true =>
       obtain rfl : va = false := by rw [s1]; unfold keepF; rw [hg, hq]; rfl
       obtain rfl : vb = false := by rw [s3]; unfold keepF; rw [hg, hq]; rfl
       unfold geqF at hg
       unfold leqF at hq
       clear s1 s3
       have HSA1 := Lib.hid s2
       have HSB1 := Lib.hid s4
       clear s2 s4
       go_wp2_with fail
       go_quiet (fail)
       go_wp2_with fail
       go_roundw
       case rel => exact ⟨k + 1, true, false, false, by omega, rfl, rfl, by go_num, HSA1, HSB1, Lib.hid (by simp), Lib.hid (by simp), Lib.hid (HM.out.drewN _)⟩
       case measure => simp [intOf]; omega
      | false =>
       obtain rfl : va = false := by rw [s1]; unfold keepF; rw [hg, hq]; rfl
       obtain rfl : vb = false := by rw [s3]; unfold keepF; rw [hg, hq]; rfl
       unfold geqF at hg
       unfold leqF at hq
       clear s1 s3
       have HSA1 := Lib.hid s2
       have HSB1 := Lib.hid s4
       clear s2 s4
       go_wp2_with fail
       go_quiet (fail)
       go_wp2_with fail
       go_roundw
       case rel => exact ⟨k + 1, true, false, false, by omega, rfl, rfl, by go_num, HSA1, HSB1, Lib.hid (by simp), Lib.hid (by simp), Lib.hid (HM.out.drewN _)⟩
       case measure => simp [intOf]; omega
   | false =>
    have hd := HD2.out rfl
    obtain ⟨rfl, rfl⟩ := hd
    clear HD1 HD2
    cases hg : geqF x hi with
    | true =>
     obtain rfl : va = true := by rw [s1]; unfold keepF; rw [hg]; rfl
     obtain rfl : vb = true := by rw [s3]; unfold keepF; rw [hg]; rfl
     unfold geqF at hg
     clear s1 s3
     have HSA1 := Lib.hid s2
     have HSB1 := Lib.hid s4
     clear s2 s4
     go_wp2_with fail
     go_quiet (fail)
     go_wp2_with fail
     go_roundw
     case rel => exact ⟨k + 1, true, true, true, by omega, rfl, rfl, by go_num, HSA1, HSB1, Lib.hid (by simp), Lib.hid (by simp), Lib.hid (HM.out.drewN _)⟩
     case measure => simp [intOf]; omega
    | false =>
     cases hq : leqF x lo with
     | true =>
      obtain rfl : va = false := by rw [s1]; unfold keepF; rw [hg, hq]; rfl
      obtain rfl : vb = false := by rw [s3]; unfold keepF; rw [hg, hq]; rfl
      unfold geqF at hg
      unfold leqF at hq
      clear s1 s3
      have HSA1 := Lib.hid s2
      have HSB1 := Lib.hid s4
      clear s2 s4
      go_wp2_with fail
      go_quiet (fail)
      go_wp2_with fail
      go_roundw
      case rel => exact ⟨k + 1, true, false, false, by omega, rfl, rfl, by go_num, HSA1, HSB1, Lib.hid (by simp), Lib.hid (by simp), Lib.hid (HM.out.drewN _)⟩
      case measure => simp [intOf]; omega
     | false =>
      obtain rfl : va = false := by rw [s1]; unfold keepF; rw [hg, hq]; rfl
      obtain rfl : vb = true := by rw [s3]; unfold keepF; rw [hg, hq]; rfl
      unfold geqF at hg
      unfold leqF at hq
      clear s1 s3
      have HSA1 := Lib.hid s2
      have HSB1 := Lib.hid s4
      clear s2 s4
      go_wp2_with fail
      go_quiet (fail)
      go_wp2_with fail
      go_roundw
      case rel => exact ⟨k + 1, false, false, true, by omega, rfl, rfl, by go_num, HSA1, HSB1, Lib.hid (by simp), Lib.hid (by simp), Lib.hid (HM.out.drewN _)⟩
      case measure => simp [intOf]; omega
  ·have hkk : k = n := by omega
   have HKK := Lib.hid hkk
   clear hkk
   go_wp2_with fail
   refine (HAW.out _ (HE.out.new (HN.out.trans HM.out))).mono ?_
   rintro e w99 ⟨rfl, hn⟩
   go_wp2_with fail
   go_ret
   exact ⟨rfl, (HN.out.trans HM.out).trans hn⟩
theorem tog_calls (haw : AwakeOk) (a : Option Addr) (ca : Nat) (lo hi : Nat) (xs : List Nat) (w : World) (he : Env w) (hr : RdL w a (flts xs)) (hza : a = none → ca = 0) :
  Calls Tryz.prog 9 #[.slice a xs.length ca, .agg #[.float .f32 lo, .float .f32 hi]] w fun e w' => e = .returned (.bool true) ∧ New w w' := by
 by_cases h : 64 < xs.length ∨ digitalErr xs lo hi ≠ 0
 ·exact tog_out haw _ a ca lo hi xs w he rfl hr h
 ·have h1 : ¬ 64 < xs.length := fun h' => h (.inl h')
  have h2 : digitalErr xs lo hi = 0 := by
   by_cases h' : digitalErr xs lo hi = 0
   ·exact h'
   ·exact absurd (.inr h') h
  exact tog_main haw _ a ca lo hi xs w he rfl (by omega) hr hza h2
end Go.Proofs.YtlfnibjmkfldgaaGreatDoor
