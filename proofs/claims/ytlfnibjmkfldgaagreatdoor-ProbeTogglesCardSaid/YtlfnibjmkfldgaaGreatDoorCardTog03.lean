/- Part CardTog03. -/
import Derived.Laws.AppendOwnNone
import Derived.Test.YtlfnibjmkfldgaaGreatDoorA24
import Derived.Test.YtlfnibjmkfldgaaGreatDoorA29
import Derived.Test.YtlfnibjmkfldgaaGreatDoorA32
import Derived.Test.YtlfnibjmkfldgaaGreatDoorCardTog01
import Derived.Test.YtlfnibjmkfldgaaGreatDoorCardTog02
namespace Go.Proofs.YtlfnibjmkfldgaaGreatDoor
open Go.RowKit Big
theorem chk_round {n t e1 e2 r1 : Int} {y : Bool} (he1 : (if outside t 0 (n - 1) then 3 else 0) = e1) (he2 : (if y then 11 else 0) = e2) (hr1 : (if e1 = 0 then e2 else e1) = r1) :
  (r1 = 0 → ¬ (t < 0 ∨ n ≤ t) ∧ y = false) ∧ (r1 ≠ 0 → ((t < 0 ∨ n ≤ t) ∧ r1 = 3) ∨ (¬ (t < 0 ∨ n ≤ t) ∧ y = true ∧ r1 = 11)) := by
 by_cases h : t < 0 ∨ n ≤ t
 ·have ho : outside t 0 (n - 1) = true := by
   simp only [outside, Bool.or_eq_true, decide_eq_true_eq]
   omega
  rw [ho] at he1
  simp at he1
  subst he1
  simp at hr1
  subst hr1
  exact ⟨fun h => by omega, fun _ => .inl ⟨h, rfl⟩⟩
 ·have ho : outside t 0 (n - 1) = false := by
   simp only [outside, Bool.or_eq_false_iff, decide_eq_false_iff_not]
   omega
  rw [ho] at he1
  simp at he1
  subst he1
  simp at hr1
  subst hr1
  cases y with
  | false => simp at he2; subst he2; exact ⟨fun _ => ⟨h, rfl⟩, fun h => absurd rfl h⟩
  | true => simp at he2; subst he2; exact ⟨fun h => by omega, fun _ => .inr ⟨h, rfl, rfl⟩⟩
theorem box_bools {w : World} {B n : Nat} {t : TypeId} {ol : List Bool} (h : Box w B t (bools (ol ++ List.replicate n false)).toArray) : w.cell? ⟨B, ol.length, none⟩ = if 0 < n then some (.bool false) else none := by
 rw [h.cell]
 unfold bools
 by_cases h0 : 0 < n
 ·rw [if_pos h0]
  simp [h0]
 ·rw [if_neg h0]
  simp
  omega
theorem set_bools (ol : List Bool) (n : Nat) (y : Bool) : (bools (ol ++ List.replicate (n + 1) false)).toArray.setIfInBounds ol.length (.bool y) = (bools ((ol ++ [y]) ++ List.replicate n false)).toArray := by
 unfold bools
 simp [List.replicate_succ]
set_option maxRecDepth 100000 in
set_option maxHeartbeats 4000000 in
theorem from_main (a : Option Addr) (cap m n : Nat) (ts : List Int) (b0 : Bool) (w : World) (hm : ts.length = m) (hl : m ≤ 4096) (hcap : m ≤ cap) (hn : n ≤ 4096) (hr : RdL w a (ints ts)) (r : Int) (hres : chkFrom n none ts = r) :
  Calls Tryz.prog 42 #[.slice a m cap, .bool b0, .int .i64 (n : Int)] w fun e w' => ∃ v, e = .returned (.tuple #[v, .int .i64 r]) ∧ New w w' ∧ (r ≠ 0 → v = .slice none 0 0) ∧
   (r = 0 → ∃ (B c : Nat), v = .slice (some ⟨B, 0, none⟩) n c ∧ RdL w' (some ⟨B, 0, none⟩) (bools (fromS ts b0 n).2.2)) := by
 obtain ⟨i0, hi0, hz0, hz1, hz2⟩ := info_parts info_bool
 have hmi : (m : Int) ≤ 4096 := by omega
 have hni : (n : Int) ≤ 4096 := by omega
 have hfew := fun W => few_int a m cap W (by omega)
 rw [show fewErr m = 0 from if_neg (by omega)] at hfew
 have hout : outside (n : Int) 0 4096 = false := by simp only [outside, Bool.or_eq_false_iff, decide_eq_false_iff_not]; omega
 have hwi := fun W => pwithin_new (n : Int) 0 4096 W
 simp only [hout, Bool.false_eq_true, if_false] at hwi
 have hw1 : wrap64 ((n : Int) - 1) = (n : Int) - 1 := ld_in (by omega) (by omega)
 have hw2 : IntKind.i64.wrap ((n : Int) - 1) = (n : Int) - 1 := by rw [IntKind.wrap_i64]; omega
 have HR := Lib.hid hr
 have HMM := Lib.hid hm
 have HFEW := Lib.hid hfew
 have HOUT := Lib.hid hout
 have HWI := Lib.hid hwi
 have HCAP := Lib.hid hcap
 have HRES := Lib.hid hres
 clear hr hm hfew hout hwi hcap hres
 go_enter Tryz.func42, Tryz.ntmps42
 go_wp2_with fail
 refine (HFEW.out _).mono ?_
 rintro e w1 ⟨rfl, hn⟩
 have HN := Lib.hid hn
 clear hn
 go_wp2_with fail
 refine (HWI.out _).mono ?_
 rintro e w2 ⟨rfl, hn⟩
 replace HN := Lib.hid (HN.out.trans hn)
 clear hn
 go_wp2_with fail
 have HN0 := HN
 clear HN
 have BG := Lib.hid ((Box.alloc w2 (w2.heap.size) 29 #[.int .i64 0, .int .i64 0] (by simp)).new (New.refl _))
 have HN := Lib.hid ((New.refl w2).alloc (.cells #[.int .i64 0, .int .i64 0] 29))
 have HN_ := HN0.out.trans HN.out
 clear HN HN0
 have HN := Lib.hid HN_
 clear HN_
 refine (pfirst2_new 0 0 _ _ 29 _ BG.out).mono ?_
 rintro e w3 ⟨rfl, hn⟩
 replace HN := Lib.hid (HN.out.trans hn)
 clear hn
 clear BG
 go_wp2_with fail
 go_loopw [25] (fun i wr => ∃ (k : Nat), k ≤ m ∧ i = .int .i64 (k : Int) ∧ (chkFrom n (prevAt ts k) (ts.drop k) = r) ∧ Hid (New w wr)) (fun i _ => m - (intOf i).toNat)
 case atStart => exact ⟨0, Nat.zero_le _, rfl, HRES.out, HN⟩
 case round =>
  clear HN
  obtain ⟨k, hk, rfl, hkk, HN⟩ := hrel
  by_cases hlt : k < m
  ·have hlt' : k < ts.length := by rw [HMM.out]; exact hlt
   obtain ⟨b, off, rfl, hcell⟩ := HR.out.int k hlt'
   obtain ⟨t, ht⟩ : ∃ t, ts[k] = t := ⟨_, rfl⟩
   rw [ht] at hcell
   replace hcell := HN.out.cell hcell
   obtain ⟨s1, s2, s3⟩ := chk_step hlt' ht hkk
   obtain ⟨e1, he1⟩ : ∃ e1 : Int, (if outside t 0 ((n : Int) - 1) then 3 else 0) = e1 := ⟨_, rfl⟩
   by_cases hk0 : 0 < k
   ·obtain ⟨j, hj⟩ : ∃ j, k = j + 1 := ⟨k - 1, by omega⟩
    have hjl : j < ts.length := by omega
    obtain ⟨b', off', eb, hcell2⟩ := HR.out.int j hjl
    simp at eb
    obtain ⟨rfl, rfl⟩ := eb
    obtain ⟨q, hq⟩ : ∃ q, ts[j] = q := ⟨_, rfl⟩
    rw [hq] at hcell2
    replace hcell2 := HN.out.cell hcell2
    have hp : prevAt ts k = some q := by unfold prevAt; rw [if_neg (by omega), hj, Nat.add_sub_cancel, List.getElem?_eq_getElem hjl, hq]
    have hjm : (j : Int) < (m : Int) := by omega
    have hwk : IntKind.i64.wrap ((k : Int) - 1) = (j : Int) := by
     have e : (k : Int) - 1 = (j : Int) := by omega
     rw [e]
     exact wrap_small (by omega)
    have hwk2 : wrap64 ((k : Int) - 1) = (j : Int) := by rw [ld_in (by omega) (by omega)]; omega
    have hmx : max (0 : Int) (j : Int) = (j : Int) := by omega
    have hk0i : (0 : Int) < (k : Int) := by omega
    have hk0d : decide ((0 : Int) < (k : Int)) = true := decide_eq_true hk0i
    obtain ⟨y, hy⟩ : ∃ y, decide (t ≤ q) = y := ⟨_, rfl⟩
    obtain ⟨e2, he2⟩ : ∃ e2 : Int, (if y then 11 else 0) = e2 := ⟨_, rfl⟩
    obtain ⟨r1, hr1⟩ : ∃ r1 : Int, (if e1 = 0 then e2 else e1) = r1 := ⟨_, rfl⟩
    obtain ⟨hA, hB⟩ := chk_round he1 he2 hr1
    have hok : r1 = 0 → chkFrom n (prevAt ts (k + 1)) (ts.drop (k + 1)) = r := fun h => by
     obtain ⟨h1, h2⟩ := hA h
     exact s3 h1 (fun q' hq' => by rw [hp] at hq'; injection hq' with e; rw [← e]; rw [← hy] at h2; simpa using h2)
    have hbad : r1 ≠ 0 → r = r1 := fun h => by
     rcases hB h with ⟨h1, h2⟩ | ⟨h1, h2, h3⟩
     ·rw [h2]; exact s1 h1
     ·rw [h3]; exact s2 h1 q hp (by rw [← hy] at h2; simpa using h2)
    clear s1 s2 s3 hA hB hp hq hkk ht
    have HOK := Lib.hid hok
    have HBAD := Lib.hid hbad
    have HE1 := Lib.hid he1
    have HE2 := Lib.hid he2
    have HR1 := Lib.hid hr1
    have HJ := Lib.hid hj
    clear hok hbad he1 he2 hr1 hj
    go_wp2_with fail
    refine (pwithin_new t 0 ((n : Int) - 1) _).mono ?_
    rintro e w4 ⟨rfl, hn⟩
    rw [HE1.out]
    replace hcell2 := hn.cell hcell2
    clear hcell
    replace HN := Lib.hid (HN.out.trans hn)
    clear hn
    go_wp2_with fail
    refine (pwhen_new y 11 _).mono ?_
    rintro e w5 ⟨rfl, hn⟩
    rw [HE2.out]
    replace HN := Lib.hid (HN.out.trans hn)
    clear hn
    go_wp2_with fail
    have HN0 := HN
    clear HN
    have BG := Lib.hid ((Box.alloc w5 (w5.heap.size) 29 #[.int .i64 e1, .int .i64 e2] (by simp)).new (New.refl _))
    have HN := Lib.hid ((New.refl w5).alloc (.cells #[.int .i64 e1, .int .i64 e2] 29))
    have HN_ := HN0.out.trans HN.out
    clear HN HN0
    have HN := Lib.hid HN_
    clear HN_
    refine (pfirst2_new e1 e2 _ _ 29 _ BG.out).mono ?_
    rintro e w6 ⟨rfl, hn⟩
    rw [HR1.out]
    replace HN := Lib.hid (HN.out.trans hn)
    clear hn
    clear BG
    by_cases h0 : r1 = 0
    ·subst h0
     obtain HNX := Lib.hid (HOK.out rfl)
     go_wp2_with fail
     go_roundw
     case rel => exact ⟨k + 1, by omega, by go_num, HNX.out, HN⟩
     case measure => simp [intOf]; omega
    ·have h1 : (r1 != 0) = true := by simpa using h0
     have hrr := HBAD.out h0
     have H0 := Lib.hid h0
     have HRR := Lib.hid hrr
     clear h0 hrr
     go_wp2_with fail
     go_ret2
     exact ⟨.slice none 0 0, by rw [HRR.out]; rfl, HN.out, fun _ => rfl, fun h => absurd (HRR.out.symm.trans h) H0.out⟩
   ·obtain rfl : k = 0 := by omega
    obtain ⟨y, hy⟩ : ∃ y, false = y := ⟨_, rfl⟩
    obtain ⟨e2, he2⟩ : ∃ e2 : Int, (if y then 11 else 0) = e2 := ⟨_, rfl⟩
    obtain ⟨r1, hr1⟩ : ∃ r1 : Int, (if e1 = 0 then e2 else e1) = r1 := ⟨_, rfl⟩
    obtain ⟨hA, hB⟩ := chk_round he1 he2 hr1
    have hok : r1 = 0 → chkFrom n (prevAt ts (0 + 1)) (ts.drop (0 + 1)) = r := fun h => by
     obtain ⟨h1, h2⟩ := hA h
     exact s3 h1 (fun q' hq' => by unfold prevAt at hq'; cases hq')
    have hbad : r1 ≠ 0 → r = r1 := fun h => by
     rcases hB h with ⟨h1, h2⟩ | ⟨h1, h2, h3⟩
     ·rw [h2]; exact s1 h1
     ·rw [← hy] at h2; cases h2
    subst hy
    clear s1 s2 s3 hA hB hkk ht
    simp only [Nat.add_zero] at hcell
    have HOK := Lib.hid hok
    have HBAD := Lib.hid hbad
    have HE1 := Lib.hid he1
    have HE2 := Lib.hid he2
    have HR1 := Lib.hid hr1
    clear hok hbad he1 he2 hr1
    go_wp2_with fail
    refine (pwithin_new t 0 ((n : Int) - 1) _).mono ?_
    rintro e w4 ⟨rfl, hn⟩
    rw [HE1.out]
    clear hcell
    replace HN := Lib.hid (HN.out.trans hn)
    clear hn
    go_wp2_with fail
    refine (pwhen_new false 11 _).mono ?_
    rintro e w5 ⟨rfl, hn⟩
    rw [HE2.out]
    replace HN := Lib.hid (HN.out.trans hn)
    clear hn
    go_wp2_with fail
    have HN0 := HN
    clear HN
    have BG := Lib.hid ((Box.alloc w5 (w5.heap.size) 29 #[.int .i64 e1, .int .i64 e2] (by simp)).new (New.refl _))
    have HN := Lib.hid ((New.refl w5).alloc (.cells #[.int .i64 e1, .int .i64 e2] 29))
    have HN_ := HN0.out.trans HN.out
    clear HN HN0
    have HN := Lib.hid HN_
    clear HN_
    refine (pfirst2_new e1 e2 _ _ 29 _ BG.out).mono ?_
    rintro e w6 ⟨rfl, hn⟩
    rw [HR1.out]
    replace HN := Lib.hid (HN.out.trans hn)
    clear hn
    clear BG
    by_cases h0 : r1 = 0
    ·subst h0
     obtain HNX := Lib.hid (HOK.out rfl)
     go_wp2_with fail
     go_roundw
     case rel => exact ⟨1, by omega, by go_num, HNX.out, HN⟩
     case measure => simp [intOf]; omega
    ·have h1 : (r1 != 0) = true := by simpa using h0
     have hrr := HBAD.out h0
     have H0 := Lib.hid h0
     have HRR := Lib.hid hrr
     clear h0 hrr
     go_wp2_with fail
     go_ret2
     exact ⟨.slice none 0 0, by rw [HRR.out]; rfl, HN.out, fun _ => rfl, fun h => absurd (HRR.out.symm.trans h) H0.out⟩
  ·have hke : k = m := by omega
   have hr0 : r = 0 := by
    rw [hke, ← HMM.out, List.drop_length] at hkk
    rw [← hkk]
    cases prevAt ts ts.length <;> rfl
   clear hkk
   obtain ⟨w5, hw5⟩ : ∃ x, x = wr := ⟨_, rfl⟩
   rw [← hw5] at HN ⊢
   clear hw5
   have hms := HN.out.size
   have HKE := Lib.hid hke
   have HR0 := Lib.hid hr0
   clear hke hr0
   go_wp2_with (at_make; refine wpList_make_full _ rfl _ _ 26 rfl w.heap.size 4 i0 (.bool false) 1 Tryz.underlying26 hi0 hz0 hz1 .i64 .i64 _ _ n rfl rfl (by omega) (by omega) (by rw [hz2]; omega) (by unfold maxLen; omega) hms ?_)
   intro w6 hown hg6
   obtain ⟨B, hB⟩ : ∃ x, w5.heap.size = x := ⟨_, rfl⟩
   have hn6 : New w5 w6 := ⟨hg6.os, by first | exact hg6.tape | exact hg6.output, by first | exact hg6.output | exact hg6.tape, hg6.size, fun j hj => hg6.block j hj (by intro h; cases h)⟩
   have hwB : w.heap.size ≤ B := by rw [← hB]; exact hms
   rw [hB] at hown ⊢
   have hbox : Box w6 B 4 (bools ([] ++ List.replicate n false)).toArray := by
    rcases hown.2 with ⟨h0, _⟩ | ⟨g, cap2, cur, hv, _, hc, h2, _, h3, h4⟩
    ·cases h0
    ·injection hv with hv1 _ hv2
     injection hv1 with hv1
     injection hv1 with hv1
     subst hv1
     unfold Box
     rw [hc]
     congr 2
     rw [Nat.mul_one] at h4
     have : cur.toList = List.replicate n (Value.bool false) := by
      rw [List.take_of_length_le (by simp; omega)] at h4
      rw [h4]
      simp [madeCells, Nat.mod_one]
      rw [List.eq_replicate_iff]
      simp
     unfold bools
     rw [List.nil_append, List.map_replicate, ← this]
   clear hown hg6 hms
   replace HN := Lib.hid (HN.out.trans hn6)
   clear hn6
   have HBOX := Lib.hid hbox
   have HWB := Lib.hid hwB
   have HBE := Lib.hid hB
   clear hbox hwB hB
   go_wp2_with fail
   go_loopw [0, 1, 56] (fun tx bf i wr => ∃ (j c : Nat) (y : Bool) (ol : List Bool) (a' : Option Addr) (c' : Nat), j ≤ n ∧ c ≤ m ∧ tx = .slice a' (m - c) c' ∧ bf = .bool y ∧ i = .int .i64 (j : Int) ∧ m - c ≤ c' ∧ Hid (RdL w a' (ints (ts.drop c))) ∧
    Hid (fromS ts b0 j = (c, y, ol)) ∧ Hid (Box wr B 4 (bools (ol ++ List.replicate (n - j) false)).toArray) ∧ Hid (New w wr)) (fun _ _ i _ => n - (intOf i).toNat)
   case atStart => exact ⟨0, 0, b0, [], a, cap, Nat.zero_le _, Nat.zero_le _, rfl, rfl, rfl, HCAP.out, HR, Lib.hid rfl, HBOX, HN⟩
   case round =>
    clear HN HBOX
    obtain ⟨j, c, y, ol, a', c', hj, hc, rfl, rfl, rfl, hc', HRD, HF, HBX, HN⟩ := hrel
    have hle : ol.length = j := by have h := (fromS_len ts b0 j).1; rw [HF.out] at h; exact h
    by_cases hlt : j < n
    ·have hjm : (j : Int) < 4096 := by omega
     have hcb := box_bools HBX.out
     rw [if_pos (by omega), hle] at hcb
     have hfz := HBX.out.frozen j
     have hlB := HBX.out.lt
     obtain ⟨n', hn'⟩ : ∃ n', n - j = n' + 1 := ⟨n - j - 1, by omega⟩
     have hset : ∀ (W : World) (v : Bool), Box W B 4 (bools (ol ++ List.replicate (n - j) false)).toArray → Box (W.setCell ⟨B, j, none⟩ (.bool v)) B 4 (bools ((ol ++ [v]) ++ List.replicate (n - (j + 1)) false)).toArray := by
      intro W v h
      have h2 := h.set j (.bool v)
      rw [hn', ← hle, set_bools, hle] at h2
      rw [show n - (j + 1) = n' by omega]
      exact h2
     clear hn'
     have HSET := Lib.hid hset
     have HLE := Lib.hid hle
     clear hset hle
     by_cases hcm : c < m
     ·have hc1 : 0 < (ts.drop c).length := by rw [List.length_drop]; have := HMM.out; omega
      obtain ⟨b, off, rfl, hcell⟩ := HRD.out.int 0 hc1
      obtain ⟨t, ht⟩ : ∃ t, (ts.drop c)[0] = t := ⟨_, rfl⟩
      rw [ht, Nat.add_zero] at hcell
      replace hcell := HN.out.cell hcell
      have htc : ts[c]? = some t := by rw [← ht]; simp
      have hml : (0 : Int) < ((m - c : Nat) : Int) := by omega
      have hml2 : decide ((0 : Int) < ((m - c : Nat) : Int)) = true := decide_eq_true hml
      have hml1 : 0 < m - c := by omega
      have hrd2 : RdL w (some ⟨b, off + 1, none⟩) (ints (ts.drop (c + 1))) := fun i hi => by
       have hi' : i + 1 < (ints (ts.drop c)).length := by simp [ints] at hi ⊢; omega
       obtain ⟨b2, off2, e2, hc2⟩ := HRD.out (i + 1) hi'
       simp at e2
       obtain ⟨rfl, rfl⟩ := e2
       refine ⟨b, off + 1, rfl, ?_⟩
       rw [show off + 1 + i = off + (i + 1) by omega, hc2]
       simp [ints, Nat.add_comm, Nat.add_left_comm]
      have hrd3 : RdL w (if c' = 1 then some ⟨b, off, none⟩ else some ⟨b, off + 1, none⟩) (ints (ts.drop (c + 1))) := by
       split
       ·intro i hi
        exfalso
        have h1 := HMM.out
        simp [ints] at hi
        omega
       ·exact hrd2
      clear hrd2
      have HRD2 := Lib.hid hrd3
      have HT := Lib.hid ht
      clear hrd3 ht
      by_cases htj : t = (j : Int)
      ·have hnx : fromS ts b0 (j + 1) = (c + 1, !y, ol ++ [!y]) := by
        unfold fromS
        rw [HF.out]
        simp only
        rw [if_pos (by rw [htc, htj])]
       subst htj
       have HNX := Lib.hid hnx
       have HTC := Lib.hid htc
       clear hnx htc
       go_wp2_with fail
       go_quiet (fail)
       go_wp2_with fail
       go_roundw
       case rel => exact ⟨j + 1, c + 1, _, _, _, _, by omega, by omega, rfl, rfl, by go_num, by omega, HRD2, HNX, Lib.hid (HSET.out _ _ HBX.out), Lib.hid ((HN.out.drewN _).setCell HWB.out _)⟩
       case measure => simp [intOf]; omega
      ·have hnx : fromS ts b0 (j + 1) = (c, y, ol ++ [y]) := by
        unfold fromS
        rw [HF.out]
        simp only
        rw [if_neg (by rw [htc]; intro e; injection e with e; exact htj e)]
       have htb : (t == (j : Int)) = false := by simpa using htj
       clear htj
       have HNX := Lib.hid hnx
       have HTC := Lib.hid htc
       clear hnx htc
       go_wp2_with fail
       go_roundw
       case rel => exact ⟨j + 1, c, _, _, _, _, by omega, hc, rfl, rfl, by go_num, hc', HRD, HNX, Lib.hid (HSET.out _ _ HBX.out), Lib.hid (HN.out.setCell HWB.out _)⟩
       case measure => simp [intOf]; omega
     ·have hml : ¬ (0 : Int) < ((m - c : Nat) : Int) := by omega
      have hml2 : decide ((0 : Int) < ((m - c : Nat) : Int)) = false := decide_eq_false hml
      have hnx : fromS ts b0 (j + 1) = (c, y, ol ++ [y]) := by
       unfold fromS
       rw [HF.out]
       simp only
       rw [if_neg (by rw [List.getElem?_eq_none (by rw [HMM.out]; omega)]; intro e; cases e)]
      have HNX := Lib.hid hnx
      clear hnx
      go_wp2_with fail
      go_roundw
      case rel => exact ⟨j + 1, c, _, _, _, _, by omega, hc, rfl, rfl, by go_num, hc', HRD, HNX, Lib.hid (HSET.out _ _ HBX.out), Lib.hid (HN.out.setCell HWB.out _)⟩
      case measure => simp [intOf]; omega
    ·have hjn : j = n := by omega
     have HJN := Lib.hid hjn
     have HLE := Lib.hid hle
     clear hjn hle
     go_wp2_with fail
     go_ret2
     refine ⟨.slice (some ⟨B, 0, none⟩) n n, by rw [HR0.out]; rfl, HN.out, fun h => absurd HR0.out h, fun _ => ⟨B, _, rfl, ?_⟩⟩
     have h1 := HBX.out
     rw [HJN.out, Nat.sub_self, List.replicate_zero, List.append_nil] at h1
     have h2 : ol = (fromS ts b0 n).2.2 := by rw [← HJN.out, HF.out]
     rw [← h2]
     exact fun i hi => ⟨B, 0, rfl, by rw [Nat.zero_add, h1.cell, List.getElem?_toArray, List.getElem?_eq_getElem hi]⟩
end Go.Proofs.YtlfnibjmkfldgaaGreatDoor
