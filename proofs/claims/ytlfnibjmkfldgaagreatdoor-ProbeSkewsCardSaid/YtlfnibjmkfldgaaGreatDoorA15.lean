/- Part A15. -/
import Derived.Shelf.Strings.SlTrimAscii
import Derived.Deep.DeepCutAuto
import Derived.Laws.FloatArith
import Derived.Test.YtlfnibjmkfldgaaGreatDoorA14
namespace Go.Proofs.YtlfnibjmkfldgaaGreatDoor
open Go.RowKit Big
theorem strTrim_calls (s : ByteArray) (w : World) (hs : s.size ≤ 1000000) : Calls Tryz.prog 133 #[.string s, .string ⟨#[48, 49, 50, 51, 52, 53, 54, 55, 56, 57]⟩] w fun e w' => e = .returned (.string ⟨(Lib.trimS s.data.toList [48, 49, 50, 51, 52, 53, 54, 55, 56, 57]).toArray⟩) ∧ New w w' :=
 Any.strings_Trim_laid Tryz.lays160 (by kernel_rfl) s ⟨#[48, 49, 50, 51, 52, 53, 54, 55, 56, 57]⟩ w (by omega) (by decide) (ascii_of_all (by decide))
theorem decimal_empty (w : World) : Calls Tryz.prog 111 #[.string ⟨#[]⟩] w fun e w' => e = .returned (.bool false) ∧ New w w' := by
 go_enter Tryz.func111, Tryz.ntmps111
 go_wp2_with fail
 go_ret
 exact ⟨rfl, New.refl _⟩
theorem digs_contains (c : UInt8) : ([48, 49, 50, 51, 52, 53, 54, 55, 56, 57] : List UInt8).contains c = isDig c := by
 have key : ∀ n, n < 256 → ([48, 49, 50, 51, 52, 53, 54, 55, 56, 57] : List UInt8).contains (UInt8.ofNat n) = isDig (UInt8.ofNat n) := by decide +kernel
 have := key c.toNat (UInt8.toNat_lt c)
 rwa [UInt8.ofNat_toNat] at this
theorem dropWhile_nil_iff {p : UInt8 → Bool} : ∀ {l : List UInt8}, l.dropWhile p = [] ↔ ∀ c ∈ l, p c = true := by
 intro l
 exact ⟨fun h => all_of_dropWhile h, fun h => dropWhile_all h⟩
theorem dropWhile_head {p : UInt8 → Bool} : ∀ {l : List UInt8} {c : UInt8} {r : List UInt8}, l.dropWhile p = c :: r → p c = false
 | [], c, r, h => by cases h
 | x :: l, c, r, h => by
  rw [List.dropWhile_cons] at h
  split at h
  ·exact dropWhile_head h
  ·rename_i hx
   cases h
   simpa using hx
theorem trimS_nil {l : List UInt8} : Lib.trimS l [48, 49, 50, 51, 52, 53, 54, 55, 56, 57] = [] ↔ l.all isDig = true := by
 unfold Lib.trimS Lib.trimLeftS Lib.trimRightS
 simp only [digs_contains]
 rw [dropWhile_nil_iff, List.all_eq_true]
 constructor
 ·intro h
  cases hd : l.reverse.dropWhile isDig with
  | nil =>
   intro c hc
   exact dropWhile_nil_iff.1 hd c (by simpa using hc)
  | cons c r =>
   have h1 := dropWhile_head hd
   have h2 := h c (by rw [hd]; simp)
   rw [h1] at h2
   cases h2
 ·intro h c hc
  have : l.reverse.dropWhile isDig = [] := dropWhile_nil_iff.2 fun x hx => h x (by simpa using hx)
  rw [this] at hc
  simp at hc
theorem ret_bool {a b : Bool} (h : a = b) : Ending.returned (.bool a) = .returned (.bool b) := by rw [h]
theorem decimal_some (c : UInt8) (l : List UInt8) (w : World) (hl : (c :: l).length ≤ 1000000) : Calls Tryz.prog 111 #[.string ⟨(c :: l).toArray⟩] w fun e w' => e = .returned (.bool (isDec (c :: l))) ∧ New w w' := by
 obtain ⟨r, hr⟩ : ∃ r, isDec (c :: l) = r := ⟨_, rfl⟩
 rw [hr]
 have ht := fun W => strTrim_calls ⟨(c :: l).toArray⟩ W (by simpa [ByteArray.size] using hl)
 have HT := Lib.hid ht
 have HR := Lib.hid hr
 have HL := Lib.hid hl
 clear ht hr hl
 go_enter Tryz.func111, Tryz.ntmps111
 go_wp2_with fail
 refine (HT.out _).mono ?_
 rintro e w1 ⟨rfl, hn⟩
 obtain ⟨X, hX⟩ : ∃ X, Lib.trimS (⟨(c :: l).toArray⟩ : ByteArray).data.toList [48, 49, 50, 51, 52, 53, 54, 55, 56, 57] = X := ⟨_, rfl⟩
 rw [hX]
 have hX : Lib.trimS (c :: l) [48, 49, 50, 51, 52, 53, 54, 55, 56, 57] = X := hX
 have HN := Lib.hid hn
 have HX := Lib.hid hX
 clear hn hX
 cases X with
 | nil =>
  have hall := trimS_nil.1 HX.out
  by_cases hc : c.toNat = 48
  ·have hc8 : c = 48 := UInt8.toNat_inj.1 hc
   have hr2 : r = l.isEmpty := by
    rw [← HR.out]
    unfold isDec
    rw [hall, hc8]
    cases l <;> simp
   have HALL := Lib.hid hall
   have HC := Lib.hid hc
   have HR2 := Lib.hid hr2
   clear hall hc hr2
   subst hc8
   go_wp2_with fail
   all_goals go_ret
   all_goals exact ⟨ret_bool (by rw [HR2.out]; try rfl), HN.out⟩
  ·have hc8 : c ≠ 48 := fun h => hc (by rw [h]; rfl)
   have hr2 : r = true := by
    rw [← HR.out]
    unfold isDec
    rw [hall]
    simp [hc8]
   have hci : ¬ ((c.toNat : Int) = 48) := by omega
   have hci2 : ((c.toNat : Int) == 48) = false := beq_eq_false_iff_ne.2 hci
   have hg : (⟨(c :: l).toArray⟩ : ByteArray)[0]'(by simp [ByteArray.size]) = c := rfl
   have HALL := Lib.hid hall
   have HC := Lib.hid hc
   have HR2 := Lib.hid hr2
   have HC8 := Lib.hid hc8
   clear hall hc hr2 hc8
   go_wp2_with fail
   all_goals go_ret
   all_goals exact ⟨ret_bool HR2.out.symm, HN.out⟩
 | cons x X =>
  have hr2 : r = false := by
   rw [← HR.out]
   have hall : (c :: l).all isDig = false := by
    cases h : (c :: l).all isDig with
    | false => rfl
    | true =>
     have := trimS_nil.2 h
     rw [HX.out] at this
     cases this
   unfold isDec
   rw [hall]
   simp
  have HR2 := Lib.hid hr2
  clear hr2
  go_wp2_with fail
  go_ret
  exact ⟨ret_bool HR2.out.symm, HN.out⟩
theorem decimal_calls (s : ByteArray) (w : World) (hl : s.size ≤ 1000000) : Calls Tryz.prog 111 #[.string s] w fun e w' => e = .returned (.bool (isDec s.data.toList)) ∧ New w w' := by
 obtain ⟨⟨l⟩⟩ := s
 cases l with
 | nil => exact decimal_empty w
 | cons c l => exact decimal_some c l w (by simpa [ByteArray.size] using hl)
end Go.Proofs.YtlfnibjmkfldgaaGreatDoor
namespace Go.Proofs.YtlfnibjmkfldgaaGreatDoor
open Go.RowKit Big
theorem cutPrefix_calls (s : ByteArray) (w : World) : Calls Tryz.prog 109 #[.string s, .string ⟨#[45]⟩] w fun e w' => e = .returned (.tuple #[.string ⟨(unsigned s.data.toList).toArray⟩, .bool (s.data.toList.head? == some 45)]) ∧ w = w' := by
 refine (Tryz.strings_CutPrefix s ⟨#[45]⟩ w).mono fun e w' ⟨h1, h2⟩ => ⟨?_, h2.symm⟩
 rw [h1]
 have e1 : (⟨#[45]⟩ : ByteArray).data.toList = [45] := rfl
 rw [e1]
 have e2 : Lib.hasPrefix s.data.toList [45] = (s.data.toList.head? == some 45) := by
  cases s.data.toList with
  | nil => rfl
  | cons c l =>
   show ((45 == c) && true) = (some c == some 45)
   rw [Bool.and_true]
   by_cases h : c = 45
   ·subst h; rfl
   ·rw [beq_eq_false_iff_ne.2 (fun x => h x.symm), beq_eq_false_iff_ne.2 (fun x => h (Option.some.inj x))]
 have e3 : Lib.trimPrefix s.data.toList [45] = unsigned s.data.toList := by
  unfold Lib.trimPrefix unsigned
  rw [e2]
  by_cases h : s.data.toList.head? = some 45
  ·rw [if_pos (by rw [h]; rfl), if_pos h]
   simp
  ·rw [if_neg (by simpa using h), if_neg h]
 rw [e2, e3]
def form1 (neg : Bool) (A : List UInt8) : Bool := isDec A && (!neg || A != [48])
def form2 (F br : Bool) (B : List UInt8) : Bool := if br then F && isDec B && B != [48] && B != [49] else F
theorem form_bool (br dA neg zA dB zB oB : Bool) : (if br then (dA && (!neg || !zA)) && dB && !zB && !oB else (dA && (!neg || !zA))) = (dA && !(neg && zA) && (!br || (dB && !zB && !oB))) := by
 revert br dA neg zA dB zB oB
 decide
theorem isDec_digs {l : List UInt8} (h : isDec l = true) : ∀ c ∈ l, isDig c = true := by
 unfold isDec at h
 simp only [Bool.and_eq_true] at h
 exact List.all_eq_true.1 h.1.2
theorem form_dec {A B : List UInt8} {neg F1 : Bool} (h1 : form1 neg A = F1) (h2 : form2 F1 true B = true) : (∀ c ∈ A, isDig c = true) ∧ (∀ c ∈ B, isDig c = true) := by
 unfold form2 at h2
 rw [if_pos rfl] at h2
 simp only [Bool.and_eq_true] at h2
 obtain ⟨⟨⟨h3, h4⟩, _⟩, _⟩ := h2
 rw [h3] at h1
 unfold form1 at h1
 rw [Bool.and_eq_true] at h1
 exact ⟨isDec_digs h1.1, isDec_digs h4⟩
theorem gcd_bd' {x y : Nat} (hx : Bd (x : Int)) (hy : Bd (y : Int)) : Bd ((Int.gcd (x : Int) (y : Int) : Nat) : Int) := by
 rcases Nat.eq_zero_or_pos y with rfl | h
 ·simpa using hx
 ·exact gcd_bd (by omega) hy
theorem form_eq {l U A B : List UInt8} {neg br : Bool} (hU : unsigned l = U) (hn : (l.head? == some 45) = neg) (hA : upTo U = A) (hB : behind U = B) (hb : slashed U = br) : form2 (form1 neg A) br B = ratForm l := by
 unfold ratForm form2 form1
 rw [hU, hn, hA, hB, hb]
 exact form_bool br (isDec A) neg (A == [48]) (isDec B) (B == [48]) (B == [49])
set_option maxRecDepth 100000 in
set_option maxHeartbeats 2000000 in
theorem check_calls (s : ByteArray) (w : World) (he : Env w) (hl : s.size ≤ 100000) : Calls Tryz.prog 83 #[.string s] w fun e w' => e = .returned (.int .i64 (ratErr s.data.toList)) ∧ New w w' := by
 obtain ⟨r, hr⟩ : ∃ r, ratErr s.data.toList = r := ⟨_, rfl⟩
 rw [hr]
 obtain ⟨U, hU⟩ : ∃ U, unsigned s.data.toList = U := ⟨_, rfl⟩
 obtain ⟨neg, hneg⟩ : ∃ b, (s.data.toList.head? == some 45) = b := ⟨_, rfl⟩
 have hcp := fun W => cutPrefix_calls s W
 rw [hU, hneg] at hcp
 obtain ⟨A, hA⟩ : ∃ A, upTo U = A := ⟨_, rfl⟩
 obtain ⟨B, hB⟩ : ∃ B, behind U = B := ⟨_, rfl⟩
 obtain ⟨br, hbr⟩ : ∃ b, slashed U = b := ⟨_, rfl⟩
 have hlu : U.length ≤ 100000 := by
  have : s.data.toList.length ≤ 100000 := by simpa using hl
  rw [← hU]
  unfold unsigned
  split
  ·rw [List.length_tail]; omega
  ·exact this
 have hsz : (⟨U.toArray⟩ : ByteArray).size ≤ 1000000 := by simp [ByteArray.size]; omega
 have hcut := fun W (h : New w W) => cut_calls ⟨U.toArray⟩ W (he.new h) hsz
 simp only [hA, hB, hbr] at hcut
 have hAl : A.length ≤ 100000 := by
  rw [← hA]
  unfold upTo
  exact Nat.le_trans (List.takeWhile_sublist _).length_le hlu
 have hBl : B.length ≤ 100000 := by
  rw [← hB]
  unfold behind
  have h1 := (List.dropWhile_sublist (l := U) (· != 47)).length_le
  rw [List.length_tail]
  omega
 have hdA : ∀ W, Calls Tryz.prog 111 #[.string ⟨A.toArray⟩] W fun e w' => e = .returned (.bool (isDec A)) ∧ New W w' := fun W => decimal_calls ⟨A.toArray⟩ W (by simp [ByteArray.size]; omega)
 have hdB : ∀ W, Calls Tryz.prog 111 #[.string ⟨B.toArray⟩] W fun e w' => e = .returned (.bool (isDec B)) ∧ New W w' := fun W => decimal_calls ⟨B.toArray⟩ W (by simp [ByteArray.size]; omega)
 obtain ⟨F1, hF1⟩ : ∃ F, form1 neg A = F := ⟨_, rfl⟩
 obtain ⟨F2, hF2⟩ : ∃ F, form2 F1 br B = F := ⟨_, rfl⟩
 have HR := Lib.hid hr
 have HU := Lib.hid hU
 have HNEG := Lib.hid hneg
 have HCP := Lib.hid hcp
 have HA := Lib.hid hA
 have HB := Lib.hid hB
 have HBR := Lib.hid hbr
 have HLU := Lib.hid hlu
 have HSZ := Lib.hid hsz
 have HCUT := Lib.hid hcut
 have HAL := Lib.hid hAl
 have HBL := Lib.hid hBl
 have HDA := Lib.hid hdA
 have HDB := Lib.hid hdB
 have HF1 := Lib.hid hF1
 have HF2 := Lib.hid hF2
 have HE := Lib.hid he
 have HL := Lib.hid hl
 clear hr hU hneg hcp hA hB hbr hlu hsz hcut hAl hBl hdA hdB hF1 hF2 he hl
 go_enter Tryz.func83, Tryz.ntmps83
 go_wp2_with fail
 refine (HCP.out _).mono ?_
 rintro e w' ⟨rfl, rfl⟩
 go_wp2_with fail
 refine (HCUT.out _ (New.refl _)).mono ?_
 rintro e w1 ⟨rfl, hn⟩
 have HN := Lib.hid hn
 clear hn
 go_upto_region 3 with (fail)
 go_cut [8] (fun f wx => f = .bool F1 ∧ New w wx)
 case first =>
  go_wp2_with fail
  refine (HDA.out _).mono ?_
  rintro e w2 ⟨rfl, hn⟩
  replace HN := Lib.hid (HN.out.trans hn)
  clear hn
  cases hda : isDec A with
  | false =>
   have hf : F1 = false := by rw [← HF1.out]; unfold form1; rw [hda]; rfl
   have HD := Lib.hid hda
   have HF := Lib.hid hf
   clear hda hf
   go_wp2_with fail
   go_meet
   exact ⟨by rw [HF.out], HN.out⟩
  | true =>
   cases neg with
   | false =>
    have hf : F1 = true := by rw [← HF1.out]; unfold form1; rw [hda]; rfl
    have HD := Lib.hid hda
    have HF := Lib.hid hf
    clear hda hf
    go_wp2_with fail
    go_meet
    exact ⟨by rw [HF.out], HN.out⟩
   | true =>
    by_cases hz : A = [48]
    ·have hf : F1 = false := by rw [← HF1.out]; unfold form1; rw [hda, hz]; rfl
     have HD := Lib.hid hda
     have HF := Lib.hid hf
     clear hda hf
     subst hz
     go_wp2_with fail
     go_meet
     exact ⟨by rw [HF.out], HN.out⟩
    ·have hz1 : (A == [48]) = false := beq_eq_false_iff_ne.2 hz
     have hz2 : (A != [48]) = true := by rw [bne, hz1]; rfl
     have hf : F1 = true := by rw [← HF1.out]; unfold form1; rw [hda, hz2]; rfl
     have HD := Lib.hid hda
     have HF := Lib.hid hf
     have HZ := Lib.hid hz
     clear hda hf hz
     go_wp2_with fail
     go_meet
     exact ⟨by rw [HF.out], HN.out⟩
 case rest =>
  obtain ⟨rfl, hn⟩ := hcut
  clear HN
  have HN := Lib.hid hn
  clear hn
  go_step
  go_upto_if 32 with (fail)
  go_cut [8] (fun f wx => f = .bool F2 ∧ New w wx)
  case first =>
   cases br with
   | false =>
    have hf : F2 = F1 := by rw [← HF2.out]; rfl
    have HF := Lib.hid hf
    clear hf
    go_wp2_with fail
    go_meet
    exact ⟨by rw [HF.out], HN.out⟩
   | true =>
    cases F1 with
    | false =>
     have hf : F2 = false := by rw [← HF2.out]; rfl
     have HF := Lib.hid hf
     clear hf
     go_wp2_with fail
     go_meet
     exact ⟨by rw [HF.out], HN.out⟩
    | true =>
     go_wp2_with fail
     refine (HDB.out _).mono ?_
     rintro e w2 ⟨rfl, hn⟩
     replace HN := Lib.hid (HN.out.trans hn)
     clear hn
     cases hda : isDec B with
     | false =>
      have hf : F2 = false := by rw [← HF2.out]; unfold form2; rw [hda]; rfl
      have HD := Lib.hid hda
      have HF := Lib.hid hf
      clear hda hf
      go_wp2_with fail
      go_meet
      exact ⟨by rw [HF.out], HN.out⟩
     | true =>
      by_cases hz : B = [48]
      ·have hf : F2 = false := by rw [← HF2.out]; unfold form2; rw [hda, hz]; rfl
       have HD := Lib.hid hda
       have HF := Lib.hid hf
       clear hda hf
       subst hz
       go_wp2_with fail
       go_meet
       exact ⟨by rw [HF.out], HN.out⟩
      ·by_cases hy : B = [49]
       ·have hf : F2 = false := by rw [← HF2.out]; unfold form2; rw [hda, hy]; rfl
        have HD := Lib.hid hda
        have HF := Lib.hid hf
        clear hda hf
        clear hz
        subst hy
        go_wp2_with fail
        go_meet
        exact ⟨by rw [HF.out], HN.out⟩
       ·have hz1 : (B == [48]) = false := beq_eq_false_iff_ne.2 hz
        have hz2 : (B != [48]) = true := by rw [bne, hz1]; rfl
        have hy1 : (B == [49]) = false := beq_eq_false_iff_ne.2 hy
        have hy2 : (B != [49]) = true := by rw [bne, hy1]; rfl
        have hf : F2 = true := by rw [← HF2.out]; unfold form2; rw [hda, hz2, hy2]; rfl
        have HD := Lib.hid hda
        have HF := Lib.hid hf
        have HZ := Lib.hid hz
        have HY := Lib.hid hy
        clear hda hf hz hy
        go_wp2_with fail
        go_meet
        exact ⟨by rw [HF.out], HN.out⟩
  case rest =>
   obtain ⟨rfl, hn⟩ := hcut
   clear HN
   have HN := Lib.hid hn
   clear hn
   have hform : F2 = ratForm s.data.toList := by
    rw [← HF2.out, ← HF1.out]
    exact form_eq HU.out HNEG.out HA.out HB.out HBR.out
   have hres := HR.out
   unfold ratErr at hres
   rw [← hform] at hres
   have HFORM := Lib.hid hform
   clear hform
   go_step
   cases F2 with
   | false =>
    rw [if_pos rfl] at hres
    have HRES := Lib.hid hres
    clear hres
    by_cases h6 : 600 < A.length
    ·have h6i : (600 : Int) < (A.length : Int) := by omega
     go_wp2_with fail
     refine (nwhen_calls _ 1 _).mono ?_
     rintro e w2 ⟨rfl, rfl⟩
     go_wp2_with fail
     refine (nwhen_calls _ 4 _).mono ?_
     rintro e w2 ⟨rfl, rfl⟩
     go_wp2_with fail
     refine (nfirst2 1 4 _ _ 29 _ (Box.alloc _ _ _ _ rfl)).mono ?_
     rintro e w2 ⟨rfl, rfl⟩
     go_wp2_with fail
     go_ret
     exact ⟨ret_i64 HRES.out, HN.out.alloc _⟩
    ·have h6i : ¬ (600 : Int) < (A.length : Int) := by omega
     by_cases h7 : 600 < B.length
     ·have h7i : (600 : Int) < (B.length : Int) := by omega
      go_wp2_with fail
      refine (nwhen_calls _ 1 _).mono ?_
      rintro e w2 ⟨rfl, rfl⟩
      go_wp2_with fail
      refine (nwhen_calls _ 4 _).mono ?_
      rintro e w2 ⟨rfl, rfl⟩
      go_wp2_with fail
      refine (nfirst2 1 4 _ _ 29 _ (Box.alloc _ _ _ _ rfl)).mono ?_
      rintro e w2 ⟨rfl, rfl⟩
      go_wp2_with fail
      go_ret
      exact ⟨ret_i64 HRES.out, HN.out.alloc _⟩
     ·have h7i : ¬ (600 : Int) < (B.length : Int) := by omega
      go_wp2_with fail
      refine (nwhen_calls _ 1 _).mono ?_
      rintro e w2 ⟨rfl, rfl⟩
      go_wp2_with fail
      refine (nwhen_calls _ 4 _).mono ?_
      rintro e w2 ⟨rfl, rfl⟩
      go_wp2_with fail
      refine (nfirst2 1 0 _ _ 29 _ (Box.alloc _ _ _ _ rfl)).mono ?_
      rintro e w2 ⟨rfl, rfl⟩
      go_wp2_with fail
      go_ret
      exact ⟨ret_i64 HRES.out, HN.out.alloc _⟩
   | true =>
    rw [if_neg (by decide)] at hres
    have hlar : ratLarge s.data.toList = (decide (600 < A.length) || decide (600 < B.length)) := by unfold ratLarge; rw [HU.out, HA.out, HB.out]
    rw [hlar] at hres
    by_cases h6 : 600 < A.length
    ·have h6i : (600 : Int) < (A.length : Int) := by omega
     rw [decide_eq_true h6, Bool.true_or, if_pos rfl] at hres
     have HLAR := Lib.hid hlar
     have HRES := Lib.hid hres
     clear hlar hres
     go_wp2_with fail
     refine (nwhen_calls _ 1 _).mono ?_
     rintro e w2 ⟨rfl, rfl⟩
     go_wp2_with fail
     refine (nwhen_calls _ 4 _).mono ?_
     rintro e w2 ⟨rfl, rfl⟩
     go_wp2_with fail
     refine (nfirst2 0 4 _ _ 29 _ (Box.alloc _ _ _ _ rfl)).mono ?_
     rintro e w2 ⟨rfl, rfl⟩
     go_wp2_with fail
     go_ret
     exact ⟨ret_i64 HRES.out, HN.out.alloc _⟩
    ·have h6i : ¬ (600 : Int) < (A.length : Int) := by omega
     rw [decide_eq_false h6, Bool.false_or] at hres
     by_cases h7 : 600 < B.length
     ·have h7i : (600 : Int) < (B.length : Int) := by omega
      rw [decide_eq_true h7, if_pos rfl] at hres
      have HLAR := Lib.hid hlar
      have HRES := Lib.hid hres
      clear hlar hres
      go_wp2_with fail
      refine (nwhen_calls _ 1 _).mono ?_
      rintro e w2 ⟨rfl, rfl⟩
      go_wp2_with fail
      refine (nwhen_calls _ 4 _).mono ?_
      rintro e w2 ⟨rfl, rfl⟩
      go_wp2_with fail
      refine (nfirst2 0 4 _ _ 29 _ (Box.alloc _ _ _ _ rfl)).mono ?_
      rintro e w2 ⟨rfl, rfl⟩
      go_wp2_with fail
      go_ret
      exact ⟨ret_i64 HRES.out, HN.out.alloc _⟩
     ·have h7i : ¬ (600 : Int) < (B.length : Int) := by omega
      rw [decide_eq_false h7, if_neg (by decide)] at hres
      have HLAR := Lib.hid hlar
      have HRES := Lib.hid hres
      clear hlar hres
      cases br with
      | false =>
       have hr0 : r = 0 := by
        rw [← HRES.out]
        unfold ratCommon
        rw [HU.out, HBR.out]
        rfl
       have HR0 := Lib.hid hr0
       clear hr0
       go_wp2_with fail
       refine (nwhen_calls _ 1 _).mono ?_
       rintro e w2 ⟨rfl, rfl⟩
       go_wp2_with fail
       refine (nwhen_calls _ 4 _).mono ?_
       rintro e w2 ⟨rfl, rfl⟩
       go_wp2_with fail
       refine (nfirst2 0 0 _ _ 29 _ (Box.alloc _ _ _ _ rfl)).mono ?_
       rintro e w2 ⟨rfl, rfl⟩
       go_wp2_with fail
       refine (nwhen_calls _ 1 _).mono ?_
       rintro e w2 ⟨rfl, rfl⟩
       go_wp2_with fail
       go_ret
       exact ⟨ret_i64 HR0.out.symm, HN.out.alloc _⟩
      | true =>
       obtain ⟨hA1, hB1⟩ := form_dec (HF1.out) (HF2.out)
       have hbA := (dval_bd hA1).bd (by have := HAL.out; omega)
       have hbB := (dval_bd hB1).bd (by have := HBL.out; omega)
       have hAL1 : A.length ≤ 1000000 := by have := HAL.out; omega
       have hBL1 : B.length ≤ 1000000 := by have := HBL.out; omega
       obtain ⟨g, hg⟩ : ∃ g, Int.gcd ((dval 0 A : Nat) : Int) ((dval 0 B : Nat) : Int) = g := ⟨_, rfl⟩
       have hbg : Bd (g : Int) := by
        rw [← hg]
        exact gcd_bd' hbA hbB
       have hcm : r = if (g != 1) = true then 1 else 0 := by
        rw [← HRES.out]
        unfold ratCommon
        rw [HU.out, HBR.out, HA.out, HB.out, ← hg, Bool.true_and]
        rfl
       have HA1 := Lib.hid hA1
       have HB1 := Lib.hid hB1
       have HBA := Lib.hid hbA
       have HBB := Lib.hid hbB
       have HG := Lib.hid hg
       have HBG := Lib.hid hbg
       have HCM := Lib.hid hcm
       have HAL1 := Lib.hid hAL1
       have HBL1 := Lib.hid hBL1
       clear hA1 hB1 hbA hbB hg hbg hcm hAL1 hBL1
       go_wp2_with fail
       refine (nwhen_calls _ 1 _).mono ?_
       rintro e w2 ⟨rfl, rfl⟩
       go_wp2_with fail
       refine (nwhen_calls _ 4 _).mono ?_
       rintro e w2 ⟨rfl, rfl⟩
       go_wp2_with fail
       refine (nfirst2 0 0 _ _ 29 _ (Box.alloc _ _ _ _ rfl)).mono ?_
       rintro e w2 ⟨rfl, rfl⟩
       go_wp2_with fail
       replace HN := Lib.hid (HN.out.alloc (.cells #[.int .i64 0, .int .i64 0] 29))
       refine (read_calls ⟨A.toArray⟩ false A _ rfl HA1.out HAL1.out).mono ?_
       rintro e w3 ⟨v3, rfl, hn, hi⟩
       have HI3 := Lib.hid hi
       clear hi
       replace HN := Lib.hid (HN.out.trans hn)
       clear hn
       go_wp2_with fail
       refine (read_calls ⟨B.toArray⟩ false B _ rfl HB1.out HBL1.out).mono ?_
       rintro e w4 ⟨v4, rfl, hn, hi⟩
       have HI4 := Lib.hid hi
       clear hi
       replace HI3 := Lib.hid (HI3.out.new hn)
       replace HN := Lib.hid (HN.out.trans hn)
       clear hn
       go_wp2_with fail
       refine (gcd_calls _ _ _ _ _ HI3.out HI4.out HBA.out HBB.out).mono ?_
       rintro e w5 ⟨v5, rfl, hn, hi⟩
       have hi : IsInt w5 v5 (g : Int) := by rw [← HG.out]; exact hi
       have HI5 := Lib.hid hi
       clear hi
       replace HN := Lib.hid (HN.out.trans hn)
       clear hn
       go_wp2_with fail
       refine (of_calls 1 _).mono ?_
       rintro e w6 ⟨rfl, hn⟩
       replace HI5 := Lib.hid (HI5.out.new hn)
       replace HN := Lib.hid (HN.out.trans hn)
       clear hn
       go_wp2_with fail
       refine (cmp_calls _ _ (g : Int) 1 _ HI5.out (.small rfl (by omega) (by omega)) HBG.out (.small (by omega) (by omega))).mono ?_
       rintro e w7 ⟨rfl, hn⟩
       replace HN := Lib.hid (HN.out.trans hn)
       clear hn
       by_cases hg1 : g = 1
       ·have hs : Int.sign ((g : Int) - 1) = 0 := by rw [hg1]; rfl
        have hr0 : r = 0 := by rw [HCM.out, hg1]; rfl
        rw [hs]
        have HS := Lib.hid hs
        have HR0 := Lib.hid hr0
        have HG1 := Lib.hid hg1
        clear hs hr0 hg1
        go_wp2_with fail
        refine (nwhen_calls _ 1 _).mono ?_
        rintro e w2 ⟨rfl, rfl⟩
        go_wp2_with fail
        go_ret
        exact ⟨ret_i64 HR0.out.symm, HN.out⟩
       ·obtain ⟨t, ht, ht0⟩ : ∃ t, Int.sign ((g : Int) - 1) = t ∧ (t != 0) = true := ⟨_, rfl, by
         rw [bne_iff_ne]
         intro h
         have := Int.sign_eq_zero_iff_zero.1 h
         omega⟩
        have hr0 : r = 1 := by
         rw [HCM.out, if_pos (by rw [bne_iff_ne]; exact hg1)]
        rw [ht]
        have HTT := Lib.hid ht
        have HR0 := Lib.hid hr0
        have HG1 := Lib.hid hg1
        clear ht hr0 hg1
        go_wp2_with fail
        refine (nwhen_calls _ 1 _).mono ?_
        rintro e w2 ⟨rfl, rfl⟩
        go_wp2_with fail
        go_ret
        exact ⟨ret_i64 HR0.out.symm, HN.out⟩
end Go.Proofs.YtlfnibjmkfldgaaGreatDoor
namespace Go.Proofs.YtlfnibjmkfldgaaGreatDoor
open Go.RowKit Big
def isFin (b : Nat) : Bool := match Ieee.single.read b with | .number .. => true | _ => false
theorem isFin_spec {b : Nat} (h : isFin b = true) : ∃ s m i, Ieee.single.read b = .number s m i := by
 unfold isFin at h
 split at h
 ·rename_i s m i hr; exact ⟨s, m, i, hr⟩
 ·cases h
theorem sub_self_fin {b : Nat} (h : isFin b = true) : floatBits .sub .f32 b b = some 0 := by
 obtain ⟨s, m, i, hr⟩ := isFin_spec h
 show Ieee.single.sub b b = some 0
 unfold Ieee.Format.sub
 rw [hr]
 simp only [Ieee.Datum.opposite, Ieee.Datum.sum, Option.map_some]
 have e : Ieee.signed s m (i - min i i).toNat + Ieee.signed (!s) m (i - min i i).toNat = 0 := by
  unfold Ieee.signed
  cases s <;> simp <;> omega
 rw [e]
 cases s <;> rfl
theorem sub_self_nan {b : Nat} (h : isFin b = false) : FloatKind.f32.format.sub b b = none := by
 show Ieee.single.sub b b = none
 unfold Ieee.Format.sub
 unfold isFin at h
 cases hr : Ieee.single.read b with
 | number s m i => rw [hr] at h; cases h
 | infinity s => cases s <;> rfl
 | nan s f => rfl
def nanOf (w : World) (b : Nat) : Nat := (Question.nanBits .f32 b b).cut (w.tape w.drawn (.nanBits .f32 b b))
theorem nan_run {P : Program} (t : TypeId) (b : Nat) (h : isFin b = false) (w : World) : (binOp .sub t (.float .f32 b) (.float .f32 b)).run P w = .ok (.float .f32 (nanOf w b)) w.drew := by
 simp [binOp, Op.floatArith, sub_self_nan h]
 rfl
theorem nan_read (w : World) (b : Nat) : ∃ s f, Ieee.single.read (nanOf w b) = .nan s f := by
 unfold nanOf
 generalize w.tape w.drawn (.nanBits .f32 b b) = t
 show ∃ s f, Ieee.single.read ((t % 2) * 2 ^ 31 + 0x7f800000 + 1 + (t / 2) % (2 ^ 23 - 1)) = .nan s f
 obtain ⟨x, hx⟩ : ∃ x, (t / 2) % (2 ^ 23 - 1) = x := ⟨_, rfl⟩
 have hx1 : x < 8388607 := by rw [← hx]; exact Nat.mod_lt _ (by decide)
 rw [hx]
 unfold Ieee.Format.read
 have e1 : Ieee.single.signWeight = 2147483648 := by decide
 have e2 : Ieee.single.binade = 8388608 := by decide
 have e3 : Ieee.single.infRung = 2139095040 := by decide
 rw [e1, e2, e3]
 have hm : (t % 2 * 2 ^ 31 + 0x7f800000 + 1 + x) % 2147483648 = 2139095041 + x := by omega
 simp only [hm]
 rw [if_neg (by omega), if_neg (by omega), if_neg (by omega)]
 exact ⟨_, _, rfl⟩
theorem nan_order (w : World) (b c : Nat) : FloatKind.f32.format.order (nanOf w b) c = none := by
 obtain ⟨s, f, h⟩ := nan_read w b
 show (Ieee.single.read (nanOf w b)).order _ = none
 rw [h]
 rfl
def FinPost (w : World) (b : Bool) (e : Ending) (w' : World) : Prop := e = .returned (.bool b) ∧ ∃ n, w' = w.drewN n
theorem finite_calls (b : Nat) (w : World) : Calls Tryz.prog 102 #[.float .f32 b] w (FinPost w (isFin b)) := by
 cases h : isFin b with
 | true =>
  have hrun := fun W => run_float_arith (P := Tryz.prog) W .sub 23 .f32 b b 0 (sub_self_fin h)
  have ho : (FloatKind.f32.format.order 0 0 == some .eq) = true := by decide
  have H := Lib.hid h
  clear h
  go_enter Tryz.func102, Tryz.ntmps102
  go_wp2_with fail
  go_ret
  exact ⟨rfl, 0, rfl⟩
 | false =>
  have hrun := fun W => nan_run (P := Tryz.prog) 23 b h W
  have ho := fun W => nan_order W b 0
  have H := Lib.hid h
  clear h
  go_enter Tryz.func102, Tryz.ntmps102
  go_wp2_with fail
  go_ret
  exact ⟨rfl, 1, rfl⟩
end Go.Proofs.YtlfnibjmkfldgaaGreatDoor
namespace Go.Proofs.YtlfnibjmkfldgaaGreatDoor
open Go.RowKit Big
def RdL (w : World) (a : Option Addr) (vs : List Value) : Prop := ∀ i (h : i < vs.length), ∃ b off, a = some ⟨b, off, none⟩ ∧ w.cell? ⟨b, off + i, none⟩ = some vs[i]
theorem RdL.new {w w' : World} {a : Option Addr} {vs : List Value} (h : RdL w a vs) (hn : New w w') : RdL w' a vs := fun i hi => by
 obtain ⟨b, off, e, hc⟩ := h i hi
 exact ⟨b, off, e, hn.cell hc⟩
theorem RdL.drewN {w : World} {a : Option Addr} {vs : List Value} (h : RdL w a vs) (n : Nat) : RdL (w.drewN n) a vs := h
def flts (l : List Nat) : List Value := l.map (Value.float .f32)
theorem RdL.flt {w : World} {a : Option Addr} {l : List Nat} (h : RdL w a (flts l)) (i : Nat) (hi : i < l.length) : ∃ b off, a = some ⟨b, off, none⟩ ∧ w.cell? ⟨b, off + i, none⟩ = some (.float .f32 l[i]) := by
 obtain ⟨b, off, e, hc⟩ := h i (by simpa [flts] using hi)
 exact ⟨b, off, e, by rw [hc]; simp [flts]⟩
def ErrPost (w : World) (n : Int) (e : Ending) (w' : World) : Prop := e = .returned (.int .i64 n) ∧ ∃ n, w' = w.drewN n
theorem chk_calls (i : Int) (b : Nat) (w : World) : Calls Tryz.prog 100 #[.int .i64 i, .float .f32 b] w (ErrPost w (if isFin b then 0 else 1)) := by
 obtain ⟨f, hf⟩ : ∃ f, isFin b = f := ⟨_, rfl⟩
 have h := fun W => finite_calls b W
 simp only [hf] at h
 rw [hf]
 have H := Lib.hid h
 clear h
 clear hf
 cases f with
 | true =>
  go_enter Tryz.func100, Tryz.ntmps100
  go_wp2_with fail
  refine (H.out _).mono ?_
  rintro e w' ⟨rfl, n, rfl⟩
  go_wp2_with fail
  refine (nwhen_calls _ 1 _).mono ?_
  rintro e w2 ⟨rfl, rfl⟩
  go_wp2_with fail
  go_ret
  exact ⟨rfl, n, rfl⟩
 | false =>
  go_enter Tryz.func100, Tryz.ntmps100
  go_wp2_with fail
  refine (H.out _).mono ?_
  rintro e w' ⟨rfl, n, rfl⟩
  go_wp2_with fail
  refine (nwhen_calls _ 1 _).mono ?_
  rintro e w2 ⟨rfl, rfl⟩
  go_wp2_with fail
  go_ret
  exact ⟨rfl, n, rfl⟩
theorem all_take_succ {l : List Nat} {k : Nat} (hk : k < l.length) (h : (l.take k).all isFin = true) (h1 : isFin l[k] = true) : (l.take (k + 1)).all isFin = true := by
 rw [List.take_succ_eq_append_getElem hk, List.all_append, h]
 simp [h1]
theorem all_false_at {l : List Nat} {k : Nat} (hk : k < l.length) (h1 : isFin l[k] = false) : l.all isFin = false := by
 rw [List.all_eq_false]
 exact ⟨l[k], List.getElem_mem hk, by rw [h1]; decide⟩
set_option maxRecDepth 100000 in
theorem each_calls (a : Option Addr) (cap : Nat) (l : List Nat) (w : World) (hl : l.length ≤ 9223372036854775807) (hr : RdL w a (flts l)) :
  Calls Tryz.prog 99 #[.slice a l.length cap, .func (.func 100) #[] #[]] w (ErrPost w (if l.all isFin then 0 else 1)) := by
 obtain ⟨r, hres⟩ : ∃ r : Int, (if l.all isFin = true then 0 else 1) = r := ⟨_, rfl⟩
 rw [hres]
 have hli : (l.length : Int) ≤ 9223372036854775807 := by omega
 have HR := Lib.hid hr
 have HRES := Lib.hid hres
 have HL := Lib.hid hl
 clear hr hres hl
 go_enter Tryz.func99, Tryz.ntmps99
 go_wp2_with fail
 go_loopw [10] (fun i wr => ∃ k n : Nat, k ≤ l.length ∧ i = .int .i64 (k : Int) ∧ Hid ((l.take k).all isFin = true) ∧ wr = w.drewN n) (fun i _ => l.length - (intOf i).toNat)
 case atStart => exact ⟨0, 0, Nat.zero_le _, rfl, Lib.hid rfl, rfl⟩
 case round =>
  obtain ⟨k, n, hk, rfl, HK, rfl⟩ := hrel
  by_cases hlt : k < l.length
  ·obtain ⟨b, off, rfl, hcell⟩ := HR.out.flt k hlt
   obtain ⟨x, hx⟩ : ∃ x, l[k] = x := ⟨_, rfl⟩
   rw [hx] at hcell
   cases hfx : isFin x with
   | true =>
    have hd := all_take_succ hlt HK.out (by rw [hx]; exact hfx)
    have hc := fun W => chk_calls k x W
    rw [hfx] at hc
    have HX := Lib.hid hx
    have HFX := Lib.hid hfx
    have HD := Lib.hid hd
    have HC := Lib.hid hc
    clear hx hfx hd hc
    go_wp2_with fail
    refine (HC.out _).mono ?_
    rintro e w' ⟨rfl, m, rfl⟩
    go_wp2_with fail
    go_roundw
    case rel => exact ⟨k + 1, n + m, by omega, by go_num, HD, rfl⟩
    case measure => simp [intOf]; omega
   | false =>
    have hd := all_false_at hlt (by rw [hx]; exact hfx)
    have hc := fun W => chk_calls k x W
    rw [hfx] at hc
    have HX := Lib.hid hx
    have HFX := Lib.hid hfx
    have HD := Lib.hid hd
    have HC := Lib.hid hc
    clear hx hfx hd hc
    go_wp2_with fail
    refine (HC.out _).mono ?_
    rintro e w' ⟨rfl, m, rfl⟩
    go_wp2_with fail
    go_ret
    exact ⟨ret_i64 (by rw [← HRES.out, HD.out]; rfl), n + m, rfl⟩
  ·have hkk : k = l.length := by omega
   have hz : r = 0 := by rw [← HRES.out, if_pos]; have := HK.out; rwa [hkk, List.take_length] at this
   have HKK := Lib.hid hkk
   have HZ := Lib.hid hz
   clear hkk hz
   go_wp2_with fail
   go_ret
   exact ⟨ret_i64 HZ.out.symm, n, rfl⟩
def samplesErr (l : List Nat) : Int := if 4096 < l.length then 5 else if l.all isFin then 0 else 1
set_option maxRecDepth 100000 in
theorem checkSamples_calls (a : Option Addr) (cap : Nat) (l : List Nat) (w : World) (hl : l.length ≤ 9223372036854775807) (hr : RdL w a (flts l)) :
  Calls Tryz.prog 58 #[.slice a l.length cap] w (ErrPost w (samplesErr l)) := by
 unfold samplesErr
 by_cases h : 4096 < l.length
 ·rw [if_pos h]
  have hi : (4096 : Int) < (l.length : Int) := by omega
  clear hr
  go_enter Tryz.func58, Tryz.ntmps58
  go_wp2_with fail
  go_ret
  exact ⟨rfl, 0, rfl⟩
 ·rw [if_neg h]
  have hi : ¬ (4096 : Int) < (l.length : Int) := by omega
  have he := each_calls a cap l w hl hr
  obtain ⟨r, hres⟩ : ∃ r : Int, (if l.all isFin = true then 0 else 1) = r := ⟨_, rfl⟩
  rw [hres] at he ⊢
  have HE := Lib.hid he
  have HRES := Lib.hid hres
  clear he hres
  clear hr
  go_enter Tryz.func58, Tryz.ntmps58
  go_wp2_with fail
  refine HE.out.mono ?_
  rintro e w' ⟨rfl, n, rfl⟩
  go_wp2_with fail
  go_ret
  exact ⟨rfl, n, rfl⟩
end Go.Proofs.YtlfnibjmkfldgaaGreatDoor
namespace Go.Proofs.YtlfnibjmkfldgaaGreatDoor
open Go.RowKit Big
theorem Box.five {w : World} {B : Nat} {t : TypeId} {x y x' y' z : Value} (h : Box w B t #[x, y, x', y', z]) :
  (w.cell? ⟨B, 0, none⟩ = some x ∧ w.cell? ⟨B, 1, none⟩ = some y ∧ w.cell? ⟨B, 2, none⟩ = some x' ∧ w.cell? ⟨B, 3, none⟩ = some y' ∧ w.cell? ⟨B, 4, none⟩ = some z) ∧ B < w.heap.size :=
 ⟨⟨h.cell 0, h.cell 1, h.cell 2, h.cell 3, h.cell 4⟩, h.lt⟩
theorem top_calls (b s z : Int) (g o : ByteArray) (w : World) (lo : 8 ≤ b) (hi : b ≤ 12) : Calls Tryz.prog 82 #[.agg #[.int .i64 b, .int .i64 s, .int .i64 z, .string g, .string o]] w fun e w' => e = .returned (.int .i64 (2 ^ b.toNat - 1)) ∧ New w w' := by
 obtain rfl | rfl | rfl | rfl | rfl : b = 8 ∨ b = 9 ∨ b = 10 ∨ b = 11 ∨ b = 12 := by omega
 all_goals
  clear lo hi
  go_enter Tryz.func82, Tryz.ntmps82
  go_wp2_with fail
  go_ret
  exact ⟨by first | rfl | decide, (New.refl _).alloc _⟩
theorem wrap_pow {n : Nat} (h : n ≤ 40) : IntKind.i64.wrap (2 ^ n) = 2 ^ n := by
 have key : ∀ n, n ≤ 40 → IntKind.i64.wrap (2 ^ n) = 2 ^ n := by decide +kernel
 exact key n h
def stepQ (s : Int) : Rat := if s < 0 then ((2 ^ (-s).toNat : Int) : Rat)⁻¹ else ((2 ^ s.toNat : Int) : Rat)
theorem pow_bd {n : Nat} (h : n ≤ 40) : BdK 41 (2 ^ n) ∧ (1 : Int) ≤ 2 ^ n ∧ (2 : Int) ^ n ≤ 1099511627776 := by
 have key : ∀ n, n ≤ 40 → BdK 41 (2 ^ n) ∧ (1 : Int) ≤ 2 ^ n ∧ (2 : Int) ^ n ≤ 1099511627776 := by unfold BdK; decide +kernel
 exact key n h
theorem FB.int {k : Nat} {x : Int} (h : BdK k x) (hk : 1 ≤ k) : FB k (x : Rat) := ⟨by rw [Rat.num_intCast]; exact h, by
 rw [Rat.den_intCast]
 unfold BdK
 exact Nat.lt_of_lt_of_le (by decide : (1 : Int).natAbs < 2 ^ 1) (Nat.pow_le_pow_right (by omega) hk)⟩
theorem powRat_ne {n : Nat} (h : n ≤ 40) : ((2 ^ n : Int) : Rat) ≠ 0 := by
 have := (pow_bd h).2.1
 intro h0
 have : (2 : Int) ^ n = 0 := by exact_mod_cast h0
 omega
theorem stepQ_fb {s : Int} (lo : -20 ≤ s) (hi : s ≤ 4) : FB 41 (stepQ s) := by
 unfold stepQ
 split
 ·exact (FB.int (pow_bd (by omega)).1 (by omega)).inv (powRat_ne (by omega))
 ·exact FB.int (pow_bd (by omega)).1 (by omega)
theorem stepQ_ne {s : Int} (lo : -20 ≤ s) (hi : s ≤ 4) : stepQ s ≠ 0 := by
 unfold stepQ
 split
 ·intro h
  have h1 := powRat_ne (n := (-s).toNat) (by omega)
  exact h1 (by rw [← Rat.inv_inv ((2 ^ (-s).toNat : Int) : Rat), h, Rat.inv_zero])
 ·exact powRat_ne (by omega)
set_option maxRecDepth 100000 in
theorem step_calls (b s z : Int) (g o : ByteArray) (w : World) (lo : -20 ≤ s) (hi : s ≤ 4) : Calls Tryz.prog 107 #[.agg #[.int .i64 b, .int .i64 s, .int .i64 z, .string g, .string o]] w (FracPost w (stepQ s)) := by
 obtain ⟨q, hq⟩ : ∃ q, stepQ s = q := ⟨_, rfl⟩
 have hq' := hq
 rw [hq]
 unfold stepQ at hq'
 by_cases hs : s < 0
 ·rw [if_pos hs] at hq'
  obtain ⟨n, hn, rfl⟩ : ∃ n : Nat, n ≤ 20 ∧ s = -(n : Int) := ⟨(-s).toNat, by omega, by omega⟩
  have e1 : (- -(n : Int)).toNat = n := by omega
  rw [e1] at hq'
  obtain ⟨p1, p2, p3⟩ := pow_bd (n := n) (by omega)
  have p4 := powRat_ne (n := n) (by omega)
  have hw := wrap_pow (n := n) (by omega)
  clear hq lo hi
  have HQ := Lib.hid hq'
  have P1 := Lib.hid p1
  have P2 := Lib.hid p2
  have P3 := Lib.hid p3
  have P4 := Lib.hid p4
  have E1 := Lib.hid e1
  clear hq' p1 p2 p3 p4 e1
  go_enter Tryz.func107, Tryz.ntmps107
  go_wp2_with fail
  have BA := Lib.hid ((Box.alloc w (w.heap.size) 91 #[.int .i64 b, .int .i64 (-(n : Int)), .int .i64 z, .string g, .string o] (by simp)).new ((New.refl _).alloc (.cells #[.int .i64 0, .slice none 0 0, .int .i64 0, .slice none 0 0] 140)))
  have BP := Lib.hid ((Box.alloc (w.alloc (.cells #[.int .i64 b, .int .i64 (-(n : Int)), .int .i64 z, .string g, .string o] 91)) (w.heap.size + 1) 140 #[.int .i64 0, .slice none 0 0, .int .i64 0, .slice none 0 0] (by simp)).new (New.refl _))
  have HN := Lib.hid (((New.refl w).alloc (.cells #[.int .i64 b, .int .i64 (-(n : Int)), .int .i64 z, .string g, .string o] 91)).alloc (.cells #[.int .i64 0, .slice none 0 0, .int .i64 0, .slice none 0 0] 140))
  refine (f_calls (2 ^ n) _ (by have := P2.out; omega) (by have := P3.out; omega)).mono ?_
  rintro e w1 ⟨v, rfl, hn, hf⟩
  have HF1 := Lib.hid hf
  clear hf
  replace BP := Lib.hid (BP.out.new hn)
  replace HN := Lib.hid (HN.out.trans hn)
  clear hn
  go_wp2_with fail
  refine (inv_calls _ _ 41 _ HF1.out (FB.int P1.out (by omega)) (by omega) P4.out).mono ?_
  rintro e w2 ⟨v, rfl, hn, hf⟩
  rw [HQ.out] at hf
  obtain ⟨s9, a9, l9, k9, t9, b9, m9, n9, rfl⟩ := hf.shape
  have HF := Lib.hid hf
  clear hf
  replace BP := Lib.hid (BP.out.new hn)
  replace HN := Lib.hid (HN.out.trans hn)
  clear hn
  obtain ⟨⟨p0, p1, p2, p3⟩, p4, p5, p6, p7, p8⟩ := BP.out.four
  go_wp2_with fail
  refine bodyPost_ret (v := .agg #[.int .i64 s9, .slice a9 l9 k9, .int .i64 t9, .slice b9 m9 n9]) (by simp [results, Tryz.results107, go_sem, p0, p1, p2, p3]) rfl ?_
  exact frac_ret HN.out BP.out (by omega) HF.out.parts.1 HF.out.parts.2
 ·rw [if_neg hs] at hq'
  obtain ⟨n, hn, rfl⟩ : ∃ n : Nat, n ≤ 4 ∧ s = (n : Int) := ⟨s.toNat, by omega, by omega⟩
  have e1 : (n : Int).toNat = n := by omega
  rw [e1] at hq'
  obtain ⟨p1, p2, p3⟩ := pow_bd (n := n) (by omega)
  have hw := wrap_pow (n := n) (by omega)
  clear hq lo hi
  have HQ := Lib.hid hq'
  have P1 := Lib.hid p1
  have P2 := Lib.hid p2
  have P3 := Lib.hid p3
  have E1 := Lib.hid e1
  clear hq' p1 p2 p3 e1
  go_enter Tryz.func107, Tryz.ntmps107
  go_wp2_with fail
  have BA := Lib.hid ((Box.alloc w (w.heap.size) 91 #[.int .i64 b, .int .i64 (n : Int), .int .i64 z, .string g, .string o] (by simp)).new ((New.refl _).alloc (.cells #[.int .i64 0, .slice none 0 0, .int .i64 0, .slice none 0 0] 140)))
  have BP := Lib.hid ((Box.alloc (w.alloc (.cells #[.int .i64 b, .int .i64 (n : Int), .int .i64 z, .string g, .string o] 91)) (w.heap.size + 1) 140 #[.int .i64 0, .slice none 0 0, .int .i64 0, .slice none 0 0] (by simp)).new (New.refl _))
  have HN := Lib.hid (((New.refl w).alloc (.cells #[.int .i64 b, .int .i64 (n : Int), .int .i64 z, .string g, .string o] 91)).alloc (.cells #[.int .i64 0, .slice none 0 0, .int .i64 0, .slice none 0 0] 140))
  refine (f_calls (2 ^ n) _ (by have := P2.out; omega) (by have := P3.out; omega)).mono ?_
  rintro e w1 ⟨v, rfl, hn, hf⟩
  rw [HQ.out] at hf
  obtain ⟨s9, a9, l9, k9, t9, b9, m9, n9, rfl⟩ := hf.shape
  have HF := Lib.hid hf
  clear hf
  replace BP := Lib.hid (BP.out.new hn)
  replace HN := Lib.hid (HN.out.trans hn)
  clear hn
  obtain ⟨⟨p0, p1, p2, p3⟩, p4, p5, p6, p7, p8⟩ := BP.out.four
  go_wp2_with fail
  refine bodyPost_ret (v := .agg #[.int .i64 s9, .slice a9 l9 k9, .int .i64 t9, .slice b9 m9 n9]) (by simp [results, Tryz.results107, go_sem, p0, p1, p2, p3]) rfl ?_
  exact frac_ret HN.out BP.out (by omega) HF.out.parts.1 HF.out.parts.2
end Go.Proofs.YtlfnibjmkfldgaaGreatDoor
