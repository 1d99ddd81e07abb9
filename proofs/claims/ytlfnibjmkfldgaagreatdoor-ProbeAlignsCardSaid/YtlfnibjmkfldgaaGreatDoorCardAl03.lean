/- Part CardAl03. -/
import Derived.Laws.AppendOwnNone
import Derived.Maps.AppendAt
import Derived.Test.YtlfnibjmkfldgaaGreatDoorA29
import Derived.Test.YtlfnibjmkfldgaaGreatDoorA31
import Derived.Test.YtlfnibjmkfldgaaGreatDoorA32
import Derived.Test.YtlfnibjmkfldgaaGreatDoorCardAl01
import Derived.Test.YtlfnibjmkfldgaaGreatDoorCardAl02
namespace Go.Proofs.YtlfnibjmkfldgaaGreatDoor
open Go.RowKit Big
set_option maxRecDepth 100000 in
set_option maxHeartbeats 4000000 in
theorem rrec_calls (a b : Option Addr) (cap cap' n m : Nat) (rv : List Value) (rs : List (List Nat)) (ss : List Int) (w : World) (hr : RdLL w a rv (rs.map flts)) (hs : RdL w b (ints ss)) (hn : rs.length = n) (hm : ss.length = m) (hl : n ≤ 100000) (hlm : m ≤ 100000) (hv : ∀ (k : Nat) (h : k < rs.length), rs[k].length ≤ 9223372036854775807) :
  Calls Tryz.prog 25 #[.slice a n cap, .slice b m cap'] w (RetNew w (alErr rs ss)) := by
 have hni : (n : Int) ≤ 100000 := by omega
 have hmi : (m : Int) ≤ 100000 := by omega
 obtain ⟨r, hres⟩ : ∃ r, alErr rs ss = r := ⟨_, rfl⟩
 rw [hres]
 by_cases c1 : n = 0
 ·subst c1
  have : alErr rs ss = 12 := by unfold alErr; rw [if_pos hn]
  obtain rfl : r = 12 := by rw [← hres]; exact this
  clear hr hs hv hn hm hres this
  go_enter Tryz.func25, Tryz.ntmps25
  go_wp2_with fail
  go_ret
  exact ⟨rfl, New.refl _⟩
 have hd0 : ((n : Int) == 0) = false := by rw [beq_eq_false_iff_ne]; omega
 by_cases c2 : 8 < n
 ·have hi8 : (8 : Int) < (n : Int) := by omega
  have : alErr rs ss = 5 := by unfold alErr; rw [if_neg (by omega), if_pos (by omega)]
  obtain rfl : r = 5 := by rw [← hres]; exact this
  clear hr hs hv hn hm hres this
  go_enter Tryz.func25, Tryz.ntmps25
  go_wp2_with fail
  go_ret
  exact ⟨rfl, New.refl _⟩
 have hi8 : ¬ (8 : Int) < (n : Int) := by omega
 have hrr : r = if recErr rs = 0 then (if m = n then skewErr ss else 2) else recErr rs := by
  rw [← hres]
  unfold alErr
  rw [if_neg (by omega), if_neg (by omega), hm, hn]
 clear hres c1 c2
 have HR := Lib.hid hr
 have HS := Lib.hid hs
 have HV := Lib.hid hv
 have HN0 := Lib.hid hn
 have HM0 := Lib.hid hm
 have HRR := Lib.hid hrr
 clear hr hs hv hn hm hrr
 go_enter Tryz.func25, Tryz.ntmps25
 go_wp2_with fail
 go_loopw [5] (fun i wr => ∃ (k : Nat), k ≤ n ∧ i = .int .i64 (k : Int) ∧ Hid (recErr rs = recErr (rs.drop k)) ∧ Hid (New w wr)) (fun i _ => n - (intOf i).toNat)
 case atStart => exact ⟨0, Nat.zero_le _, rfl, Lib.hid rfl, Lib.hid (New.refl _)⟩
 case round =>
  obtain ⟨k, hk, rfl, HK, HN⟩ := hrel
  by_cases hlt : k < n
  ·have hkr : k < rs.length := by rw [HN0.out]; exact hlt
   obtain ⟨b1', off, a1, c1, rfl, hcell, hr1, hrc1⟩ := HR.out.at k (by simpa using hkr)
   have hxb := HV.out k hkr
   have hdr := recErr_drop rs k hkr
   obtain ⟨x, hx⟩ : ∃ x, rs[k] = x := ⟨_, rfl⟩
   have hxm : (rs.map flts)[k]'(by simpa using hkr) = flts x := by simp [hx]
   have hxl : (flts x).length = x.length := by simp [flts]
   rw [hxm, hxl] at hcell
   rw [hxm] at hr1
   rw [hx] at hxb hdr
   clear hrc1
   obtain ⟨s, hse⟩ : ∃ s, samplesErr x = s := ⟨_, rfl⟩
   have hcall := rsamples_calls a1 c1 x wr hxb (hr1.new HN.out)
   rw [hse] at hcall hdr
   have hcell := HN.out.cell hcell
   by_cases hs0 : s = 0
   ·subst hs0
    rw [if_pos rfl] at hdr
    have HX := Lib.hid hx
    have HXM := Lib.hid hxm
    have HXL := Lib.hid hxl
    have HCALL := Lib.hid hcall
    have HR1' := Lib.hid hr1
    have HDR := Lib.hid hdr
    have HSE := Lib.hid hse
    clear hx hxm hxl hcall hr1 hdr hse
    go_wp2_with fail
    refine HCALL.out.mono ?_
    rintro e w4 ⟨rfl, hn⟩
    clear hcell
    replace HN := Lib.hid (HN.out.trans hn)
    clear hn
    go_wp2_with fail
    go_roundw
    case rel => exact ⟨k + 1, by omega, by go_num, Lib.hid (HK.out.trans HDR.out), HN⟩
    case measure => simp [intOf]; omega
   ·have hst : (s != 0) = true := by simpa using hs0
    rw [if_neg hs0] at hdr
    have hrs : r = s := by rw [HRR.out, HK.out, hdr, if_neg hs0]
    have HX := Lib.hid hx
    have HXM := Lib.hid hxm
    have HXL := Lib.hid hxl
    have HCALL := Lib.hid hcall
    have HR1' := Lib.hid hr1
    have HDR := Lib.hid hdr
    have HSE := Lib.hid hse
    have HRS := Lib.hid hrs
    have HS0 := Lib.hid hs0
    clear hx hxm hxl hcall hr1 hdr hse hrs hs0
    go_wp2_with fail
    refine HCALL.out.mono ?_
    rintro e w4 ⟨rfl, hn⟩
    clear hcell
    replace HN := Lib.hid (HN.out.trans hn)
    clear hn
    go_wp2_with fail
    go_ret
    exact ⟨ret_i64 HRS.out.symm, HN.out⟩
  ·have hkk : k = n := by omega
   have hre : recErr rs = 0 := by rw [HK.out, hkk, ← HN0.out, List.drop_length]; rfl
   have hrr2 := HRR.out
   rw [if_pos hre] at hrr2
   clear hre HRR HK
   have HKK := Lib.hid hkk
   have HRR := Lib.hid hrr2
   clear hkk hrr2
   by_cases hmn : m = n
   ·subst hmn
    have hne : ((m : Int) != (m : Int)) = false := by simp
    have hrr3 := HRR.out
    rw [if_pos rfl] at hrr3
    clear HRR
    have HRR := Lib.hid hrr3
    clear hrr3
    go_wp2_with fail
    go_loopw [7] (fun i wr => ∃ (k : Nat), k ≤ m ∧ i = .int .i64 (k : Int) ∧ Hid (skewErr ss = skewErr (ss.drop k)) ∧ Hid (New w wr)) (fun i _ => m - (intOf i).toNat)
    case atStart => exact ⟨0, Nat.zero_le _, rfl, Lib.hid rfl, HN⟩
    case round =>
     clear HN
     obtain ⟨j, hj, rfl, HK, HN⟩ := hrel
     by_cases hlt2 : j < m
     ·have hjs : j < ss.length := by rw [HM0.out]; exact hlt2
      obtain ⟨b1', off, rfl, hcell⟩ := HS.out.int j hjs
      have hdr := skewErr_drop ss j hjs
      obtain ⟨s, hse⟩ : ∃ s, ss[j] = s := ⟨_, rfl⟩
      rw [hse] at hcell hdr
      have hcell := HN.out.cell hcell
      by_cases c1 : s < -1000
      ·have ho : outside s (-1000) 1000 = true := by simp only [outside, Bool.or_eq_true, decide_eq_true_eq]; omega
       rw [if_pos ho] at hdr
       obtain rfl : r = 3 := by rw [HRR.out, HK.out, hdr]
       clear ho
       have HDR := Lib.hid hdr
       have HSE := Lib.hid hse
       clear hdr hse
       go_wp2_with fail
       go_ret
       exact ⟨rfl, HN.out⟩
      by_cases c2 : 1000 < s
      ·have ho : outside s (-1000) 1000 = true := by simp only [outside, Bool.or_eq_true, decide_eq_true_eq]; omega
       rw [if_pos ho] at hdr
       obtain rfl : r = 3 := by rw [HRR.out, HK.out, hdr]
       clear ho
       have HDR := Lib.hid hdr
       have HSE := Lib.hid hse
       clear hdr hse
       go_wp2_with fail
       go_ret
       exact ⟨rfl, HN.out⟩
      have ho : ¬ outside s (-1000) 1000 = true := by simp only [outside, Bool.or_eq_true, decide_eq_true_eq]; omega
      rw [if_neg ho] at hdr
      clear ho
      have HDR := Lib.hid hdr
      have HSE := Lib.hid hse
      clear hdr hse
      go_wp2_with fail
      go_roundw
      case rel => exact ⟨j + 1, by omega, by go_num, Lib.hid (HK.out.trans HDR.out), HN⟩
      case measure => simp [intOf]; omega
     ·have hjj : j = m := by omega
      have hr0 : r = 0 := by
       rw [HRR.out, HK.out, hjj, ← HM0.out, List.drop_length]
       rfl
      have HJJ := Lib.hid hjj
      have HR0 := Lib.hid hr0
      clear hjj hr0
      go_wp2_with fail
      go_ret
      exact ⟨ret_i64 HR0.out.symm, HN.out⟩
   ·have hne : ((m : Int) != (n : Int)) = true := by rw [bne_iff_ne]; omega
    obtain rfl : r = 2 := by have := HRR.out; rw [if_neg hmn] at this; exact this
    clear HRR
    go_wp2_with fail
    go_ret
    exact ⟨rfl, HN.out⟩
end Go.Proofs.YtlfnibjmkfldgaaGreatDoor
namespace Go.Proofs.YtlfnibjmkfldgaaGreatDoor
open Go.RowKit Big
set_option maxRecDepth 100000 in
set_option maxHeartbeats 4000000 in
theorem aligned_short (a b : Option Addr) (cap cap' : Nat) (rv : List Value) (rs : List (List Nat)) (ss : List Int) (w : World) (hr : RdLL w a rv (rs.map flts)) (hs : RdL w b (ints ss)) (h1 : 1 ≤ rs.length) (h8 : rs.length ≤ 8) (hl : ss.length = rs.length)
  (hv : ∀ (k : Nat) (h : k < rs.length), samplesErr rs[k] = 0 ∧ rs[k].length ≤ 4096) (hw : ∀ (k : Nat) (h : k < ss.length), -1000 ≤ ss[k] ∧ ss[k] ≤ 1000) (hft : alT rs ss ≤ alF ss) :
  Calls Tryz.prog 24 #[.slice a rs.length cap, .slice b rs.length cap'] w fun e w' => e = .returned (.tuple #[.slice none 0 0, .int .i64 16]) ∧ New w w' := by
 obtain ⟨n, hn⟩ : ∃ n, rs.length = n := ⟨_, rfl⟩
 rw [hn] at h1 h8 hl ⊢
 have hn1 : (1 : Int) ≤ (n : Int) := by omega
 have hn8 : (n : Int) ≤ 8 := by omega
 have hd1 : ((n : Int) == 0) = false := by rw [beq_eq_false_iff_ne]; omega
 have hd2 : decide ((8 : Int) < (n : Int)) = false := by rw [decide_eq_false_iff_not]; omega
 have HR := Lib.hid hr
 have HS := Lib.hid hs
 have HL := Lib.hid hl
 have HV := Lib.hid hv
 have HW := Lib.hid hw
 have HFT := Lib.hid hft
 have HN0 := Lib.hid hn
 clear hr hs hl hv hw hft hn
 go_enter Tryz.func24, Tryz.ntmps24
 go_wp2_with fail
 refine (pwhen_new false 12 _).mono ?_
 rintro e w1 ⟨rfl, hn⟩
 have HN := Lib.hid hn
 clear hn
 go_wp2_with fail
 refine (pwhen_new false 5 _).mono ?_
 rintro e w2 ⟨rfl, hn⟩
 replace HN := Lib.hid (HN.out.trans hn)
 clear hn
 go_wp2_with fail
 have HN0 := HN
 clear HN
 have BG := Lib.hid ((Box.alloc w2 (w2.heap.size) 29 #[.int .i64 0, .int .i64 0] (by simp)).new (New.refl _))
 have HN := Lib.hid ((New.refl w2).alloc (.cells #[.int .i64 0, .int .i64 0] 29))
 have HN_ := HN0.out.trans HN.out
 clear HN HN0
 have HN := Lib.hid HN_
 clear HN_
 refine (pfirst2_new 0 0 _ _ 29 _ BG.out).mono ?_
 rintro e w3 ⟨rfl, hn⟩
 replace HN := Lib.hid (HN.out.trans hn)
 clear hn
 clear BG
 go_wp2_with fail
 go_loopw [35] (fun i wr => ∃ (k : Nat), k ≤ n ∧ i = .int .i64 (k : Int) ∧ Hid (New w wr)) (fun i _ => n - (intOf i).toNat)
 case atStart => exact ⟨0, Nat.zero_le _, rfl, HN⟩
 case round =>
  clear HN
  obtain ⟨k, hk, rfl, HN⟩ := hrel
  by_cases hlt : k < n
  ·have hkr : k < rs.length := by rw [HN0.out]; exact hlt
   obtain ⟨b1, off, a1, c1, rfl, hcell, hr1, hrc1⟩ := HR.out.at k (by simpa using hkr)
   obtain ⟨x, hx⟩ : ∃ x, rs[k] = x := ⟨_, rfl⟩
   have hxm : (rs.map flts)[k]'(by simpa using hkr) = flts x := by simp [hx]
   have hxl : (flts x).length = x.length := by simp [flts]
   rw [hxm, hxl] at hcell
   rw [hxm] at hr1
   clear hrc1
   have hxv := HV.out k hkr
   rw [hx] at hxv
   have hcall := samples_new a1 c1 x wr (by omega) (hr1.new HN.out)
   rw [hxv.1] at hcall
   have hcell := HN.out.cell hcell
   have HX := Lib.hid hx
   have HXM := Lib.hid hxm
   have HXL := Lib.hid hxl
   have HCALL := Lib.hid hcall
   have HXV := Lib.hid hxv
   have HR1 := Lib.hid hr1
   clear hx hxm hxl hcall hxv hr1
   go_wp2_with fail
   refine HCALL.out.mono ?_
   rintro e w4 ⟨rfl, hn⟩
   clear hcell
   replace HN := Lib.hid (HN.out.trans hn)
   clear hn
   go_wp2_with fail
   go_roundw
   case rel => exact ⟨k + 1, by omega, by go_num, HN⟩
   case measure => simp [intOf]; omega
  ·have hkk : k = n := by omega
   have HKK := Lib.hid hkk
   clear hkk
   go_wp2_with fail
   go_loopw [52] (fun i wr => ∃ (k : Nat), k ≤ n ∧ i = .int .i64 (k : Int) ∧ Hid (New w wr)) (fun i _ => n - (intOf i).toNat)
   case atStart => exact ⟨0, Nat.zero_le _, rfl, HN⟩
   case round =>
    clear HN
    obtain ⟨j, hj, rfl, HN⟩ := hrel
    by_cases hlt2 : j < n
    ·have hjs : j < ss.length := by rw [HL.out]; exact hlt2
     obtain ⟨b1, off, rfl, hcell⟩ := HS.out.int j hjs
     obtain ⟨x, hx⟩ : ∃ x, ss[j] = x := ⟨_, rfl⟩
     have hxv := HW.out j hjs
     rw [hx] at hcell hxv
     have hout : outside x (-1000) 1000 = false := by simp [outside]; omega
     have hcall := fun W => pwithin_new x (-1000) 1000 W
     simp only [hout] at hcall
     have hcell := HN.out.cell hcell
     have HX := Lib.hid hx
     have HCALL := Lib.hid hcall
     have HXV := Lib.hid hxv
     have HOUT := Lib.hid hout
     clear hx hcall hxv hout
     go_wp2_with fail
     refine (HCALL.out _).mono ?_
     rintro e w4 ⟨rfl, hn⟩
     clear hcell
     replace HN := Lib.hid (HN.out.trans hn)
     clear hn
     go_wp2_with fail
     go_roundw
     case rel => exact ⟨j + 1, by omega, by go_num, HN⟩
     case measure => simp [intOf]; omega
    ·have hjj : j = n := by omega
     have hr0 : 0 < rs.length := by rw [HN0.out]; omega
     have hs0 : 0 < ss.length := by rw [HL.out]; omega
     obtain ⟨b1, off, a1, c1, rfl, hcell, hr1, hrc1⟩ := HR.out.at 0 (by simpa using hr0)
     obtain ⟨b2, off2, rfl, hcell2⟩ := HS.out.int 0 hs0
     clear hr1 hrc1
     have hcell := HN.out.cell hcell
     have hcell2 := HN.out.cell hcell2
     obtain ⟨s0, hs0'⟩ : ∃ x, ss[0] = x := ⟨_, rfl⟩
     obtain ⟨l0, hl0⟩ : ∃ x, rs[0].length = x := ⟨_, rfl⟩
     have hxm : (flts rs[0]).length = l0 := by simp [flts, hl0]
     simp only [List.getElem_map, hxm, Nat.add_zero] at hcell
     rw [hs0', Nat.add_zero] at hcell2
     have hsb := HW.out 0 hs0
     rw [hs0'] at hsb
     have hlb := (HV.out 0 hr0).2
     rw [hl0] at hlb
     have hwa : wrap64 (-s0) = -s0 := ld_in (by omega) (by omega)
     have hwb : IntKind.i64.wrap (-s0) = -s0 := by rw [IntKind.wrap_i64]; omega
     have hwc : wrap64 ((l0 : Int) - s0) = (l0 : Int) - s0 := ld_in (by omega) (by omega)
     have hwd : IntKind.i64.wrap ((l0 : Int) - s0) = (l0 : Int) - s0 := by rw [IntKind.wrap_i64]; omega
     have HJJ := Lib.hid hjj
     have HS0 := Lib.hid hs0'
     have HL0 := Lib.hid hl0
     have HXM := Lib.hid hxm
     have HSB := Lib.hid hsb
     have HLB := Lib.hid hlb
     clear hjj hs0' hl0 hxm hsb hlb
     go_wp2_with fail
     go_quiet (fail)
     go_wp2_with fail
     clear hcell hcell2 hwa hwb hwc hwd
     go_loopw [13, 14, 76] (fun fx tx i wr => ∃ (k : Nat) (f t : Int), k ≤ n ∧ fx = .int .i64 f ∧ tx = .int .i64 t ∧ i = .int .i64 (k : Int) ∧ Hid (alFrom (-s0) (ss.take k) = f) ∧ Hid (alTo ((l0 : Int) - s0) ((alPairs rs ss).take k) = t) ∧ Hid (-1000 ≤ f ∧ f ≤ 1000 ∧ -1000 ≤ t ∧ t ≤ 6000) ∧ Hid (New w wr)) (fun _ _ i _ => n - (intOf i).toNat)
     case atStart =>
      have hsb := HSB.out
      have hlb := HLB.out
      exact ⟨0, _, _, Nat.zero_le _, rfl, rfl, rfl, Lib.hid rfl, Lib.hid rfl, Lib.hid ⟨by omega, by omega, by omega, by omega⟩, Lib.hid (HN.out.drewN nq)⟩
     case round =>
      clear HN
      obtain ⟨k, f, t, hk, rfl, rfl, rfl, HF, HT, HB, HN⟩ := hrel
      by_cases hlt3 : k < n
      ·have hkr : k < rs.length := by rw [HN0.out]; exact hlt3
       have hks : k < ss.length := by rw [HL.out]; exact hlt3
       obtain ⟨b1', off', a1, c1, hab1, hcell, hr1, hrc1⟩ := HR.out.at k (by simpa using hkr)
       obtain ⟨b2', off2', hab2, hcell2⟩ := HS.out.int k hks
       injection hab1 with hab1
       injection hab1 with hab1 hab1'
       injection hab2 with hab2
       injection hab2 with hab2 hab2'
       subst hab1 hab1' hab2 hab2'
       clear hr1 hrc1
       obtain ⟨s, hs0'⟩ : ∃ x, ss[k] = x := ⟨_, rfl⟩
       obtain ⟨l, hl0⟩ : ∃ x, rs[k].length = x := ⟨_, rfl⟩
       have hxm : (flts rs[k]).length = l := by simp [flts, hl0]
       simp only [List.getElem_map, hxm] at hcell
       rw [hs0'] at hcell2
       have hcell := HN.out.cell hcell
       have hcell2 := HN.out.cell hcell2
       have hsb := HW.out k hks
       rw [hs0'] at hsb
       have hlb := (HV.out k hkr).2
       rw [hl0] at hlb
       have hwa : wrap64 (-s) = -s := ld_in (by omega) (by omega)
       have hwb : IntKind.i64.wrap (-s) = -s := by rw [IntKind.wrap_i64]; omega
       have hwc : wrap64 ((l : Int) - s) = (l : Int) - s := ld_in (by omega) (by omega)
       have hwd : IntKind.i64.wrap ((l : Int) - s) = (l : Int) - s := by rw [IntKind.wrap_i64]; omega
       have hnx := al_next (f0 := -s0) (t0 := (l0 : Int) - s0) hkr hks
       rw [hs0', HF.out, HT.out, hl0] at hnx
       have hbb := HB.out
       have HS1 := Lib.hid hs0'
       have HL1 := Lib.hid hl0
       have HXM1 := Lib.hid hxm
       have HNX := Lib.hid hnx
       have HBB := Lib.hid hbb
       have HSB1 := Lib.hid hsb
       have HLB1 := Lib.hid hlb
       clear hs0' hl0 hxm hnx hbb hsb hlb
       go_wp2_with fail
       go_quiet (fail)
       go_wp2_with fail
       go_roundw
       case rel =>
        have hsb := HSB1.out
        have hlb := HLB1.out
        have hbb := HBB.out
        exact ⟨k + 1, _, _, by omega, rfl, rfl, by go_num, Lib.hid HNX.out.1, Lib.hid HNX.out.2, Lib.hid ⟨by omega, by omega, by omega, by omega⟩, Lib.hid (HN.out.drewN nq)⟩
       case measure => simp [intOf]; omega
      ·have hkk3 : k = n := by omega
       have hnr : rs.length = n := HN0.out
       have hff : f = alF ss := by
        rw [← HF.out, hkk3, ← HL.out, List.take_length]
        unfold alF
        congr 2
        rw [← HS0.out, List.headD_eq_head?_getD, List.head?_eq_getElem?, List.getElem?_eq_getElem hs0]
        rfl
       have htt : t = alT rs ss := by
        rw [← HT.out, List.take_of_length_le (by unfold alPairs; simp; omega)]
        unfold alT
        congr 2
        ·rw [← HL0.out, List.headD_eq_head?_getD, List.head?_eq_getElem?, List.getElem?_eq_getElem hr0]
         rfl
        ·rw [← HS0.out, List.headD_eq_head?_getD, List.head?_eq_getElem?, List.getElem?_eq_getElem hs0]
         rfl
       have hlt4 : t ≤ f := by rw [hff, htt]; exact HFT.out
       clear HF HT HB hkk3 HFT hff htt
       go_wp2_with fail
       go_ret2
       exact ⟨rfl, HN.out⟩
end Go.Proofs.YtlfnibjmkfldgaaGreatDoor
