/- Part CardSk02. -/
import Derived.Laws.AppendOwnNone
import Derived.Maps.AppendAt
import Derived.Deep.DeepCutAuto
import Derived.Test.YtlfnibjmkfldgaaGreatDoorA13
import Derived.Test.YtlfnibjmkfldgaaGreatDoorA20
import Derived.Test.YtlfnibjmkfldgaaGreatDoorA25
import Derived.Test.YtlfnibjmkfldgaaGreatDoorA27
import Derived.Test.YtlfnibjmkfldgaaGreatDoorA28
import Derived.Test.YtlfnibjmkfldgaaGreatDoorA29
import Derived.Test.YtlfnibjmkfldgaaGreatDoorCardSk01
namespace Go.Proofs.YtlfnibjmkfldgaaGreatDoor
open Go.RowKit Big
theorem rfin_calls (b : Nat) (w : World) : Calls Tryz.prog 62 #[.float .f32 b] w (FinPost w (isFin b)) := by
 cases h : isFin b with
 | true =>
  have hrun := fun W => run_float_arith (P := Tryz.prog) W .sub 23 .f32 b b 0 (sub_self_fin h)
  have ho : (FloatKind.f32.format.order 0 0 == some .eq) = true := by decide
  have H := Lib.hid h
  clear h
  go_enter Tryz.func62, Tryz.ntmps62
  go_wp2_with fail
  go_ret
  exact ⟨rfl, 0, rfl⟩
 | false =>
  have hrun := fun W => nan_run (P := Tryz.prog) 23 b h W
  have ho := fun W => nan_order W b 0
  have H := Lib.hid h
  clear h
  go_enter Tryz.func62, Tryz.ntmps62
  go_wp2_with fail
  go_ret
  exact ⟨rfl, 1, rfl⟩
theorem rfin_new (b : Nat) (w : World) : Calls Tryz.prog 62 #[.float .f32 b] w fun e w' => e = .returned (.bool (isFin b)) ∧ New w w' :=
 (rfin_calls b w).mono fun e w' h => by
  obtain ⟨rfl, n, rfl⟩ := h
  exact ⟨rfl, (New.refl _).drewN n⟩
set_option maxRecDepth 100000 in
theorem rsamples_calls (a : Option Addr) (cap : Nat) (l : List Nat) (w : World) (hl : l.length ≤ 9223372036854775807) (hr : RdL w a (flts l)) :
  Calls Tryz.prog 17 #[.slice a l.length cap] w (RetNew w (samplesErr l)) := by
 obtain ⟨n, hn⟩ : ∃ n, l.length = n := ⟨_, rfl⟩
 by_cases hm : 4096 < n
 ·have hs : samplesErr l = 5 := by unfold samplesErr; rw [hn, if_pos hm]
  have hmi : (4096 : Int) < n := by omega
  rw [hs, hn]
  clear hs hr hl hn
  go_enter Tryz.func17, Tryz.ntmps17
  go_wp2_with fail
  go_ret
  exact ⟨rfl, New.refl _⟩
 have hmi : ¬ (4096 : Int) < n := by omega
 have hs : samplesErr l = if l.all isFin then 0 else 1 := by unfold samplesErr; rw [hn, if_neg hm]
 obtain ⟨r, hres⟩ : ∃ r : Int, (if l.all isFin = true then 0 else 1) = r := ⟨_, rfl⟩
 rw [hs, hres, hn]
 rw [hn] at hl
 clear hs hm
 have HR := Lib.hid hr
 have HRES := Lib.hid hres
 have HL := Lib.hid hl
 have HN0 := Lib.hid hn
 clear hr hres hl hn
 go_enter Tryz.func17, Tryz.ntmps17
 go_wp2_with fail
 go_loopw [3] (fun i wr => ∃ k : Nat, k ≤ n ∧ i = .int .i64 (k : Int) ∧ Hid ((l.take k).all isFin = true) ∧ Hid (New w wr)) (fun i _ => n - (intOf i).toNat)
 case atStart => exact ⟨0, Nat.zero_le _, rfl, Lib.hid rfl, Lib.hid (New.refl _)⟩
 case round =>
  obtain ⟨k, hk, rfl, HK, HN⟩ := hrel
  by_cases hlt : k < n
  ·have hlt' : k < l.length := by rw [HN0.out]; exact hlt
   obtain ⟨b, off, rfl, hcell⟩ := HR.out.flt k hlt'
   obtain ⟨x, hx⟩ : ∃ x, l[k] = x := ⟨_, rfl⟩
   rw [hx] at hcell
   replace hcell := HN.out.cell hcell
   cases hfx : isFin x with
   | true =>
    have hd := all_take_succ hlt' HK.out (by rw [hx]; exact hfx)
    have hc := fun W => rfin_new x W
    rw [hfx] at hc
    have HX := Lib.hid hx
    have HFX := Lib.hid hfx
    have HD := Lib.hid hd
    have HC := Lib.hid hc
    clear hx hfx hd hc
    go_wp2_with fail
    refine (HC.out _).mono ?_
    rintro e w' ⟨rfl, hn⟩
    have hn2 := HN.out.trans hn
    clear hn HN
    have HN := Lib.hid hn2
    clear hn2
    go_wp2_with fail
    go_roundw
    case rel => exact ⟨k + 1, by omega, by go_num, HD, HN⟩
    case measure => simp [intOf]; omega
   | false =>
    have hd := all_false_at hlt' (by rw [hx]; exact hfx)
    have hc := fun W => rfin_new x W
    rw [hfx] at hc
    have HX := Lib.hid hx
    have HFX := Lib.hid hfx
    have HD := Lib.hid hd
    have HC := Lib.hid hc
    clear hx hfx hd hc
    go_wp2_with fail
    refine (HC.out _).mono ?_
    rintro e w' ⟨rfl, hn⟩
    have hn2 := HN.out.trans hn
    clear hn HN
    have HN := Lib.hid hn2
    clear hn2
    go_wp2_with fail
    go_ret
    exact ⟨ret_i64 (by rw [← HRES.out, HD.out]; rfl), HN.out⟩
  ·have hkk : k = n := by omega
   have hz : r = 0 := by rw [← HRES.out, if_pos]; have := HK.out; rwa [hkk, ← HN0.out, List.take_length] at this
   have HKK := Lib.hid hkk
   have HZ := Lib.hid hz
   clear hkk hz
   go_wp2_with fail
   go_ret
   exact ⟨ret_i64 HZ.out.symm, HN.out⟩
end Go.Proofs.YtlfnibjmkfldgaaGreatDoor
namespace Go.Proofs.YtlfnibjmkfldgaaGreatDoor
open Go.RowKit Big
set_option maxRecDepth 100000 in
set_option maxHeartbeats 4000000 in
theorem aligned_short (a b : Option Addr) (cap cap' : Nat) (rv : List Value) (rs : List (List Nat)) (ss : List Int) (w : World) (hr : RdLL w a rv (rs.map flts)) (hs : RdL w b (ints ss)) (h1 : 1 ≤ rs.length) (h8 : rs.length ≤ 8) (hl : ss.length = rs.length)
  (hv : ∀ (k : Nat) (h : k < rs.length), samplesErr rs[k] = 0 ∧ rs[k].length ≤ 4096) (hw : ∀ (k : Nat) (h : k < ss.length), -1000 ≤ ss[k] ∧ ss[k] ≤ 1000) (hft : alT rs ss ≤ alF ss) :
  Calls Tryz.prog 24 #[.slice a rs.length cap, .slice b rs.length cap'] w fun e w' => e = .returned (.tuple #[.slice none 0 0, .int .i64 16]) ∧ New w w' := by
 obtain ⟨n, hn⟩ : ∃ n, rs.length = n := ⟨_, rfl⟩
 rw [hn] at h1 h8 hl ⊢
 have hn1 : (1 : Int) ≤ (n : Int) := by omega
 have hn8 : (n : Int) ≤ 8 := by omega
 have hd1 : ((n : Int) == 0) = false := by rw [beq_eq_false_iff_ne]; omega
 have hd2 : decide ((8 : Int) < (n : Int)) = false := by rw [decide_eq_false_iff_not]; omega
 have HR := Lib.hid hr
 have HS := Lib.hid hs
 have HL := Lib.hid hl
 have HV := Lib.hid hv
 have HW := Lib.hid hw
 have HFT := Lib.hid hft
 have HN0 := Lib.hid hn
 clear hr hs hl hv hw hft hn
 go_enter Tryz.func24, Tryz.ntmps24
 go_wp2_with fail
 refine (pwhen_new false 12 _).mono ?_
 rintro e w1 ⟨rfl, hn⟩
 have HN := Lib.hid hn
 clear hn
 go_wp2_with fail
 refine (pwhen_new false 5 _).mono ?_
 rintro e w2 ⟨rfl, hn⟩
 replace HN := Lib.hid (HN.out.trans hn)
 clear hn
 go_wp2_with fail
 have HN0 := HN
 clear HN
 have BG := Lib.hid ((Box.alloc w2 (w2.heap.size) 29 #[.int .i64 0, .int .i64 0] (by simp)).new (New.refl _))
 have HN := Lib.hid ((New.refl w2).alloc (.cells #[.int .i64 0, .int .i64 0] 29))
 have HN_ := HN0.out.trans HN.out
 clear HN HN0
 have HN := Lib.hid HN_
 clear HN_
 refine (pfirst2_new 0 0 _ _ 29 _ BG.out).mono ?_
 rintro e w3 ⟨rfl, hn⟩
 replace HN := Lib.hid (HN.out.trans hn)
 clear hn
 clear BG
 go_wp2_with fail
 go_loopw [35] (fun i wr => ∃ (k : Nat), k ≤ n ∧ i = .int .i64 (k : Int) ∧ Hid (New w wr)) (fun i _ => n - (intOf i).toNat)
 case atStart => exact ⟨0, Nat.zero_le _, rfl, HN⟩
 case round =>
  clear HN
  obtain ⟨k, hk, rfl, HN⟩ := hrel
  by_cases hlt : k < n
  ·have hkr : k < rs.length := by rw [HN0.out]; exact hlt
   obtain ⟨b1, off, a1, c1, rfl, hcell, hr1, hrc1⟩ := HR.out.at k (by simpa using hkr)
   obtain ⟨x, hx⟩ : ∃ x, rs[k] = x := ⟨_, rfl⟩
   have hxm : (rs.map flts)[k]'(by simpa using hkr) = flts x := by simp [hx]
   have hxl : (flts x).length = x.length := by simp [flts]
   rw [hxm, hxl] at hcell
   rw [hxm] at hr1
   clear hrc1
   have hxv := HV.out k hkr
   rw [hx] at hxv
   have hcall := samples_new a1 c1 x wr (by omega) (hr1.new HN.out)
   rw [hxv.1] at hcall
   have hcell := HN.out.cell hcell
   have HX := Lib.hid hx
   have HXM := Lib.hid hxm
   have HXL := Lib.hid hxl
   have HCALL := Lib.hid hcall
   have HXV := Lib.hid hxv
   have HR1 := Lib.hid hr1
   clear hx hxm hxl hcall hxv hr1
   go_wp2_with fail
   refine HCALL.out.mono ?_
   rintro e w4 ⟨rfl, hn⟩
   clear hcell
   replace HN := Lib.hid (HN.out.trans hn)
   clear hn
   go_wp2_with fail
   go_roundw
   case rel => exact ⟨k + 1, by omega, by go_num, HN⟩
   case measure => simp [intOf]; omega
  ·have hkk : k = n := by omega
   have HKK := Lib.hid hkk
   clear hkk
   go_wp2_with fail
   go_loopw [52] (fun i wr => ∃ (k : Nat), k ≤ n ∧ i = .int .i64 (k : Int) ∧ Hid (New w wr)) (fun i _ => n - (intOf i).toNat)
   case atStart => exact ⟨0, Nat.zero_le _, rfl, HN⟩
   case round =>
    clear HN
    obtain ⟨j, hj, rfl, HN⟩ := hrel
    by_cases hlt2 : j < n
    ·have hjs : j < ss.length := by rw [HL.out]; exact hlt2
     obtain ⟨b1, off, rfl, hcell⟩ := HS.out.int j hjs
     obtain ⟨x, hx⟩ : ∃ x, ss[j] = x := ⟨_, rfl⟩
     have hxv := HW.out j hjs
     rw [hx] at hcell hxv
     have hout : outside x (-1000) 1000 = false := by simp [outside]; omega
     have hcall := fun W => pwithin_new x (-1000) 1000 W
     simp only [hout] at hcall
     have hcell := HN.out.cell hcell
     have HX := Lib.hid hx
     have HCALL := Lib.hid hcall
     have HXV := Lib.hid hxv
     have HOUT := Lib.hid hout
     clear hx hcall hxv hout
     go_wp2_with fail
     refine (HCALL.out _).mono ?_
     rintro e w4 ⟨rfl, hn⟩
     clear hcell
     replace HN := Lib.hid (HN.out.trans hn)
     clear hn
     go_wp2_with fail
     go_roundw
     case rel => exact ⟨j + 1, by omega, by go_num, HN⟩
     case measure => simp [intOf]; omega
    ·have hjj : j = n := by omega
     have hr0 : 0 < rs.length := by rw [HN0.out]; omega
     have hs0 : 0 < ss.length := by rw [HL.out]; omega
     obtain ⟨b1, off, a1, c1, rfl, hcell, hr1, hrc1⟩ := HR.out.at 0 (by simpa using hr0)
     obtain ⟨b2, off2, rfl, hcell2⟩ := HS.out.int 0 hs0
     clear hr1 hrc1
     have hcell := HN.out.cell hcell
     have hcell2 := HN.out.cell hcell2
     obtain ⟨s0, hs0'⟩ : ∃ x, ss[0] = x := ⟨_, rfl⟩
     obtain ⟨l0, hl0⟩ : ∃ x, rs[0].length = x := ⟨_, rfl⟩
     have hxm : (flts rs[0]).length = l0 := by simp [flts, hl0]
     simp only [List.getElem_map, hxm, Nat.add_zero] at hcell
     rw [hs0', Nat.add_zero] at hcell2
     have hsb := HW.out 0 hs0
     rw [hs0'] at hsb
     have hlb := (HV.out 0 hr0).2
     rw [hl0] at hlb
     have hwa : wrap64 (-s0) = -s0 := ld_in (by omega) (by omega)
     have hwb : IntKind.i64.wrap (-s0) = -s0 := by rw [IntKind.wrap_i64]; omega
     have hwc : wrap64 ((l0 : Int) - s0) = (l0 : Int) - s0 := ld_in (by omega) (by omega)
     have hwd : IntKind.i64.wrap ((l0 : Int) - s0) = (l0 : Int) - s0 := by rw [IntKind.wrap_i64]; omega
     have HJJ := Lib.hid hjj
     have HS0 := Lib.hid hs0'
     have HL0 := Lib.hid hl0
     have HXM := Lib.hid hxm
     have HSB := Lib.hid hsb
     have HLB := Lib.hid hlb
     clear hjj hs0' hl0 hxm hsb hlb
     go_wp2_with fail
     go_quiet (fail)
     go_wp2_with fail
     clear hcell hcell2 hwa hwb hwc hwd
     go_loopw [13, 14, 76] (fun fx tx i wr => ∃ (k : Nat) (f t : Int), k ≤ n ∧ fx = .int .i64 f ∧ tx = .int .i64 t ∧ i = .int .i64 (k : Int) ∧ Hid (alFrom (-s0) (ss.take k) = f) ∧ Hid (alTo ((l0 : Int) - s0) ((alPairs rs ss).take k) = t) ∧ Hid (-1000 ≤ f ∧ f ≤ 1000 ∧ -1000 ≤ t ∧ t ≤ 6000) ∧ Hid (New w wr)) (fun _ _ i _ => n - (intOf i).toNat)
     case atStart =>
      have hsb := HSB.out
      have hlb := HLB.out
      exact ⟨0, _, _, Nat.zero_le _, rfl, rfl, rfl, Lib.hid rfl, Lib.hid rfl, Lib.hid ⟨by omega, by omega, by omega, by omega⟩, Lib.hid (HN.out.drewN nq)⟩
     case round =>
      clear HN
      obtain ⟨k, f, t, hk, rfl, rfl, rfl, HF, HT, HB, HN⟩ := hrel
      by_cases hlt3 : k < n
      ·have hkr : k < rs.length := by rw [HN0.out]; exact hlt3
       have hks : k < ss.length := by rw [HL.out]; exact hlt3
       obtain ⟨b1', off', a1, c1, hab1, hcell, hr1, hrc1⟩ := HR.out.at k (by simpa using hkr)
       obtain ⟨b2', off2', hab2, hcell2⟩ := HS.out.int k hks
       injection hab1 with hab1
       injection hab1 with hab1 hab1'
       injection hab2 with hab2
       injection hab2 with hab2 hab2'
       subst hab1 hab1' hab2 hab2'
       clear hr1 hrc1
       obtain ⟨s, hs0'⟩ : ∃ x, ss[k] = x := ⟨_, rfl⟩
       obtain ⟨l, hl0⟩ : ∃ x, rs[k].length = x := ⟨_, rfl⟩
       have hxm : (flts rs[k]).length = l := by simp [flts, hl0]
       simp only [List.getElem_map, hxm] at hcell
       rw [hs0'] at hcell2
       have hcell := HN.out.cell hcell
       have hcell2 := HN.out.cell hcell2
       have hsb := HW.out k hks
       rw [hs0'] at hsb
       have hlb := (HV.out k hkr).2
       rw [hl0] at hlb
       have hwa : wrap64 (-s) = -s := ld_in (by omega) (by omega)
       have hwb : IntKind.i64.wrap (-s) = -s := by rw [IntKind.wrap_i64]; omega
       have hwc : wrap64 ((l : Int) - s) = (l : Int) - s := ld_in (by omega) (by omega)
       have hwd : IntKind.i64.wrap ((l : Int) - s) = (l : Int) - s := by rw [IntKind.wrap_i64]; omega
       have hnx := al_next (f0 := -s0) (t0 := (l0 : Int) - s0) hkr hks
       rw [hs0', HF.out, HT.out, hl0] at hnx
       have hbb := HB.out
       have HS1 := Lib.hid hs0'
       have HL1 := Lib.hid hl0
       have HXM1 := Lib.hid hxm
       have HNX := Lib.hid hnx
       have HBB := Lib.hid hbb
       have HSB1 := Lib.hid hsb
       have HLB1 := Lib.hid hlb
       clear hs0' hl0 hxm hnx hbb hsb hlb
       go_wp2_with fail
       go_quiet (fail)
       go_wp2_with fail
       go_roundw
       case rel =>
        have hsb := HSB1.out
        have hlb := HLB1.out
        have hbb := HBB.out
        exact ⟨k + 1, _, _, by omega, rfl, rfl, by go_num, Lib.hid HNX.out.1, Lib.hid HNX.out.2, Lib.hid ⟨by omega, by omega, by omega, by omega⟩, Lib.hid (HN.out.drewN nq)⟩
       case measure => simp [intOf]; omega
      ·have hkk3 : k = n := by omega
       have hnr : rs.length = n := HN0.out
       have hff : f = alF ss := by
        rw [← HF.out, hkk3, ← HL.out, List.take_length]
        unfold alF
        congr 2
        rw [← HS0.out, List.headD_eq_head?_getD, List.head?_eq_getElem?, List.getElem?_eq_getElem hs0]
        rfl
       have htt : t = alT rs ss := by
        rw [← HT.out, List.take_of_length_le (by unfold alPairs; simp; omega)]
        unfold alT
        congr 2
        ·rw [← HL0.out, List.headD_eq_head?_getD, List.head?_eq_getElem?, List.getElem?_eq_getElem hr0]
         rfl
        ·rw [← HS0.out, List.headD_eq_head?_getD, List.head?_eq_getElem?, List.getElem?_eq_getElem hs0]
         rfl
       have hlt4 : t ≤ f := by rw [hff, htt]; exact HFT.out
       clear HF HT HB hkk3 HFT hff htt
       go_wp2_with fail
       go_ret2
       exact ⟨rfl, HN.out⟩
end Go.Proofs.YtlfnibjmkfldgaaGreatDoor
namespace Go.Proofs.YtlfnibjmkfldgaaGreatDoor
open Go.RowKit Big
theorem wp_append_own_at {P : Program} {w : World} {o : Oper} {a : Act} {K : Act → World → Prop} {Q : Exit → Act → World → Prop} (s x : Operand) (t : TypeId)
  (ho : o.op = .call { callee := .builtin .append, args := #[s, x], argTypes := #[t, t] })
  (base : Nat) (e : TypeId) (i : TypeInfo) (z : Value) (size bytes : Nat) (ht : P.underlying t = some (.slice e)) (hi : P.info? e = some i) (hz : i.zero = some z)
  (hsize : i.size = size) (hby : i.bytes = bytes) (hzs : z.cells.size = size) (hsz : 0 < size)
  (v : Value) (n : Nat) (xs : List Value) (hs : a.eval s = v) (hown : w.ownsRow base e size v n xs)
  (ad : Addr) (m c : Nat) (news : List Value) (hx : a.eval x = .slice (some ad) m c) (hl : news.length = m * size) (hnews : ∀ (j : Nat) (u : Value), news[j]? = some u → w.cell? (ad.add j) = some u) (h1 : ∀ u ∈ news, u.oneCell' = true)
  (h63 : n + m ≤ maxLen) (hbytes : (n + m) * bytes ≤ 140737488355328) (hbase : base ≤ w.heap.size)
  (h : ∀ (v' : Value) (w' : World), w'.ownsRow base e size v' (n + m) (xs ++ news) → w.grownBy w' v.ownBlock → (v'.ownBlock = v.ownBlock ∨ v'.ownBlock = some w.heap.size) → K (a.put o.dst v') w') : o.wp P a w K Q := by
 obtain ⟨v', w', hr, h2, h3, h4, h5⟩ := run_append_own_at (P := P) w base t o.type e i z size bytes ht hi hz hsize hby hzs hsz v n xs hown ad m c news hl hnews h1 h63 hbytes hbase
 unfold Oper.wp execOp
 simp only [ho, resolve, invoke, builtin, Sem.run_bind, Sem.run_pure, Result.andThen_ok, List.map_toArray, List.map_cons, List.map_nil, hs, hx, hr]
 exact h v' w' h2 h3 h5
end Go.Proofs.YtlfnibjmkfldgaaGreatDoor
namespace Go.Proofs.YtlfnibjmkfldgaaGreatDoor
def AwakeOk : Prop := ∀ w, Env w → Calls Tryz.prog 12 #[] w fun e w' => e = .returned (.bool true) ∧ New w w'
end Go.Proofs.YtlfnibjmkfldgaaGreatDoor
namespace Go.Proofs.YtlfnibjmkfldgaaGreatDoor
open Go.RowKit Big
theorem addz_same {x : Nat} (h : isFin x = true) : neqF (addz x) x = false := by
 have hx := isFin_fin h
 have hrw : Flo.rung Ieee.single x < Ieee.single.signWeight := Nat.mod_lt _ (Flo.signWeight_pos _)
 have hy : Flo.Fin Ieee.single (addz x) ∧ Flo.sval Ieee.single (addz x) = Flo.sval Ieee.single x := by
  unfold addz
  by_cases h0 : Flo.rung Ieee.single x = 0
  ·rw [if_pos h0]
   have hz : Flo.rung Ieee.single 0 = 0 := Nat.zero_mod _
   refine ⟨by unfold Flo.Fin; rw [hz]; decide, ?_⟩
   unfold Flo.sval
   rw [h0, hz, Flo.V_zero]
   split <;> split <;> rfl
  ·rw [if_neg h0]
   obtain ⟨h1, h2⟩ := Flo.sgn_word Ieee.single (Flo.sgn Ieee.single x) hrw
   refine ⟨by unfold Flo.Fin; rw [h2]; exact hx, ?_⟩
   unfold Flo.sval
   rw [h1, h2]
 unfold neqF
 have ho := Flo.order_fin Ieee.single hy.1 hx
 have e : FloatKind.f32.format = Ieee.single := rfl
 rw [e, ho, hy.2, Flo.compare_int, if_neg (Int.lt_irrefl _), if_pos rfl]
 rfl
def alE (rs : List (List Nat)) (ss : List Int) : Int := if alErr rs ss = 0 then (if alF ss < alT rs ss then 0 else 16) else alErr rs ss
def alP (rs : List (List Nat)) (ss : List Int) : List (List Nat) := if alE rs ss = 0 then alPieces (alF ss) (alT rs ss) rs ss else []
theorem al_facts {rs : List (List Nat)} {ss : List Int} (h : alErr rs ss = 0) : (∀ (k : Nat) (h : k < rs.length), samplesErr rs[k] = 0 ∧ rs[k].length ≤ 4096) ∧ (∀ (k : Nat) (h : k < ss.length), -1000 ≤ ss[k] ∧ ss[k] ≤ 1000) := by
 obtain ⟨-, -, -, h4, h5⟩ := alErr_ok h
 exact ⟨fun k hk => ⟨recErr_ok h4 _ (List.getElem_mem hk), samplesErr_len (recErr_ok h4 _ (List.getElem_mem hk))⟩, fun k hk => skewErr_ok h5 _ (List.getElem_mem hk)⟩
theorem paligned_all (a b : Option Addr) (cap cap' n m : Nat) (rv : List Value) (rs : List (List Nat)) (ss : List Int) (w : World) (hr : RdLL w a rv (rs.map flts)) (hs : RdL w b (ints ss)) (hn : rs.length = n) (hm : ss.length = m) (hl : n ≤ 100000) (hlm : m ≤ 100000) (hv : ∀ (k : Nat) (h : k < rs.length), rs[k].length ≤ 9223372036854775807) :
  Calls Tryz.prog 24 #[.slice a n cap, .slice b m cap'] w fun e w' => ∃ v, e = .returned (.tuple #[v, .int .i64 (alE rs ss)]) ∧ New w w' ∧ RowsOf w' w.heap.size 22 23 v ((alP rs ss).map flts) := by
 by_cases h0 : alErr rs ss = 0
 ·obtain ⟨h1, h2, h3, -, -⟩ := alErr_ok h0
  obtain ⟨h4, h5⟩ := al_facts h0
  obtain rfl : m = n := by omega
  by_cases hft : alF ss < alT rs ss
  ·have e : alE rs ss = 0 := by unfold alE; rw [if_pos h0, if_pos hft]
   unfold alP
   rw [if_pos e, e]
   have := Aligned_ok a b cap cap' rv rs ss w hr hs h1 h2 h3 h4 h5 hft
   rw [hn] at this
   exact this
  ·have e : alE rs ss = 16 := by unfold alE; rw [if_pos h0, if_neg hft]
   unfold alP
   rw [e, if_neg (by decide)]
   have := aligned_short a b cap cap' rv rs ss w hr hs h1 h2 h3 h4 h5 (by omega)
   rw [hn] at this
   refine this.mono fun e w' hp => ?_
   exact ⟨_, hp.1, hp.2, RowsOf.nil _ _ _ _⟩
 ·have e : alE rs ss = alErr rs ss := if_neg h0
  unfold alP
  rw [e, if_neg h0]
  refine (aligned_bad a b cap cap' n m rv rs ss w hr hs hn hm hl hlm hv _ rfl h0).mono fun e w' hp => ?_
  exact ⟨_, hp.1, hp.2, RowsOf.nil _ _ _ _⟩
end Go.Proofs.YtlfnibjmkfldgaaGreatDoor
