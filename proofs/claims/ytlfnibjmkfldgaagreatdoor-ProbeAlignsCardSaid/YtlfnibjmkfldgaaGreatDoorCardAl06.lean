/- Part CardAl06. -/
import Derived.Deep.DeepCutAuto
import Derived.Laws.AppendOwnNone
import Derived.Maps.AppendAt
import Derived.Test.YtlfnibjmkfldgaaGreatDoorA16
import Derived.Test.YtlfnibjmkfldgaaGreatDoorA24
import Derived.Test.YtlfnibjmkfldgaaGreatDoorA29
import Derived.Test.YtlfnibjmkfldgaaGreatDoorA31
import Derived.Test.YtlfnibjmkfldgaaGreatDoorA32
import Derived.Test.YtlfnibjmkfldgaaGreatDoorA33
import Derived.Test.YtlfnibjmkfldgaaGreatDoorCardAl01
import Derived.Test.YtlfnibjmkfldgaaGreatDoorCardAl02
import Derived.Test.YtlfnibjmkfldgaaGreatDoorCardAl03
import Derived.Test.YtlfnibjmkfldgaaGreatDoorCardAl04
import Derived.Test.YtlfnibjmkfldgaaGreatDoorCardAl05
namespace Go.Proofs.YtlfnibjmkfldgaaGreatDoor
open Go.RowKit Big
theorem addz_same {x : Nat} (h : isFin x = true) : neqF (addz x) x = false := by
 have hx := isFin_fin h
 have hrw : Flo.rung Ieee.single x < Ieee.single.signWeight := Nat.mod_lt _ (Flo.signWeight_pos _)
 have hy : Flo.Fin Ieee.single (addz x) ∧ Flo.sval Ieee.single (addz x) = Flo.sval Ieee.single x := by
  unfold addz
  by_cases h0 : Flo.rung Ieee.single x = 0
  ·rw [if_pos h0]
   have hz : Flo.rung Ieee.single 0 = 0 := Nat.zero_mod _
   refine ⟨by unfold Flo.Fin; rw [hz]; decide, ?_⟩
   unfold Flo.sval
   rw [h0, hz, Flo.V_zero]
   split <;> split <;> rfl
  ·rw [if_neg h0]
   obtain ⟨h1, h2⟩ := Flo.sgn_word Ieee.single (Flo.sgn Ieee.single x) hrw
   refine ⟨by unfold Flo.Fin; rw [h2]; exact hx, ?_⟩
   unfold Flo.sval
   rw [h1, h2]
 unfold neqF
 have ho := Flo.order_fin Ieee.single hy.1 hx
 have e : FloatKind.f32.format = Ieee.single := rfl
 rw [e, ho, hy.2, Flo.compare_int, if_neg (Int.lt_irrefl _), if_pos rfl]
 rfl
def alE (rs : List (List Nat)) (ss : List Int) : Int := if alErr rs ss = 0 then (if alF ss < alT rs ss then 0 else 16) else alErr rs ss
def alP (rs : List (List Nat)) (ss : List Int) : List (List Nat) := if alE rs ss = 0 then alPieces (alF ss) (alT rs ss) rs ss else []
def alR (rs : List (List Nat)) (ss : List Int) : List (List Nat) := if alE rs ss = 0 then alRaws (alF ss) (alT rs ss) rs ss else []
theorem al_facts {rs : List (List Nat)} {ss : List Int} (h : alErr rs ss = 0) : (∀ (k : Nat) (h : k < rs.length), samplesErr rs[k] = 0 ∧ rs[k].length ≤ 4096) ∧ (∀ (k : Nat) (h : k < ss.length), -1000 ≤ ss[k] ∧ ss[k] ≤ 1000) := by
 obtain ⟨-, -, -, h4, h5⟩ := alErr_ok h
 exact ⟨fun k hk => ⟨recErr_ok h4 _ (List.getElem_mem hk), samplesErr_len (recErr_ok h4 _ (List.getElem_mem hk))⟩, fun k hk => skewErr_ok h5 _ (List.getElem_mem hk)⟩
theorem alE_zero {rs : List (List Nat)} {ss : List Int} (h : alE rs ss = 0) : alErr rs ss = 0 ∧ alF ss < alT rs ss := by
 unfold alE at h
 by_cases h1 : alErr rs ss = 0
 ·rw [if_pos h1] at h
  by_cases h2 : alF ss < alT rs ss
  ·exact ⟨h1, h2⟩
  ·rw [if_neg h2] at h; omega
 ·rw [if_neg h1] at h; exact absurd h h1
theorem al_lens (rs : List (List Nat)) (ss : List Int) : (alP rs ss).length = (alR rs ss).length := by
 unfold alP alR
 split
 ·simp [alPieces, alRaws]
 ·rfl
theorem al_pair (rs : List (List Nat)) (ss : List Int) (k : Nat) (h : k < (alP rs ss).length) (h' : k < (alR rs ss).length) : (alP rs ss)[k].length = (alR rs ss)[k].length ∧ (alP rs ss)[k].length ≤ 4096 ∧ ∀ (j : Nat) (h1 : j < (alP rs ss)[k].length) (h2 : j < (alR rs ss)[k].length), neqF (alP rs ss)[k][j] (alR rs ss)[k][j] = false := by
 by_cases h0 : alE rs ss = 0
 ·obtain ⟨he, hft⟩ := alE_zero h0
  obtain ⟨hv, -⟩ := al_facts he
  have e1 : alP rs ss = alPieces (alF ss) (alT rs ss) rs ss := if_pos h0
  have e2 : alR rs ss = alRaws (alF ss) (alT rs ss) rs ss := if_pos h0
  simp only [e1, e2] at h h' ⊢
  have hk : k < rs.length := by unfold alPieces at h; simp at h; omega
  have hs : k < ss.length := by unfold alPieces at h; simp at h; omega
  have g1 : (alPieces (alF ss) (alT rs ss) rs ss)[k] = alPiece (alF ss) (alT rs ss) rs[k] ss[k] := by simp [alPieces]
  have g2 : (alRaws (alF ss) (alT rs ss) rs ss)[k] = alRaw (alF ss) (alT rs ss) rs[k] ss[k] := by simp [alRaws]
  have g3 : alPiece (alF ss) (alT rs ss) rs[k] ss[k] = (alRaw (alF ss) (alT rs ss) rs[k] ss[k]).map addz := rfl
  simp only [g1, g2, g3]
  refine ⟨by simp, ?_, fun j h1 h2 => ?_⟩
  ·rw [List.length_map]
   unfold alRaw
   rw [List.length_take, List.length_drop]
   have := (hv k hk).2
   omega
  ·rw [List.getElem_map]
   refine addz_same ?_
   have hm : (alRaw (alF ss) (alT rs ss) rs[k] ss[k])[j] ∈ rs[k] := List.mem_of_mem_drop (List.mem_of_mem_take (List.getElem_mem h2))
   exact fins_of (hv k hk).1 _ hm
 ·exfalso
  have e1 : alP rs ss = [] := if_neg h0
  rw [e1] at h
  simp at h
theorem paligned_all (a b : Option Addr) (cap cap' n m : Nat) (rv : List Value) (rs : List (List Nat)) (ss : List Int) (w : World) (hr : RdLL w a rv (rs.map flts)) (hs : RdL w b (ints ss)) (hn : rs.length = n) (hm : ss.length = m) (hl : n ≤ 100000) (hlm : m ≤ 100000) (hv : ∀ (k : Nat) (h : k < rs.length), rs[k].length ≤ 9223372036854775807) :
  Calls Tryz.prog 24 #[.slice a n cap, .slice b m cap'] w fun e w' => ∃ v, e = .returned (.tuple #[v, .int .i64 (alE rs ss)]) ∧ New w w' ∧ RowsOf w' w.heap.size 22 23 v ((alP rs ss).map flts) := by
 by_cases h0 : alErr rs ss = 0
 ·obtain ⟨h1, h2, h3, -, -⟩ := alErr_ok h0
  obtain ⟨h4, h5⟩ := al_facts h0
  obtain rfl : m = n := by omega
  by_cases hft : alF ss < alT rs ss
  ·have e : alE rs ss = 0 := by unfold alE; rw [if_pos h0, if_pos hft]
   unfold alP
   rw [if_pos e, e]
   have := Aligned_ok a b cap cap' rv rs ss w hr hs h1 h2 h3 h4 h5 hft
   rw [hn] at this
   exact this
  ·have e : alE rs ss = 16 := by unfold alE; rw [if_pos h0, if_neg hft]
   unfold alP
   rw [e, if_neg (by decide)]
   have := aligned_short a b cap cap' rv rs ss w hr hs h1 h2 h3 h4 h5 (by omega)
   rw [hn] at this
   refine this.mono fun e w' hp => ?_
   exact ⟨_, hp.1, hp.2, RowsOf.nil _ _ _ _⟩
 ·have e : alE rs ss = alErr rs ss := if_neg h0
  unfold alP
  rw [e, if_neg h0]
  refine (aligned_bad a b cap cap' n m rv rs ss w hr hs hn hm hl hlm hv _ rfl h0).mono fun e w' hp => ?_
  exact ⟨_, hp.1, hp.2, RowsOf.nil _ _ _ _⟩
theorem raligned_all (a b : Option Addr) (cap cap' n m : Nat) (rv : List Value) (rs : List (List Nat)) (ss : List Int) (w : World) (hr : RdLL w a rv (rs.map flts)) (hs : RdL w b (ints ss)) (hn : rs.length = n) (hm : ss.length = m) (h0 : alErr rs ss = 0) :
  Calls Tryz.prog 26 #[.slice a n cap, .slice b m cap'] w fun e w' => ∃ v, e = .returned (.tuple #[v, .int .i64 (alE rs ss)]) ∧ New w w' ∧ RowsOf w' w.heap.size 22 23 v ((alR rs ss).map flts) := by
 obtain ⟨h1, h2, h3, -, -⟩ := alErr_ok h0
 obtain ⟨h4, h5⟩ := al_facts h0
 obtain rfl : m = n := by omega
 refine (raligned_calls a b cap cap' m rv rs ss w hr hs (by omega) (by omega) hn (by omega) (fun k h => (h4 k h).2) h5).mono fun e w' hp => ?_
 obtain ⟨g1, g2, g3⟩ := hp
 by_cases hft : alF ss < alT rs ss
 ·have e' : alE rs ss = 0 := by unfold alE; rw [if_pos h0, if_pos hft]
  unfold alR
  rw [if_pos e', e']
  obtain ⟨v, hv, ho⟩ := g3 hft
  exact ⟨v, hv, g2, ho⟩
 ·have e' : alE rs ss = 16 := by unfold alE; rw [if_pos h0, if_neg hft]
  unfold alR
  rw [e', if_neg (by decide)]
  exact ⟨_, g1 (by omega), g2, RowsOf.nil _ _ _ _⟩
theorem al_round (rs : List (List Nat)) (ss : List Int) (q k : Nat) (w : World) (aP aR : Option Addr) (rvP rvR : List Value) (hzp : RdZ w aP rvP ((alP rs ss).map flts)) (hzr : RdZ w aR rvR ((alR rs ss).map flts)) (hp : (alP rs ss).length = q) (hr : (alR rs ss).length = q) (hk : k < q) :
  ∃ (b5 off5 : Nat) (a5 : Option Addr) (c5 b6 off6 : Nat) (a6 : Option Addr) (c6 l : Nat), aP = some ⟨b5, off5, none⟩ ∧ w.cell? ⟨b5, off5 + k, none⟩ = some (.slice a5 l c5) ∧ aR = some ⟨b6, off6, none⟩ ∧ w.cell? ⟨b6, off6 + k, none⟩ = some (.slice a6 l c6) ∧
   ∀ W, New w W → Calls Tryz.prog 27 #[.slice a5 l c5, .slice a6 l c6] W fun e w' => e = .returned (.bool true) ∧ New W w' := by
 have hkP : k < (alP rs ss).length := by omega
 have hkR : k < (alR rs ss).length := by omega
 obtain ⟨b5, off5, a5, c5, e5, hc5, hr5, -⟩ := hzp.1.at k (by simpa using hkP)
 obtain ⟨b6, off6, a6, c6, e6, hc6, hr6, -⟩ := hzr.1.at k (by simpa using hkR)
 obtain ⟨p1, p2, p3⟩ := al_pair rs ss k hkP hkR
 rw [List.getElem_map] at hc5 hr5 hc6 hr6
 generalize (alP rs ss)[k] = x at *
 generalize (alR rs ss)[k] = y at *
 have hxl : (flts x).length = x.length := by simp [flts]
 have hyl : (flts y).length = x.length := by simp [flts, p1]
 rw [hxl] at hc5
 rw [hyl] at hc6
 refine ⟨b5, off5, a5, c5, b6, off6, a6, c6, x.length, e5, hc5, e6, hc6, fun W hW => ?_⟩
 have hlx : x.length ≤ 1000000 := by omega
 have := same_floats a5 a6 c5 c6 x y W hlx p1.symm (hr5.new hW) (hr6.new hW) p3
 rw [← p1] at this
 exact this
set_option maxRecDepth 100000 in
set_option maxHeartbeats 8000000 in
theorem al_law (haw : AwakeOk) (a b : Option Addr) (ca cb n m : Nat) (rv : List Value) (rs : List (List Nat)) (ss : List Int) (w : World) (he : Env w) (hn : rs.length = n) (hm : ss.length = m)
  (hr : RdZ w a rv (rs.map flts)) (hrb : RdL w b (ints ss)) (hzb : b = none → cb = 0) :
  Calls Tryz.prog 4 #[.slice a n ca, .slice b m cb] w fun e w' => e = .returned (.bool true) ∧ New w w' := by
 have HN := Lib.hid (New.refl w)
 by_cases h10 : 10 < n
 ·have hi10 : (10 : Int) < (n : Int) := by omega
  have hd10 : decide ((10 : Int) < (n : Int)) = true := decide_eq_true hi10
  clear hr hrb hn hm
  have HE := Lib.hid he
  have HAW := Lib.hid haw
  clear he haw
  go_enter Tryz.func4, Tryz.ntmps4
  go_wp2_with fail
  refine (HAW.out _ (HE.out.new HN.out)).mono ?_
  rintro e w99 ⟨rfl, hn⟩
  replace HN := Lib.hid (HN.out.trans hn)
  clear hn
  go_wp2_with fail
  go_ret
  exact ⟨rfl, HN.out⟩
 have hi10 : ¬ (10 : Int) < (n : Int) := by omega
 have hd10 : decide ((10 : Int) < (n : Int)) = false := decide_eq_false hi10
 by_cases h12 : 12 < m
 ·have hi12 : (12 : Int) < (m : Int) := by omega
  have hd12 : decide ((12 : Int) < (m : Int)) = true := decide_eq_true hi12
  clear hr hrb hn hm
  have HE := Lib.hid he
  have HAW := Lib.hid haw
  clear he haw
  go_enter Tryz.func4, Tryz.ntmps4
  go_wp2_with fail
  refine (HAW.out _ (HE.out.new HN.out)).mono ?_
  rintro e w99 ⟨rfl, hn⟩
  replace HN := Lib.hid (HN.out.trans hn)
  clear hn
  go_wp2_with fail
  go_ret
  exact ⟨rfl, HN.out⟩
 have hi12 : ¬ (12 : Int) < (m : Int) := by omega
 have hd12 : decide ((12 : Int) < (m : Int)) = false := decide_eq_false hi12
 have hni : (n : Int) ≤ 10 := by omega
 obtain ⟨i0, hi0, hz0, hz1, hz2⟩ := info_parts info_int
 obtain ⟨i1, hi1, hz10, hz11, hz12⟩ := info_parts info_fsl
 have hl : (ints ss).length = m * 1 := by simp [ints, hm]
 obtain ⟨e0, he0⟩ : ∃ e0, alErr rs ss = e0 := ⟨_, rfl⟩
 obtain ⟨eF, heF⟩ : ∃ eF, alE rs ss = eF := ⟨_, rfl⟩
 obtain ⟨q, hq⟩ : ∃ q, (alP rs ss).length = q := ⟨_, rfl⟩
 have hq2 : (alR rs ss).length = q := by rw [← al_lens]; exact hq
 have hq8 : q ≤ 100 := by
  rw [← hq]
  unfold alP
  split
  ·unfold alPieces; simp; omega
  ·simp
 have hpa := fun a' b' c' d' rv' W (h1 : RdLL W a' rv' (rs.map flts)) (h2 : RdL W b' (ints ss)) h3 => paligned_all a' b' c' d' n m rv' rs ss W h1 h2 hn hm (by omega) (by omega) h3
 rw [heF] at hpa
 have hck : ∀ W, New w W → (∀ (k : Nat) (h : k < rs.length), rs[k].length ≤ 9223372036854775807) → Calls Tryz.prog 25 #[.slice a n ca, .slice b m cb] W (RetNew W e0) := by
  intro W hW h3
  have := rrec_calls a b ca cb n m rv rs ss W (hr.new hW).1 (hrb.new hW) hn hm (by omega) (by omega) h3
  rw [he0] at this
  exact this
 have hra : e0 = 0 → ∀ W, New w W → Calls Tryz.prog 26 #[.slice a n ca, .slice b m cb] W fun e w' => ∃ v, e = .returned (.tuple #[v, .int .i64 eF]) ∧ New W w' ∧ RowsOf w' W.heap.size 22 23 v ((alR rs ss).map flts) := by
  intro h0 W hW
  have := raligned_all a b ca cb n m rv rs ss W (hr.new hW).1 (hrb.new hW) hn hm (he0.trans h0)
  rw [heF] at this
  exact this
 have hef : e0 ≠ 0 → eF = e0 ∧ q = 0 := fun h => by
  have e : alE rs ss = alErr rs ss := if_neg (by rw [he0]; exact h)
  refine ⟨by rw [← heF, e, he0], ?_⟩
  rw [← hq]
  unfold alP
  rw [if_neg (by rw [e, he0]; exact h)]
  rfl
 have hat : ∀ (k : Nat) (h : k < rs.length), ∃ (b' off' : Nat) (a' : Option Addr) (c' : Nat), a = some ⟨b', off', none⟩ ∧ w.cell? ⟨b', off' + k, none⟩ = some (.slice a' rs[k].length c') ∧ RdL w a' (flts rs[k]) ∧ (a' = none → c' = 0) := fun k h => by
  obtain ⟨b', off', a', c', e, hc, hrd, -, hz⟩ := hr.at k (by simpa using h)
  have e3 : ((rs.map flts)[k]'(by simpa using h)).length = rs[k].length := by simp [flts]
  rw [e3] at hc
  exact ⟨b', off', a', c', e, hc, by simpa using hrd, hz⟩
 clear he0 heF hr hm h10 h12
 have HE := Lib.hid he
 have HAW := Lib.hid haw
 have HNN := Lib.hid hn
 have HRB := Lib.hid hrb
 have HZB := Lib.hid hzb
 have HL := Lib.hid hl
 have HLP := Lib.hid hq
 have HLR := Lib.hid hq2
 have HPA := Lib.hid hpa
 have HCK := Lib.hid hck
 have HRA := Lib.hid hra
 have HEF := Lib.hid hef
 have HAT := Lib.hid hat
 clear he haw hn hrb hzb hl hq hq2 hpa hck hra hef hat
 go_enter Tryz.func4, Tryz.ntmps4
 go_wp2_with fail
 go_loopw [5, 24] (fun v i wr => ∃ (k : Nat), k ≤ n ∧ i = .int .i64 (k : Int) ∧ Hid (∀ (j : Nat) (h : j < rs.length), j < k → rs[j].length ≤ 5000) ∧ Hid (RowsOf wr w.heap.size 22 23 v ((rs.take k).map flts)) ∧ Hid (New w wr)) (fun _ i _ => n - (intOf i).toNat)
 case atStart => exact ⟨0, Nat.zero_le _, rfl, Lib.hid (fun j h h' => by omega), Lib.hid (RowsOf.nil _ _ _ _), HN⟩
 case round =>
  clear HN
  obtain ⟨k, hk, rfl, HK, HO, HN⟩ := hrel
  by_cases hlt : k < n
  ·have hk1 : k < rs.length := by rw [HNN.out]; exact hlt
   obtain ⟨b', off', a1, c1, rfl, hcell, hrd, hz⟩ := HAT.out k hk1
   obtain ⟨x, hx⟩ : ∃ x, rs[k] = x := ⟨_, rfl⟩
   obtain ⟨l, hl0⟩ : ∃ l, x.length = l := ⟨_, rfl⟩
   rw [hx, hl0] at hcell
   rw [hx] at hrd
   replace hcell := HN.out.cell hcell
   have h1 := fun W => Length_calls l 64 W
   obtain ⟨p, hp⟩ : ∃ p : Bool, ((l : Int) ≤ 64 || (4096 < (l : Int) && (l : Int) ≤ 4098)) = p := ⟨_, rfl⟩
   simp only [hp] at h1
   cases p with
   | false =>
    clear hp hl0 hx hrd
    have H1 := Lib.hid h1
    clear h1
    go_wp2_with fail
    refine (H1.out _).mono ?_
    rintro e w' ⟨rfl, hw'⟩
    rw [hw']
    clear hw'
    go_wp2_with fail
    refine (HAW.out _ (HE.out.new HN.out)).mono ?_
    rintro e w99 ⟨rfl, hn⟩
    replace HN := Lib.hid (HN.out.trans hn)
    clear hn
    go_wp2_with fail
    go_ret
    exact ⟨rfl, HN.out⟩
   | true =>
    have hl5 : l ≤ 5000 := by simp at hp; omega
    have hK2 : ∀ (j : Nat) (h : j < rs.length), j < k + 1 → rs[j].length ≤ 5000 := fun j h h' => by
     by_cases hjk : j = k
     ·subst hjk; rw [hx, hl0]; exact hl5
     ·exact HK.out j h (by omega)
    have hsn : (rs.take (k + 1)).map flts = (rs.take k).map flts ++ [flts x] := by rw [List.take_succ_eq_append_getElem hk1, hx]; simp
    have hxl : (flts x).length = l := by simp [flts, hl0]
    have hrow := floats_row a1 c1 l x wr hl0 hl5 (hrd.new HN.out) hz
    clear hp hrd hx
    have H1 := Lib.hid h1
    have HK2 := Lib.hid hK2
    have HSN := Lib.hid hsn
    have HXL := Lib.hid hxl
    have HL0 := Lib.hid hl0
    have HROWC := Lib.hid hrow
    have HL5 := Lib.hid hl5
    clear h1 hK2 hsn hxl hl0 hrow hl5
    go_wp2_with fail
    refine (H1.out _).mono ?_
    rintro e w' ⟨rfl, hw'⟩
    rw [hw']
    clear hw'
    go_wp2_with fail
    refine HROWC.out.mono ?_
    rintro e w9 ⟨v9, rfl, hn, hrow⟩
    obtain ⟨vs, r1, r2, r3⟩ := HO.out
    have r1' := own_newS r1 hn
    have hvl : vs.length = k := by rw [r2]; simp; omega
    obtain ⟨a9, c9, e9, -, -⟩ := own_rd hrow
    subst e9
    have h1c : ∀ u ∈ [Value.slice a9 (flts x).length c9], u.oneCell' = true := by intro u hu; simp at hu; rw [hu]; rfl
    have hM2 := HN.out.trans hn
    have hms := HN.out.size
    clear hcell HO
    have R1 := Lib.hid r1
    have R1N := Lib.hid r1'
    have R2 := Lib.hid r2
    have R3 := Lib.hid r3
    have HVL := Lib.hid hvl
    have HROW := Lib.hid hrow
    have H1C := Lib.hid h1c
    have HM2 := Lib.hid hM2
    have HN9 := Lib.hid hn
    have HMS := Lib.hid hms
    clear r1 r1' r2 r3 hvl hrow h1c hM2 hn hms
    go_wp2_with (at_builtin; refine wpList_append_own_at _ rfl _ _ 46 rfl w.heap.size 22 i1 (.slice none 0 0) 1 24 Tryz.underlying46 hi1 hz10 hz11 hz12 rfl (by decide) _ _ _ rfl (World.ownsRow.alloc R1N.out _) ⟨w9.heap.size, 0, none⟩ 1 1 [.slice a9 (flts x).length c9] rfl rfl (one_c1 _ _ _) H1C.out (by have := HVL.out; unfold maxLen; omega) (by have := HVL.out; omega) (by have := HM2.out.size; rw [← size_alloc]; omega) ?_)
    intro v' w10 hown' hgrow _ hat
    have hN1 := grown_newS HM2.out R1N.out hgrow
    have hO1 := RowsOf.snoc R1.out R2.out R3.out HN9.out HROW.out HMS.out hown' hgrow hat
    rw [← HSN.out] at hO1
    clear hown' hgrow hat
    have HN1 := Lib.hid hN1
    have HO1 := Lib.hid hO1
    clear hN1 hO1
    go_wp2_with fail
    go_roundw
    case rel => exact ⟨k + 1, by omega, by go_num, HK2, HO1, HN1⟩
    case measure => simp [intOf]; omega
  ·have hkk : k = n := by omega
   have hO := HO.out
   rw [List.take_of_length_le (by rw [HNN.out]; omega)] at hO
   obtain ⟨a2, c2, rv2, hv2, hz2', -, hc2, -⟩ := hO.rdz
   have hlm : (rs.map flts).length = n := by rw [List.length_map]; exact HNN.out
   rw [hlm] at hv2 hc2
   subst hv2
   have hlen5 : ∀ (j : Nat) (h : j < rs.length), rs[j].length ≤ 9223372036854775807 := fun j h => by
    have := HK.out j h (by rw [hkk, ← HNN.out]; exact h)
    omega
   have hcp := HCK.out
   clear hO HO HK hlm hcp HAT hc2
   have HZ2 := Lib.hid hz2'
   have HKK := Lib.hid hkk
   have HLEN := Lib.hid hlen5
   clear hz2' hkk hlen5
   go_wp2_with (at_builtin; refine wpList_append_copy rfl _ _ 34 rfl 3 i0 (.int .i64 0) 1 8 Tryz.underlying34 hi0 hz0 hz1 hz2 rfl (by decide) _ rfl b m cb (ints ss) rfl HL.out (HRB.out.new HN.out) HZB.out (by intro u hu; simp [ints] at hu; obtain ⟨x, -, rfl⟩ := hu; rfl) (by unfold maxLen; omega) (by omega) ?_)
   intro a3 c3 w3 hn _ hr3 _ _
   replace HZ2 := Lib.hid (HZ2.out.new hn)
   replace HN := Lib.hid (HN.out.trans hn)
   clear hn
   have HR3 := Lib.hid hr3
   clear hr3
   go_wp2_with fail
   refine (HPA.out _ _ _ _ _ _ HZ2.out.1 HR3.out HLEN.out).mono ?_
   rintro e w4 ⟨v4, rfl, hn, ho⟩
   clear HZ2 HR3
   obtain ⟨a5, c5, rv5, hv5, hzp, -, -, -⟩ := ho.rdz
   have hlp : ((alP rs ss).map flts).length = q := by rw [List.length_map]; exact HLP.out
   rw [hlp] at hv5
   subst hv5
   clear ho hlp
   replace HN := Lib.hid (HN.out.trans hn)
   clear hn
   have HZP := Lib.hid hzp
   clear hzp
   go_wp2_with fail
   refine (HCK.out _ HN.out HLEN.out).mono ?_
   rintro e w5 ⟨rfl, hn⟩
   replace HZP := Lib.hid (HZP.out.new hn)
   replace HN := Lib.hid (HN.out.trans hn)
   clear hn
   by_cases h0 : e0 = 0
   ·have hra := HRA.out h0
    subst h0
    have HRAA := Lib.hid hra
    clear hra
    go_wp2_with fail
    refine (HRAA.out _ HN.out).mono ?_
    rintro e w6 ⟨v6, rfl, hn, ho⟩
    obtain ⟨a6, c6, rv6, hv6, hzr, -, -, -⟩ := ho.rdz
    have hlr : ((alR rs ss).map flts).length = q := by rw [List.length_map]; exact HLR.out
    rw [hlr] at hv6
    subst hv6
    clear ho hlr
    replace HZP := Lib.hid (HZP.out.new hn)
    replace HN := Lib.hid (HN.out.trans hn)
    clear hn
    have HZR := Lib.hid hzr
    clear hzr
    have hqq : ((q : Int) != (q : Int)) = false := by simp
    have hee : (eF != eF) = false := by simp
    go_wp2_with fail
    obtain ⟨w30, hw30⟩ : ∃ x, x = w6 := ⟨_, rfl⟩
    rw [← hw30] at HN HZP HZR ⊢
    clear hw30
    go_loopw [70] (fun i wr => ∃ (k : Nat), k ≤ q ∧ i = .int .i64 (k : Int) ∧ Hid (New w30 wr)) (fun i _ => q - (intOf i).toNat)
    case atStart => exact ⟨0, Nat.zero_le _, rfl, Lib.hid (New.refl _)⟩
    case round =>
     obtain ⟨k, hk, rfl, HM⟩ := hrel
     by_cases hlt : k < q
     ·obtain ⟨b5, off5, a5, c5, b6, off6, a6, c6, l, rfl, hc5, rfl, hc6, hsf⟩ := al_round rs ss q k w30 _ _ _ _ HZP.out HZR.out HLP.out HLR.out hlt
      have HC5 := Lib.hid hc5
      have HC6 := Lib.hid hc6
      replace hc5 := HM.out.cell hc5
      replace hc6 := HM.out.cell hc6
      have HSF := Lib.hid hsf
      clear hsf
      go_wp2_with fail
      refine wp_region_T 9 (fun W => W.cell? ⟨b5, off5 + k, none⟩ = some (.slice a5 l c5) ∧ W.cell? ⟨b6, off6 + k, none⟩ = some (.slice a6 l c6)) 10 #[false, false, false, false, false, false, false, false, false, false] rfl (by kernel_rfl) (by kernel_rfl) ?_
      refine wpT_take 0 (v := ?_) rfl (by kernel_rfl) (fun _ _ _ h => h) (by exact ⟨hc5, hc6⟩) (Or.inl ⟨by first | kernel_rfl | rfl, ?_⟩) ?_
      rotate_left
      ·(intro W hW; (try dsimp only at hW); go_simp; try with_reducible rfl)
      try simp only [PT]
      refine wpT_take 1 (v := ?_) rfl (by kernel_rfl) (fun _ _ _ h => h) (by exact ⟨hc5, hc6⟩) (Or.inl ⟨by first | kernel_rfl | rfl, ?_⟩) ?_
      rotate_left
      ·(intro W hW; (try dsimp only at hW); go_simp; try with_reducible rfl)
      try simp only [PT]
      refine wpT_take 2 (v := ?_) rfl (by kernel_rfl) (fun _ _ _ h => h) (by exact ⟨hc5, hc6⟩) (Or.inl ⟨by first | kernel_rfl | rfl, ?_⟩) ?_
      rotate_left
      ·(intro W hW; (try dsimp only at hW); go_simp; try with_reducible rfl)
      try simp only [PT]
      refine wpT_take 3 (v := ?_) rfl (by kernel_rfl) (fun _ _ _ h => h) (by exact ⟨hc5, hc6⟩) (Or.inl ⟨by first | kernel_rfl | rfl, ?_⟩) ?_
      rotate_left
      ·(intro W hW; (try dsimp only at hW); go_simp; try with_reducible rfl)
      try simp only [PT]
      refine wpT_take 4 (v := ?_) rfl (by kernel_rfl) (fun _ _ _ h => h) (by exact ⟨hc5, hc6⟩) (Or.inl ⟨by first | kernel_rfl | rfl, ?_⟩) ?_
      rotate_left
      ·(intro W hW; (try dsimp only at hW); go_simp; try with_reducible rfl)
      try simp only [PT]
      refine wpT_take 5 (v := ?_) rfl (by kernel_rfl) (fun _ _ _ h => h) (by exact ⟨hc5, hc6⟩) (Or.inl ⟨by first | kernel_rfl | rfl, ?_⟩) ?_
      rotate_left
      ·(intro W hW; (try dsimp only at hW); go_simp; try with_reducible rfl)
      try simp only [PT]
      refine wpT_take 6 (v := ?_) rfl (by kernel_rfl) (fun _ _ _ h => h) (by exact ⟨hc5, hc6⟩) (Or.inl ⟨by first | kernel_rfl | rfl, ?_⟩) ?_
      rotate_left
      ·(intro W hW; (try dsimp only at hW); go_simp; try with_reducible rfl)
      try simp only [PT]
      refine wpT_take 7 (v := ?_) rfl (by kernel_rfl) (fun _ _ _ h => h) (by exact ⟨hc5, hc6⟩) (Or.inl ⟨by first | kernel_rfl | rfl, ?_⟩) ?_
      rotate_left
      ·(intro W hW; (try dsimp only at hW); go_simp; try with_reducible rfl)
      try simp only [PT]
      refine wpT_one 8 rfl (by kernel_rfl) (fun K hK => ?_)
      go_simp
      refine (HSF.out _ HM.out.drew).mono ?_
      rintro e w31 ⟨rfl, hn⟩
      have hn := hn.undrew
      replace hc5 := (HM.out.trans hn).cell HC5.out
      replace hc6 := (HM.out.trans hn).cell HC6.out
      have HM2 := Lib.hid (HM.out.trans hn)
      clear hn
      refine hK.out _ _ (fun _ => ?_) ?_
      ·exact ⟨hc5, hc6⟩
      clear hK K
      try simp only [PT]
      refine wpT_tail rfl (by kernel_rfl) ?_
      simp only [List.drop_succ_cons, List.drop_zero]
      clear hc5 hc6
      go_wp2_with fail
      go_roundw
      case rel => exact ⟨k + 1, by omega, by go_num, HM2⟩
      case measure => simp [intOf]; omega
     ·have hkk : k = q := by omega
      have HKK := Lib.hid hkk
      clear hkk
      go_wp2_with fail
      refine (HAW.out _ (HE.out.new (HN.out.trans HM.out))).mono ?_
      rintro e w99 ⟨rfl, hn⟩
      go_wp2_with fail
      go_ret
      exact ⟨rfl, (HN.out.trans HM.out).trans hn⟩
   ·have hst : (e0 == 0) = false := by simpa using h0
    obtain ⟨h1, h2⟩ := HEF.out h0
    subst h1 h2
    have hee : (eF != eF) = false := by simp
    go_wp2_with fail
    go_loopw [70] (fun i wr => i = .int .i64 0 ∧ Hid (New w5 wr)) (fun i _ => 0)
    case atStart => exact ⟨rfl, Lib.hid (New.refl _)⟩
    case round =>
     obtain ⟨rfl, HM⟩ := hrel
     go_wp2_with fail
     refine (HAW.out _ (HE.out.new (HN.out.trans HM.out))).mono ?_
     rintro e w99 ⟨rfl, hn⟩
     go_wp2_with fail
     go_ret
     exact ⟨rfl, (HN.out.trans HM.out).trans hn⟩
end Go.Proofs.YtlfnibjmkfldgaaGreatDoor
