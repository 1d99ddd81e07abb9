/- Part CardAl04. -/
import Derived.Maps.AppendAt
import Derived.Laws.AppendOwnNone
import Derived.Test.YtlfnibjmkfldgaaGreatDoorA29
import Derived.Test.YtlfnibjmkfldgaaGreatDoorA31
import Derived.Test.YtlfnibjmkfldgaaGreatDoorA32
import Derived.Test.YtlfnibjmkfldgaaGreatDoorCardAl01
import Derived.Test.YtlfnibjmkfldgaaGreatDoorCardAl02
import Derived.Test.YtlfnibjmkfldgaaGreatDoorCardAl03
namespace Go.Proofs.YtlfnibjmkfldgaaGreatDoor
open Go.RowKit Big
theorem wp_append_copy {P : Program} {o : Oper} {a : Act} {K : Act → World → Prop} {Q : Exit → Act → World → Prop} (w : World) (s x : Operand) (t : TypeId)
  (ho : o.op = .call { callee := .builtin .append, args := #[s, x], argTypes := #[t, t] })
  (e : TypeId) (i : TypeInfo) (z : Value) (size bytes : Nat) (ht : P.underlying t = some (.slice e)) (hi : P.info? e = some i) (hz : i.zero = some z)
  (hsize : i.size = size) (hby : i.bytes = bytes) (hzs : z.cells.size = size) (hsz : 0 < size)
  (hs : a.eval s = .slice (some ⟨w.heap.size, 0, none⟩) 0 0) (ad : Addr) (m c : Nat) (news : List Value) (hx : a.eval x = .slice (some ad) m c) (hl : news.length = m * size)
  (hnews : ∀ (j : Nat) (u : Value), news[j]? = some u → w.cell? (ad.add j) = some u) (h1 : ∀ u ∈ news, u.oneCell' = true) (h63 : m ≤ maxLen) (hbytes : m * bytes ≤ 140737488355328)
  (h : ∀ (a' : Option Addr) (c' : Nat) (w' : World), New w w' → w'.ownsRow w.heap.size e size (.slice a' m c') m news → K (a.put o.dst (.slice a' m c')) w') :
  o.wp P a (w.alloc (.cells #[] e)) K Q := by
 have hown := own_noneS w e size
 refine wp_append_own _ s x t ho w.heap.size e i z size bytes ht hi hz hsize hby hzs hsz _ 0 [] hs hown ad m c news hx hl (fun j u hj => ((New.refl w).alloc _).cell (hnews j u hj)) h1 (by omega) (by simpa using hbytes) ((New.refl w).alloc _).size ?_
 intro v' w9 hown' hgrow _
 have hN1 : New w w9 := grown_newS' ((New.refl w).alloc _) hown hgrow
 rw [Nat.zero_add, List.nil_append] at hown'
 obtain ⟨a', c', rfl, -, -, -⟩ := own_rdS' hown'
 exact h a' c' w9 hN1 hown'
theorem wp_append_own_at {P : Program} {w : World} {o : Oper} {a : Act} {K : Act → World → Prop} {Q : Exit → Act → World → Prop} (s x : Operand) (t : TypeId)
  (ho : o.op = .call { callee := .builtin .append, args := #[s, x], argTypes := #[t, t] })
  (base : Nat) (e : TypeId) (i : TypeInfo) (z : Value) (size bytes : Nat) (ht : P.underlying t = some (.slice e)) (hi : P.info? e = some i) (hz : i.zero = some z)
  (hsize : i.size = size) (hby : i.bytes = bytes) (hzs : z.cells.size = size) (hsz : 0 < size)
  (v : Value) (n : Nat) (xs : List Value) (hs : a.eval s = v) (hown : w.ownsRow base e size v n xs)
  (ad : Addr) (m c : Nat) (news : List Value) (hx : a.eval x = .slice (some ad) m c) (hl : news.length = m * size) (hnews : ∀ (j : Nat) (u : Value), news[j]? = some u → w.cell? (ad.add j) = some u) (h1 : ∀ u ∈ news, u.oneCell' = true)
  (h63 : n + m ≤ maxLen) (hbytes : (n + m) * bytes ≤ 140737488355328) (hbase : base ≤ w.heap.size)
  (h : ∀ (v' : Value) (w' : World), w'.ownsRow base e size v' (n + m) (xs ++ news) → w.grownBy w' v.ownBlock → (v'.ownBlock = v.ownBlock ∨ v'.ownBlock = some w.heap.size) → K (a.put o.dst v') w') : o.wp P a w K Q := by
 obtain ⟨v', w', hr, h2, h3, h4, h5⟩ := run_append_own_at (P := P) w base t o.type e i z size bytes ht hi hz hsize hby hzs hsz v n xs hown ad m c news hl hnews h1 h63 hbytes hbase
 unfold Oper.wp execOp
 simp only [ho, resolve, invoke, builtin, Sem.run_bind, Sem.run_pure, Result.andThen_ok, List.map_toArray, List.map_cons, List.map_nil, hs, hx, hr]
 exact h v' w' h2 h3 h5
def alRaw (f t : Int) (l : List Nat) (s : Int) : List Nat := (l.drop (f + s).toNat).take (t - f).toNat
def alRaws (f t : Int) (rs : List (List Nat)) (ss : List Int) : List (List Nat) := List.zipWith (alRaw f t) rs ss
theorem alRaws_get {f t : Int} {rs : List (List Nat)} {ss : List Int} {k : Nat} (hk : k < rs.length) (hs : k < ss.length) : ((alRaws f t rs ss).take (k + 1)).map flts = ((alRaws f t rs ss).take k).map flts ++ [flts (alRaw f t rs[k] ss[k])] := by
 have hz : k < (alRaws f t rs ss).length := by unfold alRaws; simp; omega
 rw [List.take_succ_eq_append_getElem hz, List.map_append]
 have : (alRaws f t rs ss)[k] = alRaw f t rs[k] ss[k] := by simp [alRaws]
 rw [this]
 rfl
set_option maxRecDepth 100000 in
set_option maxHeartbeats 4000000 in
theorem raligned_calls (a b : Option Addr) (cap cap' n : Nat) (rv : List Value) (rs : List (List Nat)) (ss : List Int) (w : World) (hr : RdLL w a rv (rs.map flts)) (hs : RdL w b (ints ss)) (h1 : 1 ≤ n) (h8 : n ≤ 8) (hn : rs.length = n) (hl : ss.length = n)
  (hv : ∀ (k : Nat) (h : k < rs.length), rs[k].length ≤ 4096) (hw : ∀ (k : Nat) (h : k < ss.length), -1000 ≤ ss[k] ∧ ss[k] ≤ 1000) :
  Calls Tryz.prog 26 #[.slice a n cap, .slice b n cap'] w fun e w' => (alT rs ss ≤ alF ss → e = .returned (.tuple #[.slice none 0 0, .int .i64 16])) ∧ New w w' ∧
   (alF ss < alT rs ss → ∃ v, e = .returned (.tuple #[v, .int .i64 0]) ∧ RowsOf w' w.heap.size 22 23 v ((alRaws (alF ss) (alT rs ss) rs ss).map flts)) := by
 have hn1 : (1 : Int) ≤ (n : Int) := by omega
 have hn8 : (n : Int) ≤ 8 := by omega
 have hr0 : 0 < rs.length := by omega
 have hs0 : 0 < ss.length := by omega
 obtain ⟨b1, off, a1, c1, rfl, hcell, hr1, hrc1⟩ := hr.at 0 (by simpa using hr0)
 obtain ⟨b2, off2, rfl, hcell2⟩ := hs.int 0 hs0
 clear hr1 hrc1
 obtain ⟨s0, hs0'⟩ : ∃ x, ss[0] = x := ⟨_, rfl⟩
 obtain ⟨l0, hl0⟩ : ∃ x, rs[0].length = x := ⟨_, rfl⟩
 have hxm : (flts rs[0]).length = l0 := by simp [flts, hl0]
 simp only [List.getElem_map, hxm, Nat.add_zero] at hcell
 rw [hs0', Nat.add_zero] at hcell2
 have hsb := hw 0 hs0
 rw [hs0'] at hsb
 have hlb := hv 0 hr0
 rw [hl0] at hlb
 have hwa : wrap64 (-s0) = -s0 := ld_in (by omega) (by omega)
 have hwb : IntKind.i64.wrap (-s0) = -s0 := by rw [IntKind.wrap_i64]; omega
 have hwe : wrap64 (0 - s0) = -s0 := by rw [ld_in (by omega) (by omega)]; omega
 have hwf : IntKind.i64.wrap (0 - s0) = -s0 := by rw [IntKind.wrap_i64]; omega
 have hwc : wrap64 ((l0 : Int) - s0) = (l0 : Int) - s0 := ld_in (by omega) (by omega)
 have hwd : IntKind.i64.wrap ((l0 : Int) - s0) = (l0 : Int) - s0 := by rw [IntKind.wrap_i64]; omega
 have HR := Lib.hid hr
 have HS := Lib.hid hs
 have HL := Lib.hid hl
 have HV := Lib.hid hv
 have HW := Lib.hid hw
 have HN0 := Lib.hid hn
 have HS0 := Lib.hid hs0'
 have HL0 := Lib.hid hl0
 have HXM := Lib.hid hxm
 have HSB := Lib.hid hsb
 have HLB := Lib.hid hlb
 clear hr hs hl hv hw hn hs0' hl0 hxm hsb hlb
 have HR0 := Lib.hid hr0
 have HSS0 := Lib.hid hs0
 go_enter Tryz.func26, Tryz.ntmps26
 go_wp2_with fail
 go_quiet (fail)
 go_wp2_with fail
 clear hcell hcell2 hwa hwb hwc hwd hwe hwf
 go_loopw [6, 7, 8] (fun fx tx i wr => ∃ (k : Nat) (f t : Int), k ≤ n ∧ fx = .int .i64 f ∧ tx = .int .i64 t ∧ i = .int .i64 (k : Int) ∧ Hid (alFrom (-s0) (ss.take k) = f) ∧ Hid (alTo ((l0 : Int) - s0) ((alPairs rs ss).take k) = t) ∧ Hid (-1000 ≤ f ∧ f ≤ 1000 ∧ -1000 ≤ t ∧ t ≤ 6000) ∧ Hid (New w wr)) (fun _ _ i _ => n - (intOf i).toNat)
 case atStart =>
  have hsb := HSB.out
  have hlb := HLB.out
  exact ⟨0, _, _, Nat.zero_le _, rfl, rfl, rfl, Lib.hid rfl, Lib.hid rfl, Lib.hid ⟨by omega, by omega, by omega, by omega⟩, Lib.hid ((New.refl _).drewN _)⟩
 case round =>
  obtain ⟨k, f, t, hk, rfl, rfl, rfl, HF, HT, HB, HN⟩ := hrel
  by_cases hlt3 : k < n
  ·have hkr : k < rs.length := by rw [HN0.out]; exact hlt3
   have hks : k < ss.length := by rw [HL.out]; exact hlt3
   obtain ⟨b1', off', a1, c1, hab1, hcell, hr1, hrc1⟩ := HR.out.at k (by simpa using hkr)
   obtain ⟨b2', off2', hab2, hcell2⟩ := HS.out.int k hks
   injection hab1 with hab1
   injection hab1 with hab1 hab1'
   injection hab2 with hab2
   injection hab2 with hab2 hab2'
   subst hab1 hab1' hab2 hab2'
   clear hr1 hrc1
   obtain ⟨s, hs0'⟩ : ∃ x, ss[k] = x := ⟨_, rfl⟩
   obtain ⟨l, hl0⟩ : ∃ x, rs[k].length = x := ⟨_, rfl⟩
   have hxm : (flts rs[k]).length = l := by simp [flts, hl0]
   simp only [List.getElem_map, hxm] at hcell
   rw [hs0'] at hcell2
   have hcell := HN.out.cell hcell
   have hcell2 := HN.out.cell hcell2
   have hsb := HW.out k hks
   rw [hs0'] at hsb
   have hlb := HV.out k hkr
   rw [hl0] at hlb
   have hwa : wrap64 (-s) = -s := ld_in (by omega) (by omega)
   have hwb : IntKind.i64.wrap (-s) = -s := by rw [IntKind.wrap_i64]; omega
   have hwe : wrap64 (0 - s) = -s := by rw [ld_in (by omega) (by omega)]; omega
   have hwf : IntKind.i64.wrap (0 - s) = -s := by rw [IntKind.wrap_i64]; omega
   have hwc : wrap64 ((l : Int) - s) = (l : Int) - s := ld_in (by omega) (by omega)
   have hwd : IntKind.i64.wrap ((l : Int) - s) = (l : Int) - s := by rw [IntKind.wrap_i64]; omega
   have hnx := al_next (f0 := -s0) (t0 := (l0 : Int) - s0) hkr hks
   rw [hs0', HF.out, HT.out, hl0] at hnx
   have hbb := HB.out
   have HS1 := Lib.hid hs0'
   have HL1 := Lib.hid hl0
   have HXM1 := Lib.hid hxm
   have HNX := Lib.hid hnx
   have HBB := Lib.hid hbb
   have HSB1 := Lib.hid hsb
   have HLB1 := Lib.hid hlb
   clear hs0' hl0 hxm hnx hbb hsb hlb
   go_wp2_with fail
   go_quiet (fail)
   go_wp2_with fail
   go_roundw
   case rel =>
    have hsb := HSB1.out
    have hlb := HLB1.out
    have hbb := HBB.out
    exact ⟨k + 1, _, _, by omega, rfl, rfl, by go_num, Lib.hid HNX.out.1, Lib.hid HNX.out.2, Lib.hid ⟨by omega, by omega, by omega, by omega⟩, Lib.hid (HN.out.drewN _)⟩
   case measure => simp [intOf]; omega
  ·have hkk3 : k = n := by omega
   have hnr : rs.length = n := HN0.out
   have hff : f = alF ss := by
    rw [← HF.out, hkk3, ← HL.out, List.take_length]
    unfold alF
    congr 2
    rw [← HS0.out, List.headD_eq_head?_getD, List.head?_eq_getElem?, List.getElem?_eq_getElem HSS0.out]
    rfl
   have htt : t = alT rs ss := by
    rw [← HT.out, List.take_of_length_le (by unfold alPairs; simp; have := HL.out; omega)]
    unfold alT
    congr 2
    ·rw [← HL0.out, List.headD_eq_head?_getD, List.head?_eq_getElem?, List.getElem?_eq_getElem HR0.out]
     rfl
    ·rw [← HS0.out, List.headD_eq_head?_getD, List.head?_eq_getElem?, List.getElem?_eq_getElem HSS0.out]
     rfl
   by_cases hlt4 : f < t
   ·have hge : ¬ t ≤ f := by omega
    have hal : ∀ (j : Nat) (h : j < ss.length), -ss[j] ≤ f := by
     rw [hff]; exact (alFrom_le ss _).2
    have htl : ∀ (j : Nat) (h : j < rs.length) (h' : j < ss.length), t ≤ (rs[j].length : Int) - ss[j] := by
     intro j h h'
     rw [htt]
     have := (alTo_ge (alPairs rs ss) (((rs.headD []).length : Int) - ss.headD 0)).2 j (by unfold alPairs; simp; omega)
     have e : (alPairs rs ss)[j]'(by unfold alPairs; simp; omega) = (rs[j].length, ss[j]) := by simp [alPairs]
     rw [e] at this
     exact this
    have hbb := HB.out
    obtain ⟨i0, hi, hz0, hz1, hz2⟩ := info_parts info_fsl
    obtain ⟨i4, hi4, hz40, hz41, hz42⟩ := info_parts info_f32
    clear HF HT HB hkk3
    have HFF := Lib.hid hff
    have HTT := Lib.hid htt
    have HAL := Lib.hid hal
    have HTL := Lib.hid htl
    have HBB := Lib.hid hbb
    have HNR := Lib.hid hnr
    clear hff htt hal htl hbb hnr
    go_wp2_with fail
    obtain ⟨w8, hw8⟩ : ∃ x, x = wr := ⟨_, rfl⟩
    rw [← hw8] at HN ⊢
    clear hw8
    go_loopw [9, 10] (fun v i wr => ∃ (k : Nat), k ≤ n ∧ i = .int .i64 (k : Int) ∧ Hid (RowsOf wr w8.heap.size 22 23 v (((alRaws f t rs ss).take k).map flts)) ∧ Hid (New w8 wr)) (fun _ i _ => n - (intOf i).toNat)
    case atStart => exact ⟨0, Nat.zero_le _, rfl, Lib.hid (RowsOf.nil _ _ _ _), Lib.hid (New.refl _)⟩
    case round =>
     obtain ⟨k, hk, rfl, HO, HM⟩ := hrel
     by_cases hlt5 : k < n
     ·have hkr : k < rs.length := by rw [HN0.out]; exact hlt5
      have hks : k < ss.length := by rw [HL.out]; exact hlt5
      obtain ⟨b1', off', a1, c1, hab1, hcell, hr1, hrc1⟩ := HR.out.at k (by simpa using hkr)
      obtain ⟨b2', off2', hab2, hcell2⟩ := HS.out.int k hks
      injection hab1 with hab1
      injection hab1 with hab1 hab1'
      injection hab2 with hab2
      injection hab2 with hab2 hab2'
      subst hab1 hab1' hab2 hab2'
      obtain ⟨s, hs0'⟩ : ∃ x, ss[k] = x := ⟨_, rfl⟩
      obtain ⟨rk, hrk⟩ : ∃ x, rs[k] = x := ⟨_, rfl⟩
      obtain ⟨l, hl0⟩ : ∃ x, rk.length = x := ⟨_, rfl⟩
      have hxm : (flts rk).length = l := by simp [flts, hl0]
      simp only [List.getElem_map, hrk, hxm] at hcell hr1 hrc1
      rw [hs0'] at hcell2
      have hsb := HW.out k hks
      rw [hs0'] at hsb
      have hvv := HV.out k hkr
      rw [hrk, hl0] at hvv
      have h1 := HAL.out k hks
      rw [hs0'] at h1
      have h2 := HTL.out k hkr hks
      rw [hs0', hrk, hl0] at h2
      have hbb := HBB.out
      obtain ⟨lo, hlo⟩ : ∃ lo : Nat, (lo : Int) = f + s := ⟨(f + s).toNat, by omega⟩
      obtain ⟨up, hhi⟩ : ∃ hi : Nat, (hi : Int) = t + s := ⟨(t + s).toNat, by omega⟩
      obtain ⟨b3, off3, rfl, -⟩ := hr1 0 (by rw [hxm]; omega)
      have hla : wrap64 (f + s) = (lo : Int) := by rw [ld_in (by omega) (by omega)]; omega
      have hlb : IntKind.i64.wrap (f + s) = (lo : Int) := by rw [IntKind.wrap_i64]; omega
      have hha : wrap64 (t + s) = (up : Int) := by rw [ld_in (by omega) (by omega)]; omega
      have hhb : IntKind.i64.wrap (t + s) = (up : Int) := by rw [IntKind.wrap_i64]; omega
      have hlh : lo < up := by omega
      have hhl : up ≤ l := by omega
      have hhc : up ≤ c1 := by omega
      have hl4 : up ≤ 4096 := by omega
      have hlu : lo ≤ up := by omega
      have hcl : ¬ c1 = lo := by omega
      obtain ⟨pc, hpc⟩ : ∃ pc, alRaw f t rk s = pc := ⟨_, rfl⟩
      have hpc2 : (rk.drop lo).take (up - lo) = pc := by
       rw [← hpc]
       unfold alRaw
       have e1 : (f + s).toNat = lo := by omega
       have e2 : (t - f).toNat = up - lo := by omega
       rw [e1, e2]
      have hplen : pc.length = up - lo := by rw [← hpc2, List.length_take, List.length_drop]; omega
      have hsrc : ∀ (j : Nat) (u : Value), (flts pc)[j]? = some u → w.cell? ((⟨b3, off3 + lo, none⟩ : Addr).add j) = some u := by
       intro j u hj
       have hjl : j < pc.length := by have := (List.getElem?_eq_some_iff.1 hj).1; simpa [flts] using this
       obtain ⟨b4, off4, e4, hc4⟩ := hr1 (lo + j) (by rw [hxm]; omega)
       injection e4 with e4
       injection e4 with e4 e5
       subst e4 e5
       have ea : (⟨b3, off3 + lo, none⟩ : Addr).add j = ⟨b3, off3 + lo + j, none⟩ := by
        unfold Addr.add
        split
        ·rename_i h0; simp_all
        ·rfl
       rw [ea, Nat.add_assoc, hc4, ← hj]
       subst hpc2
       rw [List.getElem?_eq_getElem (by simpa [flts] using hjl)]
       simp [flts]
      clear hr1
      have hnx := alRaws_get (f := f) (t := t) hkr hks
      rw [hrk, hs0', hpc] at hnx
      have hfl : (flts pc).length = (up - lo) * 1 := by simp [flts, hplen]
      have HC0 := Lib.hid hcell
      have HC00 := Lib.hid hcell2
      replace hcell := (HN.out.trans HM.out).cell hcell
      replace hcell2 := (HN.out.trans HM.out).cell hcell2
      have HC1 := Lib.hid hcell
      have HC2 := Lib.hid hcell2
      have HNX := Lib.hid hnx
      have HS1 := Lib.hid hs0'
      have HRK := Lib.hid hrk
      have HL1 := Lib.hid hl0
      have HXM1 := Lib.hid hxm
      have HPC := Lib.hid hpc
      have HPC2 := Lib.hid hpc2
      have HPL := Lib.hid hplen
      have HVV := Lib.hid hvv
      have H1 := Lib.hid h1
      have H2 := Lib.hid h2
      have HSB1 := Lib.hid hsb
      have HRC1 := Lib.hid hrc1
      have HLO := Lib.hid hlo
      have HHI := Lib.hid hhi
      have HBB1 := Lib.hid hbb
      have HSRC := Lib.hid hsrc
      have HFL := Lib.hid hfl
      clear hnx hs0' hrk hl0 hxm hpc hpc2 hplen hvv h1 h2 hsb hrc1 hlo hhi hbb hsrc hfl
      go_wp2_with fail
      refine wp_region_T 22 (fun W => W.cell? ⟨b1, off + k, none⟩ = some (.slice (some ⟨b3, off3, none⟩) l c1) ∧ W.cell? ⟨b2, off2 + k, none⟩ = some (.int .i64 s)) 23 #[false, false, false, false, false, false, false, false, false, false, false, false, false, false, false, false, false, false, false, false, false, false, false] rfl (by kernel_rfl) (by kernel_rfl) ?_
      refine wpT_take 0 (v := ?_) rfl (by kernel_rfl) (fun _ _ _ h => h) (by exact ⟨hcell, hcell2⟩) (Or.inl ⟨by first | kernel_rfl | rfl, ?_⟩) ?_
      rotate_left
      ·(intro W hW; (try dsimp only at hW); go_simp; try with_reducible rfl)
      try simp only [PT]
      refine wpT_take 2 (v := ?_) rfl (by kernel_rfl) (fun _ _ _ h => h) (by exact ⟨hcell, hcell2⟩) (Or.inl ⟨by first | kernel_rfl | rfl, ?_⟩) ?_
      rotate_left
      ·(intro W hW; (try dsimp only at hW); go_simp; try with_reducible rfl)
      try simp only [PT]
      refine wpT_take 3 (v := ?_) rfl (by kernel_rfl) (fun _ _ _ h => h) (by exact ⟨hcell, hcell2⟩) (Or.inl ⟨by first | kernel_rfl | rfl, ?_⟩) ?_
      rotate_left
      ·(intro W hW; (try dsimp only at hW); go_simp; try with_reducible rfl)
      try simp only [PT]
      refine wpT_take 4 (v := ?_) rfl (by kernel_rfl) (fun _ _ _ h => h) (by exact ⟨hcell, hcell2⟩) (Or.inl ⟨by first | kernel_rfl | rfl, ?_⟩) ?_
      rotate_left
      ·(intro W hW; (try dsimp only at hW); go_simp; try with_reducible rfl)
      try simp only [PT]
      refine wpT_take 5 (v := ?_) rfl (by kernel_rfl) (fun _ _ _ h => h) (by exact ⟨hcell, hcell2⟩) (Or.inl ⟨by first | kernel_rfl | rfl, ?_⟩) ?_
      rotate_left
      ·(intro W hW; (try dsimp only at hW); go_simp; try with_reducible rfl)
      try simp only [PT]
      refine wpT_take 6 (v := ?_) rfl (by kernel_rfl) (fun _ _ _ h => h) (by exact ⟨hcell, hcell2⟩) (Or.inl ⟨by first | kernel_rfl | rfl, ?_⟩) ?_
      rotate_left
      ·(intro W hW; (try dsimp only at hW); go_simp; try with_reducible rfl)
      try simp only [PT]
      refine wpT_take 7 (v := ?_) rfl (by kernel_rfl) (fun _ _ _ h => h) (by exact ⟨hcell, hcell2⟩) (Or.inl ⟨by first | kernel_rfl | rfl, ?_⟩) ?_
      rotate_left
      ·(intro W hW; (try dsimp only at hW); go_simp; try with_reducible rfl)
      try simp only [PT]
      refine wpT_take 8 (v := ?_) rfl (by kernel_rfl) (fun _ _ _ h => h) (by exact ⟨hcell, hcell2⟩) (Or.inl ⟨by first | kernel_rfl | rfl, ?_⟩) ?_
      rotate_left
      ·(intro W hW; (try dsimp only at hW); go_simp; try with_reducible rfl)
      try simp only [PT]
      refine wpT_take 9 (v := ?_) rfl (by kernel_rfl) (fun _ _ _ h => h) (by exact ⟨hcell, hcell2⟩) (Or.inl ⟨by first | kernel_rfl | rfl, ?_⟩) ?_
      rotate_left
      ·(intro W hW; (try dsimp only at hW); go_simp; try with_reducible rfl)
      try simp only [PT]
      refine wpT_take 10 (v := ?_) rfl (by kernel_rfl) (fun _ _ _ h => h) (by exact ⟨hcell, hcell2⟩) (Or.inl ⟨by first | kernel_rfl | rfl, ?_⟩) ?_
      rotate_left
      ·(intro W hW; (try dsimp only at hW); go_simp; try with_reducible rfl)
      try simp only [PT]
      refine wpT_take 11 (v := ?_) rfl (by kernel_rfl) (fun _ _ _ h => h) (by exact ⟨hcell, hcell2⟩) (Or.inl ⟨by first | kernel_rfl | rfl, ?_⟩) ?_
      rotate_left
      ·(intro W hW; (try dsimp only at hW); go_simp; try with_reducible rfl)
      try simp only [PT]
      refine wpT_take 12 (v := ?_) rfl (by kernel_rfl) (fun _ _ _ h => h) (by exact ⟨hcell, hcell2⟩) (Or.inl ⟨by first | kernel_rfl | rfl, ?_⟩) ?_
      rotate_left
      ·(intro W hW; (try dsimp only at hW); go_simp; try with_reducible rfl)
      try simp only [PT]
      refine wpT_take 13 (v := ?_) rfl (by kernel_rfl) (fun _ _ _ h => h) (by exact ⟨hcell, hcell2⟩) (Or.inl ⟨by first | kernel_rfl | rfl, ?_⟩) ?_
      rotate_left
      ·(intro W hW; (try dsimp only at hW); go_simp; try with_reducible rfl)
      try simp only [PT]
      refine wpT_take 14 (v := ?_) rfl (by kernel_rfl) (fun _ _ _ h => h) (by exact ⟨hcell, hcell2⟩) (Or.inl ⟨by first | kernel_rfl | rfl, ?_⟩) ?_
      rotate_left
      ·(intro W hW; (try dsimp only at hW); go_simp; try with_reducible rfl)
      try simp only [PT]
      refine wpT_take 15 (v := ?_) rfl (by kernel_rfl) (fun _ _ _ h => h) (by exact ⟨hcell, hcell2⟩) (Or.inl ⟨by first | kernel_rfl | rfl, ?_⟩) ?_
      rotate_left
      ·(intro W hW; (try dsimp only at hW); go_simp; try with_reducible rfl)
      try simp only [PT]
      refine wpT_take 16 (v := ?_) rfl (by kernel_rfl) (fun _ _ _ h => h) (by exact ⟨hcell, hcell2⟩) (Or.inl ⟨by first | kernel_rfl | rfl, ?_⟩) ?_
      rotate_left
      ·(intro W hW; (try dsimp only at hW); go_simp; try with_reducible rfl)
      try simp only [PT]
      refine wpT_take 17 (v := ?_) rfl (by kernel_rfl) (fun _ _ _ h => h) (by exact ⟨hcell, hcell2⟩) (Or.inl ⟨by first | kernel_rfl | rfl, ?_⟩) ?_
      rotate_left
      ·(intro W hW; (try dsimp only at hW); go_simp; try with_reducible rfl)
      try simp only [PT]
      refine wpT_take 18 (v := ?_) rfl (by kernel_rfl) (fun _ _ _ h => h) (by exact ⟨hcell, hcell2⟩) (Or.inl ⟨by first | kernel_rfl | rfl, ?_⟩) ?_
      rotate_left
      ·(intro W hW; (try dsimp only at hW); go_simp; try with_reducible rfl)
      try simp only [PT]
      refine wpT_one 1 rfl (by kernel_rfl) (fun K hK => ?_)
      go_simp
      replace hcell := ((New.refl wr).alloc (.cells #[] 23)).drew.cell hcell
      replace hcell2 := ((New.refl wr).alloc (.cells #[] 23)).drew.cell hcell2
      refine hK.out _ _ (fun _ => ?_) ?_
      ·exact ⟨hcell, hcell2⟩
      clear hK K
      try simp only [PT]
      refine wpT_one 19 rfl (by kernel_rfl) (fun K hK => ?_)
      rw [if_pos (by first | rfl | kernel_rfl)]
      show Oper.wp _ _ _ (wr.drew.alloc (.cells #[] 23)) _ _
      refine wp_append_copy wr.drew (.tmp 58) (.tmp 75) 22 rfl 23 i4 (.float .f32 0) 1 4 Tryz.underlying22 hi4 hz40 hz41 hz42 rfl (by decide) rfl ⟨b3, off3 + lo, none⟩ (up - lo) (c1 - lo) (flts pc) rfl HFL.out (fun j u hj => ((HN.out.trans HM.out).drew).cell (HSRC.out j u hj)) (flts_cell _) (by unfold maxLen; omega) (by omega) ?_
      intro a9 c9 w9 hn ho
      replace hcell : w9.cell? ⟨b1, off + k, none⟩ = some (.slice (some ⟨b3, off3, none⟩) l c1) := by have := hn.undrew.cell (HC1.out); exact this
      replace hcell2 : w9.cell? ⟨b2, off2 + k, none⟩ = some (.int .i64 s) := by have := hn.undrew.cell (HC2.out); exact this
      have hn9 : New wr w9 := hn.undrew
      have hrow : w9.ownsRow wr.heap.size 23 1 (.slice a9 (up - lo) c9) (flts pc).length (flts pc) := by
       have := HFL.out
       rw [Nat.mul_one] at this
       rw [this]
       exact ho
      clear hn ho
      have HN9 := Lib.hid hn9
      have HROW := Lib.hid hrow
      clear hn9 hrow
      refine hK.out _ _ (fun _ => ?_) ?_
      ·exact ⟨hcell, hcell2⟩
      clear hK K
      try simp only [PT]
      refine wpT_one 20 rfl (by kernel_rfl) (fun K hK => ?_)
      go_simp
      replace hcell := ((New.refl w9).alloc (.cells #[.slice a9 (up - lo) c9] 22)).cell hcell
      replace hcell2 := ((New.refl w9).alloc (.cells #[.slice a9 (up - lo) c9] 22)).cell hcell2
      refine hK.out _ _ (fun _ => ?_) ?_
      ·exact ⟨hcell, hcell2⟩
      clear hK K
      try simp only [PT]
      refine wpT_one 21 rfl (by kernel_rfl) (fun K hK => ?_)
      rw [if_pos (by first | rfl | kernel_rfl)]
      obtain ⟨vs, r1, r2, r3⟩ := HO.out
      have r1' := own_newS r1 HN9.out
      have hvl : vs.length = k := by rw [r2]; simp [alRaws]; have := HNR.out; have := HL.out; omega
      have h1c : ∀ u ∈ [Value.slice a9 (up - lo) c9], u.oneCell' = true := by intro u hu; simp at hu; rw [hu]; rfl
      have hM2 := HM.out.trans HN9.out
      refine wp_append_own_at (.tmp 57) (.tmp 77) 46 rfl w8.heap.size 22 i0 (.slice none 0 0) 1 24 Tryz.underlying46 hi hz0 hz1 hz2 rfl (by decide) u9 vs.length vs rfl (World.ownsRow.alloc r1' _) ⟨w9.heap.size, 0, none⟩ 1 1 [.slice a9 (up - lo) c9] rfl rfl (one_c1 _ _ _) h1c (by unfold maxLen; omega) (by omega) (by have := hM2.size; rw [← size_alloc]; omega) ?_
      intro v' w10 hown' hgrow hat
      have hN1 := grown_newS hM2 r1' hgrow
      rw [← size_alloc] at hat
      have hO1 := RowsOf.snoc r1 r2 r3 HN9.out HROW.out HM.out.size hown' hgrow hat
      rw [← HNX.out] at hO1
      replace hcell := hN1.cell (HN.out.cell HC0.out)
      replace hcell2 := hN1.cell (HN.out.cell HC00.out)
      clear hown' hgrow hat r1 r2 r3 r1' hvl h1c hM2
      have HN1 := Lib.hid hN1
      have HO1 := Lib.hid hO1
      clear hN1 hO1
      refine hK.out _ _ (fun _ => ?_) ?_
      ·exact ⟨hcell, hcell2⟩
      clear hK K
      try simp only [PT]
      refine wpT_tail rfl (by kernel_rfl) ?_
      simp only [List.drop_succ_cons, List.drop_zero]
      clear hcell hcell2
      go_wp2_with fail
      go_roundw
      case rel => exact ⟨k + 1, by omega, by go_num, HO1, HN1⟩
      case measure => simp [intOf]; omega
     ·have hkk5 : k = n := by omega
      have hO := HO.out
      rw [List.take_of_length_le (by unfold alRaws; have := HNR.out; have := HL.out; simp; omega)] at hO
      clear HO
      have HO := Lib.hid hO
      have HKK5 := Lib.hid hkk5
      clear hO hkk5
      go_wp2_with fail
      go_ret2
      refine ⟨fun h => ?_, HN.out.trans HM.out, fun _ => ⟨_, rfl, ?_⟩⟩
      ·rw [← HFF.out, ← HTT.out] at h; omega
      ·rw [← HFF.out, ← HTT.out]; exact HO.out.mono HN.out.size
   ·have hge : t ≤ f := by omega
    clear HF HT HB
    have HFF := Lib.hid hff
    have HTT := Lib.hid htt
    clear hff htt
    go_wp2_with fail
    go_ret2
    refine ⟨fun _ => rfl, HN.out, fun h => ?_⟩
    rw [← HFF.out, ← HTT.out] at h
    omega
end Go.Proofs.YtlfnibjmkfldgaaGreatDoor
