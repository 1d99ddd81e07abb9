/- Part A24. -/
import Derived.Laws.EntriesVeiled
import Derived.Deep.Onto
import Derived.Test.YtlfnibjmkfldgaaGreatDoorA21
namespace Go.Proofs.YtlfnibjmkfldgaaGreatDoor
open Go.RowKit Big
theorem info_bool : (Tryz.prog.info? 4).map (fun i => (i.zero, i.size, i.bytes)) = some (some (.bool false), 1, 1) := by kernel_rfl
theorem info_f32 : (Tryz.prog.info? 23).map (fun i => (i.zero, i.size, i.bytes)) = some (some (.float .f32 0), 1, 4) := by kernel_rfl
theorem info_u16 : (Tryz.prog.info? 70).map (fun i => (i.zero, i.size, i.bytes)) = some (some (.int .u16 0), 1, 2) := by kernel_rfl
theorem own_new {w w' : World} {base : Nat} {e : TypeId} {v : Value} {n : Nat} {xs : List Value} (h : w.ownsRow base e 1 v n xs) (hn : New w w') : w'.ownsRow base e 1 v n xs := by
 refine ⟨h.1, ?_⟩
 rcases h.2 with h2 | ⟨g, cap, cur, h1, h2, h3, h4⟩
 ·exact .inl h2
 ·refine .inr ⟨g, cap, cur, h1, h2, ?_, h4⟩
  have hlt : g < w.heap.size := by
   rcases Nat.lt_or_ge g w.heap.size with h | h
   ·exact h
   ·rw [Array.getElem?_eq_none h] at h3; cases h3
  rw [Below.block hn g hlt, h3]
def RowRet (w : World) (e : TypeId) (xs : List Value) (en : Ending) (w' : World) : Prop := ∃ v, en = .returned v ∧ New w w' ∧ w'.ownsRow w.heap.size e 1 v xs.length xs
set_option maxRecDepth 100000 in
set_option maxHeartbeats 1000000 in
theorem mapped_align (a : Option Addr) (cap : Nat) (vs : List Value) (ys : List Nat)  (w : World) (hy : ys.length = vs.length) (hl : vs.length ≤ 4096) (hr : RdL w a vs)
  (hc : ∀ (k : Nat) (h : k < vs.length) (h' : k < ys.length) (W : World), New w W → Calls Tryz.prog 66 #[vs[k]] W fun e W' => e = .returned ((Value.float .f32) ys[k]) ∧ New W W') :
  Calls Tryz.prog 65 #[.slice a vs.length cap, .func (.func 66) #[] #[]] w (RowRet w 23 (ys.map (Value.float .f32))) := by
 obtain ⟨i0, hi, hz0, hz1, hz2⟩ := info_parts info_f32
 have hli : (vs.length : Int) ≤ 4096 := by omega
 have HR := Lib.hid hr
 have HC := Lib.hid hc
 have HY := Lib.hid hy
 clear hr hc hy
 go_enter Tryz.func65, Tryz.ntmps65
 go_wp2_with fail
 go_loopw [5, 10] (fun v i wr => ∃ (k : Nat), k ≤ vs.length ∧ i = .int .i64 (k : Int) ∧ Hid (wr.ownsRow w.heap.size 23 1 v ((ys.take k).map (Value.float .f32)).length ((ys.take k).map (Value.float .f32))) ∧ Hid (New w wr)) (fun _ i _ => vs.length - (intOf i).toNat)
 case atStart => exact ⟨0, Nat.zero_le _, rfl, Lib.hid (World.ownsRow_nil _ _ _ _), Lib.hid (New.refl _)⟩
 case round =>
  obtain ⟨k, hk, rfl, HO, HN⟩ := hrel
  by_cases hlt : k < vs.length
  ·obtain ⟨b, off, rfl, hcell⟩ := HR.out k hlt
   have hcell := HN.out.cell hcell
   have hly : k < ys.length := by have := HY.out; omega
   have hcall := HC.out k hlt hly
   obtain ⟨x, hx⟩ : ∃ x, vs[k] = x := ⟨_, rfl⟩
   obtain ⟨y, hyy⟩ : ∃ y, ys[k] = y := ⟨_, rfl⟩
   have h1 : ∀ u ∈ [(Value.float .f32) y], u.oneCell' = true := by intro u hu; simp at hu; rw [hu]; rfl
   have ht : (ys.take (k + 1)).map (Value.float .f32) = (ys.take k).map (Value.float .f32) ++ [(Value.float .f32) y] := by rw [List.take_succ_eq_append_getElem hly, hyy]; simp
   have hle : ((ys.take k).map (Value.float .f32)).length = k := by rw [List.length_map, List.length_take]; omega
   simp only [hx, hyy] at hcall
   rw [hx] at hcell
   have HCALL := Lib.hid hcall
   have HX := Lib.hid hx
   have HYY := Lib.hid hyy
   have H1 := Lib.hid h1
   have HT := Lib.hid ht
   have HLE := Lib.hid hle
   clear hcall hx hyy h1 ht hle
   go_wp2_with fail
   refine (HCALL.out _ HN.out).mono ?_
   rintro e w1 ⟨rfl, hn⟩
   have hO := own_new HO.out hn
   have hN := HN.out.trans hn
   clear HO HN hcell
   have HO := Lib.hid hO
   have HN := Lib.hid hN
   have HN0 := Lib.hid hn
   clear hO hN hn
   go_wp2_with (at_builtin; refine wpList_append_own _ rfl _ _ 22 rfl w.heap.size 23 i0 (.float .f32 0) 1 4 Tryz.underlying22 hi hz0 hz1 hz2 rfl (by decide) _ _ _ rfl (HO.out.alloc _) ⟨w1.heap.size, 0, none⟩ 1 1 [(Value.float .f32) y] rfl rfl (one_c1 _ _ _) H1.out (by have := HLE.out; unfold maxLen; omega) (by have := HLE.out; omega) (by have := HN.out.size; rw [← size_alloc]; omega) ?_)
   intro v' w2 hown' hgrow _
   have hN1 := grown_new HN.out HO.out hgrow
   have hO1 : w2.ownsRow w.heap.size 23 1 v' ((ys.take (k + 1)).map (Value.float .f32)).length ((ys.take (k + 1)).map (Value.float .f32)) := by
    rw [HT.out]
    simpa using hown'
   clear hown' hgrow
   have HN1 := Lib.hid hN1
   have HO1 := Lib.hid hO1
   clear hN1 hO1
   go_wp2_with fail
   go_roundw
   case rel => exact ⟨k + 1, by omega, by go_num, HO1, HN1⟩
   case measure => simp [intOf]; omega
  ·have hkk : k = vs.length := by omega
   have hO := HO.out
   rw [hkk, ← HY.out, List.take_length] at hO
   have HKK := Lib.hid hkk
   have HOO := Lib.hid hO
   clear hkk hO
   go_wp2_with fail
   go_ret
   exact ⟨_, rfl, HN.out, HOO.out⟩
end Go.Proofs.YtlfnibjmkfldgaaGreatDoor
namespace Go.Proofs.YtlfnibjmkfldgaaGreatDoor
open Go.RowKit Big
def sampQ (s z tp : Int) (q : Rat) : Nat := Flo.vol ((clipC (rawQ s z q) tp).1 - z) s
theorem clipC_range (n : Int) {tp : Int} (h : 0 ≤ tp) : 0 ≤ (clipC n tp).1 ∧ (clipC n tp).1 ≤ tp := by
 unfold clipC
 split
 ·exact ⟨by omega, h⟩
 ·split
  ·exact ⟨h, by omega⟩
  ·exact ⟨by omega, by omega⟩
set_option maxRecDepth 100000 in
set_option maxHeartbeats 1000000 in
theorem sampled1_calls {b s z : Int} {g o : ByteArray} {qg qo : Rat} (h : AdcOk b s z g o qg qo) (v : ByteArray) (q : Rat) (p p' : Nat) (t t' : TypeId) (w : World) (he : Env w) (hv : v.data.toList = ratText q) (hf : Fits q) (hl : v.size ≤ 100000)
  (hb : Box w p t #[.int .i64 b, .int .i64 s, .int .i64 z, .string g, .string o]) (hb' : Box w p' t' #[.func (.func 87) #[.agg #[.int .i64 b, .int .i64 s, .int .i64 z, .string g, .string o]] #[]]) :
  Calls Tryz.prog 89 #[.string v, .pointer (some ⟨p, 0, none⟩), .pointer (some ⟨p', 0, none⟩)] w fun e w' => e = .returned (.float .f32 (sampQ s z (2 ^ b.toNat - 1) q)) ∧ New w w' := by
 have hcc := fun (vv : Value) W h1 => code_calls h vv q W h1 ((Fits.fb hf).mono (show 2000 ≤ 6000 by omega))
 unfold CodePost at hcc
 have htp := top_bd h.blo h.bhi
 have hr := clipC_range (rawQ s z q) (tp := 2 ^ b.toNat - 1) (by omega)
 have hvv := fun W => volts_calls h (clipC (rawQ s z q) (2 ^ b.toNat - 1)).1 W hr.1 (by omega)
 obtain ⟨r, hrr⟩ : ∃ r, sampQ s z (2 ^ b.toNat - 1) q = r := ⟨_, rfl⟩
 have hr2 : Flo.vol ((clipC (rawQ s z q) (2 ^ b.toNat - 1)).1 - z) s = r := hrr
 simp only [hr2] at hvv
 rw [hrr]
 obtain ⟨c1, hc1⟩ : ∃ c, (clipC (rawQ s z q) (2 ^ b.toNat - 1)).1 = c := ⟨_, rfl⟩
 obtain ⟨c2, hc2⟩ : ∃ c, (clipC (rawQ s z q) (2 ^ b.toNat - 1)).2 = c := ⟨_, rfl⟩
 simp only [hc1, hc2] at hcc hvv
 clear h hc1 hc2 hf htp hr hrr hr2
 have HN := Lib.hid (New.refl w)
 have HCC := Lib.hid hcc
 have HVV := Lib.hid hvv
 have HE := Lib.hid he
 have HV := Lib.hid hv
 have HL := Lib.hid hl
 have BA := Lib.hid hb
 have BB := Lib.hid hb'
 clear hcc hvv he hv hl hb hb'
 obtain ⟨⟨pa0, pa1, pa2, pa3, pa4⟩, pa5⟩ := BA.out.five
 obtain ⟨pb0, pb1, pb2⟩ := BB.out.one
 go_enter Tryz.func89, Tryz.ntmps89
 go_wp2_with fail
 refine wp_region_T 8 (fun W => W.cell? ⟨p, 0, none⟩ = some (.int .i64 b) ∧ W.cell? ⟨p, 1, none⟩ = some (.int .i64 s) ∧ W.cell? ⟨p, 2, none⟩ = some (.int .i64 z) ∧ W.cell? ⟨p, 3, none⟩ = some (.string g) ∧ W.cell? ⟨p, 4, none⟩ = some (.string o)) 9 #[false, false, false, false, false, false, false, false, false] rfl (by kernel_rfl) (by kernel_rfl) ?_
 refine wpT_take 0 (v := ?_) rfl (by kernel_rfl) (fun _ _ _ h => h) (by exact ⟨pa0, pa1, pa2, pa3, pa4⟩) (Or.inl ⟨by first | kernel_rfl | rfl, ?_⟩) ?_
 rotate_left
 ·(intro W hW; (try dsimp only at hW); go_simp; try with_reducible rfl)
 try simp only [PT]
 refine wpT_take 1 (v := ?_) rfl (by kernel_rfl) (fun _ _ _ h => h) (by exact ⟨pa0, pa1, pa2, pa3, pa4⟩) (Or.inl ⟨by first | kernel_rfl | rfl, ?_⟩) ?_
 rotate_left
 ·(intro W hW; (try dsimp only at hW); go_simp; try with_reducible rfl)
 try simp only [PT]
 refine wpT_one 2 rfl (by kernel_rfl) (fun K hK => ?_)
 go_simp
 refine (from_calls v q _ (HE.out.new HN.out.drew) HV.out (by have := HL.out; omega)).mono ?_
 rintro e w4 ⟨v4, rfl, hn, hf⟩
 have hn := hn.undrew
 have HF4 := Lib.hid hf
 clear hf
 clear pa0 pa1 pa2 pa3 pa4 pa5
 clear pb0 pb1 pb2
 replace BA := Lib.hid (BA.out.new hn)
 replace BB := Lib.hid (BB.out.new hn)
 replace HN := Lib.hid (HN.out.trans hn)
 clear hn
 obtain ⟨⟨pa0, pa1, pa2, pa3, pa4⟩, pa5⟩ := BA.out.five
 obtain ⟨pb0, pb1, pb2⟩ := BB.out.one
 refine hK.out _ _ (fun _ => ?_) ?_
 ·exact ⟨pa0, pa1, pa2, pa3, pa4⟩
 clear hK K
 try simp only [PT]
 refine wpT_one 3 rfl (by kernel_rfl) (fun K hK => ?_)
 go_simp
 refine (HCC.out _ _ HF4.out).mono ?_
 rintro e w5 ⟨rfl, hn⟩
 clear pa0 pa1 pa2 pa3 pa4 pa5
 clear pb0 pb1 pb2
 replace BA := Lib.hid (BA.out.new hn)
 replace BB := Lib.hid (BB.out.new hn)
 replace HN := Lib.hid (HN.out.trans hn)
 clear hn
 obtain ⟨⟨pa0, pa1, pa2, pa3, pa4⟩, pa5⟩ := BA.out.five
 obtain ⟨pb0, pb1, pb2⟩ := BB.out.one
 refine hK.out _ _ (fun _ => ?_) ?_
 ·exact ⟨pa0, pa1, pa2, pa3, pa4⟩
 clear hK K
 try simp only [PT]
 refine wpT_take 4 (v := ?_) rfl (by kernel_rfl) (fun _ _ _ h => h) (by exact ⟨pa0, pa1, pa2, pa3, pa4⟩) (Or.inl ⟨by first | kernel_rfl | rfl, ?_⟩) ?_
 rotate_left
 ·(intro W hW; (try dsimp only at hW); go_simp; try with_reducible rfl)
 try simp only [PT]
 refine wpT_take 5 (v := ?_) rfl (by kernel_rfl) (fun _ _ _ h => h) (by exact ⟨pa0, pa1, pa2, pa3, pa4⟩) (Or.inl ⟨by first | kernel_rfl | rfl, ?_⟩) ?_
 rotate_left
 ·(intro W hW; (try dsimp only at hW); go_simp; try with_reducible rfl)
 try simp only [PT]
 refine wpT_take 6 (v := ?_) rfl (by kernel_rfl) (fun _ _ _ h => h) (by exact ⟨pa0, pa1, pa2, pa3, pa4⟩) (Or.inl ⟨by first | kernel_rfl | rfl, ?_⟩) ?_
 rotate_left
 ·(intro W hW; (try dsimp only at hW); go_simp; try with_reducible rfl)
 try simp only [PT]
 refine wpT_take 7 (v := ?_) rfl (by kernel_rfl) (fun _ _ _ h => h) (by exact ⟨pa0, pa1, pa2, pa3, pa4⟩) (Or.inl ⟨by first | kernel_rfl | rfl, ?_⟩) ?_
 rotate_left
 ·(intro W hW; (try dsimp only at hW); go_simp; try with_reducible rfl)
 try simp only [PT]
 refine wpT_tail rfl (by kernel_rfl) ?_
 simp only [List.drop_succ_cons, List.drop_zero]
 go_wp2_with fail
 refine (HVV.out _).mono ?_
 rintro e w6 ⟨rfl, hn⟩
 clear pa0 pa1 pa2 pa3 pa4 pa5
 clear pb0 pb1 pb2
 replace BA := Lib.hid (BA.out.new hn)
 replace BB := Lib.hid (BB.out.new hn)
 replace HN := Lib.hid (HN.out.trans hn)
 clear hn
 go_wp2_with fail
 go_ret
 exact ⟨rfl, HN.out⟩
set_option maxRecDepth 100000 in
set_option maxHeartbeats 1000000 in
theorem mapped_samp (a : Option Addr) (cap : Nat) (vs : List Value) (ys : List Nat) (p p' : Addr) (w : World) (hy : ys.length = vs.length) (hl : vs.length ≤ 4096) (hr : RdL w a vs)
  (hc : ∀ (k : Nat) (h : k < vs.length) (h' : k < ys.length) (W : World), New w W → Calls Tryz.prog 89 #[vs[k], .pointer (some p), .pointer (some p')] W fun e W' => e = .returned ((Value.float .f32) ys[k]) ∧ New W W') :
  Calls Tryz.prog 88 #[.slice a vs.length cap, .func (.func 89) #[] #[.pointer (some p), .pointer (some p')]] w (RowRet w 23 (ys.map (Value.float .f32))) := by
 obtain ⟨i0, hi, hz0, hz1, hz2⟩ := info_parts info_f32
 have hli : (vs.length : Int) ≤ 4096 := by omega
 have HR := Lib.hid hr
 have HC := Lib.hid hc
 have HY := Lib.hid hy
 clear hr hc hy
 go_enter Tryz.func88, Tryz.ntmps88
 go_wp2_with fail
 go_loopw [5, 10] (fun v i wr => ∃ (k : Nat), k ≤ vs.length ∧ i = .int .i64 (k : Int) ∧ Hid (wr.ownsRow w.heap.size 23 1 v ((ys.take k).map (Value.float .f32)).length ((ys.take k).map (Value.float .f32))) ∧ Hid (New w wr)) (fun _ i _ => vs.length - (intOf i).toNat)
 case atStart => exact ⟨0, Nat.zero_le _, rfl, Lib.hid (World.ownsRow_nil _ _ _ _), Lib.hid (New.refl _)⟩
 case round =>
  obtain ⟨k, hk, rfl, HO, HN⟩ := hrel
  by_cases hlt : k < vs.length
  ·obtain ⟨b, off, rfl, hcell⟩ := HR.out k hlt
   have hcell := HN.out.cell hcell
   have hly : k < ys.length := by have := HY.out; omega
   have hcall := HC.out k hlt hly
   obtain ⟨x, hx⟩ : ∃ x, vs[k] = x := ⟨_, rfl⟩
   obtain ⟨y, hyy⟩ : ∃ y, ys[k] = y := ⟨_, rfl⟩
   have h1 : ∀ u ∈ [(Value.float .f32) y], u.oneCell' = true := by intro u hu; simp at hu; rw [hu]; rfl
   have ht : (ys.take (k + 1)).map (Value.float .f32) = (ys.take k).map (Value.float .f32) ++ [(Value.float .f32) y] := by rw [List.take_succ_eq_append_getElem hly, hyy]; simp
   have hle : ((ys.take k).map (Value.float .f32)).length = k := by rw [List.length_map, List.length_take]; omega
   simp only [hx, hyy] at hcall
   rw [hx] at hcell
   have HCALL := Lib.hid hcall
   have HX := Lib.hid hx
   have HYY := Lib.hid hyy
   have H1 := Lib.hid h1
   have HT := Lib.hid ht
   have HLE := Lib.hid hle
   clear hcall hx hyy h1 ht hle
   go_wp2_with fail
   refine (HCALL.out _ HN.out).mono ?_
   rintro e w1 ⟨rfl, hn⟩
   have hO := own_new HO.out hn
   have hN := HN.out.trans hn
   clear HO HN hcell
   have HO := Lib.hid hO
   have HN := Lib.hid hN
   have HN0 := Lib.hid hn
   clear hO hN hn
   go_wp2_with (at_builtin; refine wpList_append_own _ rfl _ _ 22 rfl w.heap.size 23 i0 (.float .f32 0) 1 4 Tryz.underlying22 hi hz0 hz1 hz2 rfl (by decide) _ _ _ rfl (HO.out.alloc _) ⟨w1.heap.size, 0, none⟩ 1 1 [(Value.float .f32) y] rfl rfl (one_c1 _ _ _) H1.out (by have := HLE.out; unfold maxLen; omega) (by have := HLE.out; omega) (by have := HN.out.size; rw [← size_alloc]; omega) ?_)
   intro v' w2 hown' hgrow _
   have hN1 := grown_new HN.out HO.out hgrow
   have hO1 : w2.ownsRow w.heap.size 23 1 v' ((ys.take (k + 1)).map (Value.float .f32)).length ((ys.take (k + 1)).map (Value.float .f32)) := by
    rw [HT.out]
    simpa using hown'
   clear hown' hgrow
   have HN1 := Lib.hid hN1
   have HO1 := Lib.hid hO1
   clear hN1 hO1
   go_wp2_with fail
   go_roundw
   case rel => exact ⟨k + 1, by omega, by go_num, HO1, HN1⟩
   case measure => simp [intOf]; omega
  ·have hkk : k = vs.length := by omega
   have hO := HO.out
   rw [hkk, ← HY.out, List.take_length] at hO
   have HKK := Lib.hid hkk
   have HOO := Lib.hid hO
   clear hkk hO
   go_wp2_with fail
   go_ret
   exact ⟨_, rfl, HN.out, HOO.out⟩
def strs (l : List ByteArray) : List Value := l.map Value.string
theorem RdL.str {w : World} {a : Option Addr} {l : List ByteArray} (h : RdL w a (strs l)) (i : Nat) (hi : i < l.length) : ∃ b off, a = some ⟨b, off, none⟩ ∧ w.cell? ⟨b, off + i, none⟩ = some (.string l[i]) := by
 obtain ⟨b, off, e, hc⟩ := h i (by simpa [strs] using hi)
 exact ⟨b, off, e, by rw [hc]; simp [strs]⟩
set_option maxRecDepth 100000 in
set_option maxHeartbeats 2000000 in
theorem Sampled_ok {b s z : Int} {g o : ByteArray} {qg qo : Rat} (h : AdcOk b s z g o qg qo) (a : Option Addr) (cap : Nat) (vs : List ByteArray) (qs : List Rat) (w : World) (he : Env w) (hl : vs.length ≤ 4096) (hr : RdL w a (strs vs)) (hq : qs.length = vs.length)
  (hv : ∀ (k : Nat) (h1 : k < vs.length) (h2 : k < qs.length), (vs[k]).data.toList = ratText qs[k] ∧ Fits qs[k] ∧ (vs[k]).size ≤ 100000) :
  Calls Tryz.prog 50 #[.agg #[.int .i64 b, .int .i64 s, .int .i64 z, .string g, .string o], .slice a vs.length cap] w (RowPost w 23 (flts (qs.map (sampQ s z (2 ^ b.toNat - 1)))) 0) := by
 have hc := fun W hW => checkAdc_ok h W hW
 have hli : (vs.length : Int) ≤ 4096 := by omega
 have hlt : ¬ (4096 : Int) < (vs.length : Int) := by omega
 have hd : decide ((4096 : Int) < (vs.length : Int)) = false := decide_eq_false hlt
 have hck : ∀ (k : Nat) (h1 : k < vs.length) (W : World), Env W → Calls Tryz.prog 83 #[.string vs[k]] W fun e W' => e = .returned (.int .i64 0) ∧ New W W' := by
  intro k h1 W hW
  obtain ⟨e1, e2, e3⟩ := hv k h1 (by omega)
  have := check_calls vs[k] W hW e3
  rw [e1, ratErr_ratText e2] at this
  exact this
 have hm := fun (W : World) (p p' : Nat) (t t' : TypeId) (hW : New w W) (h1 : Box W p t #[.int .i64 b, .int .i64 s, .int .i64 z, .string g, .string o]) (h2 : Box W p' t' #[.func (.func 87) #[.agg #[.int .i64 b, .int .i64 s, .int .i64 z, .string g, .string o]] #[]]) =>
  mapped_samp a cap (strs vs) (qs.map (sampQ s z (2 ^ b.toNat - 1))) ⟨p, 0, none⟩ ⟨p', 0, none⟩ W (by simp [strs, hq]) (by simp [strs]; omega) (hr.new hW) (fun k h3 h4 W' hn => by
   have hk : k < vs.length := by simpa [strs] using h3
   obtain ⟨e1, e2, e3⟩ := hv k hk (by omega)
   have ea : (strs vs)[k] = .string vs[k] := by simp [strs]
   have eb : (qs.map (sampQ s z (2 ^ b.toNat - 1)))[k] = sampQ s z (2 ^ b.toNat - 1) qs[k] := by simp
   rw [ea, eb]
   exact sampled1_calls h vs[k] qs[k] p p' t t' W' ((he.new hW).new hn) e1 e2 e3 (h1.new hn) (h2.new hn))
 have el : (strs vs).length = vs.length := by simp [strs]
 rw [el] at hm
 obtain ⟨ys, hys⟩ : ∃ ys, flts (qs.map (sampQ s z (2 ^ b.toNat - 1))) = ys := ⟨_, rfl⟩
 have hys' : (qs.map (sampQ s z (2 ^ b.toNat - 1))).map (Value.float .f32) = ys := hys
 rw [hys'] at hm
 rw [hys]
 clear h hq hv hys hys' hl el
 have HC := Lib.hid hc
 have HCK := Lib.hid hck
 have HM := Lib.hid hm
 have HE := Lib.hid he
 have HR := Lib.hid hr
 clear hc hck hm he hr
 go_enter Tryz.func50, Tryz.ntmps50
 go_wp2_with fail
 have BA := Lib.hid ((Box.alloc w (w.heap.size) 91 #[.int .i64 b, .int .i64 s, .int .i64 z, .string g, .string o] (by simp)).new (New.refl _))
 have HN := Lib.hid ((New.refl w).alloc (.cells #[.int .i64 b, .int .i64 s, .int .i64 z, .string g, .string o] 91))
 refine (HC.out _ (HE.out.new HN.out)).mono ?_
 rintro e w1 ⟨rfl, hn⟩
 replace BA := Lib.hid (BA.out.new hn)
 replace HN := Lib.hid (HN.out.trans hn)
 clear hn
 go_wp2_with fail
 refine (pwhen_new false 5 _).mono ?_
 rintro e w2 ⟨rfl, hn⟩
 replace BA := Lib.hid (BA.out.new hn)
 replace HN := Lib.hid (HN.out.trans hn)
 clear hn
 go_wp2_with fail
 have HN0 := HN
 clear HN
 have BG := Lib.hid ((Box.alloc w2 (w2.heap.size) 29 #[.int .i64 0, .int .i64 0] (by simp)).new (New.refl _))
 have HN := Lib.hid ((New.refl w2).alloc (.cells #[.int .i64 0, .int .i64 0] 29))
 replace BA := Lib.hid (BA.out.new HN.out)
 have HN_ := HN0.out.trans HN.out
 clear HN HN0
 have HN := Lib.hid HN_
 clear HN_
 refine (pfirst2_new 0 0 _ _ 29 _ BG.out).mono ?_
 rintro e w3 ⟨rfl, hn⟩
 replace BA := Lib.hid (BA.out.new hn)
 replace HN := Lib.hid (HN.out.trans hn)
 clear hn
 go_wp2_with fail
 clear BG
 go_loopw [24] (fun i wr => ∃ (k : Nat), k ≤ vs.length ∧ i = .int .i64 (k : Int) ∧ Hid (New w wr) ∧ Hid (Box wr w.heap.size 91 #[.int .i64 b, .int .i64 s, .int .i64 z, .string g, .string o])) (fun i _ => vs.length - (intOf i).toNat)
 case atStart => exact ⟨0, Nat.zero_le _, rfl, HN, BA⟩
 case round =>
  clear HN BA
  obtain ⟨k, hk, rfl, HN, BA⟩ := hrel
  by_cases hlt2 : k < vs.length
  ·obtain ⟨b1, off, rfl, hcell⟩ := HR.out.str k hlt2
   have hcell := HN.out.cell hcell
   have hcall := HCK.out k hlt2
   obtain ⟨x, hx⟩ : ∃ x, vs[k] = x := ⟨_, rfl⟩
   rw [hx] at hcell
   simp only [hx] at hcall
   have HCALL := Lib.hid hcall
   have HX := Lib.hid hx
   clear hcall hx
   go_wp2_with fail
   refine (HCALL.out _ (HE.out.new HN.out)).mono ?_
   rintro e w4 ⟨rfl, hn⟩
   clear hcell
   replace BA := Lib.hid (BA.out.new hn)
   replace HN := Lib.hid (HN.out.trans hn)
   clear hn
   go_wp2_with fail
   go_roundw
   case rel => exact ⟨k + 1, by omega, by go_num, HN, BA⟩
   case measure => simp [intOf]; omega
  ·have hkk : k = vs.length := by omega
   obtain ⟨⟨pa0, pa1, pa2, pa3, pa4⟩, pa5⟩ := BA.out.five
   have HKK := Lib.hid hkk
   clear hkk
   go_wp2_with fail
   clear pa0 pa1 pa2 pa3 pa4 pa5
   have HN0 := HN
   clear HN
   have BB := Lib.hid ((Box.alloc wr (wr.heap.size) 148 #[.func (.func 87) #[.agg #[.int .i64 b, .int .i64 s, .int .i64 z, .string g, .string o]] #[]] (by simp)).new (New.refl _))
   have HN := Lib.hid ((New.refl wr).alloc (.cells #[.func (.func 87) #[.agg #[.int .i64 b, .int .i64 s, .int .i64 z, .string g, .string o]] #[]] 148))
   replace BA := Lib.hid (BA.out.new HN.out)
   have HN_ := HN0.out.trans HN.out
   clear HN HN0
   have HN := Lib.hid HN_
   clear HN_
   refine (HM.out _ _ _ _ _ HN.out BA.out BB.out).mono ?_
   rintro e w5 ⟨v, rfl, hn, ho⟩
   have ho' := World.ownsRow.mono ho HN.out.size
   clear ho
   have HO := Lib.hid ho'
   clear ho'
   replace BA := Lib.hid (BA.out.new hn)
   replace HN := Lib.hid (HN.out.trans hn)
   clear hn
   go_wp2_with fail
   go_ret2
   exact ⟨_, rfl, HN.out, HO.out⟩
end Go.Proofs.YtlfnibjmkfldgaaGreatDoor
namespace Go.Proofs.YtlfnibjmkfldgaaGreatDoor
open Go.RowKit Big
def words (l : List Nat) : List Value := l.map fun (x : Nat) => Value.int .u16 (x : Int)
end Go.Proofs.YtlfnibjmkfldgaaGreatDoor
namespace Go.Proofs.YtlfnibjmkfldgaaGreatDoor
open Go.RowKit Big
theorem samples_new (a : Option Addr) (cap : Nat) (l : List Nat) (w : World) (hl : l.length ≤ 9223372036854775807) (hr : RdL w a (flts l)) :
  Calls Tryz.prog 58 #[.slice a l.length cap] w (RetNew w (samplesErr l)) :=
 (checkSamples_calls a cap l w hl hr).mono fun _ _ h => ⟨h.1, by obtain ⟨n, hn⟩ := h.2; rw [hn]; exact (New.refl _).drewN n⟩
theorem Box.rd2 {w : World} {B : Nat} {t : TypeId} {x y : Nat} (h : Box w B t #[.float .f32 x, .float .f32 y]) : RdL w (some ⟨B, 0, none⟩) (flts [x, y]) := fun i hi => by
 refine ⟨B, 0, rfl, ?_⟩
 have : i = 0 ∨ i = 1 := by simp [flts] at hi; omega
 rcases this with rfl | rfl
 ·exact h.cell 0
 ·exact h.cell 1
def geqF (x y : Nat) : Bool := FloatKind.f32.format.order x y == some Ordering.gt || FloatKind.f32.format.order x y == some Ordering.eq
set_option maxRecDepth 100000 in
theorem levels_calls (lo hi : Nat) (w : World) : Calls Tryz.prog 21 #[.agg #[.float .f32 lo, .float .f32 hi]] w (RetNew w (if samplesErr [lo, hi] = 0 then (if geqF lo hi then 11 else 0) else samplesErr [lo, hi])) := by
 obtain ⟨e1, he1⟩ : ∃ e1, samplesErr [lo, hi] = e1 := ⟨_, rfl⟩
 obtain ⟨e2, he2⟩ : ∃ e2 : Int, (if geqF lo hi = true then 11 else 0) = e2 := ⟨_, rfl⟩
 rw [he1, he2]
 obtain ⟨r, hr⟩ : ∃ r, (if e1 = 0 then e2 else e1) = r := ⟨_, rfl⟩
 rw [hr]
 have HE1 := Lib.hid he1
 have HE2 := Lib.hid he2
 have HR := Lib.hid hr
 clear he1 he2 hr
 go_enter Tryz.func21, Tryz.ntmps21
 go_wp2_with fail
 have BA := Lib.hid ((Box.alloc w (w.heap.size) 33 #[.float .f32 lo, .float .f32 hi] (by simp)).new (New.refl _))
 have HN := Lib.hid ((New.refl w).alloc (.cells #[.float .f32 lo, .float .f32 hi] 33))
 obtain ⟨pa0, pa1, pa2, pa3, pa4⟩ := BA.out.two
 refine wp_region_T 14 (fun W => W.cell? ⟨w.heap.size, 0, none⟩ = some (.float .f32 lo) ∧ W.cell? ⟨w.heap.size, 1, none⟩ = some (.float .f32 hi)) 15 #[false, false, false, false, false, false, false, false, false, false, false, false, false, false, false] rfl (by kernel_rfl) (by kernel_rfl) ?_
 refine wpT_take 0 (v := ?_) rfl (by kernel_rfl) (fun _ _ _ h => h) (by exact ⟨pa0, pa1⟩) (Or.inl ⟨by first | kernel_rfl | rfl, ?_⟩) ?_
 rotate_left
 ·(intro W hW; (try dsimp only at hW); go_simp; try with_reducible rfl)
 try simp only [PT]
 refine wpT_take 1 (v := ?_) rfl (by kernel_rfl) (fun _ _ _ h => h) (by exact ⟨pa0, pa1⟩) (Or.inl ⟨by first | kernel_rfl | rfl, ?_⟩) ?_
 rotate_left
 ·(intro W hW; (try dsimp only at hW); go_simp; try with_reducible rfl)
 try simp only [PT]
 refine wpT_take 2 (v := ?_) rfl (by kernel_rfl) (fun _ _ _ h => h) (by exact ⟨pa0, pa1⟩) (Or.inl ⟨by first | kernel_rfl | rfl, ?_⟩) ?_
 rotate_left
 ·(intro W hW; (try dsimp only at hW); go_simp; try with_reducible rfl)
 try simp only [PT]
 refine wpT_take 3 (v := ?_) rfl (by kernel_rfl) (fun _ _ _ h => h) (by exact ⟨pa0, pa1⟩) (Or.inl ⟨by first | kernel_rfl | rfl, ?_⟩) ?_
 rotate_left
 ·(intro W hW; (try dsimp only at hW); go_simp; try with_reducible rfl)
 try simp only [PT]
 refine wpT_take 6 (v := ?_) rfl (by kernel_rfl) (fun _ _ _ h => h) (by exact ⟨pa0, pa1⟩) (Or.inl ⟨by first | kernel_rfl | rfl, ?_⟩) ?_
 rotate_left
 ·(intro W hW; (try dsimp only at hW); go_simp; try with_reducible rfl)
 try simp only [PT]
 refine wpT_take 7 (v := ?_) rfl (by kernel_rfl) (fun _ _ _ h => h) (by exact ⟨pa0, pa1⟩) (Or.inl ⟨by first | kernel_rfl | rfl, ?_⟩) ?_
 rotate_left
 ·(intro W hW; (try dsimp only at hW); go_simp; try with_reducible rfl)
 try simp only [PT]
 refine wpT_take 8 (v := ?_) rfl (by kernel_rfl) (fun _ _ _ h => h) (by exact ⟨pa0, pa1⟩) (Or.inl ⟨by first | kernel_rfl | rfl, ?_⟩) ?_
 rotate_left
 ·(intro W hW; (try dsimp only at hW); go_simp; try with_reducible rfl)
 try simp only [PT]
 refine wpT_take 9 (v := ?_) rfl (by kernel_rfl) (fun _ _ _ h => h) (by exact ⟨pa0, pa1⟩) (Or.inl ⟨by first | kernel_rfl | rfl, ?_⟩) ?_
 rotate_left
 ·(intro W hW; (try dsimp only at hW); go_simp; try with_reducible rfl)
 try simp only [PT]
 refine wpT_take 10 (v := ?_) rfl (by kernel_rfl) (fun _ _ _ h => h) (by exact ⟨pa0, pa1⟩) (Or.inl ⟨by first | kernel_rfl | rfl, ?_⟩) ?_
 rotate_left
 ·(intro W hW; (try dsimp only at hW); go_simp; try with_reducible rfl)
 try simp only [PT]
 refine wpT_one 4 rfl (by kernel_rfl) (fun K hK => ?_)
 go_simp
 clear pa0 pa1 pa2 pa3 pa4
 clear BA HN
 have BA := Lib.hid ((Box.alloc w (w.heap.size) 33 #[.float .f32 lo, .float .f32 hi] (by simp)).new ((New.refl _).alloc (.cells #[.float .f32 lo, .float .f32 hi] 23)))
 have BG := Lib.hid ((Box.alloc (w.alloc (.cells #[.float .f32 lo, .float .f32 hi] 33)) (w.heap.size + 1) 23 #[.float .f32 lo, .float .f32 hi] (by simp)).new (New.refl _))
 have HN := Lib.hid (((New.refl w).alloc (.cells #[.float .f32 lo, .float .f32 hi] 33)).alloc (.cells #[.float .f32 lo, .float .f32 hi] 23))
 obtain ⟨pa0, pa1, pa2, pa3, pa4⟩ := BA.out.two
 refine hK.out _ _ (fun _ => ?_) ?_
 ·exact ⟨pa0, pa1⟩
 clear hK K
 try simp only [PT]
 refine wpT_one 5 rfl (by kernel_rfl) (fun K hK => ?_)
 go_simp
 refine (samples_new _ _ [lo, hi] _ (by show (2 : Nat) ≤ _; omega) BG.out.drew.rd2).mono ?_
 rintro e w1 ⟨rfl, hn⟩
 rw [HE1.out]
 have hn := hn.undrew
 clear pa0 pa1 pa2 pa3 pa4
 replace BA := Lib.hid (BA.out.new hn)
 replace HN := Lib.hid (HN.out.trans hn)
 clear hn
 obtain ⟨pa0, pa1, pa2, pa3, pa4⟩ := BA.out.two
 refine hK.out _ _ (fun _ => ?_) ?_
 ·exact ⟨pa0, pa1⟩
 clear hK K
 try simp only [PT]
 refine wpT_one 11 rfl (by kernel_rfl) (fun K hK => ?_)
 go_simp
 refine (pwhen_new (geqF lo hi) 11 _).mono ?_
 rintro e w2 ⟨rfl, hn⟩
 rw [HE2.out]
 clear pa0 pa1 pa2 pa3 pa4
 replace BA := Lib.hid (BA.out.new hn)
 replace HN := Lib.hid (HN.out.trans hn)
 clear hn
 obtain ⟨pa0, pa1, pa2, pa3, pa4⟩ := BA.out.two
 refine hK.out _ _ (fun _ => ?_) ?_
 ·exact ⟨pa0, pa1⟩
 clear hK K
 try simp only [PT]
 refine wpT_one 12 rfl (by kernel_rfl) (fun K hK => ?_)
 go_simp
 clear pa0 pa1 pa2 pa3 pa4
 have HN0 := HN
 clear HN
 have BH := Lib.hid ((Box.alloc w2 (w2.heap.size) 29 #[.int .i64 e1, .int .i64 e2] (by simp)).new (New.refl _))
 have HN := Lib.hid ((New.refl w2).alloc (.cells #[.int .i64 e1, .int .i64 e2] 29))
 replace BA := Lib.hid (BA.out.new HN.out)
 have HN_ := HN0.out.trans HN.out
 clear HN HN0
 have HN := Lib.hid HN_
 clear HN_
 obtain ⟨pa0, pa1, pa2, pa3, pa4⟩ := BA.out.two
 refine hK.out _ _ (fun _ => ?_) ?_
 ·exact ⟨pa0, pa1⟩
 clear hK K
 try simp only [PT]
 refine wpT_one 13 rfl (by kernel_rfl) (fun K hK => ?_)
 go_simp
 refine (pfirst2_new e1 e2 _ _ 29 _ BH.out).mono ?_
 rintro e w3 ⟨rfl, hn⟩
 rw [HR.out]
 clear pa0 pa1 pa2 pa3 pa4
 replace BA := Lib.hid (BA.out.new hn)
 replace HN := Lib.hid (HN.out.trans hn)
 clear hn
 obtain ⟨pa0, pa1, pa2, pa3, pa4⟩ := BA.out.two
 refine hK.out _ _ (fun _ => ?_) ?_
 ·exact ⟨pa0, pa1⟩
 clear hK K
 try simp only [PT]
 refine wpT_tail rfl (by kernel_rfl) ?_
 simp only [List.drop_succ_cons, List.drop_zero]
 go_wp2_with fail
 go_ret
 exact ⟨rfl, HN.out⟩
end Go.Proofs.YtlfnibjmkfldgaaGreatDoor
namespace Go.Proofs.YtlfnibjmkfldgaaGreatDoor
open Go.RowKit Big
def leqF (x y : Nat) : Bool := FloatKind.f32.format.order x y == some Ordering.lt || FloatKind.f32.format.order x y == some Ordering.eq
def keepF (lo hi : Nat) (v : Bool) (x : Nat) : Bool := if geqF x hi then true else if leqF x lo then false else v
theorem keep1_calls (x lo hi : Nat) (v : Bool) (A B : Nat) (W : World) (h0 : W.cell? ⟨A, 0, none⟩ = some (.float .f32 lo)) (h1 : W.cell? ⟨A, 1, none⟩ = some (.float .f32 hi)) (hv : W.cell? ⟨B, 0, none⟩ = some (.bool v)) (hf : W.frozen? ⟨B, 0, none⟩ = false) :
  Calls Tryz.prog 103 #[.float .f32 x, .pointer (some ⟨A, 0, none⟩), .pointer (some ⟨B, 0, none⟩)] W fun e W' => e = .returned (.bool (keepF lo hi v x)) ∧ (W' = W ∨ W' = W.setCell ⟨B, 0, none⟩ (.bool (keepF lo hi v x))) ∧ W'.cell? ⟨B, 0, none⟩ = some (.bool (keepF lo hi v x)) := by
 obtain ⟨r, hr⟩ : ∃ r, keepF lo hi v x = r := ⟨_, rfl⟩
 rw [hr]
 unfold keepF at hr
 cases hg : geqF x hi with
 | true =>
  rw [hg, if_pos rfl] at hr
  subst hr
  unfold geqF at hg
  go_enter Tryz.func103, Tryz.ntmps103
  go_wp2_with fail
  go_ret
  exact ⟨rfl, .inr rfl, World.cell?_setCell_same' W _ _ (by rw [hv]; rfl)⟩
 | false =>
  rw [hg, if_neg (by decide)] at hr
  unfold geqF at hg
  cases hl : leqF x lo with
  | true =>
   rw [hl, if_pos rfl] at hr
   subst hr
   unfold leqF at hl
   go_enter Tryz.func103, Tryz.ntmps103
   go_wp2_with fail
   go_ret
   exact ⟨rfl, .inr rfl, World.cell?_setCell_same' W _ _ (by rw [hv]; rfl)⟩
  | false =>
   rw [hl, if_neg (by decide)] at hr
   subst hr
   unfold leqF at hl
   go_enter Tryz.func103, Tryz.ntmps103
   go_wp2_with fail
   go_ret
   exact ⟨rfl, .inl rfl, hv⟩
end Go.Proofs.YtlfnibjmkfldgaaGreatDoor
namespace Go.Proofs.YtlfnibjmkfldgaaGreatDoor
open Go.RowKit Big
structure NewX (B : Nat) (w w' : World) : Prop where
 a : w'.os = w.os
 b : w'.tape = w.tape
 c : w'.output = w.output
 size : w.heap.size ≤ w'.heap.size
 block : ∀ j, j < w.heap.size → j ≠ B → w'.heap[j]? = w.heap[j]?
theorem NewX.refl (B : Nat) (w : World) : NewX B w w := ⟨rfl, rfl, rfl, Nat.le_refl _, fun _ _ _ => rfl⟩
theorem NewX.trans {B : Nat} {w w' w'' : World} (h : NewX B w w') (h' : NewX B w' w'') : NewX B w w'' :=
 ⟨h'.a.trans h.a, h'.b.trans h.b, h'.c.trans h.c, Nat.le_trans h.size h'.size, fun j hj hB => (h'.block j (Nat.lt_of_lt_of_le hj h.size) hB).trans (h.block j hj hB)⟩
theorem NewX.set (B : Nat) (w : World) (i : Nat) (u : Value) : NewX B w (w.setCell ⟨B, i, none⟩ u) := by
 refine ⟨rfl, rfl, rfl, by simp, fun j _ hj => ?_⟩
 show (w.heap.modify B _)[j]? = _
 rw [Array.getElem?_modify, if_neg (by exact fun h => hj h.symm)]
theorem NewX.alloc (B : Nat) (w : World) (o : Obj) : NewX B w (w.alloc o) := by
 have h : New w (w.alloc o) := (New.refl w).alloc o
 exact ⟨h.1, h.2, h.3, h.4, fun j hj _ => h.5 j hj⟩
theorem Box.newX {w w' : World} {A B : Nat} {t : TypeId} {cs : Array Value} (h : Box w A t cs) (hn : NewX B w w') (hAB : A ≠ B) : Box w' A t cs := by
 have := hn.block A h.lt hAB
 unfold Box at h ⊢
 rw [this, h]
theorem own_newX {w w' : World} {base B : Nat} {e : TypeId} {v : Value} {n : Nat} {xs : List Value} (h : w.ownsRow base e 1 v n xs) (hn : NewX B w w') (hB : B < base) : w'.ownsRow base e 1 v n xs := by
 refine ⟨h.1, ?_⟩
 rcases h.2 with h2 | ⟨g, cap, cur, h1, h2, h3, h4⟩
 ·exact .inl h2
 ·refine .inr ⟨g, cap, cur, h1, h2, ?_, h4⟩
  have hlt : g < w.heap.size := by
   rcases Nat.lt_or_ge g w.heap.size with h | h
   ·exact h
   ·rw [Array.getElem?_eq_none h] at h3; cases h3
  rw [hn.block g hlt (by omega), h3]
theorem keep1_box (x lo hi : Nat) (v : Bool) (A B : Nat) (t t' : TypeId) (W : World) (hA : Box W A t #[.float .f32 lo, .float .f32 hi]) (hB : Box W B t' #[.bool v]) :
  Calls Tryz.prog 103 #[.float .f32 x, .pointer (some ⟨A, 0, none⟩), .pointer (some ⟨B, 0, none⟩)] W fun e W' => e = .returned (.bool (keepF lo hi v x)) ∧ NewX B W W' ∧ Box W' B t' #[.bool (keepF lo hi v x)] := by
 refine (keep1_calls x lo hi v A B W (hA.cell 0) (hA.cell 1) (hB.cell 0) (hB.frozen 0)).mono fun e W' h => ⟨h.1, ?_⟩
 obtain ⟨-, h2, h3⟩ := h
 rcases h2 with rfl | rfl
 ·refine ⟨NewX.refl _ _, ?_⟩
  rw [hB.cell 0] at h3
  have h4 : (Value.bool v) = .bool (keepF lo hi v x) := by simpa using h3
  rw [← h4]
  exact hB
 ·exact ⟨NewX.set _ _ _ _, hB.set 0 _⟩
def keepL (lo hi : Nat) (v : Bool) : List Nat → List Bool
 | [] => []
 | x :: l => keepF lo hi v x :: keepL lo hi (keepF lo hi v x) l
theorem keepL_snoc (lo hi : Nat) (l : List Nat) : ∀ (v : Bool) (x : Nat), keepL lo hi v (l ++ [x]) = keepL lo hi v l ++ [keepF lo hi (lastB v (keepL lo hi v l)) x] := by
 induction l with
 | nil => intro v x; rfl
 | cons y l ih =>
  intro v x
  show keepF lo hi v y :: keepL lo hi (keepF lo hi v y) (l ++ [x]) = keepF lo hi v y :: keepL lo hi (keepF lo hi v y) l ++ _
  rw [ih]
  rfl
theorem keepL_len (lo hi : Nat) (l : List Nat) : ∀ (v : Bool), (keepL lo hi v l).length = l.length := by
 induction l with
 | nil => intro v; rfl
 | cons y l ih => intro v; show (keepL lo hi _ l).length + 1 = l.length + 1; rw [ih]
end Go.Proofs.YtlfnibjmkfldgaaGreatDoor
namespace Go.Proofs.YtlfnibjmkfldgaaGreatDoor
open Go.RowKit Big
theorem own_ne {w : World} {base j : Nat} {e : TypeId} {v : Value} {n : Nat} {xs : List Value} (h : w.ownsRow base e 1 v n xs) (hj : j < base) : some j ≠ v.ownBlock := by
 rcases h.2 with ⟨rfl, _⟩ | ⟨g, cap, cur, rfl, hb, _⟩
 ·intro h; cases h
 ·intro h
  injection h with h
  simp only at h
  omega
theorem grown_newX {w wr w1 : World} {B : Nat} {o : Obj} {v : Value} {e : TypeId} {n : Nat} {xs : List Value} (hn : NewX B w wr) (h : wr.ownsRow w.heap.size e 1 v n xs) (hg : (wr.alloc o).grownBy w1 v.ownBlock) : NewX B w w1 := by
 have h2 := hn.trans (NewX.alloc B wr o)
 exact ⟨hg.os.trans h2.a, hg.tape.trans h2.b, hg.output.trans h2.c, Nat.le_trans h2.size hg.size, fun j hj hB => (hg.block j (Nat.lt_of_lt_of_le hj h2.size) (own_ne h hj)).trans (h2.block j hj hB)⟩
theorem Box.grown {w wr w1 : World} {B : Nat} {t : TypeId} {cs : Array Value} {o : Obj} {v : Value} {e : TypeId} {n : Nat} {xs : List Value} (hb : Box wr B t cs) (hB : B < w.heap.size) (h : wr.ownsRow w.heap.size e 1 v n xs) (hg : (wr.alloc o).grownBy w1 v.ownBlock) : Box w1 B t cs := by
 have h1 := hb.new ((New.refl wr).alloc o)
 have := hg.block B h1.lt (own_ne h hB)
 unfold Box at h1 ⊢
 rw [this, h1]
theorem NewX.cell {B : Nat} {w w' : World} (h : NewX B w w') {b o : Nat} {v : Value} (hc : w.cell? ⟨b, o, none⟩ = some v) (hb : b ≠ B) : w'.cell? ⟨b, o, none⟩ = some v := by
 rw [World.cell?_of_block (a := ⟨b, o, none⟩) (h.block b (lt_of_cell hc) hb)]
 exact hc
theorem keep_next {lo hi : Nat} {v : Bool} {xs : List Nat} {k : Nat} (hk : k < xs.length) {y : Bool} {x : Nat} (hy : lastB v (keepL lo hi v (xs.take k)) = y) (hx : xs[k] = x) :
  keepL lo hi v (xs.take (k + 1)) = keepL lo hi v (xs.take k) ++ [keepF lo hi y x] ∧ lastB v (keepL lo hi v (xs.take (k + 1))) = keepF lo hi y x := by
 have h1 : keepL lo hi v (xs.take (k + 1)) = keepL lo hi v (xs.take k) ++ [keepF lo hi y x] := by
  rw [List.take_succ_eq_append_getElem hk, keepL_snoc, hy, hx]
 exact ⟨h1, by rw [h1, lastB_snoc]⟩
def RowX (B : Nat) (w : World) (e : TypeId) (xs : List Value) (en : Ending) (w' : World) : Prop := ∃ v, en = .returned v ∧ NewX B w w' ∧ w'.ownsRow w.heap.size e 1 v xs.length xs
set_option maxRecDepth 100000 in
set_option maxHeartbeats 1000000 in
theorem mapped_keep (a : Option Addr) (cap : Nat) (xs : List Nat) (lo hi : Nat) (v0 : Bool) (A B : Nat) (t t' : TypeId) (w : World) (hl : xs.length ≤ 4096) (hr : RdL w a (flts xs)) (hA : Box w A t #[.float .f32 lo, .float .f32 hi]) (hB : Box w B t' #[.bool v0])
  (hAB : A ≠ B) (hab : xs.length ≠ 0 → ∀ b off, a = some ⟨b, off, none⟩ → b ≠ B) :
  Calls Tryz.prog 59 #[.slice a xs.length cap, .func (.func 103) #[] #[.pointer (some ⟨A, 0, none⟩), .pointer (some ⟨B, 0, none⟩)]] w (RowX B w 4 (bools (keepL lo hi v0 xs))) := by
 obtain ⟨i0, hi0, hz0, hz1, hz2⟩ := info_parts info_bool
 have hli : (xs.length : Int) ≤ 4096 := by omega
 have hBl := hB.lt
 have HR := Lib.hid hr
 have HA := Lib.hid hA
 have HAB := Lib.hid hAB
 have HAB2 := Lib.hid hab
 have HBL := Lib.hid hBl
 have HB := Lib.hid hB
 clear hr hA hAB hab hBl hB
 go_enter Tryz.func59, Tryz.ntmps59
 go_wp2_with fail
 go_loopw [5, 10] (fun v i wr => ∃ (k : Nat) (y : Bool), k ≤ xs.length ∧ i = .int .i64 (k : Int) ∧ Hid (lastB v0 (keepL lo hi v0 (xs.take k)) = y) ∧ Hid (wr.ownsRow w.heap.size 4 1 v (bools (keepL lo hi v0 (xs.take k))).length (bools (keepL lo hi v0 (xs.take k)))) ∧ Hid (NewX B w wr) ∧ Hid (Box wr B t' #[.bool y])) (fun _ i _ => xs.length - (intOf i).toNat)
 case atStart => exact ⟨0, v0, Nat.zero_le _, rfl, Lib.hid rfl, Lib.hid (World.ownsRow_nil _ _ _ _), Lib.hid (NewX.refl _ _), HB⟩
 case round =>
  obtain ⟨k, y, hk, rfl, HY, HO, HN, HBX⟩ := hrel
  by_cases hlt : k < xs.length
  ·obtain ⟨b, off, rfl, hcell⟩ := HR.out.flt k hlt
   have hcell := HN.out.cell hcell (HAB2.out (by omega) _ _ rfl)
   obtain ⟨x, hx⟩ : ∃ x, xs[k] = x := ⟨_, rfl⟩
   have hnx := keep_next hlt HY.out hx
   have hnx1 := hnx.1
   have hnx2 := hnx.2
   rw [hx] at hcell
   have hcall := fun W h1 h2 => keep1_box x lo hi y A B t t' W h1 h2
   obtain ⟨r, hrr⟩ : ∃ r, keepF lo hi y x = r := ⟨_, rfl⟩
   rw [hrr] at hnx1 hnx2
   simp only [hrr] at hcall
   have hle : (bools (keepL lo hi v0 (xs.take k))).length = k := by simp [bools, keepL_len]; omega
   have h1 : ∀ u ∈ [Value.bool r], u.oneCell' = true := by intro u hu; simp at hu; rw [hu]; rfl
   clear hnx
   have HCALL := Lib.hid hcall
   have HXX := Lib.hid hx
   have HRR := Lib.hid hrr
   have HNX1 := Lib.hid hnx1
   have HNX2 := Lib.hid hnx2
   have HLE := Lib.hid hle
   have H1 := Lib.hid h1
   clear hcall hx hrr hnx1 hnx2 hle h1
   go_wp2_with fail
   refine (HCALL.out _ (HA.out.newX HN.out HAB.out) HBX.out).mono ?_
   rintro e w1 ⟨rfl, hn, hbx⟩
   have hO := own_newX HO.out hn HBL.out
   have hN := HN.out.trans hn
   clear HO HN hcell HBX
   have HO := Lib.hid hO
   have HN := Lib.hid hN
   have HN0 := Lib.hid hn
   have HBX := Lib.hid hbx
   clear hO hN hn hbx
   go_wp2_with (at_builtin; refine wpList_append_own _ rfl _ _ 26 rfl w.heap.size 4 i0 (.bool false) 1 1 Tryz.underlying26 hi0 hz0 hz1 hz2 rfl (by decide) _ _ _ rfl (HO.out.alloc _) ⟨w1.heap.size, 0, none⟩ 1 1 [Value.bool r] rfl rfl (one_c1 _ _ _) H1.out (by have := HLE.out; unfold maxLen; omega) (by have := HLE.out; omega) (by have := HN.out.size; rw [← size_alloc]; omega) ?_)
   intro v' w2 hown' hgrow _
   have hN1 := grown_newX HN.out HO.out hgrow
   have hB1 := HBX.out.grown HBL.out HO.out hgrow
   have hO1 : w2.ownsRow w.heap.size 4 1 v' (bools (keepL lo hi v0 (xs.take (k + 1)))).length (bools (keepL lo hi v0 (xs.take (k + 1)))) := by
    rw [HNX1.out]
    have : bools (keepL lo hi v0 (xs.take k) ++ [r]) = bools (keepL lo hi v0 (xs.take k)) ++ [.bool r] := by simp [bools]
    rw [this]
    simpa using hown'
   clear hown' hgrow
   have HN1 := Lib.hid hN1
   have HO1 := Lib.hid hO1
   have HB1 := Lib.hid hB1
   clear hN1 hO1 hB1
   go_wp2_with fail
   go_roundw
   case rel => exact ⟨k + 1, r, by omega, by go_num, HNX2, HO1, HN1, HB1⟩
   case measure => simp [intOf]; omega
  ·have hkk : k = xs.length := by omega
   have hO := HO.out
   rw [hkk, List.take_length] at hO
   have HKK := Lib.hid hkk
   have HOO := Lib.hid hO
   clear hkk hO
   go_wp2_with fail
   go_ret
   exact ⟨_, rfl, HN.out, HOO.out⟩
end Go.Proofs.YtlfnibjmkfldgaaGreatDoor
