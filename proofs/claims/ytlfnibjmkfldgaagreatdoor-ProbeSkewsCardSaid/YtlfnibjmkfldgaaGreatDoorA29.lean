/- Part A29. -/
import Derived.Test.YtlfnibjmkfldgaaGreatDoorA07
import Derived.Test.YtlfnibjmkfldgaaGreatDoorA23
import Derived.Test.YtlfnibjmkfldgaaGreatDoorA24
import Derived.Test.YtlfnibjmkfldgaaGreatDoorA25
import Derived.Test.YtlfnibjmkfldgaaGreatDoorA27
import Derived.Test.YtlfnibjmkfldgaaGreatDoorA28
namespace Go.Proofs.YtlfnibjmkfldgaaGreatDoor
open Go.RowKit Big
abbrev tx (l : List UInt8) : ByteArray := ⟨l.toArray⟩
theorem adc_one : AdcOk 8 (-3) 128 ⟨#[49]⟩ ⟨#[48]⟩ 1 0 := by
 refine ⟨by decide, by decide, by decide, by decide, by decide, by decide, by decide +kernel, by rw [Fits.iff]; decide +kernel, by decide, by decide, by decide +kernel, by rw [Fits.iff]; decide +kernel, by decide⟩
theorem adc_two : AdcOk 8 (-3) 128 ⟨#[50]⟩ ⟨#[49]⟩ 2 1 := by
 refine ⟨by decide, by decide, by decide, by decide, by decide, by decide, by decide +kernel, by rw [Fits.iff]; decide +kernel, by decide, by decide, by decide +kernel, by rw [Fits.iff]; decide +kernel, by decide⟩
theorem full_val : spanV (nomQ (-3) 128 0) (nomQ (-3) 128 (2 ^ (8 : Int).toNat - 1)) = .agg #[.string ⟨#[45, 49, 54]⟩, .string ⟨#[49, 50, 55, 47, 56]⟩] := by kernel_rfl
theorem vol_val130 : Flo.vol (130 - 128) (-3) = 1048576000 := by decide +kernel
theorem code_val : clipC (rawQ (-3) 128 (-17)) (2 ^ (8 : Int).toNat - 1) = (0, -1) := by decide +kernel
def awQs : List Rat := [-20, 0, (1 : Rat) / 10, 20, 30]
def awXs : List Nat := [3246391296, 0, 1040187392, 1098776576, 1098776576]
theorem samp_val : awQs.map (sampQ (-3) 128 (2 ^ (8 : Int).toNat - 1)) = awXs := by decide +kernel
theorem codes_ok_val : codesOk (volN (-3) 128) 256 awXs := by unfold codesOk; decide +kernel
theorem codes_val : codesL (volN (-3) 128) 256 awXs = [0, 128, 129, 255, 255] := by decide +kernel
theorem clipped_val : clipped [0, 128, 129, 255, 255] 255 = [(0, 1), (3, 5)] := by decide +kernel
theorem samples_val : samplesErr awXs = 0 := by decide +kernel
theorem true_val : spanV ((nomQ (-3) 128 129 - halfQ (-3)) * 2 + 1) ((nomQ (-3) 128 129 + halfQ (-3)) * 2 + 1) = .agg #[.string ⟨#[57, 47, 56]⟩, .string ⟨#[49, 49, 47, 56]⟩] := by kernel_rfl
def awDs : List Nat := [0, 1065353216, 1056964608, 0, 1056964608, 1065353216]
theorem dig_err : digitalErr awDs 0 1065353216 = 0 := by decide +kernel
theorem dig_val : keepL 0 1065353216 false awDs = [false, true, true, false, false, true] := by decide +kernel
theorem chg_val : chg false 0 [false, true, true, false, false, true] = [1, 3, 5] := by decide +kernel
theorem words_val : wordsOf [[true, false, true], [true, true, false]] 3 = [3, 2, 1] := by decide +kernel
theorem blocks_val : nBlocks 3 = 1 ∧ padW [3, 2, 1] 16 = [3, 2, 1, 0, 0, 0, 0, 0, 0, 0, 0, 0, 0, 0, 0, 0] := by decide +kernel
def awRs : List (List Nat) := [[1065353216, 1073741824, 1077936128, 1082130432], [1073741824, 1077936128, 1082130432]]
theorem al_val : alF [1, 0] < alT awRs [1, 0] ∧ alPieces (alF [1, 0]) (alT awRs [1, 0]) awRs [1, 0] = [[1073741824, 1077936128, 1082130432], [1073741824, 1077936128, 1082130432]] := by decide +kernel
theorem al_ok : ∀ (k : Nat) (h : k < awRs.length), samplesErr awRs[k] = 0 ∧ awRs[k].length ≤ 4096 := by
 intro k h
 match k, h with
 | 0, _ => show samplesErr (awRs[0]'(by decide)) = 0 ∧ (awRs[0]'(by decide)).length ≤ 4096; decide +kernel
 | 1, _ => show samplesErr (awRs[1]'(by decide)) = 0 ∧ (awRs[1]'(by decide)).length ≤ 4096; decide +kernel
theorem full_aw (W : World) (he : Env W) : Calls Tryz.prog 47 #[.agg #[.int .i64 8, .int .i64 (-3), .int .i64 128, .string ⟨#[49]⟩, .string ⟨#[48]⟩]] W fun e w' => e = .returned (.tuple #[.agg #[.string ⟨#[45, 49, 54]⟩, .string ⟨#[49, 50, 55, 47, 56]⟩], .int .i64 0]) ∧ New W w' :=
 (full_calls adc_one W he).mono fun e w' h => by unfold SpanPost at h; rw [full_val] at h; exact h
theorem code_aw (W : World) (he : Env W) : Calls Tryz.prog 48 #[.agg #[.int .i64 8, .int .i64 (-3), .int .i64 128, .string ⟨#[49]⟩, .string ⟨#[48]⟩], .string ⟨#[45, 49, 55]⟩] W fun e w' => e = .returned (.tuple #[.int .i64 0, .int .i64 (-1), .int .i64 0]) ∧ New W w' :=
 (Code_ok adc_one ⟨#[45, 49, 55]⟩ (-17) W he (by decide +kernel) (by rw [Fits.iff]; decide +kernel) (by decide)).mono fun e w' h => by rw [code_val] at h; exact h
theorem volts_aw (W : World) (he : Env W) : Calls Tryz.prog 49 #[.agg #[.int .i64 8, .int .i64 (-3), .int .i64 128, .string ⟨#[49]⟩, .string ⟨#[48]⟩], .int .i64 130] W fun e w' => e = .returned (.tuple #[.float .f32 1048576000, .int .i64 0]) ∧ New W w' :=
 (Volts_ok adc_one 130 W he (by decide) (by decide)).mono fun e w' h => by rw [vol_val130] at h; exact h
def awVs : List ByteArray := [⟨#[45, 50, 48]⟩, ⟨#[48]⟩, ⟨#[49, 47, 49, 48]⟩, ⟨#[50, 48]⟩, ⟨#[51, 48]⟩]
theorem sampled_aw (W : World) (he : Env W) (a : Option Addr) (cap : Nat) (hr : RdL W a (strs awVs)) : Calls Tryz.prog 50 #[.agg #[.int .i64 8, .int .i64 (-3), .int .i64 128, .string ⟨#[49]⟩, .string ⟨#[48]⟩], .slice a 5 cap] W (RowPost W 23 (flts awXs) 0) := by
 have h := Sampled_ok adc_one a cap awVs awQs W he (by decide) hr rfl (by
  intro k h1 h2
  match k, h1 with
  | 0, _ => show (awVs[0]'(by decide)).data.toList = ratText (awQs[0]'(by decide)) ∧ Fits (awQs[0]'(by decide)) ∧ (awVs[0]'(by decide)).size ≤ 100000; rw [Fits.iff]; decide +kernel
  | 1, _ => show (awVs[1]'(by decide)).data.toList = ratText (awQs[1]'(by decide)) ∧ Fits (awQs[1]'(by decide)) ∧ (awVs[1]'(by decide)).size ≤ 100000; rw [Fits.iff]; decide +kernel
  | 2, _ => show (awVs[2]'(by decide)).data.toList = ratText (awQs[2]'(by decide)) ∧ Fits (awQs[2]'(by decide)) ∧ (awVs[2]'(by decide)).size ≤ 100000; rw [Fits.iff]; decide +kernel
  | 3, _ => show (awVs[3]'(by decide)).data.toList = ratText (awQs[3]'(by decide)) ∧ Fits (awQs[3]'(by decide)) ∧ (awVs[3]'(by decide)).size ≤ 100000; rw [Fits.iff]; decide +kernel
  | 4, _ => show (awVs[4]'(by decide)).data.toList = ratText (awQs[4]'(by decide)) ∧ Fits (awQs[4]'(by decide)) ∧ (awVs[4]'(by decide)).size ≤ 100000; rw [Fits.iff]; decide +kernel)
 rw [samp_val] at h
 exact h
theorem codes_aw (W : World) (he : Env W) (a : Option Addr) (cap : Nat) (hr : RdL W a (flts awXs)) : Calls Tryz.prog 51 #[.agg #[.int .i64 8, .int .i64 (-3), .int .i64 128, .string ⟨#[49]⟩, .string ⟨#[48]⟩], .slice a 5 cap] W (RowPost W 3 (ints [0, 128, 129, 255, 255]) 0) := by
 have h := Codes_ok adc_one a cap awXs W he (by decide) hr samples_val 256 (by decide) codes_ok_val
 rw [codes_val] at h
 exact h
theorem clipped_aw (W : World) (he : Env W) (a : Option Addr) (cap : Nat) (hr : RdL W a (flts awXs)) : Calls Tryz.prog 52 #[.agg #[.int .i64 8, .int .i64 (-3), .int .i64 128, .string ⟨#[49]⟩, .string ⟨#[48]⟩], .slice a 5 cap] W (RowPostS W 55 2 2 (pairs [(0, 1), (3, 5)]) 0) := by
 have h := Clipped_ok 8 (-3) 128 ⟨#[49]⟩ ⟨#[48]⟩ a 5 cap [0, 128, 129, 255, 255] 255 W rfl (by decide) (fun W' hn => codes_aw W' (he.new hn) a cap (hr.new hn)) (fun W' => top_calls 8 (-3) 128 _ _ W' (by decide) (by decide))
 rw [clipped_val] at h
 exact h
theorem cal_ok : CalOk 8 (-3) 128 ⟨#[49]⟩ ⟨#[48]⟩ 128 ⟨#[49, 47, 50]⟩ 136 ⟨#[53, 47, 50]⟩ ((1 : Rat) / 2) ((5 : Rat) / 2) 0 1 2 ((1 : Rat) / 2) where
 chk := fun W hW => checkAdc_ok adc_one W hW
 cc1 := fun W hW => checkCode_calls adc_one 128 W hW
 cc2 := fun W hW => checkCode_calls adc_one 136 W hW
 ck1 := fun W hW => (check_calls ⟨#[49, 47, 50]⟩ W hW (by decide)).mono fun e w' h => by rw [show ratErr [49, 47, 50] = 0 from by decide +kernel] at h; exact h
 ck2 := fun W hW => (check_calls ⟨#[53, 47, 50]⟩ W hW (by decide)).mono fun e w' h => by rw [show ratErr [53, 47, 50] = 0 from by decide +kernel] at h; exact h
 nom1 := fun W => (nominal_calls adc_one 128 W (by decide) (by decide)).mono fun e w' h => by rw [show stepQ (-3) * ((128 - 128 : Int) : Rat) = 0 from by decide +kernel] at h; exact h
 nom2 := fun W => (nominal_calls adc_one 136 W (by decide) (by decide)).mono fun e w' h => by rw [show stepQ (-3) * ((136 - 128 : Int) : Rat) = 1 from by decide +kernel] at h; exact h
 fr1 := fun W hW => from_calls _ _ W hW (by decide +kernel) (by decide)
 fr2 := fun W hW => from_calls _ _ W hW (by decide +kernel) (by decide)
 ne := by decide
 bl := ⟨by unfold BdK; decide +kernel, by unfold BdK; decide +kernel⟩
 bh := ⟨by unfold BdK; decide +kernel, by unfold BdK; decide +kernel⟩
 b1 := ⟨by unfold BdK; decide +kernel, by unfold BdK; decide +kernel⟩
 b2 := ⟨by unfold BdK; decide +kernel, by unfold BdK; decide +kernel⟩
 hne := by decide +kernel
 hg := by decide +kernel
 ho := by decide +kernel
 gpos := by decide +kernel
 gs := by unfold SmF Sm; decide +kernel
 os := by unfold SmF Sm; decide +kernel
theorem cal_text : rawText 2 = ⟨#[50]⟩ ∧ rawText ((1 : Rat) / 2) = ⟨#[49, 47, 50]⟩ := by constructor <;> kernel_rfl
theorem cal_aw (W : World) (he : Env W) : Calls Tryz.prog 53 #[.agg #[.int .i64 8, .int .i64 (-3), .int .i64 128, .string ⟨#[49]⟩, .string ⟨#[48]⟩], .agg #[.int .i64 128, .string ⟨#[49, 47, 50]⟩], .agg #[.int .i64 136, .string ⟨#[53, 47, 50]⟩]] W fun e w' => e = .returned (.tuple #[.agg #[.int .i64 8, .int .i64 (-3), .int .i64 128, .string ⟨#[50]⟩, .string ⟨#[49, 47, 50]⟩], .int .i64 0]) ∧ New W w' :=
 (Calibrated_walk _ _ _ _ _ _ _ _ _ _ _ _ _ _ _ cal_ok W he).mono fun e w' h => by unfold CalPost at h; rw [cal_text.1, cal_text.2] at h; exact h
theorem true_aw (W : World) (he : Env W) : Calls Tryz.prog 55 #[.agg #[.int .i64 8, .int .i64 (-3), .int .i64 128, .string ⟨#[50]⟩, .string ⟨#[49]⟩], .int .i64 129] W fun e w' => e = .returned (.tuple #[.agg #[.string ⟨#[57, 47, 56]⟩, .string ⟨#[49, 49, 47, 56]⟩], .int .i64 0]) ∧ New W w' :=
 (true_mid _ 8 (-3) 128 ⟨#[50]⟩ ⟨#[49]⟩ 129 (nomQ (-3) 128 129 - halfQ (-3)) (nomQ (-3) 128 129 + halfQ (-3)) 2 1 ⟨by unfold BdK; decide +kernel, by unfold BdK; decide +kernel⟩ ⟨by unfold BdK; decide +kernel, by unfold BdK; decide +kernel⟩ (by unfold SmF Sm; decide +kernel) (by unfold SmF Sm; decide +kernel) W he rfl
  (by decide +kernel) ⟨by unfold BdK; decide +kernel, by unfold BdK; decide +kernel⟩ (by decide) (by decide +kernel) ⟨by unfold BdK; decide +kernel, by unfold BdK; decide +kernel⟩ (by decide) (fun W' he' => ends_mid adc_two 129 (by decide) (by decide) (by decide) (by decide) W' he')).mono fun e w' h => by unfold SpanPost at h; rw [true_val] at h; exact h
theorem interval_aw (W : World) (he : Env W) : Calls Tryz.prog 56 #[.agg #[.int .i64 8, .int .i64 (-3), .int .i64 128, .string ⟨#[50]⟩, .string ⟨#[49]⟩], .int .i64 0] W fun e w' => e = .returned (.tuple #[.agg #[.string ⟨#[]⟩, .string ⟨#[]⟩], .int .i64 15]) ∧ New W w' :=
 interval_clip _ 8 (-3) 128 ⟨#[50]⟩ ⟨#[49]⟩ 0 (nomQ (-3) 128 0 - halfQ (-3)) (nomQ (-3) 128 0 + halfQ (-3)) 15 (by decide) W he rfl (fun W' he' => ends_zero adc_two W' he')
theorem dig_aw (W : World) (a : Option Addr) (cap : Nat) (hr : RdL W a (flts awDs)) : Calls Tryz.prog 13 #[.slice a 6 cap, .agg #[.float .f32 0, .float .f32 1065353216], .bool false] W (RowPost W 4 (bools [false, true, true, false, false, true]) 0) := by
 have h := digital_ok a cap awDs 0 1065353216 false W (by decide) hr dig_err
 rw [dig_val] at h
 exact h
theorem chg_aw (W : World) (a : Option Addr) (cap : Nat) (hr : RdL W a (bools [false, true, true, false, false, true])) : Calls Tryz.prog 15 #[.slice a 6 cap, .bool false] W (RowPost W 3 (ints [1, 3, 5]) 0) := by
 have h := changes_ok a cap [false, true, true, false, false, true] false W (by decide) hr
 rw [chg_val] at h
 exact h
theorem words_aw (W : World) (L cap : Nat) (rv : List Value) (hr : RdLL W (some ⟨L, 0, none⟩) rv [bools [true, false, true], bools [true, true, false]]) : Calls Tryz.prog 28 #[.slice (some ⟨L, 0, none⟩) 2 cap] W (RowPost W 70 (words [3, 2, 1]) 0) := by
 have h := Words_ok L cap 3 rv [[true, false, true], [true, true, false]] W hr (by decide) (by decide) (by decide) (by decide)
 rw [words_val] at h
 exact h
theorem blocks_aw (W : World) (a : Option Addr) (cap : Nat) (hr : RdL W a (words [3, 2, 1])) : Calls Tryz.prog 37 #[.slice a 3 cap] W (RowPostS W 71 16 1 (words [3, 2, 1, 0, 0, 0, 0, 0, 0, 0, 0, 0, 0, 0, 0, 0]) 0) := by
 have h := Blocks_ok a cap [3, 2, 1] W (by decide) hr
 rw [show [3, 2, 1].length = 3 from rfl, blocks_val.1, Nat.mul_one, blocks_val.2] at h
 exact h
theorem al_aw (W : World) (a b : Option Addr) (cap cap' : Nat) (rv : List Value) (hr : RdLL W a rv (awRs.map flts)) (hs : RdL W b (ints [1, 0])) : Calls Tryz.prog 24 #[.slice a 2 cap, .slice b 2 cap'] W fun e w' => ∃ v, e = .returned (.tuple #[v, .int .i64 0]) ∧ New W w' ∧ RowsOf w' W.heap.size 22 23 v ([[1073741824, 1077936128, 1082130432], [1073741824, 1077936128, 1082130432]].map flts) := by
 have h := Aligned_ok a b cap cap' rv awRs [1, 0] W hr hs (by decide) (by decide) rfl al_ok (by
  intro k h
  match k, h with
  | 0, _ => show -1000 ≤ ([1, 0] : List Int)[0]'(by decide) ∧ ([1, 0] : List Int)[0]'(by decide) ≤ 1000; decide
  | 1, _ => show -1000 ≤ ([1, 0] : List Int)[1]'(by decide) ∧ ([1, 0] : List Int)[1]'(by decide) ≤ 1000; decide) al_val.1
 rw [al_val.2] at h
 exact h
theorem block_aw (W : World) (a : Option Addr) (cap : Nat) : Calls Tryz.prog 36 #[.slice a 3 cap] W fun e w' => e = .returned (.tuple #[.agg (Array.replicate 16 (.int .u16 0)), .int .i64 2]) ∧ New W w' :=
 block_bad a 3 cap W (by decide) (by decide)
end Go.Proofs.YtlfnibjmkfldgaaGreatDoor
namespace Go.Proofs.YtlfnibjmkfldgaaGreatDoor
open Go.RowKit Big
theorem RowPost.rd {w w' : World} {e : TypeId} {xs : List Value} {n : Int} {en : Ending} (h : RowPost w e xs n en w') (m : Nat) (hm : xs.length = m) : ∃ (a : Option Addr) (cap : Nat), en = .returned (.tuple #[.slice a m cap, .int .i64 n]) ∧ New w w' ∧ RdL w' a xs := by
 obtain ⟨v, rfl, hn, ho⟩ := h
 obtain ⟨a, cap, rfl, hr, -⟩ := own_rd ho
 rw [hm]
 exact ⟨a, cap, rfl, hn, hr⟩
theorem RowPostS.rd {w w' : World} {e : TypeId} {S m : Nat} {xs : List Value} {n : Int} {en : Ending} (h : RowPostS w e S m xs n en w') : ∃ (a : Option Addr) (cap : Nat), en = .returned (.tuple #[.slice a m cap, .int .i64 n]) ∧ New w w' ∧ RdL w' a xs := by
 obtain ⟨v, rfl, hn, ho⟩ := h
 obtain ⟨a, cap, rfl, hr, -⟩ := own_rdS ho
 exact ⟨a, cap, rfl, hn, hr⟩
theorem Box.rdl {w : World} {B : Nat} {t : TypeId} {cs : Array Value} (h : Box w B t cs) : RdL w (some ⟨B, 0, none⟩) cs.toList := fun i hi => ⟨B, 0, rfl, by rw [Nat.zero_add, h.cell]; simp at hi; simp [hi]⟩
theorem eq_span_run (a b c d : ByteArray) (W : World) : (Op.equalIn 10000 94 (.agg #[.string a, .string b]) (.agg #[.string c, .string d])).run Tryz.prog W = .ok (a.toList == c.toList && b.toList == d.toList) W := by
 have hf : (Tryz.prog.fieldsOf 94).toList.length = 2 := by kernel_rfl
 rw [run_equalIn_struct (P := Tryz.prog) W 9999 94 #[.string a, .string b] #[.string c, .string d] (by kernel_rfl) (by kernel_rfl)]
 obtain ⟨f1, f2, hl⟩ : ∃ f1 f2, (Tryz.prog.fieldsOf 94).toList = [f1, f2] := by
  match h : (Tryz.prog.fieldsOf 94).toList, hf with
  | [a, b], _ => exact ⟨a, b, rfl⟩
 have e1 : (f1.name == "_") = false ∧ f1.type = 89 ∧ f1.offset = 0 := by
  have : (Tryz.prog.fieldsOf 94).toList[0]? = some f1 := by rw [hl]; rfl
  have h2 : (Tryz.prog.fieldsOf 94).toList[0]?.map (fun f => (f.name == "_", f.type, f.offset)) = some (false, 89, 0) := by kernel_rfl
  rw [this] at h2
  simpa using h2
 have e2 : (f2.name == "_") = false ∧ f2.type = 89 ∧ f2.offset = 1 := by
  have : (Tryz.prog.fieldsOf 94).toList[1]? = some f2 := by rw [hl]; rfl
  have h2 : (Tryz.prog.fieldsOf 94).toList[1]?.map (fun f => (f.name == "_", f.type, f.offset)) = some (false, 89, 1) := by kernel_rfl
  rw [this] at h2
  simpa using h2
 rw [hl]
 have hu : Tryz.prog.underlying 89 = some .string := Tryz.underlying89
 have hpk : Tryz.prog.plainKey 89 = true := by kernel_rfl
 have hp1 : ∀ (x y : ByteArray), (part 89 #[.string x, .string y] 0).run Tryz.prog W = .ok (.string x) W := fun x y => run_part_plain W hpk rfl
 have hp2 : ∀ (x y : ByteArray), (part 89 #[.string x, .string y] 1).run Tryz.prog W = .ok (.string y) W := fun x y => run_part_plain W hpk rfl
 have n1 : f1.name ≠ "_" := by simpa using e1.1
 have n2 : f2.name ≠ "_" := by simpa using e2.1
 unfold Op.eqFields
 rw [if_pos n1, e1.2.1, e1.2.2]
 simp only [Sem.run_bind, hp1, Result.andThen_ok, run_equalIn_string W 9998 89 a c hu]
 unfold Op.eqFields
 rw [if_pos n2, e2.2.1, e2.2.2]
 cases hac : (a.toList == c.toList)
 ·simp
 ·simp only [Bool.not_true, Bool.false_eq_true, if_false, Bool.true_and, Sem.run_bind, hp2, Result.andThen_ok, run_equalIn_string W 9998 89 b d hu]
  unfold Op.eqFields
  cases hbd : (b.toList == d.toList) <;> simp
theorem neq_span (a b : ByteArray) (W : World) : (binOp .neq 94 (.agg #[.string a, .string b]) (.agg #[.string a, .string b])).run Tryz.prog W = .ok (.bool false) W := by
 rw [run_neq_struct, eq_span_run]; simp
theorem eql_span (a b : ByteArray) (W : World) : (binOp .eql 94 (.agg #[.string a, .string b]) (.agg #[.string a, .string b])).run Tryz.prog W = .ok (.bool true) W := by
 rw [run_eql_struct, eq_span_run]; simp
end Go.Proofs.YtlfnibjmkfldgaaGreatDoor
namespace Go.Proofs.YtlfnibjmkfldgaaGreatDoor
open Go
def HasL (T : Array Value) : List (Nat × Value) → Prop
 | [] => True
 | p :: l => T[p.1]? = some p.2 ∧ HasL T l
def Has (N : Nat) (a : Act) (l : List (Nat × Value)) : Prop := a.tmps.size = N ∧ a.defers = [] ∧ HasL a.tmps l
theorem HasL.put {T : Array Value} {d : Nat} {v : Value} : ∀ {l : List (Nat × Value)}, HasL T l → (l.all fun p => d != p.1) = true → HasL (T.setIfInBounds d v) l
 | [], _, _ => trivial
 | p :: l, h, hf => by
  simp only [List.all_cons, Bool.and_eq_true, bne_iff_ne, ne_eq] at hf
  refine ⟨?_, HasL.put h.2 hf.2⟩
  rw [Array.getElem?_setIfInBounds_ne hf.1]
  exact h.1
theorem Has.put {N : Nat} {a : Act} {l : List (Nat × Value)} {d : Nat} {v : Value} (h : Has N a l) (hd : d < N) (hf : (l.all fun p => d != p.1) = true) : Has N (a.put (some d) v) ((d, v) :: l) := by
 refine ⟨by show (a.tmps.setIfInBounds d v).size = N; rw [Array.size_setIfInBounds]; exact h.1, h.2.1, ?_, HasL.put h.2.2 hf⟩
 show (a.tmps.setIfInBounds d v)[d]? = some v
 rw [Array.getElem?_setIfInBounds_self_of_lt (by rw [h.1]; exact hd)]
theorem HasL.get {T : Array Value} : ∀ {l : List (Nat × Value)} {k s : Nat} {v : Value}, HasL T l → l[k]? = some (s, v) → T[s]? = some v
 | [], _, _, _, _, h => by simp at h
 | p :: l, 0, _, _, h, e => by simp at e; subst e; exact h.1
 | p :: l, k + 1, _, _, h, e => HasL.get h.2 (by simpa using e)
theorem Has.get {N : Nat} {a : Act} {l : List (Nat × Value)} (h : Has N a l) (k : Nat) {s : Nat} {v : Value} (e : l[k]? = some (s, v)) : a.tmps[s]? = some v := HasL.get h.2.2 e
theorem getD_of {T : Array Value} {s : Nat} {v : Value} (h : T[s]? = some v) : T.getD s undef = v := by
 rw [Array.getD_eq_getD_getElem?, h]; rfl
section
variable {P : Program} {ops : Array Oper} {Q : Exit → Act → World → Prop} {md : Region.Mode} {S : World → Prop}
theorem big_start {c : Code} {a : Act} {w : World} (N : Nat) (l : List (Nat × Value)) (h : Has N a l) (k : ∀ A, Has N A l → Code.wp P c Q A w) : Code.wp P c Q a w := k a h
theorem wanted_plain {o : Oper} {f : Nat → Option Bool} (h : o.guard = none) : Region.wanted o f = true := by
 unfold Region.wanted; rw [h]
theorem wanted_by {o : Oper} {T : Array Value} {j dj : Nat} {b : Bool} (h : o.guard = some (j, b)) (hj : (ops[j]?).bind (·.dst) = some dj) (e : T[dj]? = some (.bool b)) : Region.wanted o (yielded ops T) = true := by
 unfold Region.wanted yielded; rw [h]; simp [hj, e]
theorem stepT {N d n : Nat} (i : Nat) {oi : Oper} {v : Value} {fuel : Nat} {listed : Array Bool} {a : Act} {w : World} {l : List (Nat × Value)} (hi : ops[i]? = some oi) (hB : takeB md ops n listed i = true)
  (hQ : ∀ c a w, Q (.panic c) (a.put oi.dst v) w → Q (.panic c) a w) (hS : S w) (HA : Has N a l) (hd : oi.dst = some d) (hN : d < N) (hf : (l.all fun p => d != p.1) = true)
  (hw : Region.wanted oi (yielded ops a.tmps) = true) (hy : ∀ W, S W → (execOp a.eval oi).run P W = .ok (.value v) W)
  (h : ∀ A, Has N A ((d, v) :: l) → wpT P md ops Q S n fuel (listed.setIfInBounds i true) A w) : wpT P md ops Q S n (fuel + 1) listed a w :=
 wpT_take i hi hB hQ hS (Or.inl ⟨hw, hy⟩) (h _ (by rw [hd]; exact HA.put hN hf))
theorem loudT {n : Nat} (i : Nat) {oi : Oper} {fuel : Nat} {listed : Array Bool} {a : Act} {w : World} (hi : ops[i]? = some oi) (hr : Region.ready md ops listed = [i]) (hw : Region.wanted oi (yielded ops a.tmps) = true)
  (h : ∀ K' : Act → World → Prop, Shut (∀ a w, (i < n → S w) → wpT P md ops Q S n fuel (listed.setIfInBounds i true) a w → K' a w) → Oper.wp P oi a w K' Q) :
  wpT P md ops Q S n (fuel + 1) listed a w :=
 wpT_one i hi hr fun K' hK => by rw [if_pos hw]; exact h K' hK
theorem putT {N d n fuel : Nat} {v : Value} {listed : Array Bool} {a : Act} {w : World} {l : List (Nat × Value)} (HA : Has N a l) (hN : d < N) (hf : (l.all fun p => d != p.1) = true)
  (h : ∀ A, Has N A ((d, v) :: l) → wpT P md ops Q S n fuel listed A w) : wpT P md ops Q S n fuel listed (a.put (some d) v) w := h _ (HA.put hN hf)
end
end Go.Proofs.YtlfnibjmkfldgaaGreatDoor
