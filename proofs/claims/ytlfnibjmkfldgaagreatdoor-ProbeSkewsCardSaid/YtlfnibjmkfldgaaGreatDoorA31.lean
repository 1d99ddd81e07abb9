/- Part A31. -/
import Derived.Deep.DeepCutAuto
import Derived.OpenShut
import Derived.WideShapes
import Derived.Deep.Slices
import Derived.Laws.Cover2
import Derived.Carry
import Derived.RowKit
import Derived.Lay
import Derived.Shelf.Vars
import Derived.Stop.LaidErr
import Derived.Stop.Joined
import Derived.LaidMore
import Derived.ProofKit
import Derived.Lib.SmallJoins
import Derived.Test.YtlfnibjmkfldgaaGreatDoorTie
import Derived.Test.YtlfnibjmkfldgaaGreatDoorCards
import Derived.Test.YtlfnibjmkfldgaaGreatDoorA13
import Derived.Test.YtlfnibjmkfldgaaGreatDoorA24
import Derived.Test.YtlfnibjmkfldgaaGreatDoorA30
namespace Go.Proofs.YtlfnibjmkfldgaaGreatDoor
open Go.RowKit Big
set_option maxRecDepth 100000 in
set_option maxHeartbeats 4000000 in
theorem awake_calls (w : World) (he : Env w) : Calls Tryz.prog 12 #[] w fun e w' => e = .returned (.bool true) ∧ New w w' := by
 have HE := Lib.hid he
 clear he
 go_enter Tryz.func12, Tryz.ntmps12
 go_wp2_with fail
 refine (sample_calls _).mono ?_
 rintro e w1 ⟨rfl, hn⟩
 have HSZ := Lib.hid hn.size
 have HN := Lib.hid hn
 clear hn
 go_wp2_with fail
 have HN0 := HN
 clear HN
 have BA := Lib.hid ((Box.alloc w1 (w1.heap.size) 91 #[.int .i64 8, .int .i64 (-3), .int .i64 128, .string ⟨#[49]⟩, .string ⟨#[48]⟩] (by simp)).new (New.refl _))
 have HN := Lib.hid ((New.refl w1).alloc (.cells #[.int .i64 8, .int .i64 (-3), .int .i64 128, .string ⟨#[49]⟩, .string ⟨#[48]⟩] 91))
 have HN_ := HN0.out.trans HN.out
 clear HN HN0
 have HN := Lib.hid HN_
 clear HN_
 refine (full_aw _ (HE.out.new HN.out)).mono ?_
 rintro e w2 ⟨rfl, hn⟩
 replace BA := Lib.hid (BA.out.new hn)
 replace HN := Lib.hid (HN.out.trans hn)
 clear hn
 obtain ⟨⟨pa0, pa1, pa2, pa3, pa4⟩, pa5⟩ := BA.out.five
 go_wp2_with fail
 clear pa0 pa1 pa2 pa3 pa4 pa5
 have HN0 := HN
 clear HN
 have BF := Lib.hid ((Box.alloc w2 (w2.heap.size) 94 #[.string ⟨#[45, 49, 54]⟩, .string ⟨#[49, 50, 55, 47, 56]⟩] (by simp)).new (New.refl _))
 have HN := Lib.hid ((New.refl w2).alloc (.cells #[.string ⟨#[45, 49, 54]⟩, .string ⟨#[49, 50, 55, 47, 56]⟩] 94))
 replace BA := Lib.hid (BA.out.new HN.out)
 have HN_ := HN0.out.trans HN.out
 clear HN HN0
 have HN := Lib.hid HN_
 clear HN_
 refine (code_aw _ (HE.out.new HN.out)).mono ?_
 rintro e w3 ⟨rfl, hn⟩
 replace BA := Lib.hid (BA.out.new hn)
 replace BF := Lib.hid (BF.out.new hn)
 replace HN := Lib.hid (HN.out.trans hn)
 clear hn
 obtain ⟨⟨pa0, pa1, pa2, pa3, pa4⟩, pa5⟩ := BA.out.five
 go_wp2_with fail
 clear pa0 pa1 pa2 pa3 pa4 pa5
 refine (volts_aw _ (HE.out.new HN.out)).mono ?_
 rintro e w4 ⟨rfl, hn⟩
 replace BA := Lib.hid (BA.out.new hn)
 replace BF := Lib.hid (BF.out.new hn)
 replace HN := Lib.hid (HN.out.trans hn)
 clear hn
 obtain ⟨⟨pa0, pa1, pa2, pa3, pa4⟩, pa5⟩ := BA.out.five
 go_wp2_with fail
 clear pa0 pa1 pa2 pa3 pa4 pa5
 have HN0 := HN
 clear HN
 have BV := Lib.hid ((Box.alloc w4 (w4.heap.size) 89 #[.string ⟨#[45, 50, 48]⟩, .string ⟨#[48]⟩, .string ⟨#[49, 47, 49, 48]⟩, .string ⟨#[50, 48]⟩, .string ⟨#[51, 48]⟩] (by simp)).new (New.refl _))
 have HN := Lib.hid ((New.refl w4).alloc (.cells #[.string ⟨#[45, 50, 48]⟩, .string ⟨#[48]⟩, .string ⟨#[49, 47, 49, 48]⟩, .string ⟨#[50, 48]⟩, .string ⟨#[51, 48]⟩] 89))
 replace BA := Lib.hid (BA.out.new HN.out)
 replace BF := Lib.hid (BF.out.new HN.out)
 have HN_ := HN0.out.trans HN.out
 clear HN HN0
 have HN := Lib.hid HN_
 clear HN_
 refine (sampled_aw _ (HE.out.new HN.out) _ _ BV.out.rdl).mono ?_
 intro e w5 h
 obtain ⟨a5, c5, rfl, hn, hr5⟩ := h.rd 5 rfl
 clear h
 replace BA := Lib.hid (BA.out.new hn)
 replace BF := Lib.hid (BF.out.new hn)
 replace HN := Lib.hid (HN.out.trans hn)
 clear hn
 clear BV
 have HR5 := Lib.hid hr5
 clear hr5
 obtain ⟨⟨pa0, pa1, pa2, pa3, pa4⟩, pa5⟩ := BA.out.five
 go_wp2_with fail
 clear pa0 pa1 pa2 pa3 pa4 pa5
 refine (codes_aw _ (HE.out.new HN.out) _ _ HR5.out).mono ?_
 intro e w6 h
 obtain ⟨a6, c6, rfl, hn, hr6⟩ := h.rd 5 rfl
 clear h
 replace BA := Lib.hid (BA.out.new hn)
 replace BF := Lib.hid (BF.out.new hn)
 replace HR5 := Lib.hid (HR5.out.new hn)
 replace HN := Lib.hid (HN.out.trans hn)
 clear hn
 have HR6 := Lib.hid hr6
 clear hr6
 obtain ⟨⟨pa0, pa1, pa2, pa3, pa4⟩, pa5⟩ := BA.out.five
 go_wp2_with fail
 clear pa0 pa1 pa2 pa3 pa4 pa5
 refine (clipped_aw _ (HE.out.new HN.out) _ _ HR5.out).mono ?_
 intro e w7 h
 obtain ⟨a7, c7, rfl, hn, hr7⟩ := h.rd
 clear h
 replace BA := Lib.hid (BA.out.new hn)
 replace BF := Lib.hid (BF.out.new hn)
 replace HR6 := Lib.hid (HR6.out.new hn)
 replace HN := Lib.hid (HN.out.trans hn)
 clear hn
 have HR7 := Lib.hid hr7
 clear hr7
 obtain ⟨⟨pa0, pa1, pa2, pa3, pa4⟩, pa5⟩ := BA.out.five
 go_wp2_with fail
 clear pa0 pa1 pa2 pa3 pa4 pa5
 refine (cal_aw _ (HE.out.new HN.out)).mono ?_
 rintro e w8 ⟨rfl, hn⟩
 replace BA := Lib.hid (BA.out.new hn)
 replace BF := Lib.hid (BF.out.new hn)
 replace HR6 := Lib.hid (HR6.out.new hn)
 replace HR7 := Lib.hid (HR7.out.new hn)
 replace HN := Lib.hid (HN.out.trans hn)
 clear hn
 obtain ⟨pf0, pf1, pf2, pf3, pf4⟩ := BF.out.two
 have hns := fun W => neq_span ⟨#[45, 49, 54]⟩ ⟨#[49, 50, 55, 47, 56]⟩ W
 have hfo : FloatKind.f32.format.order 1048576000 1048576000 = some Ordering.eq := by decide +kernel
 go_wp2_with fail
 clear hfo hns
 clear pf0 pf1 pf2 pf3 pf4
 have HN0 := HN
 clear HN
 have BC := Lib.hid ((Box.alloc w8 (w8.heap.size) 91 #[.int .i64 8, .int .i64 (-3), .int .i64 128, .string ⟨#[50]⟩, .string ⟨#[49, 47, 50]⟩] (by simp)).new ((New.refl _).alloc (.cells #[.int .i64 0, .int .i64 128, .int .i64 129, .int .i64 255, .int .i64 255] 3)))
 have BI := Lib.hid ((Box.alloc (w8.alloc (.cells #[.int .i64 8, .int .i64 (-3), .int .i64 128, .string ⟨#[50]⟩, .string ⟨#[49, 47, 50]⟩] 91)) (w8.heap.size + 1) 3 #[.int .i64 0, .int .i64 128, .int .i64 129, .int .i64 255, .int .i64 255] (by simp)).new (New.refl _))
 have HN := Lib.hid (((New.refl w8).alloc (.cells #[.int .i64 8, .int .i64 (-3), .int .i64 128, .string ⟨#[50]⟩, .string ⟨#[49, 47, 50]⟩] 91)).alloc (.cells #[.int .i64 0, .int .i64 128, .int .i64 129, .int .i64 255, .int .i64 255] 3))
 replace BA := Lib.hid (BA.out.new HN.out)
 replace HR6 := Lib.hid (HR6.out.new HN.out)
 replace HR7 := Lib.hid (HR7.out.new HN.out)
 have HN_ := HN0.out.trans HN.out
 clear HN HN0
 have HN := Lib.hid HN_
 clear HN_
 clear BF
 refine (same_ints a6 (some ⟨w8.heap.size + 1, 0, none⟩) c6 5 [0, 128, 129, 255, 255] [0, 128, 129, 255, 255] _ (by decide) rfl HR6.out BI.out.rdl (by intro k h h'; simp)).mono ?_
 rintro e w9 ⟨rfl, hn⟩
 clear HR6 BI
 replace BA := Lib.hid (BA.out.new hn)
 replace BC := Lib.hid (BC.out.new hn)
 replace HR7 := Lib.hid (HR7.out.new hn)
 replace HN := Lib.hid (HN.out.trans hn)
 clear hn
 go_wp2_with fail
 have HN0 := HN
 clear HN
 have BP := Lib.hid ((Box.alloc w9 (w9.heap.size) 55 #[.int .i64 0, .int .i64 1, .int .i64 3, .int .i64 5] (by simp)).new (New.refl _))
 have HN := Lib.hid ((New.refl w9).alloc (.cells #[.int .i64 0, .int .i64 1, .int .i64 3, .int .i64 5] 55))
 replace BA := Lib.hid (BA.out.new HN.out)
 replace BC := Lib.hid (BC.out.new HN.out)
 replace HR7 := Lib.hid (HR7.out.new HN.out)
 have HN_ := HN0.out.trans HN.out
 clear HN HN0
 have HN := Lib.hid HN_
 clear HN_
 refine (same_pairs a7 (some ⟨w9.heap.size, 0, none⟩) c7 2 [(0, 1), (3, 5)] _ (by decide) HR7.out BP.out.rdl).mono ?_
 rintro e w10 ⟨rfl, hn⟩
 clear HR7 BP
 replace BA := Lib.hid (BA.out.new hn)
 replace BC := Lib.hid (BC.out.new hn)
 replace HN := Lib.hid (HN.out.trans hn)
 clear hn
 obtain ⟨⟨pa0, pa1, pa2, pa3, pa4⟩, pa5⟩ := BA.out.five
 obtain ⟨⟨pc0, pc1, pc2, pc3, pc4⟩, pc5⟩ := BC.out.five
 have fz3 := BA.out.frozen 3
 have fz4 := BA.out.frozen 4
 go_wp2_with fail
 clear fz3 fz4
 clear pa0 pa1 pa2 pa3 pa4 pa5
 clear pc0 pc1 pc2 pc3 pc4 pc5
 clear BC
 have BA2_ : Box ((w10.setCell ⟨w1.heap.size, 3, none⟩ (.string ⟨#[50]⟩)).setCell ⟨w1.heap.size, 4, none⟩ (.string ⟨#[49]⟩)) w1.heap.size 91 #[.int .i64 8, .int .i64 (-3), .int .i64 128, .string ⟨#[50]⟩, .string ⟨#[49]⟩] := (BA.out.set 3 _).set 4 _
 have HN_ := (HN.out.setCell (p := ⟨w1.heap.size, 3, none⟩) HSZ.out (.string ⟨#[50]⟩)).setCell (p := ⟨w1.heap.size, 4, none⟩) HSZ.out (.string ⟨#[49]⟩)
 clear BA HN
 have BA := Lib.hid BA2_
 have HN := Lib.hid HN_
 clear BA2_ HN_
 refine (true_aw _ (HE.out.new HN.out)).mono ?_
 rintro e w11 ⟨rfl, hn⟩
 replace BA := Lib.hid (BA.out.new hn)
 replace HN := Lib.hid (HN.out.trans hn)
 clear hn
 obtain ⟨⟨pa0, pa1, pa2, pa3, pa4⟩, pa5⟩ := BA.out.five
 go_wp2_with fail
 clear pa0 pa1 pa2 pa3 pa4 pa5
 have HN0 := HN
 clear HN
 have BT := Lib.hid ((Box.alloc w11 (w11.heap.size) 94 #[.string ⟨#[57, 47, 56]⟩, .string ⟨#[49, 49, 47, 56]⟩] (by simp)).new (New.refl _))
 have HN := Lib.hid ((New.refl w11).alloc (.cells #[.string ⟨#[57, 47, 56]⟩, .string ⟨#[49, 49, 47, 56]⟩] 94))
 replace BA := Lib.hid (BA.out.new HN.out)
 have HN_ := HN0.out.trans HN.out
 clear HN HN0
 have HN := Lib.hid HN_
 clear HN_
 refine (interval_aw _ (HE.out.new HN.out)).mono ?_
 rintro e w12 ⟨rfl, hn⟩
 clear BA
 replace BT := Lib.hid (BT.out.new hn)
 replace HN := Lib.hid (HN.out.trans hn)
 clear hn
 go_wp2_with fail
 have HN0 := HN
 clear HN
 have BE := Lib.hid ((Box.alloc w12 (w12.heap.size) 94 #[.string ⟨#[]⟩, .string ⟨#[]⟩] (by simp)).new ((New.refl _).alloc (.cells #[.float .f32 0, .float .f32 1065353216, .float .f32 1056964608, .float .f32 0, .float .f32 1056964608, .float .f32 1065353216] 23)))
 have BS := Lib.hid ((Box.alloc (w12.alloc (.cells #[.string ⟨#[]⟩, .string ⟨#[]⟩] 94)) (w12.heap.size + 1) 23 #[.float .f32 0, .float .f32 1065353216, .float .f32 1056964608, .float .f32 0, .float .f32 1056964608, .float .f32 1065353216] (by simp)).new (New.refl _))
 have HN := Lib.hid (((New.refl w12).alloc (.cells #[.string ⟨#[]⟩, .string ⟨#[]⟩] 94)).alloc (.cells #[.float .f32 0, .float .f32 1065353216, .float .f32 1056964608, .float .f32 0, .float .f32 1056964608, .float .f32 1065353216] 23))
 replace BT := Lib.hid (BT.out.new HN.out)
 have HN_ := HN0.out.trans HN.out
 clear HN HN0
 have HN := Lib.hid HN_
 clear HN_
 refine (dig_aw _ _ _ BS.out.rdl).mono ?_
 intro e w13 h
 obtain ⟨a13, c13, rfl, hn, hr13⟩ := h.rd 6 rfl
 clear h BE BS
 replace BT := Lib.hid (BT.out.new hn)
 replace HN := Lib.hid (HN.out.trans hn)
 clear hn
 have HR13 := Lib.hid hr13
 clear hr13
 go_wp2_with fail
 refine (chg_aw _ _ _ HR13.out).mono ?_
 intro e w14 h
 obtain ⟨a14, c14, rfl, hn, hr14⟩ := h.rd 3 rfl
 clear h HR13
 replace BT := Lib.hid (BT.out.new hn)
 replace HN := Lib.hid (HN.out.trans hn)
 clear hn
 have HR14 := Lib.hid hr14
 clear hr14
 go_wp2_with fail
 have HN0 := HN
 clear HN
 have B1 := Lib.hid ((Box.alloc w14 (w14.heap.size) 4 #[.bool true, .bool false, .bool true] (by simp)).new (((New.refl _).alloc (.cells #[.bool true, .bool true, .bool false] 4)).alloc (.cells #[.slice (some ⟨w14.heap.size, 0, none⟩) 3 3, .slice (some ⟨w14.heap.size + 1, 0, none⟩) 3 3] 26)))
 have B2 := Lib.hid ((Box.alloc (w14.alloc (.cells #[.bool true, .bool false, .bool true] 4)) (w14.heap.size + 1) 4 #[.bool true, .bool true, .bool false] (by simp)).new ((New.refl _).alloc (.cells #[.slice (some ⟨w14.heap.size, 0, none⟩) 3 3, .slice (some ⟨w14.heap.size + 1, 0, none⟩) 3 3] 26)))
 have BL := Lib.hid ((Box.alloc ((w14.alloc (.cells #[.bool true, .bool false, .bool true] 4)).alloc (.cells #[.bool true, .bool true, .bool false] 4)) (w14.heap.size + 1 + 1) 26 #[.slice (some ⟨w14.heap.size, 0, none⟩) 3 3, .slice (some ⟨w14.heap.size + 1, 0, none⟩) 3 3] (by simp)).new (New.refl _))
 have HN := Lib.hid ((((New.refl w14).alloc (.cells #[.bool true, .bool false, .bool true] 4)).alloc (.cells #[.bool true, .bool true, .bool false] 4)).alloc (.cells #[.slice (some ⟨w14.heap.size, 0, none⟩) 3 3, .slice (some ⟨w14.heap.size + 1, 0, none⟩) 3 3] 26))
 replace BT := Lib.hid (BT.out.new HN.out)
 replace HR14 := Lib.hid (HR14.out.new HN.out)
 have HN_ := HN0.out.trans HN.out
 clear HN HN0
 have HN := Lib.hid HN_
 clear HN_
 refine (words_aw _ (w14.heap.size + 1 + 1) 2 _ (rdll_two BL.out.rdl B1.out.rdl B2.out.rdl (by decide) (by decide))).mono ?_
 intro e w15 h
 obtain ⟨a15, c15, rfl, hn, hr15⟩ := h.rd 3 rfl
 clear h B1 B2 BL
 replace BT := Lib.hid (BT.out.new hn)
 replace HR14 := Lib.hid (HR14.out.new hn)
 replace HN := Lib.hid (HN.out.trans hn)
 clear hn
 have HR15 := Lib.hid hr15
 clear hr15
 go_wp2_with fail
 refine (blocks_aw _ _ _ HR15.out).mono ?_
 intro e w16 h
 obtain ⟨a16, c16, rfl, hn, hr16⟩ := h.rd
 clear h
 replace BT := Lib.hid (BT.out.new hn)
 replace HR14 := Lib.hid (HR14.out.new hn)
 replace HR15 := Lib.hid (HR15.out.new hn)
 replace HN := Lib.hid (HN.out.trans hn)
 clear hn
 have HR16 := Lib.hid hr16
 clear hr16
 go_wp2_with fail
 have HN0 := HN
 clear HN
 have B1 := Lib.hid ((Box.alloc w16 (w16.heap.size) 23 #[.float .f32 1065353216, .float .f32 1073741824, .float .f32 1077936128, .float .f32 1082130432] (by simp)).new ((((New.refl _).alloc (.cells #[.float .f32 1073741824, .float .f32 1077936128, .float .f32 1082130432] 23)).alloc (.cells #[.slice (some ⟨w16.heap.size, 0, none⟩) 4 4, .slice (some ⟨w16.heap.size + 1, 0, none⟩) 3 3] 22)).alloc (.cells #[.int .i64 1, .int .i64 0] 3)))
 have B2 := Lib.hid ((Box.alloc (w16.alloc (.cells #[.float .f32 1065353216, .float .f32 1073741824, .float .f32 1077936128, .float .f32 1082130432] 23)) (w16.heap.size + 1) 23 #[.float .f32 1073741824, .float .f32 1077936128, .float .f32 1082130432] (by simp)).new (((New.refl _).alloc (.cells #[.slice (some ⟨w16.heap.size, 0, none⟩) 4 4, .slice (some ⟨w16.heap.size + 1, 0, none⟩) 3 3] 22)).alloc (.cells #[.int .i64 1, .int .i64 0] 3)))
 have BL := Lib.hid ((Box.alloc ((w16.alloc (.cells #[.float .f32 1065353216, .float .f32 1073741824, .float .f32 1077936128, .float .f32 1082130432] 23)).alloc (.cells #[.float .f32 1073741824, .float .f32 1077936128, .float .f32 1082130432] 23)) (w16.heap.size + 1 + 1) 22 #[.slice (some ⟨w16.heap.size, 0, none⟩) 4 4, .slice (some ⟨w16.heap.size + 1, 0, none⟩) 3 3] (by simp)).new ((New.refl _).alloc (.cells #[.int .i64 1, .int .i64 0] 3)))
 have BI := Lib.hid ((Box.alloc (((w16.alloc (.cells #[.float .f32 1065353216, .float .f32 1073741824, .float .f32 1077936128, .float .f32 1082130432] 23)).alloc (.cells #[.float .f32 1073741824, .float .f32 1077936128, .float .f32 1082130432] 23)).alloc (.cells #[.slice (some ⟨w16.heap.size, 0, none⟩) 4 4, .slice (some ⟨w16.heap.size + 1, 0, none⟩) 3 3] 22)) (w16.heap.size + 1 + 1 + 1) 3 #[.int .i64 1, .int .i64 0] (by simp)).new (New.refl _))
 have HN := Lib.hid (((((New.refl w16).alloc (.cells #[.float .f32 1065353216, .float .f32 1073741824, .float .f32 1077936128, .float .f32 1082130432] 23)).alloc (.cells #[.float .f32 1073741824, .float .f32 1077936128, .float .f32 1082130432] 23)).alloc (.cells #[.slice (some ⟨w16.heap.size, 0, none⟩) 4 4, .slice (some ⟨w16.heap.size + 1, 0, none⟩) 3 3] 22)).alloc (.cells #[.int .i64 1, .int .i64 0] 3))
 replace BT := Lib.hid (BT.out.new HN.out)
 replace HR14 := Lib.hid (HR14.out.new HN.out)
 replace HR15 := Lib.hid (HR15.out.new HN.out)
 replace HR16 := Lib.hid (HR16.out.new HN.out)
 have HN_ := HN0.out.trans HN.out
 clear HN HN0
 have HN := Lib.hid HN_
 clear HN_
 refine (al_aw _ _ _ 2 2 _ (rdll_two BL.out.rdl B1.out.rdl B2.out.rdl (by decide) (by decide)) BI.out.rdl).mono ?_
 rintro e w17 ⟨v17, rfl, hn, hrows⟩
 obtain ⟨a17, c17, vs17, rfl, hr17⟩ := hrows.rdll
 clear hrows B1 B2 BL BI
 replace BT := Lib.hid (BT.out.new hn)
 replace HR14 := Lib.hid (HR14.out.new hn)
 replace HR15 := Lib.hid (HR15.out.new hn)
 replace HR16 := Lib.hid (HR16.out.new hn)
 replace HN := Lib.hid (HN.out.trans hn)
 clear hn
 have HR17 := Lib.hid hr17
 clear hr17
 go_wp2_with fail
 refine (block_aw2 _ _ _).mono ?_
 rintro e w18 ⟨rfl, hn⟩
 replace BT := Lib.hid (BT.out.new hn)
 replace HR14 := Lib.hid (HR14.out.new hn)
 replace HR15 := Lib.hid (HR15.out.new hn)
 replace HR16 := Lib.hid (HR16.out.new hn)
 replace HR17 := Lib.hid (HR17.out.new hn)
 replace HN := Lib.hid (HN.out.trans hn)
 clear hn
 obtain ⟨b16, o16, rfl, h0, h1, h2, h3, h4, h5, h6, h7, h8, h9, h10, h11, h12, h13, h14, h15⟩ := rd_block HR16.out
 obtain ⟨b17, o17, a1, d1, a2, d2, rfl, hp1, hp2, hq1, hq2⟩ := HR17.out.two
 have HS_ : AwS w18 w11.heap.size b16 o16 b17 o17 a1 a2 d1 d2 := ⟨BT.out.cell 0, BT.out.cell 1, h0, h1, h2, h3, h4, h5, h6, h7, h8, h9, h10, h11, h12, h13, h14, h15, hp1, hp2⟩
 clear HR16 HR17 BT h0 h1 h2 h3 h4 h5 h6 h7 h8 h9 h10 h11 h12 h13 h14 h15 hp1 hp2
 have HQ1 := Lib.hid hq1
 have HQ2 := Lib.hid hq2
 have HS := Lib.hid HS_
 clear hq1 hq2 HS_
 go_upto_region 20 with (fail)
 have HN0 := HN
 clear HN
 have BK := Lib.hid ((Box.alloc w18 (w18.heap.size) 71 #[.int .u16 0, .int .u16 0, .int .u16 0, .int .u16 0, .int .u16 0, .int .u16 0, .int .u16 0, .int .u16 0, .int .u16 0, .int .u16 0, .int .u16 0, .int .u16 0, .int .u16 0, .int .u16 0, .int .u16 0, .int .u16 0] (by simp)).new (New.refl _))
 have HN := Lib.hid ((New.refl w18).alloc (.cells #[.int .u16 0, .int .u16 0, .int .u16 0, .int .u16 0, .int .u16 0, .int .u16 0, .int .u16 0, .int .u16 0, .int .u16 0, .int .u16 0, .int .u16 0, .int .u16 0, .int .u16 0, .int .u16 0, .int .u16 0, .int .u16 0] 71))
 replace HR14 := Lib.hid (HR14.out.new HN.out)
 replace HR15 := Lib.hid (HR15.out.new HN.out)
 replace HQ1 := Lib.hid (HQ1.out.new HN.out)
 replace HQ2 := Lib.hid (HQ2.out.new HN.out)
 replace HS := Lib.hid (HS.out.new HN.out)
 have HN_ := HN0.out.trans HN.out
 clear HN HN0
 have HN := Lib.hid HN_
 clear HN_
 refine awake_tail w _ _ w11.heap.size b16 o16 b17 o17 c14 c15 c16 c17 d1 d2 a14 a15 a1 a2 HN HR14 HR15 HQ1 HQ2 HS ?_ _ ?_
 ·exact ⟨rfl, rfl, rfl, rfl, rfl, rfl, rfl, rfl, rfl, rfl, rfl, rfl, rfl, rfl, rfl, trivial⟩
 ·assumption
end Go.Proofs.YtlfnibjmkfldgaaGreatDoor
namespace Go.Proofs.YtlfnibjmkfldgaaGreatDoor
open Go.RowKit Go.ChangeShapes Go.WideShapes Go.Deep
theorem exists_map {α β : Type} {f : α → β} : ∀ {vs : List β}, (∀ u ∈ vs, ∃ x, u = f x) → ∃ xs : List α, vs = xs.map f
 | [], _ => ⟨[], rfl⟩
 | u :: vs, h => by
  obtain ⟨x, hx⟩ := h u (by simp)
  obtain ⟨xs, hxs⟩ := exists_map (vs := vs) fun u hu => h u (by simp [hu])
  exact ⟨x :: xs, by rw [hx, hxs]; rfl⟩
section
variable {H : Type} {enc : TypeId × Value → H} {P : Program} {w : World} {base : Nat} {sp : Nat → Bool} {held : Bool}
theorem spot_none {a : Addr} {v : Value} (h : w.cell? a = some v) : a = ⟨a.block, a.off, none⟩ := by
 obtain ⟨b, o, s⟩ := a
 cases s with
 | none => rfl
 | some s =>
  unfold World.cell? at h
  split at h
  ·simp at h
  ·cases h
theorem rdl_fn {a : Addr} {len : Nat} {V : Nat → Value} (h : ∀ i, i < len → w.cell? (a.add i) = some (V i)) : RdL w (some a) ((List.range len).map V) := by
 intro i hi
 have hi' : i < len := by simpa using hi
 have h0 := h 0 (by omega)
 have e0 : a.add 0 = a := rfl
 rw [e0] at h0
 have ha := spot_none h0
 refine ⟨a.block, a.off, by rw [← ha], ?_⟩
 have h1 := h i hi'
 have e : a.add i = ⟨a.block, a.off + i, none⟩ := by
  unfold Addr.add
  split
  ·rename_i hz; rw [hz]; exact ha
  ·rfl
 rw [e] at h1
 rw [h1]
 simp
theorem in_slice1 {t e : TypeId} {fuel : Nat} {cs : List Value} {y : DataW H × List MemPlace} (ht : P.underlying t = some (.slice e)) (hc : P.cellsOf e = 1) (h : DataW.trod enc P w base sp held fuel t cs = some y) :
  ∃ (a : Option Addr) (cap : Nat) (vs : List Value), cs = [.slice a vs.length cap] ∧ RdL w a vs ∧ (a = none → cap = 0) ∧ vs.length ≤ cap ∧ cap ≤ maxLen ∧
   ∀ u ∈ vs, ∃ (n : Nat) (y : DataW H × List MemPlace), DataW.trod enc P w base sp held n e [u] = some y := by
 rcases open_slice1 ht hc h with ⟨h0, _⟩ | ⟨a, len, cap, m, n, V, D, Pl, h0, hb, hl, hm, hmm, _, hel⟩
 ·exact ⟨none, 0, [], h0, fun i hi => by simp at hi, fun _ => rfl, Nat.le_refl _, Nat.zero_le _, fun u hu => by simp at hu⟩
 ·have hlm : len ≤ m := by rw [hmm]; split <;> omega
  refine ⟨some a, cap, (List.range len).map V, by simpa using h0, rdl_fn fun i hi => (hel i (by omega)).1, (fun h => by cases h), by simpa using hl, hm, fun u hu => ?_⟩
  obtain ⟨i, hi, rfl⟩ := List.mem_map.1 hu
  exact ⟨n, _, (hel i (by have := List.mem_range.1 hi; omega)).2⟩
theorem slice_cells {t e : TypeId} {r : Reach} {b0 : Nat} {v : Value} (ht : P.underlying t = some (.slice e)) (hval : Value.okWide P w r b0 t v) : v.cells.toList = [v] := by
 obtain ⟨a, l, c, rfl⟩ := okWide_slice ht hval
 rfl
theorem trod_float {t : TypeId} {k : FloatKind} {fuel : Nat} {v : Value} {y : DataW H × List MemPlace} (ht : P.underlying t = some (.float k)) (h : DataW.trod enc P w base sp held fuel t [v] = some y) : ∃ b, v = .float k b := by
 cases fuel with
 | zero => simp [DataW.trod] at h
 | succ n =>
  cases v <;> simp [DataW.trod, ht] at h
  rename_i k' b
  exact ⟨b, by rw [h.1.1]⟩
theorem trod_int' {t : TypeId} {k : IntKind} {fuel : Nat} {v : Value} {y : DataW H × List MemPlace} (ht : P.underlying t = some (.int k)) (h : DataW.trod enc P w base sp held fuel t [v] = some y) : ∃ n, v = .int k n ∧ (Lit.int k n).wf = true := by
 obtain ⟨n, h1, _, hw⟩ := DataW.trod_int ht h
 exact ⟨n, by simpa using h1, hw⟩
theorem trod_bool' {t : TypeId} {fuel : Nat} {v : Value} {y : DataW H × List MemPlace} (ht : P.underlying t = some .bool) (h : DataW.trod enc P w base sp held fuel t [v] = some y) : ∃ b, v = .bool b := by
 obtain ⟨b, h1, _⟩ := DataW.trod_bool ht h
 exact ⟨b, by simpa using h1⟩
theorem in_floats {t e : TypeId} {r : Reach} {b0 : Nat} {v : Value} {d : DataW H} {p : List MemPlace} (ht : P.underlying t = some (.slice e)) (he : P.underlying e = some (.float .f32)) (hc : P.cellsOf e = 1) (hval : Value.okWide P w r b0 t v) (h : DataW.Trod enc P w base sp held t v d p) :
  ∃ (a : Option Addr) (cap : Nat) (xs : List Nat), v = .slice a xs.length cap ∧ RdL w a (flts xs) ∧ (a = none → cap = 0) ∧ xs.length ≤ cap ∧ cap ≤ maxLen := by
 obtain ⟨fuel, hf⟩ := h
 rw [slice_cells ht hval] at hf
 obtain ⟨a, cap, vs, h1, h2, h3, h4, h5, h6⟩ := in_slice1 ht hc hf
 obtain ⟨xs, rfl⟩ : ∃ xs, vs = flts xs := exists_map fun u hu => by
  obtain ⟨n, y, hy⟩ := h6 u hu
  exact trod_float he hy
 have hl : (flts xs).length = xs.length := by simp [flts]
 rw [hl] at h1 h4
 exact ⟨a, cap, xs, by simpa using h1, h2, h3, h4, h5⟩
theorem in_bools {t e : TypeId} {r : Reach} {b0 : Nat} {v : Value} {d : DataW H} {p : List MemPlace} (ht : P.underlying t = some (.slice e)) (he : P.underlying e = some .bool) (hc : P.cellsOf e = 1) (hval : Value.okWide P w r b0 t v) (h : DataW.Trod enc P w base sp held t v d p) :
  ∃ (a : Option Addr) (cap : Nat) (xs : List Bool), v = .slice a xs.length cap ∧ RdL w a (bools xs) ∧ (a = none → cap = 0) ∧ xs.length ≤ cap ∧ cap ≤ maxLen := by
 obtain ⟨fuel, hf⟩ := h
 rw [slice_cells ht hval] at hf
 obtain ⟨a, cap, vs, h1, h2, h3, h4, h5, h6⟩ := in_slice1 ht hc hf
 obtain ⟨xs, rfl⟩ : ∃ xs, vs = bools xs := exists_map fun u hu => by
  obtain ⟨n, y, hy⟩ := h6 u hu
  exact trod_bool' he hy
 have hl : (bools xs).length = xs.length := by simp [bools]
 rw [hl] at h1 h4
 exact ⟨a, cap, xs, by simpa using h1, h2, h3, h4, h5⟩
theorem in_ints {t e : TypeId} {r : Reach} {b0 : Nat} {v : Value} {d : DataW H} {p : List MemPlace} (ht : P.underlying t = some (.slice e)) (he : P.underlying e = some (.int .i64)) (hc : P.cellsOf e = 1) (hval : Value.okWide P w r b0 t v) (h : DataW.Trod enc P w base sp held t v d p) :
  ∃ (a : Option Addr) (cap : Nat) (xs : List Int), v = .slice a xs.length cap ∧ RdL w a (ints xs) ∧ (a = none → cap = 0) ∧ xs.length ≤ cap ∧ cap ≤ maxLen ∧ ∀ x ∈ xs, (Lit.int .i64 x).wf = true := by
 obtain ⟨fuel, hf⟩ := h
 rw [slice_cells ht hval] at hf
 obtain ⟨a, cap, vs, h1, h2, h3, h4, h5, h6⟩ := in_slice1 ht hc hf
 obtain ⟨xs, rfl⟩ : ∃ xs, vs = ints xs := exists_map fun u hu => by
  obtain ⟨n, y, hy⟩ := h6 u hu
  obtain ⟨x, hx, _⟩ := trod_int' he hy
  exact ⟨x, hx⟩
 have hl : (ints xs).length = xs.length := by simp [ints]
 rw [hl] at h1 h4
 refine ⟨a, cap, xs, by simpa using h1, h2, h3, h4, h5, fun x hx => ?_⟩
 obtain ⟨n, y, hy⟩ := h6 (.int .i64 x) (by simp [ints, hx])
 obtain ⟨x', e1, e2⟩ := trod_int' he hy
 injection e1 with _ e1
 rw [e1]; exact e2
end
theorem returns_and_shaped {H : Type} {enc : TypeId × Value → H} {a : Assume} {C : Checked} {os : Os} {f : FuncId} {fn : Func} {s : ChangeSpec} {conds : List PathCond} {apart fresh handsOn again : Bool} {X : World → Array Value → Prop}
  (hX : ∀ (w w' : World) (args : Array Value), w.heap = w'.heap → X w args → X w' args)
  (own : ownKnob C.prog.godebug = none) (started : os.Started) (noInit : C.prog.inits.idxOf? f = none) (hfn : C.prog.funcs[f]? = some fn)
  (witness : ∃ (w : World) (tape : Tape) (i : Input), w.os = os ∧ (w.forCall tape i).Shaped C.prog ∧ i.vars = [] ∧ Input.okWide C.prog (w.forCall tape i) .any w.heap.size f i ∧
   ((s.pre enc C.prog fn conds apart (w.forCall tape i).memory i.args ∧ X (w.forCall tape i).memory i.args) ∧ sizedMet enc C.prog fn (OpenSpec.ofChange s) apart (w.forCall tape i).memory i.args) ∧ a.holds C.prog (lone (Frame.enter C.prog f i.args .normal) [] (w.forCall tape i)))
  (contract : ∀ (W : World) (base : Nat) (args : Array Value) (ds gs : List (DataW H)) (before : List MemPlace),
   (∀ (j : Nat) t v, fn.params[j]? = some t → args[j]? = some v → Value.okWide C.prog W .any base t v) →
   DataW.Whole enc C.prog fn.params.toList s.vars apart W args.toList ds gs before → X W args → W.ShapedOpen C.prog →
   Calls C.prog f args W fun e W' => ∃ v, e = .returned v ∧ s.post enc C.prog fn apart fresh handsOn again W args v W') :
  ReturnsInHanded a C os f .any (fun w args => (s.pre enc C.prog fn conds apart w args ∧ X w args) ∧ sizedMet enc C.prog fn (OpenSpec.ofChange s) apart w args) (s.post enc C.prog fn apart fresh handsOn again) := by
 refine returnsInHanded_of_calls own started noInit witness ?_
 intro w tape i _ hsh _ hok hpre _
 obtain ⟨_, _, _, fn', hfn', _, _, _, _, hval⟩ := hok
 have e : fn' = fn := Option.some.inj (hfn'.symm.trans hfn)
 subst e
 obtain ⟨⟨⟨ds, gs, before, hw, _⟩, hx⟩, _⟩ := hpre
 have hw' := DataW.Whole.of_heap (w' := w.forCall tape i) (by rfl) hw
 refine (contract (w.forCall tape i) w.heap.size i.args ds gs before hval hw' (hX _ _ _ (by rfl) hx) hsh).mono fun e W' ⟨v, he, hp⟩ => ?_
 subst he
 exact ChangeSpec.post_blind hp
end Go.Proofs.YtlfnibjmkfldgaaGreatDoor
namespace Go.Proofs.YtlfnibjmkfldgaaGreatDoor
open Go.RowKit Go.ChangeShapes Go.WideShapes Go.Deep
theorem own : ownKnob Tryz.prog.godebug = none := by kernel_rfl
theorem laidOut : laidOutB Tryz.prog = true := by kernel_rfl
noncomputable def Listed : List (String × DataW Unit) := Rows.probeLinesRow.laid
set_option maxRecDepth 100000 in
theorem env_of {W : World} (h : laidMetH Tryz.prog Listed W) (hsh : W.ShapedOpen Tryz.prog) : Env W := by
 refine ⟨cell_of_shapedOpen_int hsh (g := 1) (t := 3) (zero := #[.int .i64 0]) (of_decide_eq_true (by kernel_rfl)) (by kernel_rfl) rfl (by kernel_rfl) (by kernel_rfl) Tryz.underlying3, ?_⟩
 rw [MakeChecks.laidMetH_plain _ _ _ (by kernel_rfl)] at h
 have h2 : laidMet Tryz.prog (("internal/strconv.uint64pow10", Rows.laid_internal_strconv_uint64pow10) :: Listed.drop 3) W := h.tail.tail
 have e : (Rows.laid_internal_strconv_uint64pow10 : DataW Unit) = Lib.tabData .u64 Lib.pow10Tab := by kernel_rfl
 rw [e] at h2
 exact Lib.tabIs_of_head (g := 6) (t := 268) (e := 191) (n := 20) (by kernel_rfl) (by kernel_rfl) Tryz.underlying268 Tryz.underlying191 (by kernel_rfl) (by kernel_rfl) h2
set_option maxRecDepth 100000 in
theorem witness_laid (os : Os) (args : Array Value) : laidMetH Tryz.prog Listed ((World.laidAll Tryz.prog os Listed).forCall (fun _ _ => 0) ⟨#[], args, []⟩).memory := by
 rw [MakeChecks.laidMetH_plain _ _ _ (by kernel_rfl)]
 exact laidMet_laidAll _ (by kernel_rfl) (by kernel_rfl)
end Go.Proofs.YtlfnibjmkfldgaaGreatDoor
