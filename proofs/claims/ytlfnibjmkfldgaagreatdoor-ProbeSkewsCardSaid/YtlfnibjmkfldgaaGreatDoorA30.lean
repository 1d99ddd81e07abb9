/- Part A30. -/
import Derived.Test.YtlfnibjmkfldgaaGreatDoorA04
import Derived.Test.YtlfnibjmkfldgaaGreatDoorA29
namespace Go.Proofs.YtlfnibjmkfldgaaGreatDoor
open Go.RowKit Big
theorem rdll_two {w : World} {a : Option Addr} {b1 b2 : Option Addr} {n1 n2 c1 c2 : Nat} {xs ys : List Value} (h : RdL w a [.slice b1 n1 c1, .slice b2 n2 c2]) (h1 : RdL w b1 xs) (h2 : RdL w b2 ys) (e1 : n1 = xs.length ∧ xs.length ≤ c1) (e2 : n2 = ys.length ∧ ys.length ≤ c2) : RdLL w a [.slice b1 n1 c1, .slice b2 n2 c2] [xs, ys] := by
 obtain ⟨rfl, l1⟩ := e1
 obtain ⟨rfl, l2⟩ := e2
 refine ⟨h, rfl, fun k v zs hk hx => ?_⟩
 match k, hk, hx with
 | 0, hk, hx =>
  simp at hk hx
  subst hk; subst hx
  exact ⟨_, _, rfl, h1, l1⟩
 | 1, hk, hx =>
  simp at hk hx
  subst hk; subst hx
  exact ⟨_, _, rfl, h2, l2⟩
 | k + 2, hk, hx => simp at hk
theorem block_aw2 (W : World) (a : Option Addr) (cap : Nat) : Calls Tryz.prog 36 #[.slice a 3 cap] W fun e w' => e = .returned (.tuple #[.agg #[.int .u16 0, .int .u16 0, .int .u16 0, .int .u16 0, .int .u16 0, .int .u16 0, .int .u16 0, .int .u16 0, .int .u16 0, .int .u16 0, .int .u16 0, .int .u16 0, .int .u16 0, .int .u16 0, .int .u16 0, .int .u16 0], .int .i64 2]) ∧ New W w' := block_aw W a cap
theorem u16_info : ∃ i, Tryz.prog.info? 70 = some i := by
 have h : (Tryz.prog.info? 70).isSome = true := by kernel_rfl
 exact Option.isSome_iff_exists.1 h
theorem eql_block (W : World) : (binOp .eql 71 (.agg #[.int .u16 3, .int .u16 2, .int .u16 1, .int .u16 0, .int .u16 0, .int .u16 0, .int .u16 0, .int .u16 0, .int .u16 0, .int .u16 0, .int .u16 0, .int .u16 0, .int .u16 0, .int .u16 0, .int .u16 0, .int .u16 0]) (.agg #[.int .u16 3, .int .u16 2, .int .u16 1, .int .u16 0, .int .u16 0, .int .u16 0, .int .u16 0, .int .u16 0, .int .u16 0, .int .u16 0, .int .u16 0, .int .u16 0, .int .u16 0, .int .u16 0, .int .u16 0, .int .u16 0])).run Tryz.prog W = .ok (.bool true) W := by
 obtain ⟨ii, hi⟩ := u16_info
 have h := run_equal_ints (P := Tryz.prog) W 9998 (q := .u16) [3, 2, 1, 0, 0, 0, 0, 0, 0, 0, 0, 0, 0, 0, 0, 0] [3, 2, 1, 0, 0, 0, 0, 0, 0, 0, 0, 0, 0, 0, 0, 0] Tryz.underlying71 hi Tryz.underlying70 (by kernel_rfl) (by kernel_rfl) rfl rfl
 have e1 : (Value.agg (([3, 2, 1, 0, 0, 0, 0, 0, 0, 0, 0, 0, 0, 0, 0, 0] : List Int).map (Value.int .u16)).toArray) = .agg #[.int .u16 3, .int .u16 2, .int .u16 1, .int .u16 0, .int .u16 0, .int .u16 0, .int .u16 0, .int .u16 0, .int .u16 0, .int .u16 0, .int .u16 0, .int .u16 0, .int .u16 0, .int .u16 0, .int .u16 0, .int .u16 0] := rfl
 rw [e1] at h
 rw [run_eql_struct, h]
 rfl
theorem rd_block {w : World} {a : Option Addr} (h : RdL w a (words [3, 2, 1, 0, 0, 0, 0, 0, 0, 0, 0, 0, 0, 0, 0, 0])) : ∃ b off, a = some ⟨b, off, none⟩ ∧ w.cell? ⟨b, off, none⟩ = some (.int .u16 3) ∧ w.cell? ⟨b, off + 1, none⟩ = some (.int .u16 2) ∧ w.cell? ⟨b, off + 2, none⟩ = some (.int .u16 1) ∧ w.cell? ⟨b, off + 3, none⟩ = some (.int .u16 0) ∧ w.cell? ⟨b, off + 4, none⟩ = some (.int .u16 0) ∧ w.cell? ⟨b, off + 5, none⟩ = some (.int .u16 0) ∧ w.cell? ⟨b, off + 6, none⟩ = some (.int .u16 0) ∧ w.cell? ⟨b, off + 7, none⟩ = some (.int .u16 0) ∧ w.cell? ⟨b, off + 8, none⟩ = some (.int .u16 0) ∧ w.cell? ⟨b, off + 9, none⟩ = some (.int .u16 0) ∧ w.cell? ⟨b, off + 10, none⟩ = some (.int .u16 0) ∧ w.cell? ⟨b, off + 11, none⟩ = some (.int .u16 0) ∧ w.cell? ⟨b, off + 12, none⟩ = some (.int .u16 0) ∧ w.cell? ⟨b, off + 13, none⟩ = some (.int .u16 0) ∧ w.cell? ⟨b, off + 14, none⟩ = some (.int .u16 0) ∧ w.cell? ⟨b, off + 15, none⟩ = some (.int .u16 0) := by
 obtain ⟨b, off, rfl, h0⟩ := h 0 (by decide)
 have key : ∀ (i : Nat) (hi : i < 16), w.cell? ⟨b, off + i, none⟩ = some ((words [3, 2, 1, 0, 0, 0, 0, 0, 0, 0, 0, 0, 0, 0, 0, 0])[i]'hi) := by
  intro i hi
  obtain ⟨b', off', e, hc⟩ := h i hi
  simp at e
  obtain ⟨rfl, rfl⟩ := e
  exact hc
 exact ⟨b, off, rfl, h0, key 1 (by decide), key 2 (by decide), key 3 (by decide), key 4 (by decide), key 5 (by decide), key 6 (by decide), key 7 (by decide), key 8 (by decide), key 9 (by decide), key 10 (by decide), key 11 (by decide), key 12 (by decide), key 13 (by decide), key 14 (by decide), key 15 (by decide)⟩
theorem RdLL.two {w : World} {a : Option Addr} {vs xs ys : List Value} (h : RdLL w a vs [xs, ys]) : ∃ (b off : Nat) (a1 : Option Addr) (c1 : Nat) (a2 : Option Addr) (c2 : Nat), a = some ⟨b, off, none⟩ ∧ w.cell? ⟨b, off, none⟩ = some (.slice a1 xs.length c1) ∧ w.cell? ⟨b, off + 1, none⟩ = some (.slice a2 ys.length c2) ∧ RdL w a1 xs ∧ RdL w a2 ys := by
 obtain ⟨b, off, a1, c1, rfl, hc1, hr1, -⟩ := h.at 0 (by simp)
 obtain ⟨b', off', a2, c2, e, hc2, hr2, -⟩ := h.at 1 (by simp)
 simp at e
 obtain ⟨rfl, rfl⟩ := e
 exact ⟨b, off, a1, c1, a2, c2, rfl, hc1, hc2, hr1, hr2⟩
theorem same_self : ∀ (k : Nat) (_h : k < ([1073741824, 1077936128, 1082130432] : List Nat).length) (h' : k < ([1073741824, 1077936128, 1082130432] : List Nat).length), (fun x y : Nat => FloatKind.f32.format.order x y != some Ordering.eq) ([1073741824, 1077936128, 1082130432] : List Nat)[k] ([1073741824, 1077936128, 1082130432] : List Nat)[k] = false := by
 intro k h h'
 match k, h, h' with
 | 0, _, _ => show (FloatKind.f32.format.order 1073741824 1073741824 != some Ordering.eq) = false; decide +kernel
 | 1, _, _ => show (FloatKind.f32.format.order 1077936128 1077936128 != some Ordering.eq) = false; decide +kernel
 | 2, _, _ => show (FloatKind.f32.format.order 1082130432 1082130432 != some Ordering.eq) = false; decide +kernel
def AwS (W : World) (t b o c q : Nat) (a1 a2 : Option Addr) (d1 d2 : Nat) : Prop := W.cell? ⟨t, 0, none⟩ = some (.string ⟨#[57, 47, 56]⟩) ∧ W.cell? ⟨t, 1, none⟩ = some (.string ⟨#[49, 49, 47, 56]⟩) ∧ W.cell? ⟨b, o, none⟩ = some (.int .u16 3) ∧ W.cell? ⟨b, o + 1, none⟩ = some (.int .u16 2) ∧ W.cell? ⟨b, o + 2, none⟩ = some (.int .u16 1) ∧ W.cell? ⟨b, o + 3, none⟩ = some (.int .u16 0) ∧ W.cell? ⟨b, o + 4, none⟩ = some (.int .u16 0) ∧ W.cell? ⟨b, o + 5, none⟩ = some (.int .u16 0) ∧ W.cell? ⟨b, o + 6, none⟩ = some (.int .u16 0) ∧ W.cell? ⟨b, o + 7, none⟩ = some (.int .u16 0) ∧ W.cell? ⟨b, o + 8, none⟩ = some (.int .u16 0) ∧ W.cell? ⟨b, o + 9, none⟩ = some (.int .u16 0) ∧ W.cell? ⟨b, o + 10, none⟩ = some (.int .u16 0) ∧ W.cell? ⟨b, o + 11, none⟩ = some (.int .u16 0) ∧ W.cell? ⟨b, o + 12, none⟩ = some (.int .u16 0) ∧ W.cell? ⟨b, o + 13, none⟩ = some (.int .u16 0) ∧ W.cell? ⟨b, o + 14, none⟩ = some (.int .u16 0) ∧ W.cell? ⟨b, o + 15, none⟩ = some (.int .u16 0) ∧ W.cell? ⟨c, q, none⟩ = some (.slice a1 3 d1) ∧ W.cell? ⟨c, q + 1, none⟩ = some (.slice a2 3 d2)
theorem AwS.new {w w' : World} {t b o c q : Nat} {a1 a2 : Option Addr} {d1 d2 : Nat} (h : AwS w t b o c q a1 a2 d1 d2) (hn : New w w') : AwS w' t b o c q a1 a2 d1 d2 := by
 obtain ⟨h0, h1, h2, h3, h4, h5, h6, h7, h8, h9, h10, h11, h12, h13, h14, h15, h16, h17, h18, h19⟩ := h
 exact ⟨hn.cell h0, hn.cell h1, hn.cell h2, hn.cell h3, hn.cell h4, hn.cell h5, hn.cell h6, hn.cell h7, hn.cell h8, hn.cell h9, hn.cell h10, hn.cell h11, hn.cell h12, hn.cell h13, hn.cell h14, hn.cell h15, hn.cell h16, hn.cell h17, hn.cell h18, hn.cell h19⟩
noncomputable def awakeCode (n : Nat) : Code := tailN n ((Tryz.f12.body).getD .skip)
def headC : Code → Code
 | .seq a _ => a
 | c => c
def awHas (tb b16 o16 b17 o17 c14 c15 c16 c17 : Nat) (a14 a15 : Option Addr) : List (Nat × Value) := [(18, .int .i64 0), (22, .int .i64 0), (24, .int .i64 0), (26, .int .i64 0), (28, .int .i64 0), (30, .int .i64 0), (20, .int .i64 15), (32, .int .i64 2), (17, .pointer (some ⟨tb, 0, none⟩)), (23, .slice a14 3 c14), (25, .slice a15 3 c15), (27, .slice (some ⟨b16, o16, none⟩) 1 c16), (29, .slice (some ⟨b17, o17, none⟩) 2 c17)]
set_option maxRecDepth 100000 in
set_option maxHeartbeats 4000000 in
theorem awake_tail (w w18 : World) (A : Act) (tb b16 o16 b17 o17 c14 c15 c16 c17 d1 d2 : Nat) (a14 a15 a1 a2 : Option Addr) (HN : Hid (New w w18)) (HR14 : Hid (RdL w18 a14 (ints [1, 3, 5]))) (HR15 : Hid (RdL w18 a15 (words [3, 2, 1])))
  (HQ1 : Hid (RdL w18 a1 (flts [1073741824, 1077936128, 1082130432]))) (HQ2 : Hid (RdL w18 a2 (flts [1073741824, 1077936128, 1082130432]))) (HS : Hid (AwS w18 tb b16 o16 b17 o17 a1 a2 d1 d2)) (HA : Has 246 A (awHas tb b16 o16 b17 o17 c14 c15 c16 c17 a14 a15)) (K0 : Act → World → Prop)
  (hK0 : ∀ a W, Code.wp Tryz.prog Code.ret (bodyPost Tryz.prog Tryz.f12 (fun e w' => e = .returned (.bool true) ∧ New w w')) a W → K0 a W) :
  Code.wp Tryz.prog (headC (awakeCode 19)) (Exit.then K0 (bodyPost Tryz.prog Tryz.f12 (fun e w' => e = .returned (.bool true) ∧ New w w'))) A w18 := by
 conv => arg 2; whnf
 have HK0 := Lib.hid hK0
 clear hK0
 have HA_ : Has 246 A [(18, .int .i64 0), (22, .int .i64 0), (24, .int .i64 0), (26, .int .i64 0), (28, .int .i64 0), (30, .int .i64 0), (20, .int .i64 15), (32, .int .i64 2), (17, .pointer (some ⟨tb, 0, none⟩)), (23, .slice a14 3 c14), (25, .slice a15 3 c15), (27, .slice (some ⟨b16, o16, none⟩) 1 c16), (29, .slice (some ⟨b17, o17, none⟩) 2 c17)] := HA
 clear HA
 have HA := Lib.hid HA_
 clear HA_
 refine wp_region_T 68 (fun W => AwS W tb b16 o16 b17 o17 a1 a2 d1 d2) 69 #[false, false, false, false, false, false, false, false, false, false, false, false, false, false, false, false, false, false, false, false, false, false, false, false, false, false, false, false, false, false, false, false, false, false, false, false, false, false, false, false, false, false, false, false, false, false, false, false, false, false, false, false, false, false, false, false, false, false, false, false, false, false, false, false, false, false, false, false, false] rfl (by kernel_rfl) (by kernel_rfl) ?_
 refine stepT (N := 246) (d := 178) (v := ?_) 0 rfl (by kernel_rfl) (fun _ _ _ h => h) (by exact HS.out) HA.out rfl (by decide) (by kernel_rfl) (wanted_plain rfl) ?_ ?_
 rotate_left
 ·(intro W hW; have e18 := HA.out.get 0 rfl; have g18 := getD_of e18; go_simp; try with_reducible rfl)
 intro A HA_
 clear HA
 have HA := Lib.hid HA_
 clear HA_
 refine stepT (N := 246) (d := 179) (v := ?_) 1 rfl (by kernel_rfl) (fun _ _ _ h => h) (by exact HS.out) HA.out rfl (by decide) (by kernel_rfl) (wanted_plain rfl) ?_ ?_
 rotate_left
 ·(intro W hW; have e22 := HA.out.get 2 rfl; have g22 := getD_of e22; go_simp; try with_reducible rfl)
 intro A HA_
 clear HA
 have HA := Lib.hid HA_
 clear HA_
 refine stepT (N := 246) (d := 180) (v := ?_) 2 rfl (by kernel_rfl) (fun _ _ _ h => h) (by exact HS.out) HA.out rfl (by decide) (by kernel_rfl) (wanted_plain rfl) ?_ ?_
 rotate_left
 ·(intro W hW; have e178 := HA.out.get 1 rfl; have g178 := getD_of e178; have e179 := HA.out.get 0 rfl; have g179 := getD_of e179; go_simp; try with_reducible rfl)
 intro A HA_
 clear HA
 have HA := Lib.hid HA_
 clear HA_
 refine stepT (N := 246) (d := 181) (v := ?_) 3 rfl (by kernel_rfl) (fun _ _ _ h => h) (by exact HS.out) HA.out rfl (by decide) (by kernel_rfl) (wanted_plain rfl) ?_ ?_
 rotate_left
 ·(intro W hW; have e24 := HA.out.get 5 rfl; have g24 := getD_of e24; go_simp; try with_reducible rfl)
 intro A HA_
 clear HA
 have HA := Lib.hid HA_
 clear HA_
 refine stepT (N := 246) (d := 182) (v := ?_) 4 rfl (by kernel_rfl) (fun _ _ _ h => h) (by exact HS.out) HA.out rfl (by decide) (by kernel_rfl) (wanted_plain rfl) ?_ ?_
 rotate_left
 ·(intro W hW; have e180 := HA.out.get 1 rfl; have g180 := getD_of e180; have e181 := HA.out.get 0 rfl; have g181 := getD_of e181; go_simp; try with_reducible rfl)
 intro A HA_
 clear HA
 have HA := Lib.hid HA_
 clear HA_
 refine stepT (N := 246) (d := 183) (v := ?_) 5 rfl (by kernel_rfl) (fun _ _ _ h => h) (by exact HS.out) HA.out rfl (by decide) (by kernel_rfl) (wanted_plain rfl) ?_ ?_
 rotate_left
 ·(intro W hW; have e26 := HA.out.get 8 rfl; have g26 := getD_of e26; go_simp; try with_reducible rfl)
 intro A HA_
 clear HA
 have HA := Lib.hid HA_
 clear HA_
 refine stepT (N := 246) (d := 184) (v := ?_) 6 rfl (by kernel_rfl) (fun _ _ _ h => h) (by exact HS.out) HA.out rfl (by decide) (by kernel_rfl) (wanted_plain rfl) ?_ ?_
 rotate_left
 ·(intro W hW; have e182 := HA.out.get 1 rfl; have g182 := getD_of e182; have e183 := HA.out.get 0 rfl; have g183 := getD_of e183; go_simp; try with_reducible rfl)
 intro A HA_
 clear HA
 have HA := Lib.hid HA_
 clear HA_
 refine stepT (N := 246) (d := 185) (v := ?_) 7 rfl (by kernel_rfl) (fun _ _ _ h => h) (by exact HS.out) HA.out rfl (by decide) (by kernel_rfl) (wanted_plain rfl) ?_ ?_
 rotate_left
 ·(intro W hW; have e28 := HA.out.get 11 rfl; have g28 := getD_of e28; go_simp; try with_reducible rfl)
 intro A HA_
 clear HA
 have HA := Lib.hid HA_
 clear HA_
 refine stepT (N := 246) (d := 186) (v := ?_) 8 rfl (by kernel_rfl) (fun _ _ _ h => h) (by exact HS.out) HA.out rfl (by decide) (by kernel_rfl) (wanted_plain rfl) ?_ ?_
 rotate_left
 ·(intro W hW; have e184 := HA.out.get 1 rfl; have g184 := getD_of e184; have e185 := HA.out.get 0 rfl; have g185 := getD_of e185; go_simp; try with_reducible rfl)
 intro A HA_
 clear HA
 have HA := Lib.hid HA_
 clear HA_
 refine stepT (N := 246) (d := 187) (v := ?_) 9 rfl (by kernel_rfl) (fun _ _ _ h => h) (by exact HS.out) HA.out rfl (by decide) (by kernel_rfl) (wanted_plain rfl) ?_ ?_
 rotate_left
 ·(intro W hW; have e30 := HA.out.get 14 rfl; have g30 := getD_of e30; go_simp; try with_reducible rfl)
 intro A HA_
 clear HA
 have HA := Lib.hid HA_
 clear HA_
 refine stepT (N := 246) (d := 188) (v := ?_) 10 rfl (by kernel_rfl) (fun _ _ _ h => h) (by exact HS.out) HA.out rfl (by decide) (by kernel_rfl) (wanted_plain rfl) ?_ ?_
 rotate_left
 ·(intro W hW; have e186 := HA.out.get 1 rfl; have g186 := getD_of e186; have e187 := HA.out.get 0 rfl; have g187 := getD_of e187; go_simp; try with_reducible rfl)
 intro A HA_
 clear HA
 have HA := Lib.hid HA_
 clear HA_
 refine stepT (N := 246) (d := 189) (v := ?_) 11 rfl (by kernel_rfl) (fun _ _ _ h => h) (by exact HS.out) HA.out rfl (by decide) (by kernel_rfl) (wanted_plain rfl) ?_ ?_
 rotate_left
 ·(intro W hW; have e188 := HA.out.get 0 rfl; have g188 := getD_of e188; go_simp; try with_reducible rfl)
 intro A HA_
 clear HA
 have HA := Lib.hid HA_
 clear HA_
 refine stepT (N := 246) (d := 190) (v := ?_) 12 rfl (by kernel_rfl) (fun _ _ _ h => h) (by exact HS.out) HA.out rfl (by decide) (by kernel_rfl) (wanted_plain rfl) ?_ ?_
 rotate_left
 ·(intro W hW; have e189 := HA.out.get 0 rfl; have g189 := getD_of e189; go_simp; try with_reducible rfl)
 intro A HA_
 clear HA
 have HA := Lib.hid HA_
 clear HA_
 refine stepT (N := 246) (d := 191) (v := ?_) 13 rfl (by kernel_rfl) (fun _ _ _ h => h) (by exact HS.out) HA.out rfl (by decide) (by kernel_rfl) (wanted_by rfl rfl (HA.out.get 0 rfl)) ?_ ?_
 rotate_left
 ·(intro W hW; have e20 := HA.out.get 19 rfl; have g20 := getD_of e20; go_simp; try with_reducible rfl)
 intro A HA_
 clear HA
 have HA := Lib.hid HA_
 clear HA_
 refine stepT (N := 246) (d := 192) (v := ?_) 14 rfl (by kernel_rfl) (fun _ _ _ h => h) (by exact HS.out) HA.out rfl (by decide) (by kernel_rfl) (wanted_by rfl rfl (HA.out.get 1 rfl)) ?_ ?_
 rotate_left
 ·(intro W hW; have e191 := HA.out.get 0 rfl; have g191 := getD_of e191; go_simp; try with_reducible rfl)
 intro A HA_
 clear HA
 have HA := Lib.hid HA_
 clear HA_
 refine stepT (N := 246) (d := 193) (v := ?_) 15 rfl (by kernel_rfl) (fun _ _ _ h => h) (by exact HS.out) HA.out rfl (by decide) (by kernel_rfl) (wanted_plain rfl) ?_ ?_
 rotate_left
 ·(intro W hW; have e190 := HA.out.get 2 rfl; have g190 := getD_of e190; have e192 := HA.out.get 0 rfl; have g192 := getD_of e192; go_simp; try with_reducible rfl)
 intro A HA_
 clear HA
 have HA := Lib.hid HA_
 clear HA_
 refine stepT (N := 246) (d := 194) (v := ?_) 16 rfl (by kernel_rfl) (fun _ _ _ h => h) (by exact HS.out) HA.out rfl (by decide) (by kernel_rfl) (wanted_plain rfl) ?_ ?_
 rotate_left
 ·(intro W hW; have e193 := HA.out.get 0 rfl; have g193 := getD_of e193; go_simp; try with_reducible rfl)
 intro A HA_
 clear HA
 have HA := Lib.hid HA_
 clear HA_
 refine stepT (N := 246) (d := 195) (v := ?_) 17 rfl (by kernel_rfl) (fun _ _ _ h => h) (by exact HS.out) HA.out rfl (by decide) (by kernel_rfl) (wanted_by rfl rfl (HA.out.get 0 rfl)) ?_ ?_
 rotate_left
 ·(intro W hW; have e32 := HA.out.get 24 rfl; have g32 := getD_of e32; go_simp; try with_reducible rfl)
 intro A HA_
 clear HA
 have HA := Lib.hid HA_
 clear HA_
 refine stepT (N := 246) (d := 196) (v := ?_) 18 rfl (by kernel_rfl) (fun _ _ _ h => h) (by exact HS.out) HA.out rfl (by decide) (by kernel_rfl) (wanted_by rfl rfl (HA.out.get 1 rfl)) ?_ ?_
 rotate_left
 ·(intro W hW; have e195 := HA.out.get 0 rfl; have g195 := getD_of e195; go_simp; try with_reducible rfl)
 intro A HA_
 clear HA
 have HA := Lib.hid HA_
 clear HA_
 refine stepT (N := 246) (d := 197) (v := ?_) 19 rfl (by kernel_rfl) (fun _ _ _ h => h) (by exact HS.out) HA.out rfl (by decide) (by kernel_rfl) (wanted_plain rfl) ?_ ?_
 rotate_left
 ·(intro W hW; have e194 := HA.out.get 2 rfl; have g194 := getD_of e194; have e196 := HA.out.get 0 rfl; have g196 := getD_of e196; go_simp; try with_reducible rfl)
 intro A HA_
 clear HA
 have HA := Lib.hid HA_
 clear HA_
 refine stepT (N := 246) (d := 198) (v := ?_) 20 rfl (by kernel_rfl) (fun _ _ _ h => h) (by exact HS.out) HA.out rfl (by decide) (by kernel_rfl) (wanted_plain rfl) ?_ ?_
 rotate_left
 ·(intro W hW; have e197 := HA.out.get 0 rfl; have g197 := getD_of e197; go_simp; try with_reducible rfl)
 intro A HA_
 clear HA
 have HA := Lib.hid HA_
 clear HA_
 refine stepT (N := 246) (d := 199) (v := ?_) 21 rfl (by kernel_rfl) (fun _ _ _ h => h) (by exact HS.out) HA.out rfl (by decide) (by kernel_rfl) (wanted_by rfl rfl (HA.out.get 0 rfl)) ?_ ?_
 rotate_left
 ·(intro W hW; have e17 := HA.out.get 29 rfl; have g17 := getD_of e17; obtain ⟨h0, h1, -⟩ := hW; go_simp; try with_reducible rfl)
 intro A HA_
 clear HA
 have HA := Lib.hid HA_
 clear HA_
 refine stepT (N := 246) (d := 200) (v := ?_) 22 rfl (by kernel_rfl) (fun _ _ _ h => h) (by exact HS.out) HA.out rfl (by decide) (by kernel_rfl) (wanted_by rfl rfl (HA.out.get 1 rfl)) ?_ ?_
 rotate_left
 ·(intro W hW; go_simp; try with_reducible rfl)
 intro A HA_
 clear HA
 have HA := Lib.hid HA_
 clear HA_
 refine stepT (N := 246) (d := 201) (v := ?_) 23 rfl (by kernel_rfl) (fun _ _ _ h => h) (by exact HS.out) HA.out rfl (by decide) (by kernel_rfl) (wanted_by rfl rfl (HA.out.get 2 rfl)) ?_ ?_
 rotate_left
 ·(intro W hW; have e199 := HA.out.get 1 rfl; have g199 := getD_of e199; have e200 := HA.out.get 0 rfl; have g200 := getD_of e200; have hes := eql_span ⟨#[57, 47, 56]⟩ ⟨#[49, 49, 47, 56]⟩; go_simp; try with_reducible rfl)
 intro A HA_
 clear HA
 have HA := Lib.hid HA_
 clear HA_
 refine stepT (N := 246) (d := 202) (v := ?_) 24 rfl (by kernel_rfl) (fun _ _ _ h => h) (by exact HS.out) HA.out rfl (by decide) (by kernel_rfl) (wanted_plain rfl) ?_ ?_
 rotate_left
 ·(intro W hW; have e198 := HA.out.get 3 rfl; have g198 := getD_of e198; have e201 := HA.out.get 0 rfl; have g201 := getD_of e201; go_simp; try with_reducible rfl)
 intro A HA_
 clear HA
 have HA := Lib.hid HA_
 clear HA_
 refine stepT (N := 246) (d := 203) (v := ?_) 25 rfl (by kernel_rfl) (fun _ _ _ h => h) (by exact HS.out) HA.out rfl (by decide) (by kernel_rfl) (wanted_plain rfl) ?_ ?_
 rotate_left
 ·(intro W hW; have e202 := HA.out.get 0 rfl; have g202 := getD_of e202; go_simp; try with_reducible rfl)
 intro A HA_
 clear HA
 have HA := Lib.hid HA_
 clear HA_
 refine stepT (N := 246) (d := 204) (v := ?_) 26 rfl (by kernel_rfl) (fun _ _ _ h => h) (by exact HS.out) HA.out rfl (by decide) (by kernel_rfl) (wanted_by rfl rfl (HA.out.get 0 rfl)) ?_ ?_
 rotate_left
 ·(intro W hW; have e23 := HA.out.get 35 rfl; have g23 := getD_of e23; go_simp; try with_reducible rfl)
 intro A HA_
 clear HA
 have HA := Lib.hid HA_
 clear HA_
 refine loudT 27 rfl (by kernel_rfl) (wanted_by rfl rfl (HA.out.get 1 rfl)) (fun K hK => ?_)
 go_simp
 have HN0 := HN
 clear HN
 have BI := Lib.hid ((Box.alloc w18 (w18.heap.size) 3 #[.int .i64 1, .int .i64 3, .int .i64 5] (by simp)).new (New.refl _))
 have HN := Lib.hid ((New.refl w18).alloc (.cells #[.int .i64 1, .int .i64 3, .int .i64 5] 3))
 replace HR14 := Lib.hid (HR14.out.new HN.out)
 replace HR15 := Lib.hid (HR15.out.new HN.out)
 replace HQ1 := Lib.hid (HQ1.out.new HN.out)
 replace HQ2 := Lib.hid (HQ2.out.new HN.out)
 replace HS := Lib.hid (HS.out.new HN.out)
 have HN_ := HN0.out.trans HN.out
 clear HN HN0
 have HN := Lib.hid HN_
 clear HN_
 refine hK.out _ _ (fun _ => ?_) ?_
 ·exact HS.out
 clear hK K
 refine putT (N := 246) (d := 205) HA.out (by decide) (by kernel_rfl) ?_
 intro A HA_
 clear HA
 have HA := Lib.hid HA_
 clear HA_
 refine loudT 28 rfl (by kernel_rfl) (wanted_by rfl rfl (HA.out.get 2 rfl)) (fun K hK => ?_)
 have e204 := HA.out.get 1 rfl
 have g204 := getD_of e204
 have e205 := HA.out.get 0 rfl
 have g205 := getD_of e205
 go_simp
 clear g205 e205 g204 e204
 refine (same_ints a14 (some ⟨w18.heap.size, 0, none⟩) c14 3 [1, 3, 5] [1, 3, 5] _ (by decide) rfl (HR14.out.new (New.refl _).drew) (BI.out.new (New.refl _).drew).rdl (by intro k h h'; simp)).mono ?_
 rintro e w19 ⟨rfl, hn⟩
 have hn := hn.undrew
 clear BI HR14
 replace HR15 := Lib.hid (HR15.out.new hn)
 replace HQ1 := Lib.hid (HQ1.out.new hn)
 replace HQ2 := Lib.hid (HQ2.out.new hn)
 replace HS := Lib.hid (HS.out.new hn)
 replace HN := Lib.hid (HN.out.trans hn)
 clear hn
 refine hK.out _ _ (fun _ => ?_) ?_
 ·exact HS.out
 clear hK K
 refine putT (N := 246) (d := 206) HA.out (by decide) (by kernel_rfl) ?_
 intro A HA_
 clear HA
 have HA := Lib.hid HA_
 clear HA_
 refine stepT (N := 246) (d := 207) (v := ?_) 29 rfl (by kernel_rfl) (fun _ _ _ h => h) (by exact HS.out) HA.out rfl (by decide) (by kernel_rfl) (wanted_plain rfl) ?_ ?_
 rotate_left
 ·(intro W hW; have e203 := HA.out.get 3 rfl; have g203 := getD_of e203; have e206 := HA.out.get 0 rfl; have g206 := getD_of e206; go_simp; try with_reducible rfl)
 intro A HA_
 clear HA
 have HA := Lib.hid HA_
 clear HA_
 refine stepT (N := 246) (d := 208) (v := ?_) 30 rfl (by kernel_rfl) (fun _ _ _ h => h) (by exact HS.out) HA.out rfl (by decide) (by kernel_rfl) (wanted_plain rfl) ?_ ?_
 rotate_left
 ·(intro W hW; have e207 := HA.out.get 0 rfl; have g207 := getD_of e207; go_simp; try with_reducible rfl)
 intro A HA_
 clear HA
 have HA := Lib.hid HA_
 clear HA_
 refine stepT (N := 246) (d := 209) (v := ?_) 31 rfl (by kernel_rfl) (fun _ _ _ h => h) (by exact HS.out) HA.out rfl (by decide) (by kernel_rfl) (wanted_by rfl rfl (HA.out.get 0 rfl)) ?_ ?_
 rotate_left
 ·(intro W hW; have e25 := HA.out.get 41 rfl; have g25 := getD_of e25; go_simp; try with_reducible rfl)
 intro A HA_
 clear HA
 have HA := Lib.hid HA_
 clear HA_
 refine loudT 32 rfl (by kernel_rfl) (wanted_by rfl rfl (HA.out.get 1 rfl)) (fun K hK => ?_)
 go_simp
 have HN0 := HN
 clear HN
 have BI := Lib.hid ((Box.alloc w19 (w19.heap.size) 70 #[.int .u16 3, .int .u16 2, .int .u16 1] (by simp)).new (New.refl _))
 have HN := Lib.hid ((New.refl w19).alloc (.cells #[.int .u16 3, .int .u16 2, .int .u16 1] 70))
 replace HR15 := Lib.hid (HR15.out.new HN.out)
 replace HQ1 := Lib.hid (HQ1.out.new HN.out)
 replace HQ2 := Lib.hid (HQ2.out.new HN.out)
 replace HS := Lib.hid (HS.out.new HN.out)
 have HN_ := HN0.out.trans HN.out
 clear HN HN0
 have HN := Lib.hid HN_
 clear HN_
 refine hK.out _ _ (fun _ => ?_) ?_
 ·exact HS.out
 clear hK K
 refine putT (N := 246) (d := 210) HA.out (by decide) (by kernel_rfl) ?_
 intro A HA_
 clear HA
 have HA := Lib.hid HA_
 clear HA_
 refine loudT 33 rfl (by kernel_rfl) (wanted_by rfl rfl (HA.out.get 2 rfl)) (fun K hK => ?_)
 have e209 := HA.out.get 1 rfl
 have g209 := getD_of e209
 have e210 := HA.out.get 0 rfl
 have g210 := getD_of e210
 go_simp
 clear g210 e210 g209 e209
 refine (same_words a15 (some ⟨w19.heap.size, 0, none⟩) c15 3 [3, 2, 1] [3, 2, 1] _ (by decide) rfl HR15.out BI.out.rdl (by intro k h h'; simp)).mono ?_
 rintro e w20 ⟨rfl, hn⟩
 clear BI HR15
 replace HQ1 := Lib.hid (HQ1.out.new hn)
 replace HQ2 := Lib.hid (HQ2.out.new hn)
 replace HS := Lib.hid (HS.out.new hn)
 replace HN := Lib.hid (HN.out.trans hn)
 clear hn
 refine hK.out _ _ (fun _ => ?_) ?_
 ·exact HS.out
 clear hK K
 refine putT (N := 246) (d := 211) HA.out (by decide) (by kernel_rfl) ?_
 intro A HA_
 clear HA
 have HA := Lib.hid HA_
 clear HA_
 refine stepT (N := 246) (d := 212) (v := ?_) 34 rfl (by kernel_rfl) (fun _ _ _ h => h) (by exact HS.out) HA.out rfl (by decide) (by kernel_rfl) (wanted_plain rfl) ?_ ?_
 rotate_left
 ·(intro W hW; have e208 := HA.out.get 3 rfl; have g208 := getD_of e208; have e211 := HA.out.get 0 rfl; have g211 := getD_of e211; go_simp; try with_reducible rfl)
 intro A HA_
 clear HA
 have HA := Lib.hid HA_
 clear HA_
 refine stepT (N := 246) (d := 213) (v := ?_) 35 rfl (by kernel_rfl) (fun _ _ _ h => h) (by exact HS.out) HA.out rfl (by decide) (by kernel_rfl) (wanted_plain rfl) ?_ ?_
 rotate_left
 ·(intro W hW; have e212 := HA.out.get 0 rfl; have g212 := getD_of e212; go_simp; try with_reducible rfl)
 intro A HA_
 clear HA
 have HA := Lib.hid HA_
 clear HA_
 refine stepT (N := 246) (d := 214) (v := ?_) 36 rfl (by kernel_rfl) (fun _ _ _ h => h) (by exact HS.out) HA.out rfl (by decide) (by kernel_rfl) (wanted_by rfl rfl (HA.out.get 0 rfl)) ?_ ?_
 rotate_left
 ·(intro W hW; have e27 := HA.out.get 47 rfl; have g27 := getD_of e27; go_simp; try with_reducible rfl)
 intro A HA_
 clear HA
 have HA := Lib.hid HA_
 clear HA_
 refine stepT (N := 246) (d := 215) (v := ?_) 37 rfl (by kernel_rfl) (fun _ _ _ h => h) (by exact HS.out) HA.out rfl (by decide) (by kernel_rfl) (wanted_by rfl rfl (HA.out.get 1 rfl)) ?_ ?_
 rotate_left
 ·(intro W hW; have e214 := HA.out.get 0 rfl; have g214 := getD_of e214; go_simp; try with_reducible rfl)
 intro A HA_
 clear HA
 have HA := Lib.hid HA_
 clear HA_
 refine stepT (N := 246) (d := 216) (v := ?_) 38 rfl (by kernel_rfl) (fun _ _ _ h => h) (by exact HS.out) HA.out rfl (by decide) (by kernel_rfl) (wanted_by rfl rfl (HA.out.get 2 rfl)) ?_ ?_
 rotate_left
 ·(intro W hW; have e215 := HA.out.get 0 rfl; have g215 := getD_of e215; go_simp; try with_reducible rfl)
 intro A HA_
 clear HA
 have HA := Lib.hid HA_
 clear HA_
 refine stepT (N := 246) (d := 217) (v := ?_) 39 rfl (by kernel_rfl) (fun _ _ _ h => h) (by exact HS.out) HA.out rfl (by decide) (by kernel_rfl) (wanted_plain rfl) ?_ ?_
 rotate_left
 ·(intro W hW; have e213 := HA.out.get 3 rfl; have g213 := getD_of e213; have e216 := HA.out.get 0 rfl; have g216 := getD_of e216; go_simp; try with_reducible rfl)
 intro A HA_
 clear HA
 have HA := Lib.hid HA_
 clear HA_
 refine stepT (N := 246) (d := 218) (v := ?_) 40 rfl (by kernel_rfl) (fun _ _ _ h => h) (by exact HS.out) HA.out rfl (by decide) (by kernel_rfl) (wanted_plain rfl) ?_ ?_
 rotate_left
 ·(intro W hW; have e217 := HA.out.get 0 rfl; have g217 := getD_of e217; go_simp; try with_reducible rfl)
 intro A HA_
 clear HA
 have HA := Lib.hid HA_
 clear HA_
 refine stepT (N := 246) (d := 219) (v := ?_) 41 rfl (by kernel_rfl) (fun _ _ _ h => h) (by exact HS.out) HA.out rfl (by decide) (by kernel_rfl) (wanted_by rfl rfl (HA.out.get 0 rfl)) ?_ ?_
 rotate_left
 ·(intro W hW; have e27 := HA.out.get 52 rfl; have g27 := getD_of e27; go_simp; try with_reducible rfl)
 intro A HA_
 clear HA
 have HA := Lib.hid HA_
 clear HA_
 refine stepT (N := 246) (d := 220) (v := ?_) 42 rfl (by kernel_rfl) (fun _ _ _ h => h) (by exact HS.out) HA.out rfl (by decide) (by kernel_rfl) (wanted_by rfl rfl (HA.out.get 1 rfl)) ?_ ?_
 rotate_left
 ·(intro W hW; have e219 := HA.out.get 0 rfl; have g219 := getD_of e219; go_simp; try with_reducible rfl)
 intro A HA_
 clear HA
 have HA := Lib.hid HA_
 clear HA_
 refine stepT (N := 246) (d := 221) (v := ?_) 43 rfl (by kernel_rfl) (fun _ _ _ h => h) (by exact HS.out) HA.out rfl (by decide) (by kernel_rfl) (wanted_by rfl rfl (HA.out.get 2 rfl)) ?_ ?_
 rotate_left
 ·(intro W hW; have e220 := HA.out.get 0 rfl; have g220 := getD_of e220; obtain ⟨-, -, h0, h1, h2, h3, h4, h5, h6, h7, h8, h9, h10, h11, h12, h13, h14, h15, -⟩ := hW; go_simp; try with_reducible rfl)
 intro A HA_
 clear HA
 have HA := Lib.hid HA_
 clear HA_
 refine stepT (N := 246) (d := 222) (v := ?_) 44 rfl (by kernel_rfl) (fun _ _ _ h => h) (by exact HS.out) HA.out rfl (by decide) (by kernel_rfl) (wanted_by rfl rfl (HA.out.get 3 rfl)) ?_ ?_
 rotate_left
 ·(intro W hW; go_simp; try with_reducible rfl)
 intro A HA_
 clear HA
 have HA := Lib.hid HA_
 clear HA_
 refine stepT (N := 246) (d := 223) (v := ?_) 45 rfl (by kernel_rfl) (fun _ _ _ h => h) (by exact HS.out) HA.out rfl (by decide) (by kernel_rfl) (wanted_by rfl rfl (HA.out.get 4 rfl)) ?_ ?_
 rotate_left
 ·(intro W hW; have e221 := HA.out.get 1 rfl; have g221 := getD_of e221; have e222 := HA.out.get 0 rfl; have g222 := getD_of e222; have heb := eql_block; go_simp; try with_reducible rfl)
 intro A HA_
 clear HA
 have HA := Lib.hid HA_
 clear HA_
 refine stepT (N := 246) (d := 224) (v := ?_) 46 rfl (by kernel_rfl) (fun _ _ _ h => h) (by exact HS.out) HA.out rfl (by decide) (by kernel_rfl) (wanted_plain rfl) ?_ ?_
 rotate_left
 ·(intro W hW; have e218 := HA.out.get 5 rfl; have g218 := getD_of e218; have e223 := HA.out.get 0 rfl; have g223 := getD_of e223; go_simp; try with_reducible rfl)
 intro A HA_
 clear HA
 have HA := Lib.hid HA_
 clear HA_
 refine stepT (N := 246) (d := 225) (v := ?_) 47 rfl (by kernel_rfl) (fun _ _ _ h => h) (by exact HS.out) HA.out rfl (by decide) (by kernel_rfl) (wanted_plain rfl) ?_ ?_
 rotate_left
 ·(intro W hW; have e224 := HA.out.get 0 rfl; have g224 := getD_of e224; go_simp; try with_reducible rfl)
 intro A HA_
 clear HA
 have HA := Lib.hid HA_
 clear HA_
 refine stepT (N := 246) (d := 226) (v := ?_) 48 rfl (by kernel_rfl) (fun _ _ _ h => h) (by exact HS.out) HA.out rfl (by decide) (by kernel_rfl) (wanted_by rfl rfl (HA.out.get 0 rfl)) ?_ ?_
 rotate_left
 ·(intro W hW; have e29 := HA.out.get 60 rfl; have g29 := getD_of e29; go_simp; try with_reducible rfl)
 intro A HA_
 clear HA
 have HA := Lib.hid HA_
 clear HA_
 refine stepT (N := 246) (d := 227) (v := ?_) 49 rfl (by kernel_rfl) (fun _ _ _ h => h) (by exact HS.out) HA.out rfl (by decide) (by kernel_rfl) (wanted_by rfl rfl (HA.out.get 1 rfl)) ?_ ?_
 rotate_left
 ·(intro W hW; have e226 := HA.out.get 0 rfl; have g226 := getD_of e226; go_simp; try with_reducible rfl)
 intro A HA_
 clear HA
 have HA := Lib.hid HA_
 clear HA_
 refine stepT (N := 246) (d := 228) (v := ?_) 50 rfl (by kernel_rfl) (fun _ _ _ h => h) (by exact HS.out) HA.out rfl (by decide) (by kernel_rfl) (wanted_by rfl rfl (HA.out.get 2 rfl)) ?_ ?_
 rotate_left
 ·(intro W hW; have e227 := HA.out.get 0 rfl; have g227 := getD_of e227; go_simp; try with_reducible rfl)
 intro A HA_
 clear HA
 have HA := Lib.hid HA_
 clear HA_
 refine stepT (N := 246) (d := 229) (v := ?_) 51 rfl (by kernel_rfl) (fun _ _ _ h => h) (by exact HS.out) HA.out rfl (by decide) (by kernel_rfl) (wanted_plain rfl) ?_ ?_
 rotate_left
 ·(intro W hW; have e225 := HA.out.get 3 rfl; have g225 := getD_of e225; have e228 := HA.out.get 0 rfl; have g228 := getD_of e228; go_simp; try with_reducible rfl)
 intro A HA_
 clear HA
 have HA := Lib.hid HA_
 clear HA_
 refine stepT (N := 246) (d := 230) (v := ?_) 52 rfl (by kernel_rfl) (fun _ _ _ h => h) (by exact HS.out) HA.out rfl (by decide) (by kernel_rfl) (wanted_plain rfl) ?_ ?_
 rotate_left
 ·(intro W hW; have e229 := HA.out.get 0 rfl; have g229 := getD_of e229; go_simp; try with_reducible rfl)
 intro A HA_
 clear HA
 have HA := Lib.hid HA_
 clear HA_
 refine stepT (N := 246) (d := 231) (v := ?_) 53 rfl (by kernel_rfl) (fun _ _ _ h => h) (by exact HS.out) HA.out rfl (by decide) (by kernel_rfl) (wanted_by rfl rfl (HA.out.get 0 rfl)) ?_ ?_
 rotate_left
 ·(intro W hW; have e29 := HA.out.get 65 rfl; have g29 := getD_of e29; go_simp; try with_reducible rfl)
 intro A HA_
 clear HA
 have HA := Lib.hid HA_
 clear HA_
 refine stepT (N := 246) (d := 232) (v := ?_) 54 rfl (by kernel_rfl) (fun _ _ _ h => h) (by exact HS.out) HA.out rfl (by decide) (by kernel_rfl) (wanted_by rfl rfl (HA.out.get 1 rfl)) ?_ ?_
 rotate_left
 ·(intro W hW; have e231 := HA.out.get 0 rfl; have g231 := getD_of e231; go_simp; try with_reducible rfl)
 intro A HA_
 clear HA
 have HA := Lib.hid HA_
 clear HA_
 refine stepT (N := 246) (d := 233) (v := ?_) 55 rfl (by kernel_rfl) (fun _ _ _ h => h) (by exact HS.out) HA.out rfl (by decide) (by kernel_rfl) (wanted_by rfl rfl (HA.out.get 2 rfl)) ?_ ?_
 rotate_left
 ·(intro W hW; have e232 := HA.out.get 0 rfl; have g232 := getD_of e232; obtain ⟨-, -, -, -, -, -, -, -, -, -, -, -, -, -, -, -, -, -, h0, h1⟩ := hW; go_simp; try with_reducible rfl)
 intro A HA_
 clear HA
 have HA := Lib.hid HA_
 clear HA_
 refine stepT (N := 246) (d := 234) (v := ?_) 56 rfl (by kernel_rfl) (fun _ _ _ h => h) (by exact HS.out) HA.out rfl (by decide) (by kernel_rfl) (wanted_by rfl rfl (HA.out.get 3 rfl)) ?_ ?_
 rotate_left
 ·(intro W hW; have e29 := HA.out.get 68 rfl; have g29 := getD_of e29; go_simp; try with_reducible rfl)
 intro A HA_
 clear HA
 have HA := Lib.hid HA_
 clear HA_
 refine stepT (N := 246) (d := 235) (v := ?_) 57 rfl (by kernel_rfl) (fun _ _ _ h => h) (by exact HS.out) HA.out rfl (by decide) (by kernel_rfl) (wanted_by rfl rfl (HA.out.get 4 rfl)) ?_ ?_
 rotate_left
 ·(intro W hW; have e234 := HA.out.get 0 rfl; have g234 := getD_of e234; go_simp; try with_reducible rfl)
 intro A HA_
 clear HA
 have HA := Lib.hid HA_
 clear HA_
 refine stepT (N := 246) (d := 236) (v := ?_) 58 rfl (by kernel_rfl) (fun _ _ _ h => h) (by exact HS.out) HA.out rfl (by decide) (by kernel_rfl) (wanted_by rfl rfl (HA.out.get 5 rfl)) ?_ ?_
 rotate_left
 ·(intro W hW; have e235 := HA.out.get 0 rfl; have g235 := getD_of e235; obtain ⟨-, -, -, -, -, -, -, -, -, -, -, -, -, -, -, -, -, -, h0, h1⟩ := hW; go_simp; try with_reducible rfl)
 intro A HA_
 clear HA
 have HA := Lib.hid HA_
 clear HA_
 refine loudT 59 rfl (by kernel_rfl) (wanted_by rfl rfl (HA.out.get 6 rfl)) (fun K hK => ?_)
 have e233 := HA.out.get 3 rfl
 have g233 := getD_of e233
 have e236 := HA.out.get 0 rfl
 have g236 := getD_of e236
 go_simp
 clear g236 e236 g233 e233
 refine (same_floats a1 a2 d1 d2 [1073741824, 1077936128, 1082130432] [1073741824, 1077936128, 1082130432] _ (by decide) rfl HQ1.out HQ2.out same_self).mono ?_
 rintro e w21 ⟨rfl, hn⟩
 clear HQ2
 replace HQ1 := Lib.hid (HQ1.out.new hn)
 replace HS := Lib.hid (HS.out.new hn)
 replace HN := Lib.hid (HN.out.trans hn)
 clear hn
 refine hK.out _ _ (fun _ => ?_) ?_
 ·exact HS.out
 clear hK K
 refine putT (N := 246) (d := 237) HA.out (by decide) (by kernel_rfl) ?_
 intro A HA_
 clear HA
 have HA := Lib.hid HA_
 clear HA_
 refine stepT (N := 246) (d := 238) (v := ?_) 60 rfl (by kernel_rfl) (fun _ _ _ h => h) (by exact HS.out) HA.out rfl (by decide) (by kernel_rfl) (wanted_plain rfl) ?_ ?_
 rotate_left
 ·(intro W hW; have e230 := HA.out.get 7 rfl; have g230 := getD_of e230; have e237 := HA.out.get 0 rfl; have g237 := getD_of e237; go_simp; try with_reducible rfl)
 intro A HA_
 clear HA
 have HA := Lib.hid HA_
 clear HA_
 refine stepT (N := 246) (d := 239) (v := ?_) 61 rfl (by kernel_rfl) (fun _ _ _ h => h) (by exact HS.out) HA.out rfl (by decide) (by kernel_rfl) (wanted_plain rfl) ?_ ?_
 rotate_left
 ·(intro W hW; have e238 := HA.out.get 0 rfl; have g238 := getD_of e238; go_simp; try with_reducible rfl)
 intro A HA_
 clear HA
 have HA := Lib.hid HA_
 clear HA_
 refine stepT (N := 246) (d := 240) (v := ?_) 62 rfl (by kernel_rfl) (fun _ _ _ h => h) (by exact HS.out) HA.out rfl (by decide) (by kernel_rfl) (wanted_by rfl rfl (HA.out.get 0 rfl)) ?_ ?_
 rotate_left
 ·(intro W hW; have e29 := HA.out.get 74 rfl; have g29 := getD_of e29; go_simp; try with_reducible rfl)
 intro A HA_
 clear HA
 have HA := Lib.hid HA_
 clear HA_
 refine stepT (N := 246) (d := 241) (v := ?_) 63 rfl (by kernel_rfl) (fun _ _ _ h => h) (by exact HS.out) HA.out rfl (by decide) (by kernel_rfl) (wanted_by rfl rfl (HA.out.get 1 rfl)) ?_ ?_
 rotate_left
 ·(intro W hW; have e240 := HA.out.get 0 rfl; have g240 := getD_of e240; go_simp; try with_reducible rfl)
 intro A HA_
 clear HA
 have HA := Lib.hid HA_
 clear HA_
 refine stepT (N := 246) (d := 242) (v := ?_) 64 rfl (by kernel_rfl) (fun _ _ _ h => h) (by exact HS.out) HA.out rfl (by decide) (by kernel_rfl) (wanted_by rfl rfl (HA.out.get 2 rfl)) ?_ ?_
 rotate_left
 ·(intro W hW; have e241 := HA.out.get 0 rfl; have g241 := getD_of e241; obtain ⟨-, -, -, -, -, -, -, -, -, -, -, -, -, -, -, -, -, -, h0, h1⟩ := hW; go_simp; try with_reducible rfl)
 intro A HA_
 clear HA
 have HA := Lib.hid HA_
 clear HA_
 refine loudT 65 rfl (by kernel_rfl) (wanted_by rfl rfl (HA.out.get 3 rfl)) (fun K hK => ?_)
 go_simp
 have HN0 := HN
 clear HN
 have BI := Lib.hid ((Box.alloc w21 (w21.heap.size) 23 #[.float .f32 1073741824, .float .f32 1077936128, .float .f32 1082130432] (by simp)).new (New.refl _))
 have HN := Lib.hid ((New.refl w21).alloc (.cells #[.float .f32 1073741824, .float .f32 1077936128, .float .f32 1082130432] 23))
 replace HQ1 := Lib.hid (HQ1.out.new HN.out)
 replace HS := Lib.hid (HS.out.new HN.out)
 have HN_ := HN0.out.trans HN.out
 clear HN HN0
 have HN := Lib.hid HN_
 clear HN_
 refine hK.out _ _ (fun _ => ?_) ?_
 ·exact HS.out
 clear hK K
 refine putT (N := 246) (d := 243) HA.out (by decide) (by kernel_rfl) ?_
 intro A HA_
 clear HA
 have HA := Lib.hid HA_
 clear HA_
 refine loudT 66 rfl (by kernel_rfl) (wanted_by rfl rfl (HA.out.get 4 rfl)) (fun K hK => ?_)
 have e242 := HA.out.get 1 rfl
 have g242 := getD_of e242
 have e243 := HA.out.get 0 rfl
 have g243 := getD_of e243
 go_simp
 clear g243 e243 g242 e242
 refine (same_floats a1 (some ⟨w21.heap.size, 0, none⟩) d1 3 [1073741824, 1077936128, 1082130432] [1073741824, 1077936128, 1082130432] _ (by decide) rfl HQ1.out BI.out.rdl same_self).mono ?_
 rintro e w22 ⟨rfl, hn⟩
 clear BI HQ1
 replace HS := Lib.hid (HS.out.new hn)
 replace HN := Lib.hid (HN.out.trans hn)
 clear hn
 refine hK.out _ _ (fun _ => ?_) ?_
 ·exact HS.out
 clear hK K
 refine putT (N := 246) (d := 244) HA.out (by decide) (by kernel_rfl) ?_
 intro A HA_
 clear HA
 have HA := Lib.hid HA_
 clear HA_
 refine stepT (N := 246) (d := 245) (v := ?_) 67 rfl (by kernel_rfl) (fun _ _ _ h => h) (by exact HS.out) HA.out rfl (by decide) (by kernel_rfl) (wanted_plain rfl) ?_ ?_
 rotate_left
 ·(intro W hW; have e239 := HA.out.get 5 rfl; have g239 := getD_of e239; have e244 := HA.out.get 0 rfl; have g244 := getD_of e244; go_simp; try with_reducible rfl)
 intro A HA_
 clear HA
 have HA := Lib.hid HA_
 clear HA_
 refine wpT_tail rfl (by kernel_rfl) ?_
 simp only []
 have e245 := HA.out.get 0 rfl
 have g245_ := getD_of e245
 have g245 : A.tmps.getD 245 undef = .bool true := g245_.trans (congrArg Value.bool (by decide))
 clear g245_
 refine wpList_plain rfl fun K hK => ?_
 refine BigFrame.wp_assign _ rfl ?_
 refine hK _ _ ?_
 clear hK K
 have HB := HA.out.put (d := 0) (v := .bool true) (by decide) (by kernel_rfl)
 have e0 := HB.get 0 rfl
 have g0 := getD_of e0
 rw [wpList]
 refine HK0.out _ _ ?_
 go_wp2_with fail
 show bodyPost _ _ _ _ (A.put (some 0) (.bool true)) _
 clear e245 g245 e0
 refine bodyPost_ret (v := .bool true) ((results_tmp (t := 0) rfl _ _ _).trans (by rw [g0])) HB.2.1 ?_
 exact ⟨rfl, HN.out⟩
end Go.Proofs.YtlfnibjmkfldgaaGreatDoor
