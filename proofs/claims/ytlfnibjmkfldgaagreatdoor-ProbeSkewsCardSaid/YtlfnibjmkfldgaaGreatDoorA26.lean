/- Part A26. -/
import Derived.Maps.OwnOps
import Derived.WalkMore
import Derived.Deep.DeepCutAuto
import Derived.Test.YtlfnibjmkfldgaaGreatDoorA07
import Derived.Test.YtlfnibjmkfldgaaGreatDoorA21
import Derived.Test.YtlfnibjmkfldgaaGreatDoorA24
import Derived.Test.YtlfnibjmkfldgaaGreatDoorA25
namespace Go.Proofs.YtlfnibjmkfldgaaGreatDoor
open Go.RowKit Big Go.ChangeMaps Go.MapKept
def sameF (x y : Nat) : Bool := FloatKind.f32.format.order x y == some Ordering.eq
def codeEs (vol : Nat → Nat) (n : Nat) : List MapEntry := (List.range n).map fun i => { key := .float .f32 (vol i), val := .int .i64 i, born := i }
theorem codeEs_succ (vol : Nat → Nat) (n : Nat) : codeEs vol (n + 1) = codeEs vol n ++ [{ key := .float .f32 (vol n), val := .int .i64 n, born := n }] := by
 unfold codeEs
 rw [List.range_succ, List.map_append]
 rfl
def findF (x : Nat) : List MapEntry → Nat → Option (Nat × Value)
 | [], _ => none
 | e :: es, i => match e.key with
  | .float .f32 y => if sameF x y then some (i, e.val) else findF x es (i + 1)
  | _ => none
theorem run_equal_f32 {P : Program} {kt : TypeId} (ht : P.underlying kt = some (.float .f32)) (w : World) (x y : Nat) : (Op.equal kt (.float .f32 x) (.float .f32 y)).run P w = .ok (sameF x y) w := by
 have h := run_underlying ht w
 unfold Op.equal Op.maxDepth
 unfold Op.equalIn
 simp [h, Result.andThen, Op.floatEq, sameF]
theorem run_findAsking {P : Program} {kt : TypeId} (ht : P.underlying kt = some (.float .f32)) (w : World) (x : Nat) : ∀ (es : List MapEntry) (i : Nat), (∀ e ∈ es, ∃ y, e.key = .float .f32 y) →
  (Instr.findAsking kt (.float .f32 x) es i).run P w = .ok (findF x es i) w := by
 intro es
 induction es with
 | nil => intro i _; simp [Instr.findAsking, findF]
 | cons e es ih =>
  intro i h
  obtain ⟨y, hy⟩ := h e (by simp)
  unfold Instr.findAsking findF
  simp only [Sem.run_bind, hy, run_equal_f32 ht w x y, Result.andThen]
  cases sameF x y with
  | true => simp
  | false => simpa using ih (i + 1) fun e' he' => h e' (by simp [he'])
theorem run_findKey_f32 {P : Program} {kt : TypeId} (ht : P.underlying kt = some (.float .f32)) (w : World) (x : Nat) (es : List MapEntry) (h : ∀ e ∈ es, ∃ y, e.key = .float .f32 y) :
  (Instr.findKey kt (.float .f32 x) es).run P w = .ok (findF x es 0) w := by
 unfold Instr.findKey
 simp only [Sem.run_bind, run_underlying ht, Result.andThen]
 cases es with
 | nil => simp [Instr.findNow, findF]
 | cons e es =>
  have : Instr.findNow (.float .f32) (.float .f32 x) (e :: es) 0 = none := by
   unfold Instr.findNow Instr.sameNow
   rfl
  rw [this]
  exact run_findAsking ht w x (e :: es) 0 h
theorem run_checkKey_f32 {P : Program} {kt : TypeId} (ht : P.underlying kt = some (.float .f32)) (w : World) (x : Nat) (b : Bool) : (Instr.checkKey b 10000 kt (.float .f32 x)).run P w = .ok () w := by
 have h := run_underlying ht w
 unfold Instr.checkKey
 simp [h, Result.andThen]
theorem codeEs_keys (vol : Nat → Nat) (n : Nat) : ∀ e ∈ codeEs vol n, ∃ y, e.key = .float .f32 y := by
 intro e he
 unfold codeEs at he
 obtain ⟨i, _, rfl⟩ := List.mem_map.1 he
 exact ⟨_, rfl⟩
def CodeMap (w : World) (b : Nat) (vol : Nat → Nat) (n : Nat) : Prop := ∃ es, w.heap[b]? = some (.map es n) ∧ es.toList = codeEs vol n
theorem CodeMap.made (w : World) (vol : Nat → Nat) : CodeMap (w.alloc (.map #[] 0)) w.heap.size vol 0 := ⟨#[], by show (w.heap.push _)[w.heap.size]? = _; simp, rfl⟩
theorem CodeMap.lt {w : World} {b n : Nat} {vol : Nat → Nat} (h : CodeMap w b vol n) : b < w.heap.size := by
 obtain ⟨es, h1, _⟩ := h
 rcases Nat.lt_or_ge b w.heap.size with h2 | h2
 ·exact h2
 ·rw [Array.getElem?_eq_none h2] at h1; cases h1
theorem CodeMap.new {w w' : World} {b n : Nat} {vol : Nat → Nat} (h : CodeMap w b vol n) (hn : New w w') : CodeMap w' b vol n := by
 have hl := h.lt
 obtain ⟨es, h1, h2⟩ := h
 exact ⟨es, by rw [Below.block hn b hl, h1], h2⟩
theorem findF_none (x : Nat) (vol : Nat → Nat) (_n : Nat) : ∀ (l : List Nat) (i : Nat), (∀ j ∈ l, sameF x (vol j) = false) → findF x (l.map fun i => { key := .float .f32 (vol i), val := .int .i64 i, born := i }) i = none := by
 intro l
 induction l with
 | nil => intro i _; rfl
 | cons a l ih =>
  intro i h
  simp only [List.map_cons, findF]
  rw [h a (by simp), if_neg (by decide)]
  exact ih _ fun j hj => h j (by simp [hj])
theorem findF_val (x : Nat) (vol : Nat → Nat) : ∀ (l : List Nat) (i : Nat), (findF x (l.map fun i => { key := .float .f32 (vol i), val := .int .i64 i, born := i }) i).map (·.2) = (l.find? fun j => sameF x (vol j)).map fun j => Value.int .i64 (j : Int) := by
 intro l
 induction l with
 | nil => intro i; rfl
 | cons a l ih =>
  intro i
  simp only [List.map_cons, findF, List.find?_cons]
  cases sameF x (vol a) with
  | true => rfl
  | false => exact ih _
theorem CodeMap.put {P : Program} {t kt e : TypeId} (ht : P.underlying t = some (.map kt e)) (hk : P.underlying kt = some (.float .f32)) {w : World} {b n : Nat} {vol : Nat → Nat} (h : CodeMap w b vol n) (hd : ∀ j, j < n → sameF (vol n) (vol j) = false) :
  ∃ w', (Instr.mapUpdate t (.map (some b)) (.float .f32 (vol n)) (.int .i64 n)).run P w = .ok () w' ∧ CodeMap w' b vol (n + 1) ∧ w.grownBy w' (some b) := by
 obtain ⟨es, hb, he⟩ := h
 have hf := run_findKey_f32 hk w (vol n) es.toList (by rw [he]; exact codeEs_keys vol n)
 have hnone : findF (vol n) es.toList 0 = none := by
  rw [he]
  exact findF_none _ _ n _ _ fun j hj => hd j (by simpa using hj)
 rw [hnone] at hf
 refine ⟨setBlock w b (.map (es.push { key := .float .f32 (vol n), val := .int .i64 n, born := n }) (n + 1)), ?_, ⟨_, heap_setBlock_same hb _, by rw [Array.toList_push, he, codeEs_succ]⟩, ⟨rfl, rfl, rfl, by simp [setBlock], fun i _ hi => heap_setBlock_other hb _ (fun e => hi (by rw [e]))⟩⟩
 simp [Instr.mapUpdate, run_underlying ht, MapKept.run_getObj_map hb, run_checkKey_f32 hk, hf, MapKept.run_setObj_map _ hb, Result.andThen, setBlock]
def codeOf (vol : Nat → Nat) (n x : Nat) : Int × Bool := match (List.range n).find? fun j => sameF x (vol j) with
 | some j => (j, true)
 | none => (0, false)
theorem CodeMap.look {P : Program} {t kt e : TypeId} (ht : P.underlying t = some (.map kt e)) (hk : P.underlying kt = some (.float .f32)) {w : World} (hz : (zeroValue e).run P w = .ok (.int .i64 0) w) {b n : Nat} {vol : Nat → Nat} (h : CodeMap w b vol n) (x : Nat) :
  (Instr.lookup t (.map (some b)) (.float .f32 x) true).run P w = .ok (.tuple #[.int .i64 (codeOf vol n x).1, .bool (codeOf vol n x).2]) w := by
 obtain ⟨es, hb, he⟩ := h
 have hf := run_findKey_f32 hk w x es.toList (by rw [he]; exact codeEs_keys vol n)
 have hv := findF_val x vol (List.range n) 0
 have he' : es.toList = (List.range n).map fun i => { key := .float .f32 (vol i), val := .int .i64 i, born := i } := he
 rw [← he'] at hv
 unfold codeOf
 cases hfd : (List.range n).find? fun j => sameF x (vol j) with
 | none =>
  rw [hfd] at hv
  have h0 : findF x es.toList 0 = none := by simpa using hv
  rw [h0] at hf
  simp [Instr.lookup, run_underlying ht, MapKept.run_getObj_map hb, run_checkKey_f32 hk, hf, hz, Result.andThen]
 | some j =>
  rw [hfd] at hv
  obtain ⟨⟨i, v⟩, h0, h1⟩ : ∃ p, findF x es.toList 0 = some p ∧ p.2 = Value.int .i64 (j : Int) := by simpa using hv
  rw [h0] at hf
  simp only at h1
  subst h1
  simp [Instr.lookup, run_underlying ht, MapKept.run_getObj_map hb, run_checkKey_f32 hk, hf, Result.andThen]
theorem wpList_codePut {P : Program} (w : World) {ops : Array Oper} {rest : List Oper} {o : Oper} {a : Act} {Q : Exit → Act → World → Prop}
  (hg : o.guard = none) (m x v : Operand) (t : TypeId) (hop : o.op = Op.mapUpdate t m x v) (kt e : TypeId) (ht : P.underlying t = some (.map kt e)) (hk : P.underlying kt = some (.float .f32)) (b n : Nat) (vol : Nat → Nat)
  (hm : a.eval m = .map (some b)) (h : CodeMap w b vol n) (hx : a.eval x = .float .f32 (vol n)) (hv : a.eval v = .int .i64 n) (hd : ∀ j, j < n → sameF (vol n) (vol j) = false)
  (hK : ∀ w', CodeMap w' b vol (n + 1) → w.grownBy w' (some b) → wpList P ops Q rest (a.put o.dst undef) w') :
  wpList P ops Q (o :: rest) a w := by
 refine wpList_plain hg fun K' hK' => ?_
 obtain ⟨w', hrun, r1, r2⟩ := h.put ht hk hd
 unfold Oper.wp
 simp [execOp, hop, hm, hx, hv, hrun, Result.andThen]
 exact hK' _ _ (hK w' r1 r2)
end Go.Proofs.YtlfnibjmkfldgaaGreatDoor
namespace Go.Proofs.YtlfnibjmkfldgaaGreatDoor
open Go.RowKit Big
def volN (s z : Int) (c : Nat) : Nat := Flo.vol ((c : Int) - z) s
theorem volN_ne {s z : Int} {c e : Nat} (hs : -100 ≤ s) (hs' : s ≤ 100) (hz : 0 ≤ z) (hz' : z ≤ 5000) (hc : c ≤ 5000) (he : e ≤ 5000) (h : c ≠ e) : sameF (volN s z c) (volN s z e) = false := by
 unfold sameF volN
 show (Ieee.single.order _ _ == some Ordering.eq) = false
 rw [Flo.vol_same (by omega) (by omega) hs hs', decide_eq_false]
 omega
def codesL (vol : Nat → Nat) (n : Nat) : List Nat → List Int
 | [] => []
 | x :: l => (codeOf vol n x).1 :: codesL vol n l
def codesOk (vol : Nat → Nat) (n : Nat) (l : List Nat) : Prop := ∀ x ∈ l, (codeOf vol n x).2 = true
theorem codesL_snoc (vol : Nat → Nat) (n : Nat) (l : List Nat) (x : Nat) : codesL vol n (l ++ [x]) = codesL vol n l ++ [(codeOf vol n x).1] := by
 induction l with
 | nil => rfl
 | cons y l ih => show _ :: codesL vol n (l ++ [x]) = _ :: codesL vol n l ++ _; rw [ih]; rfl
theorem codesL_len (vol : Nat → Nat) (n : Nat) (l : List Nat) : (codesL vol n l).length = l.length := by
 induction l with
 | nil => rfl
 | cons y l ih => show (codesL vol n l).length + 1 = l.length + 1; rw [ih]
theorem codes_next {vol : Nat → Nat} {n : Nat} {xs : List Nat} {k : Nat} (hk : k < xs.length) {x : Nat} (hx : xs[k] = x) {ys : List Int} (hy : codesL vol n (xs.take k) = ys) : codesL vol n (xs.take (k + 1)) = ys ++ [(codeOf vol n x).1] := by
 rw [List.take_succ_eq_append_getElem hk, codesL_snoc, hy, hx]
theorem zero_int (w : World) : (zeroValue 3).run Tryz.prog w = .ok (.int .i64 0) w := by first | exact Tryz.zeroValue3 w | kernel_rfl
theorem grown_put {w wr w1 : World} {b : Nat} (hn : New w wr) (hb : w.heap.size ≤ b) (hg : wr.grownBy w1 (some b)) : New w w1 := by
 obtain ⟨a1, a2, a3, a4, a5⟩ := hn
 refine ⟨hg.os.trans a1, ?_, ?_, Nat.le_trans a4 hg.size, fun j hj => ?_⟩
 ·first | exact hg.tape.trans a2 | exact hg.output.trans a2
 ·first | exact hg.output.trans a3 | exact hg.tape.trans a3
 ·refine (hg.block j (Nat.lt_of_lt_of_le hj a4) ?_).trans (a5 j hj)
  intro h
  injection h with h
  omega
theorem Box.grownPut {w wr : World} {A b : Nat} {t : TypeId} {cs : Array Value} (h : Box w A t cs) (hne : A ≠ b) (hg : w.grownBy wr (some b)) : Box wr A t cs := by
 have := hg.block A h.lt (by intro h; injection h with h; omega)
 unfold Box at h ⊢
 rw [this, h]
set_option maxRecDepth 100000 in
set_option maxHeartbeats 4000000 in
theorem Codes_ok {b s z : Int} {g o : ByteArray} {qg qo : Rat} (h : AdcOk b s z g o qg qo) (a : Option Addr) (cap : Nat) (xs : List Nat) (w : World) (he : Env w) (hl : xs.length ≤ 4096) (hr : RdL w a (flts xs)) (h0 : samplesErr xs = 0)
  (N : Nat) (hN : (N : Int) = 2 ^ b.toNat) (hok : codesOk (volN s z) N xs) :
  Calls Tryz.prog 51 #[.agg #[.int .i64 b, .int .i64 s, .int .i64 z, .string g, .string o], .slice a xs.length cap] w (RowPost w 3 (ints (codesL (volN s z) N xs)) 0) := by
 have hc := fun W hW => checkAdc_ok h W hW
 have hs := fun W (hn : New w W) => samples_new a cap xs W (by omega) (hr.new hn)
 simp only [h0] at hs
 have hlo := h.blo
 have hhi := h.bhi
 have hslo := h.slo
 have hshi := h.shi
 have hzlo := h.zlo
 have hzhi := h.zhi
 have htp1 := top_bd hlo hhi
 obtain ⟨tp, htp⟩ : ∃ tp : Nat, (tp : Int) = 2 ^ b.toNat - 1 := ⟨N - 1, by omega⟩
 rw [← htp] at htp1 hzhi
 have ht := fun W => top_calls b s z g o W hlo hhi
 simp only [← htp] at ht
 have hv := fun (c : Nat) W (hcc : c ≤ 4095) => volts_calls h (c : Int) W (by omega) (by omega)
 change ∀ (c : Nat) W, c ≤ 4095 → Calls Tryz.prog 87 #[.agg #[.int .i64 b, .int .i64 s, .int .i64 z, .string g, .string o], .int .i64 (c : Int)] W fun e w' => e = .returned (.float .f32 (volN s z c)) ∧ New W w' at hv
 have hd : ∀ n, n ≤ tp → ∀ j, j < n → sameF (volN s z n) (volN s z j) = false := fun n hn j hj => volN_ne (by omega) (by omega) hzlo (by omega) (by omega) (by omega) (by omega)
 obtain ⟨vol, hvol⟩ : ∃ vol, volN s z = vol := ⟨_, rfl⟩
 rw [hvol] at hok hd ⊢
 simp only [hvol] at hv
 have htp2 : tp ≤ 4095 := by omega
 have hmm := @run_makeMap Tryz.prog
 have hNt : N = tp + 1 := by omega
 have hw1 : wrap64 ((tp : Int) + 1) = (N : Int) := by rw [ld_in (by omega) (by omega)]; omega
 have hNi : (N : Int) ≤ 5000 := by omega
 obtain ⟨i0, hi, hz0, hz1, hz2⟩ := info_parts info_int
 have hli : (xs.length : Int) ≤ 4096 := by omega
 clear h hlo hhi hslo hshi hzlo hzhi htp1 htp hvol h0 hN
 have HNT := Lib.hid hNt
 have HC := Lib.hid hc
 have HS := Lib.hid hs
 have HT := Lib.hid ht
 have HV := Lib.hid hv
 have HD := Lib.hid hd
 have HE := Lib.hid he
 have HOK := Lib.hid hok
 have HR := Lib.hid hr
 have HTP2 := Lib.hid htp2
 clear hNt hc hs ht hv hd he hok hr htp2
 go_enter Tryz.func51, Tryz.ntmps51
 go_wp2_with fail
 have BA := Lib.hid ((Box.alloc w (w.heap.size) 91 #[.int .i64 b, .int .i64 s, .int .i64 z, .string g, .string o] (by simp)).new (New.refl _))
 have HN := Lib.hid ((New.refl w).alloc (.cells #[.int .i64 b, .int .i64 s, .int .i64 z, .string g, .string o] 91))
 refine (HC.out _ (HE.out.new HN.out)).mono ?_
 rintro e w1 ⟨rfl, hn⟩
 replace BA := Lib.hid (BA.out.new hn)
 replace HN := Lib.hid (HN.out.trans hn)
 clear hn
 go_wp2_with fail
 refine (HS.out _ HN.out).mono ?_
 rintro e w2 ⟨rfl, hn⟩
 replace BA := Lib.hid (BA.out.new hn)
 replace HN := Lib.hid (HN.out.trans hn)
 clear hn
 go_wp2_with fail
 have HN0 := HN
 clear HN
 have BG := Lib.hid ((Box.alloc w2 (w2.heap.size) 29 #[.int .i64 0, .int .i64 0] (by simp)).new (New.refl _))
 have HN := Lib.hid ((New.refl w2).alloc (.cells #[.int .i64 0, .int .i64 0] 29))
 replace BA := Lib.hid (BA.out.new HN.out)
 have HN_ := HN0.out.trans HN.out
 clear HN HN0
 have HN := Lib.hid HN_
 clear HN_
 refine (pfirst2_new 0 0 _ _ 29 _ BG.out).mono ?_
 rintro e w3 ⟨rfl, hn⟩
 replace BA := Lib.hid (BA.out.new hn)
 replace HN := Lib.hid (HN.out.trans hn)
 clear hn
 obtain ⟨⟨pa0, pa1, pa2, pa3, pa4⟩, pa5⟩ := BA.out.five
 go_wp2_with fail
 clear pa0 pa1 pa2 pa3 pa4 pa5
 have hB : w.heap.size ≤ w3.heap.size := HN.out.size
 have hneq : w.heap.size ≠ w3.heap.size := by have := BA.out.lt; omega
 have hn := (New.refl w3).alloc (.map #[] 0)
 have CM_ := CodeMap.made w3 vol
 have CM := Lib.hid CM_
 have HB := Lib.hid hB
 have HNE := Lib.hid hneq
 clear CM_ hB hneq
 replace BA := Lib.hid (BA.out.new hn)
 replace HN := Lib.hid (HN.out.trans hn)
 clear hn
 obtain ⟨w4, hw4⟩ : ∃ w4, w3.alloc (.map #[] 0) = w4 := ⟨_, rfl⟩
 rw [hw4] at BA HN CM ⊢
 obtain ⟨m, hm⟩ : ∃ m, w3.heap.size = m := ⟨_, rfl⟩
 rw [hm] at CM HB HNE ⊢
 clear hw4 hm
 refine (HT.out _).mono ?_
 rintro e w5 ⟨rfl, hn⟩
 replace CM := Lib.hid (CM.out.new hn)
 replace BA := Lib.hid (BA.out.new hn)
 replace HN := Lib.hid (HN.out.trans hn)
 clear hn
 go_wp2_with fail
 clear BG
 rw [hw1]
 clear hw1
 go_loopw [27] (fun i wr => ∃ (k : Nat), k ≤ N ∧ i = .int .i64 (k : Int) ∧ Hid (CodeMap wr m vol k) ∧ Hid (New w wr) ∧ Hid (Box wr w.heap.size 91 #[.int .i64 b, .int .i64 s, .int .i64 z, .string g, .string o])) (fun i _ => N - (intOf i).toNat)
 case atStart => exact ⟨0, Nat.zero_le _, rfl, CM, HN, BA⟩
 case round =>
  clear HN BA CM
  obtain ⟨k, hk, rfl, CM, HN, BA⟩ := hrel
  by_cases hlt : k < N
  ·have hdk := HD.out k (by have := HNT.out; omega)
   obtain ⟨⟨pa0, pa1, pa2, pa3, pa4⟩, pa5⟩ := BA.out.five
   have HDK := Lib.hid hdk
   clear hdk
   go_wp2_with fail
   refine (HV.out k _ (by have := HNT.out; have := HTP2.out; omega)).mono ?_
   rintro e w6 ⟨rfl, hn⟩
   clear pa0 pa1 pa2 pa3 pa4 pa5
   replace CM := Lib.hid (CM.out.new hn)
   replace BA := Lib.hid (BA.out.new hn)
   replace HN := Lib.hid (HN.out.trans hn)
   clear hn
   go_wp2_with (at_mapUpdate; refine wpList_codePut _ rfl _ _ _ 151 rfl 23 3 Tryz.underlying151 Tryz.underlying23 m k vol rfl CM.out rfl rfl HDK.out ?_)
   intro w7 hcm hg
   have hN7 := grown_put HN.out HB.out hg
   have hB7 := BA.out.grownPut HNE.out hg
   clear CM HN BA hg
   have CM := Lib.hid hcm
   have HN := Lib.hid hN7
   have BA := Lib.hid hB7
   clear hcm hN7 hB7
   go_wp2_with fail
   go_roundw
   case rel => exact ⟨k + 1, by omega, by go_num, CM, HN, BA⟩
   case measure => simp [intOf]; omega
  ·have hkk : k = N := by omega
   subst hkk
   have hml := CM.out.lt
   have HML := Lib.hid hml
   clear hml
   go_wp2_with fail
   obtain ⟨w8, hw8⟩ : ∃ x, x = wr := ⟨_, rfl⟩
   rw [← hw8] at CM HN BA HML ⊢
   clear hw8
   go_loopw [9, 38] (fun v i wr => ∃ (j : Nat) (ys : List Int), j ≤ xs.length ∧ i = .int .i64 (j : Int) ∧ Hid (codesL vol k (xs.take j) = ys) ∧ Hid (wr.ownsRow w8.heap.size 3 1 v (ints ys).length (ints ys)) ∧ Hid (New w8 wr)) (fun _ i _ => xs.length - (intOf i).toNat)
   case atStart => exact ⟨0, [], Nat.zero_le _, rfl, Lib.hid rfl, Lib.hid (World.ownsRow_nil _ _ _ _), Lib.hid (New.refl _)⟩
   case round =>
    obtain ⟨j, ys, hj, rfl, HY, HO, HM⟩ := hrel
    by_cases hlt2 : j < xs.length
    ·obtain ⟨b1, off, rfl, hcell⟩ := HR.out.flt j hlt2
     have hcell := (HN.out.trans HM.out).cell hcell
     obtain ⟨x, hx⟩ : ∃ x, xs[j] = x := ⟨_, rfl⟩
     rw [hx] at hcell
     have hnx := codes_next hlt2 hx HY.out
     have hlook := (CM.out.new HM.out).look Tryz.underlying151 Tryz.underlying23 (zero_int _) x
     have hko : (codeOf vol k x).2 = true := HOK.out x (by rw [← hx]; exact List.getElem_mem hlt2)
     obtain ⟨c1, hc1⟩ : ∃ c, (codeOf vol k x).1 = c := ⟨_, rfl⟩
     rw [hko, hc1] at hlook
     rw [hc1] at hnx
     have hle : (ints ys).length = j := by rw [← HY.out]; simp [ints, codesL_len]; omega
     have h1 : ∀ u ∈ [Value.int .i64 c1], u.oneCell' = true := one_c2 c1
     clear hko
     have HX := Lib.hid hx
     have HNX := Lib.hid hnx
     have HC1 := Lib.hid hc1
     have HLE := Lib.hid hle
     have H1 := Lib.hid h1
     clear hx hnx hc1 hle h1
     go_wp2_with (at_builtin; refine wpList_append_own _ rfl _ _ 34 rfl w8.heap.size 3 i0 (.int .i64 0) 1 8 Tryz.underlying34 hi hz0 hz1 hz2 rfl (by decide) _ _ _ rfl (HO.out.alloc _) ⟨wr.heap.size, 0, none⟩ 1 1 [.int .i64 c1] rfl rfl (one_c1 _ _ _) H1.out (by have := HLE.out; unfold maxLen; omega) (by have := HLE.out; omega) (by have := HM.out.size; rw [← size_alloc]; omega) ?_)
     intro v' w9 hown' hgrow _
     have hN1 := grown_new HM.out HO.out hgrow
     have hO1 : w9.ownsRow w8.heap.size 3 1 v' (ints (ys ++ [c1])).length (ints (ys ++ [c1])) := by
      have : ints (ys ++ [c1]) = ints ys ++ [.int .i64 c1] := by simp [ints]
      rw [this]
      simpa using hown'
     clear hown' hgrow
     have HN1 := Lib.hid hN1
     have HO1 := Lib.hid hO1
     clear hN1 hO1
     go_wp2_with fail
     go_roundw
     case rel => exact ⟨j + 1, _, by omega, by go_num, HNX, HO1, HN1⟩
     case measure => simp [intOf]; omega
    ·have hkk : j = xs.length := by omega
     have hY := HY.out
     rw [hkk, List.take_length] at hY
     have HKK := Lib.hid hkk
     have HYY := Lib.hid hY
     clear hkk hY
     go_wp2_with fail
     go_ret2
     exact ⟨_, rfl, HN.out.trans HM.out, by rw [HYY.out]; exact World.ownsRow.mono HO.out HN.out.size⟩
end Go.Proofs.YtlfnibjmkfldgaaGreatDoor
namespace Go.Proofs.YtlfnibjmkfldgaaGreatDoor
open Go.RowKit Big
def runTo (p : Nat → Bool) (n : Nat) : Nat → Nat → Nat
 | 0, i => i
 | f + 1, i => if i < n ∧ p i = true then runTo p n f (i + 1) else i
def clipR (p : Nat → Bool) (n : Nat) : Nat → Nat → List (Nat × Nat)
 | 0, _ => []
 | f + 1, i => if i < n then (if i < runTo p n n i then [(i, runTo p n n i)] else []) ++ clipR p n f (runTo p n n i + 1) else []
theorem runTo_eq {p : Nat → Bool} {n t : Nat} : ∀ (f i : Nat), n - i ≤ f → i ≤ t → t ≤ n → (∀ j, i ≤ j → j < t → p j = true) → (t = n ∨ p t = false) → runTo p n f i = t := by
 intro f
 induction f with
 | zero =>
  intro i h1 h2 h3 _ _
  show i = t
  omega
 | succ f ih =>
  intro i h1 h2 h3 h4 h5
  show (if i < n ∧ p i = true then runTo p n f (i + 1) else i) = t
  by_cases h : i < t
  ·rw [if_pos ⟨by omega, h4 i (Nat.le_refl _) h⟩]
   exact ih (i + 1) (by omega) (by omega) h3 (fun j hj hj' => h4 j (by omega) hj') h5
  ·have : i = t := by omega
   subst this
   rw [if_neg]
   rintro ⟨h6, h7⟩
   rcases h5 with h5 | h5
   ·omega
   ·rw [h5] at h7; cases h7
theorem runTo_ge {p : Nat → Bool} {n : Nat} : ∀ (f i : Nat), i ≤ runTo p n f i := by
 intro f
 induction f with
 | zero => intro i; exact Nat.le_refl _
 | succ f ih =>
  intro i
  show i ≤ (if i < n ∧ p i = true then runTo p n f (i + 1) else i)
  split
  ·have := ih (i + 1); omega
  ·exact Nat.le_refl _
theorem clipR_fuel {p : Nat → Bool} {n : Nat} : ∀ (f g i : Nat), n - i < f → n - i < g → clipR p n f i = clipR p n g i := by
 intro f
 induction f with
 | zero => intro g i h; omega
 | succ f ih =>
  intro g i h1 h2
  cases g with
  | zero => omega
  | succ g =>
   show (if i < n then _ ++ clipR p n f _ else []) = (if i < n then _ ++ clipR p n g _ else [])
   by_cases h : i < n
   ·rw [if_pos h, if_pos h]
    have := runTo_ge (p := p) (n := n) n i
    rw [ih g _ (by omega) (by omega)]
   ·rw [if_neg h, if_neg h]
def pairs (l : List (Nat × Nat)) : List Value := l.flatMap fun p => [.int .i64 (p.1 : Int), .int .i64 (p.2 : Int)]
theorem pairs_snoc (l : List (Nat × Nat)) (a b : Nat) : pairs (l ++ [(a, b)]) = pairs l ++ [.int .i64 (a : Int), .int .i64 (b : Int)] := by simp [pairs]
theorem clip_next {p : Nat → Bool} {n i t : Nat} {ys total : List (Nat × Nat)} (h : ys ++ clipR p n (n + 2 - i) i = total) (hi : i < n) (ht : i ≤ t) (htn : t ≤ n) (hp : ∀ j, i ≤ j → j < t → p j = true) (hs : t = n ∨ p t = false) :
  (ys ++ (if i < t then [(i, t)] else [])) ++ clipR p n (n + 2 - (t + 1)) (t + 1) = total := by
 rw [← h]
 have e : n + 2 - i = (n + 1 - i) + 1 := by omega
 rw [e]
 show _ = ys ++ (if i < n then (if i < runTo p n n i then [(i, runTo p n n i)] else []) ++ clipR p n (n + 1 - i) (runTo p n n i + 1) else [])
 rw [if_pos hi, runTo_eq (t := t) n i (by omega) ht htn hp hs, List.append_assoc, clipR_fuel (n + 2 - (t + 1)) (n + 1 - i) (t + 1) (by omega) (by omega)]
def isEnd (cl : List Int) (tp : Int) (j : Nat) : Bool := match cl[j]? with | some c => c == 0 || c == tp | none => false
def clipped (cl : List Int) (tp : Int) : List (Nat × Nat) := clipR (isEnd cl tp) cl.length (cl.length + 2) 0
theorem RdL.int {w : World} {a : Option Addr} {l : List Int} (h : RdL w a (ints l)) (i : Nat) (hi : i < l.length) : ∃ b off, a = some ⟨b, off, none⟩ ∧ w.cell? ⟨b, off + i, none⟩ = some (.int .i64 l[i]) := by
 obtain ⟨b, off, e, hc⟩ := h i (by simpa [ints] using hi)
 exact ⟨b, off, e, by rw [hc]; simp [ints]⟩
set_option maxRecDepth 100000 in
set_option maxHeartbeats 4000000 in
theorem Clipped_ok (b s z : Int) (g o : ByteArray) (a : Option Addr) (n cap : Nat) (cl : List Int) (tp : Int) (w : World) (hn : cl.length = n) (hl : n ≤ 4096)
  (hcodes : ∀ W, New w W → Calls Tryz.prog 51 #[.agg #[.int .i64 b, .int .i64 s, .int .i64 z, .string g, .string o], .slice a n cap] W (RowPost W 3 (ints cl) 0))
  (htop : ∀ W, Calls Tryz.prog 82 #[.agg #[.int .i64 b, .int .i64 s, .int .i64 z, .string g, .string o]] W fun e w' => e = .returned (.int .i64 tp) ∧ New W w') :
  Calls Tryz.prog 52 #[.agg #[.int .i64 b, .int .i64 s, .int .i64 z, .string g, .string o], .slice a n cap] w (RowPostS w 55 2 (clipped cl tp).length (pairs (clipped cl tp)) 0) := by
 obtain ⟨i0, hi, hz0, hz1, hz2⟩ := info_parts info_arr2
 obtain ⟨p, hp⟩ : ∃ p, isEnd cl tp = p := ⟨_, rfl⟩
 obtain ⟨total, htot⟩ : ∃ l, clipped cl tp = l := ⟨_, rfl⟩
 have htot2 := htot
 unfold clipped at htot2
 rw [hp, hn] at htot2
 rw [htot]
 have hli : (n : Int) ≤ 4096 := by omega
 clear htot
 have HCODES := Lib.hid hcodes
 have HTOP := Lib.hid htop
 have HPP := Lib.hid hp
 have HTOT := Lib.hid htot2
 have HNL := Lib.hid hn
 have HLL := Lib.hid hl
 clear hcodes htop hp htot2 hn hl
 go_enter Tryz.func52, Tryz.ntmps52
 go_wp2_with fail
 have BA := Lib.hid ((Box.alloc w (w.heap.size) 91 #[.int .i64 b, .int .i64 s, .int .i64 z, .string g, .string o] (by simp)).new (New.refl _))
 have HN := Lib.hid ((New.refl w).alloc (.cells #[.int .i64 b, .int .i64 s, .int .i64 z, .string g, .string o] 91))
 refine (HCODES.out _ HN.out).mono ?_
 rintro e w1 ⟨v, rfl, hn, ho⟩
 obtain ⟨a2, cap2, rfl, hrd, hlen⟩ := own_rd ho
 have hlen2 : (ints cl).length = n := by rw [← HNL.out]; simp [ints]
 rw [hlen2]
 clear ho hlen
 have HRD := Lib.hid hrd
 have HL2 := Lib.hid hlen2
 clear hrd hlen2
 replace BA := Lib.hid (BA.out.new hn)
 replace HN := Lib.hid (HN.out.trans hn)
 clear hn
 go_wp2_with fail
 have HNW := HN
 clear HN
 go_loopw [8, 9] (fun v i wr => ∃ (f : Nat) (ys : List (Nat × Nat)), f ≤ n + 1 ∧ i = .int .i64 (f : Int) ∧ Hid (ys ++ clipR p n (n + 2 - f) f = total) ∧ Hid (ys.length ≤ f) ∧ Hid (wr.ownsRow w1.heap.size 55 2 v ys.length (pairs ys)) ∧ Hid (New w1 wr)) (fun _ i _ => n + 1 - (intOf i).toNat)
 case atStart => exact ⟨0, [], Nat.zero_le _, rfl, HTOT, Lib.hid (Nat.le_refl _), Lib.hid (World.ownsRow_nil _ _ _ _), Lib.hid (New.refl _)⟩
 case round =>
  obtain ⟨f, ys, hf, rfl, HS, HL, HO, HN⟩ := hrel
  by_cases hlt : f < n
  ·have HFN := Lib.hid hlt
   obtain ⟨w5, hw5⟩ : ∃ x, x = wr := ⟨_, rfl⟩
   rw [← hw5] at HO HN ⊢
   clear hw5
   go_wp2_with fail
   go_step3
   go_wp2_with fail
   go_step3
   go_wp2_with fail
   go_loopw [10] (fun x wi => ∃ (t : Nat), f ≤ t ∧ t ≤ n ∧ x = .int .i64 (t : Int) ∧ Hid (∀ j, f ≤ j → j < t → p j = true) ∧ Hid (New w5 wi)) (fun x _ => n - (intOf x).toNat)
   case atStart => exact ⟨f, Nat.le_refl _, by omega, rfl, Lib.hid (fun j h1 h2 => by omega), Lib.hid (New.refl _)⟩
   case round =>
    obtain ⟨t, hft, htn, rfl, HP, HNI⟩ := hrel
    have HFT := Lib.hid hft
    have HTN := Lib.hid htn
    by_cases hlt2 : t < n
    ·obtain ⟨b1, off, rfl, hcell⟩ := HRD.out.int t (by rw [HNL.out]; exact hlt2)
     have hcell := (HN.out.trans HNI.out).cell hcell
     have htc : t < cl.length := by rw [HNL.out]; exact hlt2
     obtain ⟨c, hc⟩ : ∃ c, cl[t] = c := ⟨_, rfl⟩
     rw [hc] at hcell
     have hpt : p t = (c == 0 || c == tp) := by
      rw [← HPP.out]
      unfold isEnd
      rw [List.getElem?_eq_getElem htc, hc]
     have BI_ := BA.out.new (HN.out.trans HNI.out)
     have BI := Lib.hid BI_
     have HC := Lib.hid hc
     clear BI_ hc
     by_cases hc0 : c = 0
     ·have hc1 : (c == 0) = true := by simpa using hc0
      have hpn : ∀ j, f ≤ j → j < t + 1 → p j = true := fun j h1 h2 => by
       by_cases h3 : j = t
       ·rw [h3, hpt, hc1]; rfl
       ·exact HP.out j h1 (by omega)
      have HC0 := Lib.hid hc0
      have HPN := Lib.hid hpn
      have HPT := Lib.hid hpt
      clear hc0 hpn hpt
      go_wp2_with fail
      go_roundw
      case rel => exact ⟨t + 1, by omega, by omega, by go_num, HPN, HNI⟩
      case measure => simp [intOf]; omega
     ·have hc1 : (c == 0) = false := beq_eq_false_iff_ne.2 hc0
      obtain ⟨⟨pi0, pi1, pi2, pi3, pi4⟩, pi5⟩ := BI.out.five
      go_wp2_with fail
      refine (HTOP.out _).mono ?_
      rintro e wj ⟨rfl, hn⟩
      clear pi0 pi1 pi2 pi3 pi4 pi5
      have HNJ := Lib.hid (HNI.out.trans hn)
      clear HNI hcell BI hn
      by_cases hc2 : c = tp
      ·have hc3 : (c == tp) = true := by simpa using hc2
       have hpn : ∀ j, f ≤ j → j < t + 1 → p j = true := fun j h1 h2 => by
        by_cases h3 : j = t
        ·rw [h3, hpt, hc3]; simp
        ·exact HP.out j h1 (by omega)
       have HC0 := Lib.hid hc0
       have HPN := Lib.hid hpn
       have HPT := Lib.hid hpt
       have HC2 := Lib.hid hc2
       clear hc0 hpn hpt hc2
       go_wp2_with fail
       go_roundw
       case rel => exact ⟨t + 1, by omega, by omega, by go_num, HPN, HNJ⟩
       case measure => simp [intOf]; omega
      ·have hc3 : (c == tp) = false := beq_eq_false_iff_ne.2 hc2
       have HST := Lib.hid (Or.inr (by rw [hpt, hc1, hc3]; rfl) : t = n ∨ p t = false)
       have HNI := HNJ
       clear HNJ
       obtain ⟨wi, hwi⟩ : ∃ x, x = wj := ⟨_, rfl⟩
       rw [← hwi] at HNI ⊢
       clear hwi
       have HC0 := Lib.hid hc0
       have HPT := Lib.hid hpt
       have HC2 := Lib.hid hc2
       clear hc0 hpt hc2
       have hnx := clip_next HS.out HFN.out HFT.out HTN.out HP.out HST.out
       have hO2 := own_newS HO.out HNI.out
       have hN2 := HN.out.trans HNI.out
       clear HO HN HS
       have HO := Lib.hid hO2
       have HN := Lib.hid hN2
       clear hO2 hN2
       by_cases hgt : f < t
       ·rw [if_pos hgt] at hnx
        have hlen := HL.out
        have hli2 : (ys.length : Int) ≤ 4096 := by omega
        have hcell2 := alloc_cells wi #[.int .i64 (f : Int), .int .i64 (t : Int)] 54
        have hc2 : ∀ u ∈ [Value.int .i64 (f : Int), .int .i64 (t : Int)], u.oneCell' = true := by intro u hu; simp at hu; rcases hu with rfl | rfl <;> rfl
        have hti : (f : Int) < (t : Int) := by omega
        have HNX := Lib.hid hnx
        have HLEN := Lib.hid hlen
        have HCELL2 := Lib.hid hcell2
        have HC2 := Lib.hid hc2
        clear hnx hlen hcell2 hc2
        go_wp2_with (at_builtin; refine wpList_append_own _ rfl _ _ 54 rfl w1.heap.size 55 i0 (.agg #[.int .i64 0, .int .i64 0]) 2 16 Tryz.underlying54 hi hz0 hz1 hz2 rfl (by decide) _ _ _ rfl (HO.out.alloc _) ⟨wi.heap.size, 0, none⟩ 1 1 [.int .i64 (f : Int), .int .i64 (t : Int)] rfl rfl (alloc_cells _ #[.int .i64 (f : Int), .int .i64 (t : Int)] _) HC2.out (by have := HLEN.out; unfold maxLen; omega) (by have := HLEN.out; omega) (by have := HN.out.size; rw [← size_alloc]; omega) ?_)
        intro v' w9 hown' hgrow _
        have hN1 := grown_newS HN.out HO.out hgrow
        have hO1 : w9.ownsRow w1.heap.size 55 2 v' (ys ++ [(f, t)]).length (pairs (ys ++ [(f, t)])) := by
         rw [pairs_snoc]
         simpa using hown'
        clear hown' hgrow
        have HN1 := Lib.hid hN1
        have HO1 := Lib.hid hO1
        clear hN1 hO1
        go_wp2_with fail
        go_roundw
        case rel => exact ⟨_, _, _, _, _, _, _, _, _, _, _, _, _, _, _, _, _, _, _, _, _, _, _, _, _, _, _, _, _, _, _, _, _, _, ⟨t + 1, _, by have := HTN.out; omega, by go_num, HNX, Lib.hid (by have := HLEN.out; simp; omega), HO1, HN1⟩, rfl⟩
        case measure => simp [intOf]; omega
       ·rw [if_neg hgt, List.append_nil] at hnx
        have hft2 : f = t := by omega
        subst hft2
        have HNX := Lib.hid hnx
        clear hnx
        go_wp2_with fail
        go_roundw
        case rel => exact ⟨_, _, _, _, _, _, _, _, _, _, _, _, _, _, _, _, _, _, _, _, _, _, _, _, _, _, _, _, _, _, _, _, _, _, ⟨f + 1, ys, by omega, by go_num, HNX, Lib.hid (by have := HL.out; omega), HO, HN⟩, rfl⟩
        case measure => simp [intOf]; omega
    ·have htn2 : t = n := by omega
     obtain ⟨wi, hwi⟩ : ∃ x, x = wr := ⟨_, rfl⟩
     rw [← hwi] at HNI ⊢
     clear hwi
     have HST := Lib.hid (Or.inl htn2 : t = n ∨ p t = false)
     have hnx := clip_next HS.out HFN.out HFT.out HTN.out HP.out HST.out
     have hO2 := own_newS HO.out HNI.out
     have hN2 := HN.out.trans HNI.out
     clear HO HN HS
     have HO := Lib.hid hO2
     have HN := Lib.hid hN2
     clear hO2 hN2
     have hgt : f < t := by omega
     clear htn2
     rw [if_pos hgt] at hnx
     have hlen := HL.out
     have hli2 : (ys.length : Int) ≤ 4096 := by omega
     have hcell2 := alloc_cells wi #[.int .i64 (f : Int), .int .i64 (t : Int)] 54
     have hc2 : ∀ u ∈ [Value.int .i64 (f : Int), .int .i64 (t : Int)], u.oneCell' = true := by intro u hu; simp at hu; rcases hu with rfl | rfl <;> rfl
     have hti : (f : Int) < (t : Int) := by omega
     have HNX := Lib.hid hnx
     have HLEN := Lib.hid hlen
     have HCELL2 := Lib.hid hcell2
     have HC2 := Lib.hid hc2
     clear hnx hlen hcell2 hc2
     go_wp2_with (at_builtin; refine wpList_append_own _ rfl _ _ 54 rfl w1.heap.size 55 i0 (.agg #[.int .i64 0, .int .i64 0]) 2 16 Tryz.underlying54 hi hz0 hz1 hz2 rfl (by decide) _ _ _ rfl (HO.out.alloc _) ⟨wi.heap.size, 0, none⟩ 1 1 [.int .i64 (f : Int), .int .i64 (t : Int)] rfl rfl (alloc_cells _ #[.int .i64 (f : Int), .int .i64 (t : Int)] _) HC2.out (by have := HLEN.out; unfold maxLen; omega) (by have := HLEN.out; omega) (by have := HN.out.size; rw [← size_alloc]; omega) ?_)
     intro v' w9 hown' hgrow _
     have hN1 := grown_newS HN.out HO.out hgrow
     have hO1 : w9.ownsRow w1.heap.size 55 2 v' (ys ++ [(f, t)]).length (pairs (ys ++ [(f, t)])) := by
      rw [pairs_snoc]
      simpa using hown'
     clear hown' hgrow
     have HN1 := Lib.hid hN1
     have HO1 := Lib.hid hO1
     clear hN1 hO1
     go_wp2_with fail
     go_roundw
     case rel => exact ⟨_, _, _, _, _, _, _, _, _, _, _, _, _, _, _, _, _, _, _, _, _, _, _, _, _, _, _, _, _, _, _, _, _, _, ⟨t + 1, _, by have := HTN.out; omega, by go_num, HNX, Lib.hid (by have := HLEN.out; simp; omega), HO1, HN1⟩, rfl⟩
     case measure => simp [intOf]; omega
  ·have hft : n ≤ f := by omega
   have hs := HS.out
   obtain ⟨k, hk⟩ : ∃ k, n + 2 - f = k := ⟨_, rfl⟩
   have he : clipR p n k f = [] := by
    cases k with
    | zero => rfl
    | succ k => show (if f < n then _ else []) = _; rw [if_neg hlt]
   rw [hk, he, List.append_nil] at hs
   clear hk he
   have HSS := Lib.hid hs
   have HFT := Lib.hid hft
   clear hs hft
   go_wp2_with fail
   go_ret2
   exact ⟨_, rfl, HNW.out.trans HN.out, by rw [← HSS.out]; exact World.ownsRow.mono HO.out HNW.out.size⟩
end Go.Proofs.YtlfnibjmkfldgaaGreatDoor
