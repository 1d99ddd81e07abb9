/- Part A22. -/
import Derived.Laws.StructEq
import Derived.Test.YtlfnibjmkfldgaaGreatDoorA21
namespace Go.Proofs.YtlfnibjmkfldgaaGreatDoor
open Go.RowKit Big
theorem one_put {w w6 : World} {x : Rat} {B : Nat} {t : TypeId} {s s' : Int} {a a' : Option Addr} {l c l' c' : Nat} {n n' : Int} {b b' : Option Addr} {m k m' k' : Nat} (hN : New w w6) (bp : Box w6 B t #[.int .i64 s, .slice a l c, .int .i64 s', .slice a' l' c']) (hB : w.heap.size ≤ B)
  (h : IsFrac w6 (.agg #[.int .i64 n, .slice b m k, .int .i64 n', .slice b' m' k']) x) :
  New w ((((w6.setCell ⟨B, 0, none⟩ (.int .i64 n)).setCell ⟨B, 1, none⟩ (.slice b m k)).setCell ⟨B, 2, none⟩ (.int .i64 n')).setCell ⟨B, 3, none⟩ (.slice b' m' k')) ∧
  Box ((((w6.setCell ⟨B, 0, none⟩ (.int .i64 n)).setCell ⟨B, 1, none⟩ (.slice b m k)).setCell ⟨B, 2, none⟩ (.int .i64 n')).setCell ⟨B, 3, none⟩ (.slice b' m' k')) B t #[.int .i64 n, .slice b m k, .int .i64 n', .slice b' m' k'] ∧
  IsFrac ((((w6.setCell ⟨B, 0, none⟩ (.int .i64 n)).setCell ⟨B, 1, none⟩ (.slice b m k)).setCell ⟨B, 2, none⟩ (.int .i64 n')).setCell ⟨B, 3, none⟩ (.slice b' m' k')) (.agg #[.int .i64 n, .slice b m k, .int .i64 n', .slice b' m' k']) x :=
 ⟨hN.put4 hB _ _ _ _, bp.put4 _ _ _ _, h.put4 bp _ _ _ _ _ _ _ _⟩
theorem two_put {w w6 : World} {x y : Rat} {B C : Nat} {t t' : TypeId} {s s' : Int} {a a' : Option Addr} {l c l' c' : Nat} {r r' : Int} {d d' : Option Addr} {i j i' j' : Nat} {n n' : Int} {b b' : Option Addr} {m k m' k' : Nat} {p p' : Int} {e e' : Option Addr} {f g f' g' : Nat} (hN : New w w6)
  (bp : Box w6 B t #[.int .i64 s, .slice a l c, .int .i64 s', .slice a' l' c']) (bq : Box w6 C t' #[.int .i64 r, .slice d i j, .int .i64 r', .slice d' i' j']) (hB : w.heap.size ≤ B) (hC : w.heap.size ≤ C) (hne : B ≠ C)
  (h1 : IsFrac w6 (.agg #[.int .i64 n, .slice b m k, .int .i64 n', .slice b' m' k']) x) (h2 : IsFrac w6 (.agg #[.int .i64 p, .slice e f g, .int .i64 p', .slice e' f' g']) y) :
  ∀ W, W = ((((((((w6.setCell ⟨B, 0, none⟩ (.int .i64 n)).setCell ⟨B, 1, none⟩ (.slice b m k)).setCell ⟨B, 2, none⟩ (.int .i64 n')).setCell ⟨B, 3, none⟩ (.slice b' m' k')).setCell ⟨C, 0, none⟩ (.int .i64 p)).setCell ⟨C, 1, none⟩ (.slice e f g)).setCell ⟨C, 2, none⟩ (.int .i64 p')).setCell ⟨C, 3, none⟩ (.slice e' f' g')) →
  New w W ∧ Box W B t #[.int .i64 n, .slice b m k, .int .i64 n', .slice b' m' k'] ∧ Box W C t' #[.int .i64 p, .slice e f g, .int .i64 p', .slice e' f' g'] ∧ IsFrac W (.agg #[.int .i64 n, .slice b m k, .int .i64 n', .slice b' m' k']) x ∧ IsFrac W (.agg #[.int .i64 p, .slice e f g, .int .i64 p', .slice e' f' g']) y := by
 rintro W rfl
 exact ⟨(hN.put4 hB _ _ _ _).put4 hC _ _ _ _, (bp.put4 _ _ _ _).other4 (Ne.symm hne) _ _ _ _, (bq.other4 hne _ _ _ _).put4 _ _ _ _, (h1.put4 bp _ _ _ _ _ _ _ _).put4 (bq.other4 hne _ _ _ _) _ _ _ _ _ _ _ _, (h2.put4 bp _ _ _ _ _ _ _ _).put4 (bq.other4 hne _ _ _ _) _ _ _ _ _ _ _ _⟩
theorem eq_mark (c1 c2 : Int) (t1 t2 : ByteArray) (h : c1 ≠ c2) (W : World) : (binOp .eql 110 (.agg #[.int .i64 c1, .string t1]) (.agg #[.int .i64 c2, .string t2])).run Tryz.prog W = .ok (.bool false) W := by
 have hc : (c1 == c2) = false := beq_eq_false_iff_ne.2 h
 have hf : (Tryz.prog.fieldsOf 110).toList.length = 2 := by kernel_rfl
 rw [run_eql_struct, run_equalIn_struct (P := Tryz.prog) W 9999 110 #[.int .i64 c1, .string t1] #[.int .i64 c2, .string t2] (by kernel_rfl) (by kernel_rfl)]
 obtain ⟨f1, f2, hl⟩ : ∃ f1 f2, (Tryz.prog.fieldsOf 110).toList = [f1, f2] := by
  match h : (Tryz.prog.fieldsOf 110).toList, hf with
  | [a, b], _ => exact ⟨a, b, rfl⟩
 have e1 : f1.name ≠ "_" ∧ f1.type = 3 ∧ f1.offset = 0 := by
  have : (Tryz.prog.fieldsOf 110).toList[0]? = some f1 := by rw [hl]; rfl
  have h2 : (Tryz.prog.fieldsOf 110).toList[0]?.map (fun f => (f.name, f.type, f.offset)) = some ("Code", 3, 0) := by kernel_rfl
  rw [this] at h2
  simp at h2
  refine ⟨by rw [h2.1]; decide, h2.2.1, h2.2.2⟩
 rw [hl]
 have hu : Tryz.prog.underlying 3 = some (.int .i64) := Tryz.underlying3
 obtain ⟨ii, hi, hz0, hz1, hz2⟩ := info_parts info_int
 have hp : ∀ (x : Int) (s : ByteArray), (part 3 #[.int .i64 x, .string s] 0).run Tryz.prog W = .ok (.int .i64 x) W := by
  intro x s
  simp [go_sem, part, sizeOf, typeInfo, Result.andThen]
 unfold Op.eqFields
 rw [if_pos e1.1, e1.2.1, e1.2.2]
 simp only [Sem.run_bind, hp, Result.andThen_ok, run_equalIn_int W 9998 3 .i64 .i64 c1 c2 hu, hc]
 simp [Result.andThen]
theorem info_mark : (Tryz.prog.info? 110).map (fun i => (i.zero, i.size, i.bytes)) = some (some (.agg #[.int .i64 0, .string ByteArray.empty]), 2, 24) := by kernel_rfl
theorem mark_at (a b c d : Value) (W : World) : (Instr.index 153 (.agg #[a, b, c, d]) (.int .i64 0)).run Tryz.prog W = .ok (.agg #[a, b]) W ∧ (Instr.index 153 (.agg #[a, b, c, d]) (.int .i64 1)).run Tryz.prog W = .ok (.agg #[c, d]) W := by
 obtain ⟨ii, hi, hz0, hz1, hz2⟩ := info_parts info_mark
 have hu : Tryz.prog.underlying 153 = some (.array 2 110) := by kernel_rfl
 have hag : ∀ W, (isAgg 110).run Tryz.prog W = .ok true W := by
  intro W
  have h2 : (Tryz.prog.underlying 110).isSome = true := by kernel_rfl
  obtain ⟨d, hd⟩ := Option.isSome_iff_exists.1 h2
  have h3 : (match Tryz.prog.underlying 110 with | some (.struct _) => true | _ => false) = true := by kernel_rfl
  rw [hd] at h3
  cases d <;> simp at h3
  simp [isAgg, run_underlying hd, Result.andThen]
 constructor
 ·simp [Instr.index, asIntOf, run_underlying hu, part, hag, sizeOf, typeInfo, hi, hz1, Result.andThen]
 ·simp [Instr.index, asIntOf, run_underlying hu, part, hag, sizeOf, typeInfo, hi, hz1, Result.andThen]
def FracAt (W : World) (B : Nat) (q : Rat) : Prop := ∃ (s : Int) (a : Option Addr) (l c : Nat) (s' : Int) (a' : Option Addr) (l' c' : Nat), Box W B 140 #[.int .i64 s, .slice a l c, .int .i64 s', .slice a' l' c'] ∧ IsFrac W (.agg #[.int .i64 s, .slice a l c, .int .i64 s', .slice a' l' c']) q
theorem FracAt.new {W W' : World} {B : Nat} {q : Rat} (h : FracAt W B q) (hn : New W W') : FracAt W' B q := by
 obtain ⟨s, a, l, c, s', a', l', c', h1, h2⟩ := h
 exact ⟨s, a, l, c, s', a', l', c', h1.new hn, h2.new hn⟩
def rawText (q : Rat) : ByteArray := ⟨(ratText q).toArray⟩
theorem text_raw (va : Value) (q : Rat) (W : World) (h : IsFrac W va q) (hs : SmF q) (he : Env W) : Calls Tryz.prog 95 #[va] W fun e w' => e = .returned (.string (rawText q)) ∧ New W w' := text_small va q W h hs he
end Go.Proofs.YtlfnibjmkfldgaaGreatDoor
