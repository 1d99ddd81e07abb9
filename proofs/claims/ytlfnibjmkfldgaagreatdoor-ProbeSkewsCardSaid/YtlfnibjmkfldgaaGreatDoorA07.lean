/- Part A07. -/
import Derived.Deep.RegionHeld3
import Derived.OrdersHeld
import Derived.StillTail
import Derived.Deep.RegionWith
import Derived.Test.YtlfnibjmkfldgaaGreatDoorA06
namespace Go.Proofs.YtlfnibjmkfldgaaGreatDoor
open Go.RowKit Big
theorem New.undrew {a b : World} (h : New a.drew b) : New a b := ((New.refl a).drew).trans h
def NotU (v : Value) : Prop := ∀ x : Int, v ≠ .int .u64 x
theorem NotU.slice (a : Option Addr) (l c : Nat) : NotU (.slice a l c) := fun _ h => by cases h
theorem NotU.i64 (n : Int) : NotU (.int .i64 n) := fun _ h => by cases h
theorem NotU.string (s : ByteArray) : NotU (.string s) := fun _ h => by cases h
theorem NotU.bool (b : Bool) : NotU (.bool b) := fun _ h => by cases h
theorem NotU.float (k : FloatKind) (b : Nat) : NotU (.float k b) := fun _ h => by cases h
theorem NotU.pointer (a : Option Addr) : NotU (.pointer a) := fun _ h => by cases h
theorem NotU.map (a : Option Nat) : NotU (.map a) := fun _ h => by cases h
theorem NotU.func (f : Fn) (a b : Array Value) : NotU (.func f a b) := fun _ h => by cases h
def NoDig (w : World) (B : Nat) : Prop := B < w.heap.size ∧ ∀ o x, w.cell? ⟨B, o, none⟩ ≠ some (.int .u64 x)
theorem NoDig.new {a b : World} {B : Nat} (h : NoDig a B) (hn : New a b) : NoDig b B :=
 ⟨Nat.lt_of_lt_of_le h.1 hn.size, fun o x => by rw [hn.cells B o h.1]; exact h.2 o x⟩
theorem noDig_alloc (w : World) (cs : Array Value) (t : TypeId) (hc : ∀ v, v ∈ cs → NotU v) : NoDig (w.alloc (.cells cs t)) w.heap.size := by
 refine ⟨by rw [← size_alloc]; omega, fun o x h => ?_⟩
 have : (w.alloc (.cells cs t)).cell? ⟨w.heap.size, o, none⟩ = cs[o]? := World.cell?_alloc_new w cs t o
 rw [this] at h
 exact hc _ (Array.mem_of_getElem? h) x rfl
theorem noDig2 (w : World) (x y : Value) (t : TypeId) (hx : NotU x) (hy : NotU y) : NoDig (w.alloc (.cells #[x, y] t)) w.heap.size :=
 noDig_alloc w _ t fun v hv => by
  simp at hv
  rcases hv with rfl | rfl <;> assumption
theorem noDig4 (w : World) (x y x' y' : Value) (t : TypeId) (hx : NotU x) (hy : NotU y) (hx' : NotU x') (hy' : NotU y') : NoDig (w.alloc (.cells #[x, y, x', y'] t)) w.heap.size :=
 noDig_alloc w _ t fun v hv => by
  simp at hv
  rcases hv with rfl | rfl | rfl | rfl <;> assumption
theorem cell?_setCell_or (w : World) (p q : Addr) (u v : Value) (h : (w.setCell p u).cell? q = some v) : v = u ∨ w.cell? q = some v := by
 by_cases e : p = q
 ·subst e
  cases hc : w.cell? p with
  | some x =>
   rw [World.cell?_setCell_same' w p u (by rw [hc]; rfl)] at h
   exact .inl (Option.some.inj h).symm
  | none =>
   obtain ⟨x, hx⟩ : ∃ x, w.heap[p.block]? = x := ⟨_, rfl⟩
   simp only [World.cell?, World.setCell, Array.getElem?_modify, if_true, hx] at h hc
   cases x with
   | none => simp at h
   | some o =>
    cases o with
    | cells c t f =>
     simp only [Option.map_some] at h hc
     split at h
     ·simp at h
     ·rename_i hs
      rw [if_neg hs] at hc
      simp only [Array.getElem?_setIfInBounds] at h
      have : ¬ p.off < c.size := by
       have : c.size ≤ p.off := by simpa using hc
       omega
      simp [this] at h
    | _ => simp at h
 ·right
  rwa [World.cell?_setCell_other (h := e)] at h
theorem NoDig.set {w : World} {B : Nat} (h : NoDig w B) (p : Addr) {u : Value} (hu : NotU u) : NoDig (w.setCell p u) B := by
 refine ⟨by simpa using h.1, fun o x hc => ?_⟩
 rcases cell?_setCell_or w p _ u _ hc with h1 | h1
 ·exact hu x h1.symm
 ·exact h.2 o x h1
theorem Rd.set {w : World} {a : Option Addr} {n : Nat} {f : Nat → Nat} (h : Rd w a .u64 n f) {p : Addr} (hp : NoDig w p.block) (u : Value) : Rd (w.setCell p u) a .u64 n f := fun i hi => by
 obtain ⟨b, off, e, hc⟩ := h i hi
 refine ⟨b, off, e, ?_⟩
 have : p.block ≠ b := by
  rintro rfl
  exact hp.2 _ _ hc
 rw [World.cell?_setCell_far _ _ _ _ (by exact this)]
 exact hc
theorem IsInt.set {w : World} {v : Value} {z : Int} (h : IsInt w v z) {p : Addr} (hp : NoDig w p.block) (u : Value) : IsInt (w.setCell p u) v z := by
 rcases h with ⟨h, lo, hi⟩ | ⟨b, off, n, cap, f, s, h, hs, hw, h0, hv, hz⟩
 ·exact .small h lo hi
 ·obtain ⟨a, cap', h1, h2, h3⟩ := hw
  exact .big b off n cap f s h hs ⟨a, cap', h1, h2.set hp u, h3⟩ h0 hv hz
def Box (w : World) (B : Nat) (t : TypeId) (cs : Array Value) : Prop := w.heap[B]? = some (.cells cs t (0, 0))
theorem Box.lt {w : World} {B : Nat} {t : TypeId} {cs : Array Value} (h : Box w B t cs) : B < w.heap.size := by
 unfold Box at h
 rcases Nat.lt_or_ge B w.heap.size with h1 | h1
 ·exact h1
 ·rw [Array.getElem?_eq_none h1] at h; cases h
theorem Box.new {a b : World} {B : Nat} {t : TypeId} {cs : Array Value} (h : Box a B t cs) (hn : New a b) : Box b B t cs := by
 have := Below.block hn B h.lt
 unfold Box at h ⊢
 rw [this, h]
theorem Box.alloc (w : World) (B : Nat) (t : TypeId) (cs : Array Value) (hB : B = w.heap.size) : Box (w.alloc (.cells cs t)) B t cs := by
 subst hB
 show (w.heap.push _)[w.heap.size]? = _
 simp
theorem Box.drewN {w : World} {B : Nat} {t : TypeId} {cs : Array Value} (h : Box w B t cs) (n : Nat) : Box (w.drewN n) B t cs := h
theorem Box.drew {w : World} {B : Nat} {t : TypeId} {cs : Array Value} (h : Box w B t cs) : Box w.drew B t cs := h
theorem Box.cell {w : World} {B : Nat} {t : TypeId} {cs : Array Value} (h : Box w B t cs) (i : Nat) : w.cell? ⟨B, i, none⟩ = cs[i]? := by
 unfold Box at h
 simp [World.cell?, h]
theorem Box.frozen {w : World} {B : Nat} {t : TypeId} {cs : Array Value} (h : Box w B t cs) (i : Nat) : w.frozen? ⟨B, i, none⟩ = false := by
 unfold Box at h
 simp [World.frozen?, h]
theorem Box.one {w : World} {B : Nat} {t : TypeId} {x : Value} (h : Box w B t #[x]) : w.cell? ⟨B, 0, none⟩ = some x ∧ w.frozen? ⟨B, 0, none⟩ = false ∧ B < w.heap.size := ⟨h.cell 0, h.frozen 0, h.lt⟩
theorem Box.two {w : World} {B : Nat} {t : TypeId} {x y : Value} (h : Box w B t #[x, y]) :
  w.cell? ⟨B, 0, none⟩ = some x ∧ w.cell? ⟨B, 1, none⟩ = some y ∧ w.frozen? ⟨B, 0, none⟩ = false ∧ w.frozen? ⟨B, 1, none⟩ = false ∧ B < w.heap.size := ⟨h.cell 0, h.cell 1, h.frozen 0, h.frozen 1, h.lt⟩
theorem Box.four {w : World} {B : Nat} {t : TypeId} {x y x' y' : Value} (h : Box w B t #[x, y, x', y']) :
  (w.cell? ⟨B, 0, none⟩ = some x ∧ w.cell? ⟨B, 1, none⟩ = some y ∧ w.cell? ⟨B, 2, none⟩ = some x' ∧ w.cell? ⟨B, 3, none⟩ = some y') ∧ w.frozen? ⟨B, 0, none⟩ = false ∧ w.frozen? ⟨B, 1, none⟩ = false ∧ w.frozen? ⟨B, 2, none⟩ = false ∧ w.frozen? ⟨B, 3, none⟩ = false ∧ B < w.heap.size :=
 ⟨⟨h.cell 0, h.cell 1, h.cell 2, h.cell 3⟩, h.frozen 0, h.frozen 1, h.frozen 2, h.frozen 3, h.lt⟩
theorem Box.set {w : World} {B : Nat} {t : TypeId} {cs : Array Value} (h : Box w B t cs) (i : Nat) (u : Value) : Box (w.setCell ⟨B, i, none⟩ u) B t (cs.setIfInBounds i u) := by
 unfold Box at h ⊢
 simp [World.setCell, Array.getElem?_modify, h]
theorem Box.other {w : World} {B : Nat} {t : TypeId} {cs : Array Value} (h : Box w B t cs) {p : Addr} (hp : p.block ≠ B) (u : Value) : Box (w.setCell p u) B t cs := by
 unfold Box at h ⊢
 simp [World.setCell, Array.getElem?_modify, h, hp]
theorem Box.put2 {w : World} {B : Nat} {t : TypeId} {x y : Value} (h : Box w B t #[x, y]) (u u' : Value) : Box ((w.setCell ⟨B, 0, none⟩ u).setCell ⟨B, 1, none⟩ u') B t #[u, u'] := (h.set 0 u).set 1 u'
theorem Box.put4 {w : World} {B : Nat} {t : TypeId} {x y x' y' : Value} (h : Box w B t #[x, y, x', y']) (u u' v v' : Value) : Box ((((w.setCell ⟨B, 0, none⟩ u).setCell ⟨B, 1, none⟩ u').setCell ⟨B, 2, none⟩ v).setCell ⟨B, 3, none⟩ v') B t #[u, u', v, v'] := (((h.set 0 u).set 1 u').set 2 v).set 3 v'
theorem Box.noDig {w : World} {B : Nat} {t : TypeId} {cs : Array Value} (h : Box w B t cs) (hc : ∀ v, v ∈ cs → NotU v) : NoDig w B :=
 ⟨h.lt, fun o x e => by
  rw [h.cell o] at e
  exact hc _ (Array.mem_of_getElem? e) x rfl⟩
theorem Box.noDig2 {w : World} {B : Nat} {t : TypeId} {s : Int} {a : Option Addr} {l c : Nat} (h : Box w B t #[.int .i64 s, .slice a l c]) : NoDig w B :=
 h.noDig fun v hv => by
  simp at hv
  rcases hv with rfl | rfl
  ·exact .i64 s
  ·exact .slice a l c
theorem Box.noDig4 {w : World} {B : Nat} {t : TypeId} {s : Int} {a : Option Addr} {l c : Nat} {s' : Int} {a' : Option Addr} {l' c' : Nat} (h : Box w B t #[.int .i64 s, .slice a l c, .int .i64 s', .slice a' l' c']) : NoDig w B :=
 h.noDig fun v hv => by
  simp at hv
  rcases hv with rfl | rfl | rfl | rfl
  ·exact .i64 s
  ·exact .slice a l c
  ·exact .i64 s'
  ·exact .slice a' l' c'
theorem IsInt.put2 {w : World} {v : Value} {z : Int} (h : IsInt w v z) {B : Nat} {t : TypeId} {s : Int} {a : Option Addr} {l c : Nat} (hb : Box w B t #[.int .i64 s, .slice a l c]) (n : Int) (b : Option Addr) (m k : Nat) :
  IsInt ((w.setCell ⟨B, 0, none⟩ (.int .i64 n)).setCell ⟨B, 1, none⟩ (.slice b m k)) v z :=
 (h.set (p := ⟨B, 0, none⟩) hb.noDig2 _).set (p := ⟨B, 1, none⟩) (hb.noDig2.set _ (.i64 n)) _
theorem IsInt.put4 {w : World} {v : Value} {z : Int} (h : IsInt w v z) {B : Nat} {t : TypeId} {s s' : Int} {a a' : Option Addr} {l c l' c' : Nat} (hb : Box w B t #[.int .i64 s, .slice a l c, .int .i64 s', .slice a' l' c']) (n n' : Int) (b b' : Option Addr) (m k m' k' : Nat) :
  IsInt ((((w.setCell ⟨B, 0, none⟩ (.int .i64 n)).setCell ⟨B, 1, none⟩ (.slice b m k)).setCell ⟨B, 2, none⟩ (.int .i64 n')).setCell ⟨B, 3, none⟩ (.slice b' m' k')) v z :=
 (((h.set (p := ⟨B, 0, none⟩) hb.noDig4 _).set (p := ⟨B, 1, none⟩) (hb.noDig4.set _ (.i64 n)) _).set (p := ⟨B, 2, none⟩) ((hb.noDig4.set _ (.i64 n)).set _ (.slice b m k)) _).set (p := ⟨B, 3, none⟩) (((hb.noDig4.set _ (.i64 n)).set _ (.slice b m k)).set _ (.i64 n')) _
theorem New.put2 {a w : World} (h : New a w) {B : Nat} (hB : a.heap.size ≤ B) (u u' : Value) : New a ((w.setCell ⟨B, 0, none⟩ u).setCell ⟨B, 1, none⟩ u') := (h.setCell hB _).setCell hB _
theorem New.put4 {a w : World} (h : New a w) {B : Nat} (hB : a.heap.size ≤ B) (u u' v v' : Value) : New a ((((w.setCell ⟨B, 0, none⟩ u).setCell ⟨B, 1, none⟩ u').setCell ⟨B, 2, none⟩ v).setCell ⟨B, 3, none⟩ v') := (((h.setCell hB _).setCell hB _).setCell hB _).setCell hB _
theorem Bd.le {z z' : Int} (h : Bd z) (hl : z'.natAbs ≤ z.natAbs) : Bd z' := by
 obtain ⟨k, h1, h2⟩ := h
 exact ⟨k, h1, by omega⟩
theorem Bd.small {z : Int} (lo : -9223372036854775808 ≤ z) (hi : z ≤ 9223372036854775807) : Bd z := ⟨64, by omega, by
 have : (2 : Nat) ^ 64 = 18446744073709551616 := by decide
 omega⟩
theorem Box.other2 {w : World} {B B' : Nat} {t : TypeId} {cs : Array Value} (h : Box w B t cs) (hp : B' ≠ B) (u u' : Value) : Box ((w.setCell ⟨B', 0, none⟩ u).setCell ⟨B', 1, none⟩ u') B t cs :=
 (h.other (p := ⟨B', 0, none⟩) hp u).other (p := ⟨B', 1, none⟩) hp u'
theorem Box.away {w : World} {B B' : Nat} {t t' : TypeId} {cs cs' : Array Value} (h : Box w B t cs) (_h' : Box w B' t' cs') (hp : B' ≠ B) (u u' : Value) : Box ((w.setCell ⟨B', 0, none⟩ u).setCell ⟨B', 1, none⟩ u') B t cs :=
 h.other2 hp u u'
theorem New.putAt {a w : World} (h : New a w) {B : Nat} {t : TypeId} {cs : Array Value} (_hb : Box w B t cs) (hB : a.heap.size ≤ B) (u u' : Value) : New a ((w.setCell ⟨B, 0, none⟩ u).setCell ⟨B, 1, none⟩ u') := h.put2 hB u u'
end Go.Proofs.YtlfnibjmkfldgaaGreatDoor
namespace Go.Proofs.YtlfnibjmkfldgaaGreatDoor
open Go
section
variable {P : Program} {ops : Array Oper} {Q : Exit → Act → World → Prop} {md : Region.Mode} {S : World → Prop}
def wpT (P : Program) (md : Region.Mode) (ops : Array Oper) (Q : Exit → Act → World → Prop) (S : World → Prop) (n : Nat) : Nat → Array Bool → Act → World → Prop
 | 0, listed, a, w => Region.ready md ops listed = [] ∧ Q .normal a w
 | fuel + 1, listed, a, w =>
  (Region.ready md ops listed = [] → Q .normal a w) ∧
  ∀ i ∈ Region.ready md ops listed, wpOp P ops Q i (fun a' w' => (i < n → S w') ∧ wpT P md ops Q S n fuel (listed.setIfInBounds i true) a' w') a w
theorem wpAny_of_T {n : Nat} : ∀ (fuel : Nat) (listed : Array Bool) (a : Act) (w : World), wpT P md ops Q S n fuel listed a w → wpAny P md ops Q fuel listed a w
 | 0, _, _, _, h => h
 | fuel + 1, _, _, _, h => ⟨h.1, fun i hi => wpOp_mono (fun a' w' h' => wpAny_of_T fuel _ a' w' h'.2) (h.2 i hi)⟩
theorem wpT_first {n i : Nat} {oi : Oper} {v : Value} (hi : ops[i]? = some oi) (hsel : ∀ (j : Nat) (o : Oper) cs b, ops[j]? = some o → o.op ≠ .select cs b)
  (hs : Region.sinkB md ops n = true) (hc : Region.chainB md ops n = true) (hn : n < ops.size) (hin : i < n)
  (hQ : ∀ c a w, Q (.panic c) (a.put oi.dst v) w → Q (.panic c) a w) :
  ∀ (fuel : Nat) (listed : Array Bool) (a : Act) (w : World), HeadInv md ops n listed →
   (∀ j oj, ops[j]? = some oj → j ≠ i → listed.getD j true = false → (∀ e ∈ oj.after, Region.binds md e = true → e.on ≠ i) → oi.apart ops oj = true) →
   i ∈ Region.ready md ops listed → YieldsIf P ops S oi v a → S w →
   wpT P md ops Q S n fuel (listed.setIfInBounds i true) (a.put oi.dst v) w → wpT P md ops Q S n (fuel + 1) listed a w := by
 intro fuel
 induction fuel with
 | zero =>
  intro listed a w _ _ hr hy hS H
  refine ⟨fun h => (by rw [h] at hr; cases hr), fun j hj => ?_⟩
  by_cases hji : j = i
  ·subst hji; exact hy.wpOp hi hS ⟨fun _ => hS, H⟩
  ·have := ready_mono hj hji
   rw [H.1] at this
   cases this
 | succ fuel ih =>
  intro listed a w inv hfree hr hy hS H
  have hun := (mem_ready.1 hr).1
  refine ⟨fun h => (by rw [h] at hr; cases hr), fun j hj => ?_⟩
  have hjn : j < n := by
   rcases Nat.lt_or_ge j n with h | h
   ·exact h
   ·exact absurd hj (tail_waits hs hc hn inv _ i rfl hin hun j h)
  by_cases hji : j = i
  ·subst hji; exact hy.wpOp hi hS ⟨fun _ => hS, H⟩
  ·have h1 := H.2 j (ready_mono hj hji)
   obtain ⟨hjun, oj, hoj, hall⟩ := mem_ready.1 hj
   have hnot : ∀ e ∈ oj.after, Region.binds md e = true → e.on ≠ i := fun e he hb heq => by
    have h1 := hall e he hb
    rw [heq, getD_both hun] at h1
    cases h1
   have h2 := wpOp_putIf hoj (hfree j oj hoj hji hjun hnot) (fun cs b => hsel i oi cs b hi) (fun cs b => hsel j oj cs b hoj) hQ hy h1
   have hfree' : ∀ k ok, ops[k]? = some ok → k ≠ i → (listed.setIfInBounds j true).getD k true = false →
     (∀ e ∈ ok.after, Region.binds md e = true → e.on ≠ i) → oi.apart ops ok = true := fun k ok hk hki hun hno => by
    refine hfree k ok hk hki ?_ hno
    by_cases hjk : j = k
    ·subst hjk; exact hjun
    ·rw [getD_set_ne true hjk] at hun; exact hun
   refine wpOp_mono (fun a' w' h3 => ⟨h3.2.1, ih (listed.setIfInBounds j true) a' w' (inv.set hj hjn) hfree' (ready_mono hr (Ne.symm hji)) h3.1 (h3.2.1 hjn) ?_⟩) h2
   rw [Array.setIfInBounds_comm _ _ hji]
   exact h3.2.2
def headB (md : Region.Mode) (ops : Array Oper) (n : Nat) (listed : Array Bool) : Bool :=
 listed.size == ops.size &&
 ((List.range ops.size).all fun j => !listed.getD j false || (match ops[j]? with | some oj => oj.after.all fun e => !Region.binds md e || listed.getD e.on false | none => true)) &&
 (List.range ops.size).all fun t => t < n || !listed.getD t true
theorem headB_spec {n : Nat} {listed : Array Bool} (h : headB md ops n listed = true) : HeadInv md ops n listed := by
 simp only [headB, Bool.and_eq_true, beq_iff_eq] at h
 obtain ⟨⟨h1, h2⟩, h3⟩ := h
 refine ⟨h1, fun j oj hj hl e he hb => ?_, fun t ht ht' => ?_⟩
 ·have hjs : j < ops.size := (Array.getElem?_eq_some_iff.1 hj).1
  have := List.all_eq_true.1 h2 j (List.mem_range.2 hjs)
  rw [hl, hj] at this
  simp only [Bool.not_true, Bool.false_or] at this
  have := Array.all_eq_true'.1 this e he
  rw [hb] at this
  simpa using this
 ·have := List.all_eq_true.1 h3 t (List.mem_range.2 ht')
  have h4 : decide (t < n) = false := by simp; omega
  rw [h4] at this
  simpa using this
def takeB (md : Region.Mode) (ops : Array Oper) (n : Nat) (listed : Array Bool) (i : Nat) : Bool :=
 Region.noSelect ops && Region.sinkB md ops n && Region.chainB md ops n && decide (n < ops.size) && decide (i < n) && Region.free md ops listed i && (Region.ready md ops listed).contains i && headB md ops n listed
theorem wpT_take {n : Nat} (i : Nat) {oi : Oper} {v : Value} {fuel : Nat} {listed : Array Bool} {a : Act} {w : World} (hi : ops[i]? = some oi) (hB : takeB md ops n listed i = true)
  (hQ : ∀ c a w, Q (.panic c) (a.put oi.dst v) w → Q (.panic c) a w) (hS : S w) (hy : YieldsIf P ops S oi v a)
  (h : wpT P md ops Q S n fuel (listed.setIfInBounds i true) (a.put oi.dst v) w) : wpT P md ops Q S n (fuel + 1) listed a w := by
 simp only [takeB, Bool.and_eq_true, decide_eq_true_eq] at hB
 obtain ⟨⟨⟨⟨⟨⟨⟨h1, h2⟩, h3⟩, h4⟩, h5⟩, h6⟩, h7⟩, h8⟩ := hB
 exact wpT_first hi (Region.noSelect_spec h1) h2 h3 h4 h5 hQ fuel listed a w (headB_spec h8) (Region.free_spec hi h6) (by simpa using h7) hy hS h
theorem wpT_one {n : Nat} (i : Nat) {oi : Oper} {fuel : Nat} {listed : Array Bool} {a : Act} {w : World} (hi : ops[i]? = some oi) (hr : Region.ready md ops listed = [i])
  (h : ∀ K' : Act → World → Prop, Shut (∀ a w, (i < n → S w) → wpT P md ops Q S n fuel (listed.setIfInBounds i true) a w → K' a w) → if Region.wanted oi (yielded ops a.tmps) = true then Oper.wp P oi a w K' Q else K' (a.put oi.dst undef) w) :
  wpT P md ops Q S n (fuel + 1) listed a w := by
 refine ⟨fun h0 => (by rw [hr] at h0; cases h0), fun j hj => ?_⟩
 rw [hr] at hj
 obtain rfl : j = i := by simpa using hj
 exact wpOp_step hi fun K' hK => h K' fun a w hS hW => hK a w ⟨hS, hW⟩
theorem wpT_two {n : Nat} (i j : Nat) {oi oj : Oper} {fuel : Nat} {listed : Array Bool} {a : Act} {w : World} (hi : ops[i]? = some oi) (hj : ops[j]? = some oj) (hr : Region.ready md ops listed = [i, j])
  (h1 : ∀ K' : Act → World → Prop, Shut (∀ a w, (i < n → S w) → wpT P md ops Q S n fuel (listed.setIfInBounds i true) a w → K' a w) → if Region.wanted oi (yielded ops a.tmps) = true then Oper.wp P oi a w K' Q else K' (a.put oi.dst undef) w)
  (h2 : ∀ K' : Act → World → Prop, Shut (∀ a w, (j < n → S w) → wpT P md ops Q S n fuel (listed.setIfInBounds j true) a w → K' a w) → if Region.wanted oj (yielded ops a.tmps) = true then Oper.wp P oj a w K' Q else K' (a.put oj.dst undef) w) :
  wpT P md ops Q S n (fuel + 1) listed a w := by
 refine ⟨fun h0 => (by rw [h0] at hr; cases hr), fun k hk => ?_⟩
 rw [hr] at hk
 have : k = i ∨ k = j := by simpa using hk
 rcases this with rfl | rfl
 ·exact wpOp_step hi fun K' hK => h1 K' fun a w hS hW => hK a w ⟨hS, hW⟩
 ·exact wpOp_step hj fun K' hK => h2 K' fun a w hS hW => hK a w ⟨hS, hW⟩
theorem wpT_three {n : Nat} (i j k : Nat) {oi oj ok : Oper} {fuel : Nat} {listed : Array Bool} {a : Act} {w : World} (hi : ops[i]? = some oi) (hj : ops[j]? = some oj) (hk : ops[k]? = some ok) (hr : Region.ready md ops listed = [i, j, k])
  (h1 : ∀ K' : Act → World → Prop, Shut (∀ a w, (i < n → S w) → wpT P md ops Q S n fuel (listed.setIfInBounds i true) a w → K' a w) → if Region.wanted oi (yielded ops a.tmps) = true then Oper.wp P oi a w K' Q else K' (a.put oi.dst undef) w)
  (h2 : ∀ K' : Act → World → Prop, Shut (∀ a w, (j < n → S w) → wpT P md ops Q S n fuel (listed.setIfInBounds j true) a w → K' a w) → if Region.wanted oj (yielded ops a.tmps) = true then Oper.wp P oj a w K' Q else K' (a.put oj.dst undef) w)
  (h3 : ∀ K' : Act → World → Prop, Shut (∀ a w, (k < n → S w) → wpT P md ops Q S n fuel (listed.setIfInBounds k true) a w → K' a w) → if Region.wanted ok (yielded ops a.tmps) = true then Oper.wp P ok a w K' Q else K' (a.put ok.dst undef) w) :
  wpT P md ops Q S n (fuel + 1) listed a w := by
 refine ⟨fun h0 => (by rw [h0] at hr; cases hr), fun m hm => ?_⟩
 rw [hr] at hm
 have : m = i ∨ m = j ∨ m = k := by simpa using hm
 rcases this with rfl | rfl | rfl
 ·exact wpOp_step hi fun K' hK => h1 K' fun a w hS hW => hK a w ⟨hS, hW⟩
 ·exact wpOp_step hj fun K' hK => h2 K' fun a w hS hW => hK a w ⟨hS, hW⟩
 ·exact wpOp_step hk fun K' hK => h3 K' fun a w hS hW => hK a w ⟨hS, hW⟩
theorem wpT_seq {n : Nat} : ∀ (l : List Oper) (k : Nat) (listed : Array Bool) (a : Act) (w : World), n ≤ k → (∀ j, l[j]? = ops[k + j]?) →
  Region.seqB md ops l.length k listed = true → wpList P ops Q l a w → wpT P md ops Q S n l.length listed a w
 | [], _, _, _, _, _, _, hB, h => ⟨by simpa [Region.seqB] using hB, h⟩
 | o :: l, k, listed, a, w, hk, hl, hB, h => by
  have h0 : ops[k]? = some o := by simpa using (hl 0).symm
  simp only [List.length_cons, Region.seqB, Bool.and_eq_true, decide_eq_true_eq] at hB
  refine ⟨fun h1 => (by rw [hB.1] at h1; cases h1), fun i hi => ?_⟩
  rw [hB.1] at hi
  obtain rfl : i = k := by simpa using hi
  have hw : wpOp P ops Q i (wpList P ops Q l) a w := by unfold wpOp; simp only [h0]; exact h
  exact wpOp_mono (fun a' w' h' => ⟨fun h => by omega, wpT_seq l (i + 1) _ a' w' (by omega) (fun j => by have := hl (j + 1); simpa [Nat.add_assoc, Nat.add_comm 1 j] using this) hB.2 h'⟩) hw
theorem wpT_tail {n fuel : Nat} {listed : Array Bool} {a : Act} {w : World} (hf : (ops.toList.drop n).length = fuel) (hB : Region.seqB md ops (ops.toList.drop n).length n listed = true) (h : wpList P ops Q (ops.toList.drop n) a w) : wpT P md ops Q S n fuel listed a w := by
 subst hf
 exact wpT_seq _ n listed a w (Nat.le_refl _) (fun j => by simp [List.getElem?_drop]) hB h
theorem wp_region_T {id : Nat} {a : Act} {w : World} (n : Nat) (S : World → Prop) (N : Nat) (L : Array Bool) (hN : ops.size = N) (hL : Array.replicate N false = L) (hm : P.follows .mixedOrders = true) (h : wpT P .any ops Q S n N L a w.drew) : (Code.region id ops true).wp P Q a w := by
 subst hN hL
 exact wp_region_any hm (wpAny_of_T _ _ _ _ h)
end
end Go.Proofs.YtlfnibjmkfldgaaGreatDoor
