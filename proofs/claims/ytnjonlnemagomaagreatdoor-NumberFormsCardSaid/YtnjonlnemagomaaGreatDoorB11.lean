/- Part B11. -/
import Derived.Deep.Onto
import Derived.OwnWalk
import Derived.Laws.AppendOwn
import Derived.Test.YtnjonlnemagomaaGreatDoorB10
namespace Go.Proofs.YtnjonlnemagomaaGreatDoor
open Go.RowKit Big
set_option maxRecDepth 100000
set_option maxHeartbeats 8000000
theorem y0j (w:World)(t:TypeId)(cs:Array Value):∃ x,w.alloc (.cells cs t)=x/\Box x w.heap.size t cs/\New w x:=⟨_,rfl,Box.alloc w _ t cs rfl,(New.refl w).alloc _⟩
theorem ypf (k a b:Nat)(ha:a=6*k)(hb:b=20*k):(10:Nat)^a<=2^b:=by
 subst ha hb;rw[Nat.pow_mul,Nat.pow_mul];exact Nat.pow_le_pow_left (by decide) k
theorem Fits.fb {q:Rat}(h:Fits q):FB 2000 q:=by
 have h1:=Fits.iff.1 h;have h2:(10:Nat)^600<=2^2000:=ypf 100 600 2000 rfl rfl
 have h3:∀ M:Nat,q.den < M->((q.den:Int)).natAbs < M:=fun M h=>by simpa using h
 exact ⟨Nat.lt_of_lt_of_le h1.1 h2,Nat.lt_of_lt_of_le (h3 _ h1.2) h2⟩
def words (l:List Nat):List Value:=l.map fun (x:Nat)=>Value.int .u16 (x:Int)
def geqF (x y:Nat):Bool:=FloatKind.f32.format.order x y==some Ordering.gt || FloatKind.f32.format.order x y==some Ordering.eq
end Go.Proofs.YtnjonlnemagomaaGreatDoor
