/- Part B21. -/
import Derived.Laws.EntriesVeiled
import Derived.Deep.Onto
import Derived.OwnWalk
import Derived.Laws.AppendOwn
import Derived.Test.YtnjonlnemagomaaGreatDoorB18
namespace Go.Proofs.YtnjonlnemagomaaGreatDoor
open Go.RowKit Big Tryz
set_option maxRecDepth 100000
set_option maxHeartbeats 8000000
set_option linter.all false
def strs (l:List ByteArray):List Value:=l.map Value.string
theorem RdL.str {w:World}{a:Option Addr}{l:List ByteArray}(h:RdL w a (strs l))(i:Nat)(hi:i < l.length):∃ b aa,a=some ⟨b,aa,none⟩∧w.cell? ⟨b,aa+i,none⟩=some (.string l[i]):=by
 obtain ⟨b,aa,e,hc⟩:=h i (by simpa[strs] using hi);exact ⟨b,aa,e,by rw[hc];simp[strs]⟩
def rowErr:List ByteArray→Int
 | []=>0
 | v::l=>if ratErr v.data.toList=0 then rowErr l else ratErr v.data.toList
theorem rowErr_drop (l:List ByteArray)(k:Nat)(hk:k < l.length):rowErr (l.drop k)=if ratErr l[k].data.toList=0 then rowErr (l.drop (k+1)) else ratErr l[k].data.toList:=by
 rw[List.drop_eq_getElem_cons hk];rfl
end Go.Proofs.YtnjonlnemagomaaGreatDoor
