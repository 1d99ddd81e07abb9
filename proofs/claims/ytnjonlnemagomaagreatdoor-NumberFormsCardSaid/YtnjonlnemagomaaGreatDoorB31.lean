/- Part B31. -/
import Derived.Laws.EntriesVeiled
import Derived.Deep.Onto
import Derived.OwnWalk
import Derived.Laws.AppendOwn
import Derived.Test.YtnjonlnemagomaaGreatDoorB11
import Derived.Test.YtnjonlnemagomaaGreatDoorB25
namespace Go.Proofs.YtnjonlnemagomaaGreatDoor
open Go.RowKit Big
set_option maxRecDepth 100000
set_option maxHeartbeats 8000000
def strs (l:List ByteArray):List Value:=l.map Value.string
theorem RdL.str {w:World}{a:Option Addr}{l:List ByteArray}(h:RdL w a (strs l))(i:Nat)(hi:i < l.length):∃ b off,a=some ⟨b,off,none⟩/\w.cell? ⟨b,off+i,none⟩=some (.string l[i]):=by
 obtain ⟨b,off,e,hc⟩:=h i (by simpa[strs] using hi);exact ⟨b,off,e,by rw[hc];simp[strs]⟩
def yag:List ByteArray->Int
 | []=>0
 | v::l=>if y1j v.data.toList=0 then yag l else y1j v.data.toList
theorem yg2 (l:List ByteArray)(k:Nat)(hk:k < l.length):yag (l.drop k)=if y1j l[k].data.toList=0 then yag (l.drop (k+1)) else y1j l[k].data.toList:=by
 rw[List.drop_eq_getElem_cons hk];rfl
end Go.Proofs.YtnjonlnemagomaaGreatDoor
