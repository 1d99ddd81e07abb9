/- Part B34. -/
import Derived.Lib.SmallJoins
import Derived.Maps.AppendAt
import Derived.Laws.AppendOwnNone
import Derived.Test.YtnjonlnemagomaaGreatDoorB25
import Derived.Test.YtnjonlnemagomaaGreatDoorB28
namespace Go.Proofs.YtnjonlnemagomaaGreatDoor
open Go.RowKit Go.ChangeShapes Go.WideShapes Go.Deep Go.Joins
set_option maxRecDepth 100000
set_option maxHeartbeats 8000000
section
variable {H:Type} {enc:TypeId × Value->H} {P:Program} {w:World} {base:Nat} {sp:Nat->Bool} {held:Bool}
theorem ynj {r:Reach}{b0:Nat}{t:TypeId}{v:Value}{d:DataW H}{p:List MemPlace}(ht:P.underlying t=some .string)(hval:Value.okWide P w r b0 t v)(hd:DataW.Trod enc P w base sp held t v d p):
  ∃ s:ByteArray,v=.string s/\s.size<=9223372036854775807:=by
 obtain ⟨s,rfl⟩:=okWide_string ht hval;obtain ⟨fuel,hf⟩:=hd;obtain ⟨s',h,_,hs⟩:=DataW.trod_string ht hf;simp[Value.cells] at h;subst h;exact ⟨_,rfl,hs⟩
end
theorem okWide_arr {P:Program}{w:World}{r:Reach}{b0 n:Nat}{t e:TypeId}{v:Value}(ht:P.underlying t=some (.array n e))(h:Value.okWide P w r b0 t v):∃ cs,v=.agg cs/\cs.size=P.cellsOf t:=by
 simp only[Value.okWide,ht]at h;obtain ⟨cs,h1,h2,_⟩:=h;exact ⟨cs,h1,h2⟩
theorem yo6 {α:Type}{cs:Array α}(h:cs.size=2):∃ c0 c1,cs=#[c0,c1]:=by
 obtain ⟨l⟩:=cs
 match l,h with
 | [c0,c1],_=>exact ⟨c0,c1,rfl⟩
section
variable {H:Type} {enc:TypeId × Value->H} {P:Program} {w:World} {base:Nat} {sp:Nat->Bool} {held:Bool}
theorem ymv {t e:TypeId}{r:Reach}{b0:Nat}{v:Value}{d:DataW H}{p:List MemPlace}(ht:P.underlying t=some (.array 2 e))(h2:P.underlying e=some (.int .i64))(hc:P.cellsOf e=1)(hn:P.cellsOf t=2)(hval:Value.okWide P w r b0 t v)(h:DataW.Trod enc P w base sp held t v d p):
  ∃ x y:Int,v=.agg #[.int .i64 x,.int .i64 y]:=by
 obtain ⟨cs,rfl,hs⟩:=okWide_arr ht hval;obtain ⟨c0,c1,rfl⟩:=yo6 (hs.trans hn);obtain ⟨fuel,hf⟩:=h;obtain ⟨_,m,hm⟩:=ykh ht hc hn hf;obtain ⟨y0,h0⟩:=hm 0 c0 (by simp[Value.cells]);obtain ⟨y1,h1⟩:=hm 1 c1 (by simp[Value.cells]);obtain ⟨x,rfl,_⟩:=trod_int' h2 h0;obtain ⟨y,rfl,_⟩:=trod_int' h2 h1;exact ⟨x,y,rfl⟩
end
end Go.Proofs.YtnjonlnemagomaaGreatDoor
