/- Part B35. -/
import Derived.Lib.SmallJoins
import Derived.Maps.AppendAt
import Derived.Laws.AppendOwnNone
import Derived.Test.YtbkcjmojgglbkaaGreatDoorB33
namespace Go.Proofs.YtbkcjmojgglbkaaGreatDoor
open Go.RowKit Go.ChangeShapes Go.WideShapes Go.Deep Go.Joins
set_option maxRecDepth 100000
set_option maxHeartbeats 8000000
theorem array5 {α:Type}{cs:Array α}(h:cs.size=5):∃ c0 c1 c2 c3 c4,cs=#[c0,c1,c2,c3,c4]:=by
 obtain ⟨l⟩:=cs
 match l,h with
 | [c0,c1,c2,c3,c4],_=>exact ⟨c0,c1,c2,c3,c4,rfl⟩
section
variable {H:Type} {enc:TypeId × Value→H} {P:Program} {w:World} {base:Nat} {sp:Nat→Bool} {held:Bool}
theorem trod_struct5 {t:TypeId}{f0 f1 f2 f3 f4:Field}{fuel:Nat}{cs:List Value}{x:DataW H × List MemPlace}(ht:P.underlying t=some (.struct #[f0,f1,f2,f3,f4]))(h:DataW.trod enc P w base sp held fuel t cs=some x):
  ∃ y0 y1 y2 y3 y4 n,DataW.trod enc P w base sp held n f0.type ((cs.drop f0.offset).take (P.cellsOf f0.type))=some y0∧
   DataW.trod enc P w base sp held n f1.type ((cs.drop f1.offset).take (P.cellsOf f1.type))=some y1∧DataW.trod enc P w base sp held n f2.type ((cs.drop f2.offset).take (P.cellsOf f2.type))=some y2∧
   DataW.trod enc P w base sp held n f3.type ((cs.drop f3.offset).take (P.cellsOf f3.type))=some y3∧DataW.trod enc P w base sp held n f4.type ((cs.drop f4.offset).take (P.cellsOf f4.type))=some y4:=by
 obtain ⟨xs,n,_,rfl,hl,hlen,hf⟩:=DataW.trod_struct ht h
 match xs,hlen with
 | [y0,y1,y2,y3,y4],_=>exact ⟨y0,y1,y2,y3,y4,n,by simpa using hf 0 f0 rfl,by simpa using hf 1 f1 rfl,by simpa using hf 2 f2 rfl,by simpa using hf 3 f3 rfl,by simpa using hf 4 f4 rfl⟩
theorem open_agg5 {r:Reach} {b0:Nat} {t:TypeId} {f0 f1 f2 f3 f4:Field} {v:Value} {d:DataW H} {p:List MemPlace} (hs:P.underlying t=some (.struct #[f0,f1,f2,f3,f4])) (hone:oneCellFields P #[f0,f1,f2,f3,f4]=true) (hC:P.cellsOf t=5)
  (hv:Value.okWide P w r b0 t v) (h:DataW.Trod enc P w base sp held t v d p):
  ∃ (v0 v1 v2 v3 v4:Value) (y0 y1 y2 y3 y4:DataW H × List MemPlace) (n:Nat),v=.agg #[v0,v1,v2,v3,v4]∧
   DataW.trod enc P w base sp held n f0.type [v0]=some y0∧DataW.trod enc P w base sp held n f1.type [v1]=some y1∧DataW.trod enc P w base sp held n f2.type [v2]=some y2∧DataW.trod enc P w base sp held n f3.type [v3]=some y3∧DataW.trod enc P w base sp held n f4.type [v4]=some y4:=by
 obtain ⟨cs,rfl,hsz⟩:=okWide_struct hs hv;obtain ⟨c0,c1,c2,c3,c4,rfl⟩:=array5 (hsz.trans hC);obtain ⟨fuel,hf⟩:=h;obtain ⟨y0,y1,y2,y3,y4,n,h0,h1,h2,h3,h4⟩:=trod_struct5 hs hf;obtain ⟨o0,k0⟩:=hone_of hone 0 f0 rfl;obtain ⟨o1,k1⟩:=hone_of hone 1 f1 rfl;obtain ⟨o2,k2⟩:=hone_of hone 2 f2 rfl;obtain ⟨o3,k3⟩:=hone_of hone 3 f3 rfl;obtain ⟨o4,k4⟩:=hone_of hone 4 f4 rfl;exact ⟨c0,c1,c2,c3,c4,y0,y1,y2,y3,y4,n,rfl,by simpa[Value.cells,o0,k0] using h0,by simpa[Value.cells,o1,k1] using h1,by simpa[Value.cells,o2,k2] using h2,by simpa[Value.cells,o3,k3] using h3,by simpa[Value.cells,o4,k4] using h4⟩
theorem trod_str' {t:TypeId}{fuel:Nat}{v:Value}{y:DataW H × List MemPlace}(ht:P.underlying t=some .string)(h:DataW.trod enc P w base sp held fuel t [v]=some y):∃ s:ByteArray,v=.string s∧s.size≤9223372036854775807:=by
 obtain ⟨s,h1,_,hs⟩:=DataW.trod_string ht h;exact ⟨s,by simpa using h1,hs⟩
end
theorem in_adc {H:Type}{enc:TypeId × Value→H}{w:World}{base:Nat}{sp:Nat→Bool}{held:Bool}{r:Reach}{b0:Nat}{v:Value}{d:DataW H}{p:List MemPlace}(hval:Value.okWide Tryz.prog w r b0 24 v)(h:DataW.Trod enc Tryz.prog w base sp held 24 v d p):
  ∃ (b s z:Int) (g o:ByteArray),v=adcV b s z g o∧g.size≤9223372036854775807∧o.size≤9223372036854775807:=by
 obtain ⟨v0,v1,v2,v3,v4,y0,y1,y2,y3,y4,n,rfl,h0,h1,h2,h3,h4⟩:=open_agg5 Tryz.underlying24 (by kernel_rfl) (by kernel_rfl) hval h;obtain ⟨b,rfl,_⟩:=trod_int' Tryz.underlying3 h0;obtain ⟨s,rfl,_⟩:=trod_int' Tryz.underlying3 h1;obtain ⟨z,rfl,_⟩:=trod_int' Tryz.underlying3 h2;obtain ⟨g,rfl,hg⟩:=trod_str' Tryz.underlying22 h3;obtain ⟨o,rfl,ho⟩:=trod_str' Tryz.underlying22 h4;exact ⟨b,s,z,g,o,rfl,hg,ho⟩
end Go.Proofs.YtbkcjmojgglbkaaGreatDoor
