/- Part CardEn06. -/
import Derived.Lib.SmallJoins
import Derived.Maps.AppendAt
import Derived.Laws.AppendOwnNone
import Derived.Test.YtnjonlnemagomaaGreatDoorB21
import Derived.Test.YtnjonlnemagomaaGreatDoorB22
import Derived.Test.YtnjonlnemagomaaGreatDoorCardEn05
namespace Go.Proofs.YtnjonlnemagomaaGreatDoor
open Go.RowKit Big Go.Lib Go.ChangeShapes Go.WideShapes Go.Deep Go.Joins Go.Proofs.Tryz
set_option maxRecDepth 100000
set_option maxHeartbeats 8000000
set_option linter.all false
theorem rrow_calls (a:Option Addr)(cap n:Nat)(vs:List ByteArray)(E:Int)(w:World)(hn0:vs.length=n)(hl:n≤4096)(hr:RdL w a (strs vs))(hE:rowErr vs=E)(hsz:∀ (k:Nat) (h1:k < vs.length),(vs[k]).size≤100000):
  Calls prog 85 #[.slice a n cap] w (RetNew w E):=by
 have aj:∀ (k:Nat) (h1:k < vs.length) (W:World),Calls prog 18 #[.string vs[k]] W fun e w'=>e=.returned (.int .i64 (ratErr vs[k].data.toList))∧New W w':=fun k h1 W=>rcheck_calls vs[k] W (by have:=hsz k h1;omega)
 have an:(n:Int)≤4096:=by omega
 clear hsz hl;refine zh4 ?_ aj hr hE hn0;clear aj hr hE hn0;intro ak HR al ai;go_in;go_wp2_with fail;go_loopw [3] (fun i wr=>∃ (k:Nat),k≤n∧i=.int .i64 (k:Int)∧Hid (rowErr (vs.drop k)=E)∧Hid (New w wr)) (fun i _=>n - (RowKit.intOf i).toNat)
 case atStart=>exact ⟨0,Nat.zero_le _,rfl,al,hid (New.refl _)⟩
 case round=>
  obtain ⟨k,hk,rfl,HP,HN⟩:=hrel;by_cases hlt:k < n
  ·have ae:k < vs.length:=by rw[ai.out];exact hlt
   obtain ⟨b1,ao,rfl,ab⟩:=HR.out.str k ae;have ab:=HN.out.cell ab;have aa:=ak.out k ae;have ac:=rowErr_drop vs k ae;rw[HP.out] at ac;obtain ⟨x,hx⟩:∃ x,vs[k]=x:=⟨_,rfl⟩;rw[hx] at ab ac;simp only[hx] at aa;obtain ⟨r,hr⟩:∃ r,ratErr x.data.toList=r:=⟨_,rfl⟩;rw[hr] at ac;simp only[hr] at aa;by_cases hr0:r=0
   ·subst hr0;rw[if_pos rfl] at ac;refine zh4 ?_ aa hx ac hr;clear aa hx ac hr;intro ad HX af am;go_wp2_with fail;refine zM (ad _) fun w4 hn=>?_;clear ab;replace HN:=tW HN hn;clear hn;go_wp2_with fail;go_roundw
    case rel=>exact ⟨k+1,by omega,by go_num,hid af.out.symm,HN⟩
    case measure=>simp[RowKit.intOf];omega
   ·rw[if_neg hr0] at ac
    have ht:(r != 0)=true:=by simpa using hr0
    refine zh4 ?_ aa hx ac hr;clear aa hx ac hr;intro ad HX af am;clear hr0;go_wp2_with fail;refine zM (ad _) fun w4 hn=>?_;clear ab;replace HN:=tW HN hn;clear hn;go_wp2_with fail;go_ret;exact ⟨by rw[←af.out];rfl,HN.out⟩
  ·have ah:k=n:=by omega
   have ag:E=0:=by
    rw[←HP.out,ah,←ai.out,List.drop_length];rfl
   replace ah:=hid ah;replace ag:=hid ag;go_wp2_with fail;go_ret;exact ⟨by rw[ag.out];rfl,HN.out⟩
section
variable {H:Type} {enc:TypeId × Value→H} {P:Program} {w:World} {base:Nat} {sp:Nat→Bool} {held:Bool}
theorem trod_str' {t:TypeId}{fuel:Nat}{v:Value}{y:DataW H × List MemPlace}(ht:P.underlying t=some .string)(h:DataW.trod enc P w base sp held fuel t [v]=some y):∃ s:ByteArray,v=.string s∧s.size≤9223372036854775807:=by
 obtain ⟨s,h1,_,hs⟩:=DataW.trod_string ht h;exact ⟨s,by simpa using h1,hs⟩
end
section
variable {H:Type} {enc:TypeId × Value→H} {P:Program} {w:World} {base:Nat} {sp:Nat→Bool} {held:Bool}
end
theorem in_span {H:Type}{enc:TypeId × Value→H}{w:World}{base:Nat}{sp:Nat→Bool}{held:Bool}{r:Reach}{b0:Nat}{v:Value}{d:DataW H}{p:List MemPlace}(hval:Value.okWide prog w r b0 53 v)(h:DataW.Trod enc prog w base sp held 53 v d p):
  ∃ (x y:ByteArray),v=.agg #[.string x,.string y]∧x.size≤9223372036854775807∧y.size≤9223372036854775807:=by
 obtain ⟨v0,v1,y0,y1,n,rfl,_,_,h0,h1⟩:=Joins.open_agg2 underlying53 (by kernel_rfl) (by kernel_rfl) hval h;obtain ⟨c,rfl,hc⟩:=trod_str' underlying23 h0;obtain ⟨t,rfl,ht⟩:=trod_str' underlying23 h1;exact ⟨c,t,rfl,hc,ht⟩
theorem in_part {H:Type}{enc:TypeId × Value→H}{w:World}{base:Nat}{sp:Nat→Bool}{held:Bool}{r:Reach}{b0:Nat}{v:Value}{d:DataW H}{p:List MemPlace}(hval:Value.okWide prog w r b0 88 v)(h:DataW.Trod enc prog w base sp held 88 v d p):
  ∃ (x y:Nat),v=.agg #[.int .u8 x,.int .u8 y]∧x≤255∧y≤255:=by
 obtain ⟨v0,v1,y0,y1,n,rfl,_,_,h0,h1⟩:=Joins.open_agg2 underlying88 (by kernel_rfl) (by kernel_rfl) hval h;obtain ⟨c,rfl,hc⟩:=trod_int' underlying5 h0;obtain ⟨t,rfl,ht⟩:=trod_int' underlying5 h1;have k1:=bounds_u8 hc;have k2:=bounds_u8 ht;exact ⟨c.toNat,t.toNat,by rw[Int.toNat_of_nonneg k1.1,Int.toNat_of_nonneg k2.1],by omega,by omega⟩
end Go.Proofs.YtnjonlnemagomaaGreatDoor
