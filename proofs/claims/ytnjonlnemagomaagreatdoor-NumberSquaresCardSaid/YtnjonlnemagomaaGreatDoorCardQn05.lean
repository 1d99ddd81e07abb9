/- Part CardQn05. -/
import Derived.Lib.SmallJoins
import Derived.Maps.AppendAt
import Derived.Laws.AppendOwnNone
import Derived.Test.YtnjonlnemagomaaGreatDoorB21
import Derived.Test.YtnjonlnemagomaaGreatDoorB22
import Derived.Test.YtnjonlnemagomaaGreatDoorCardQn04
namespace Go.Proofs.YtnjonlnemagomaaGreatDoor
open Go.RowKit Big Go.Lib Go.ChangeShapes Go.WideShapes Go.Deep Go.Joins Go.Proofs.Tryz
set_option maxRecDepth 100000
set_option maxHeartbeats 8000000
set_option linter.all false
theorem rrow_calls (a:Option Addr)(cap n:Nat)(vs:List ByteArray)(E:Int)(w:World)(hn0:vs.length=n)(hl:n≤4096)(hr:RdL w a (strs vs))(hE:rowErr vs=E)(hsz:∀ (k:Nat) (h1:k < vs.length),(vs[k]).size≤100000):
  Calls prog 85 #[.slice a n cap] w (RetNew w E):=by
 have aj:∀ (k:Nat) (h1:k < vs.length) (W:World),Calls prog 18 #[.string vs[k]] W fun e w'=>e=.returned (.int .i64 (ratErr vs[k].data.toList))∧New W w':=fun k h1 W=>rcheck_calls vs[k] W (by have:=hsz k h1;omega)
 have an:(n:Int)≤4096:=by omega
 clear hsz hl;refine zh4 ?_ aj hr hE hn0;clear aj hr hE hn0;intro ak HR al ai;go_in;go_wp2_with fail;go_loopw [3] (fun i wr=>∃ (k:Nat),k≤n∧i=.int .i64 (k:Int)∧Hid (rowErr (vs.drop k)=E)∧Hid (New w wr)) (fun i _=>n - (RowKit.intOf i).toNat)
 case atStart=>exact ⟨0,Nat.zero_le _,rfl,al,hid (New.refl _)⟩
 case round=>
  obtain ⟨k,hk,rfl,HP,HN⟩:=hrel;by_cases hlt:k < n
  ·have ae:k < vs.length:=by rw[ai.out];exact hlt
   obtain ⟨b1,ao,rfl,ab⟩:=HR.out.str k ae;have ab:=HN.out.cell ab;have aa:=ak.out k ae;have ac:=rowErr_drop vs k ae;rw[HP.out] at ac;obtain ⟨x,hx⟩:∃ x,vs[k]=x:=⟨_,rfl⟩;rw[hx] at ab ac;simp only[hx] at aa;obtain ⟨r,hr⟩:∃ r,ratErr x.data.toList=r:=⟨_,rfl⟩;rw[hr] at ac;simp only[hr] at aa;by_cases hr0:r=0
   ·subst hr0;rw[if_pos rfl] at ac;refine zh4 ?_ aa hx ac hr;clear aa hx ac hr;intro ad HX af am;go_wp2_with fail;refine zM (ad _) fun w4 hn=>?_;clear ab;replace HN:=tW HN hn;clear hn;go_wp2_with fail;go_roundw
    case rel=>exact ⟨k+1,by omega,by go_num,hid af.out.symm,HN⟩
    case measure=>simp[RowKit.intOf];omega
   ·rw[if_neg hr0] at ac
    have ht:(r != 0)=true:=by simpa using hr0
    refine zh4 ?_ aa hx ac hr;clear aa hx ac hr;intro ad HX af am;clear hr0;go_wp2_with fail;refine zM (ad _) fun w4 hn=>?_;clear ab;replace HN:=tW HN hn;clear hn;go_wp2_with fail;go_ret;exact ⟨by rw[←af.out];rfl,HN.out⟩
  ·have ah:k=n:=by omega
   have ag:E=0:=by
    rw[←HP.out,ah,←ai.out,List.drop_length];rfl
   replace ah:=hid ah;replace ag:=hid ag;go_wp2_with fail;go_ret;exact ⟨by rw[ag.out];rfl,HN.out⟩
section
variable {H:Type} {enc:TypeId × Value→H} {P:Program} {w:World} {base:Nat} {sp:Nat→Bool} {held:Bool}
theorem in_str {r:Reach}{b0:Nat}{t:TypeId}{v:Value}{d:DataW H}{p:List MemPlace}(ht:P.underlying t=some .string)(hval:Value.okWide P w r b0 t v)(hd:DataW.Trod enc P w base sp held t v d p):
  ∃ s:ByteArray,v=.string s∧s.size≤9223372036854775807:=by
 obtain ⟨s,rfl⟩:=okWide_string ht hval;obtain ⟨aa,hf⟩:=hd;obtain ⟨s',h,_,hs⟩:=DataW.trod_string ht hf;simp[Value.cells] at h;subst h;exact ⟨_,rfl,hs⟩
end
end Go.Proofs.YtnjonlnemagomaaGreatDoor
