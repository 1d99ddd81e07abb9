/- Part A17. -/
import Derived.Laws.AppendOwn
import Derived.Lib.IndexBytes
import Derived.Deep.LoopGhost
import Derived.Test.YtnjonlnemagomaaGreatDoorA15
namespace Go.Proofs.YtnjonlnemagomaaGreatDoor
open Go.RowKit Big Go.Lib
set_option maxRecDepth 100000
set_option maxHeartbeats 8000000
def RowZ (w:World)(b:Nat)(t:TypeId)(n:Nat)(f:Nat→Int):Prop:=
 ∃ c:Array Value,w.heap[b]?=some (.cells c t (0,0))∧n≤c.size∧∀ i,i < n→c[i]?=some (.int .i64 (f i))
def updZ (f:Nat→Int)(k:Nat)(z:Int):Nat→Int:=fun i=>if i=k then z else f i
section
variable {w w':World} {b:Nat} {t:TypeId} {n:Nat} {f:Nat→Int}
theorem RowZ.cell (h:RowZ w b t n f){i:Nat}(hi:i < n):w.cell? ⟨b,i,none⟩=some (.int .i64 (f i)):=by
 obtain ⟨c,hb,_,hc⟩:=h;simp[World.cell?,hb,hc i hi]
theorem RowZ.frozen (h:RowZ w b t n f)(i:Nat):w.frozen? ⟨b,i,none⟩=false:=by
 obtain ⟨c,hb,_⟩:=h;simp[World.frozen?,hb]
theorem RowZ.lt (h:RowZ w b t n f):b < w.heap.size:=by
 obtain ⟨c,hb,_⟩:=h;rcases Nat.lt_or_ge b w.heap.size with h1 | h1
 ·exact h1
 ·rw[Array.getElem?_eq_none h1] at hb;cases hb
theorem RowZ.of_block (h:RowZ w b t n f)(e:w'.heap[b]?=w.heap[b]?):RowZ w' b t n f:=by
 obtain ⟨c,hb,h1⟩:=h;exact ⟨c,by rw[e,hb],h1⟩
theorem RowZ.new (h:RowZ w b t n f)(hn:New w w'):RowZ w' b t n f:=h.of_block (Below.block hn b h.lt)
theorem RowZ.drewN (h:RowZ w b t n f)(m:Nat):RowZ (w.drewN m) b t n f:=h
theorem RowZ.drew (h:RowZ w b t n f):RowZ w.drew b t n f:=h
theorem RowZ.set (h:RowZ w b t n f)(i:Nat)(z:Int):RowZ (w.setCell ⟨b,i,none⟩ (.int .i64 z)) b t n (updZ f i z):=by
 obtain ⟨c,hb,hs,hc⟩:=h;refine ⟨c.setIfInBounds i (.int .i64 z),?_,by simpa using hs,fun j hj=>?_⟩
 ·simp[World.setCell,Array.getElem?_modify,hb]
 ·rw[Array.getElem?_setIfInBounds];unfold updZ;by_cases e:i=j
  ·subst e;rw[if_pos rfl,if_pos (by omega),if_pos rfl]
  ·rw[if_neg e,if_neg (fun h=>e h.symm)];exact hc j hj
theorem RowZ.other (h:RowZ w b t n f){p:Addr}(hp:b≠p.block)(u:Value):RowZ (w.setCell p u) b t n f:=by
 obtain ⟨c,hb,h1⟩:=h;refine ⟨c,?_,h1⟩;simp[World.setCell,Array.getElem?_modify,hb,Ne.symm hp]
theorem RowZ.congr (h:RowZ w b t n f){g:Nat→Int}(e:∀ i,i < n→f i=g i):RowZ w b t n g:=by
 obtain ⟨c,hb,hs,hc⟩:=h;exact ⟨c,hb,hs,fun i hi=>by rw[hc i hi,e i hi]⟩
theorem Row.z {o:Nat→Nat}(h:Row w b t .i64 n o):RowZ w b t n fun i=>(o i:Int):=by
 obtain ⟨c,hb,hs,hc⟩:=h;exact ⟨c,hb,by omega,hc⟩
end
structure RFB (k:Nat)(q:Rat):Prop where
 num:q.num.natAbs < 2^k
 den:q.den < 2^k
def rs (q:Rat):ByteArray:=bs (ratText q)
theorem dec_len2 {n k:Nat}(h:n < 2^k):(decDigits n).length≤k+1:=by
 rw[decDigits_length,nDigits_le_iff (by omega)];have h1:2^k≤10^k:=Nat.pow_le_pow_left (by omega) k;have h2:10^k≤10^(k+1):=Nat.pow_le_pow_right (by omega) (by omega);omega
theorem itoa_len2 {z:Int}{k:Nat}(h:z.natAbs < 2^k):(itoa z).length≤k+2:=by
 rcases Int.lt_or_le z 0 with hz | hz
 ·obtain ⟨n,rfl⟩:∃ n:Nat,z= -(n:Int):=⟨z.natAbs,by omega⟩;rw[Big.itoa_neg (by omega),List.length_cons];have:=dec_len2 (n:=n) (k:=k) (by simpa using h);omega
 ·obtain ⟨n,rfl⟩:∃ n:Nat,z=(n:Int):=⟨z.toNat,by omega⟩;rw[Big.itoa_nonneg];have:=dec_len2 (n:=n) (k:=k) (by simpa using h);omega
theorem RFB.len {k:Nat}{q:Rat}(h:RFB k q):(rs q).size≤2*k+4:=by
 unfold rs;rw[bs_size];have h1:=itoa_len2 h.num;have h2:=dec_len2 h.den;unfold ratText;split
 ·omega
 ·simp only[List.length_append,List.length_cons];omega
def RetS (w:World)(q:Rat)(e:Ending)(w':World):Prop:=e=.returned (.string (rs q))∧New w w'
structure UText (U:ByteArray)(m d:Nat):Prop where
 size:U.size≤20
 list:U.data.toList=if d=1 then decDigits m else decDigits m ++ 47::decDigits d
theorem UText.up {U:ByteArray}{m d:Nat}(h:UText U m d):upTo U.data.toList=decDigits m:=by
 rw[h.list];split
 ·exact upTo_plain m
 ·exact upTo_slash m _
theorem RetS.to {w w':World}{q:Rat}{B:ByteArray}{e:Ending}(hB:rs q=B)(h:RetS w q e w'):e=.returned (.string B)∧New w w':=⟨by rw[h.1,hB],h.2⟩
end Go.Proofs.YtnjonlnemagomaaGreatDoor
