/- Part B21. -/
import Derived.Maps.AppendAt
import Derived.Laws.CopyOwn
import Derived.Maps.OwnOps
import Derived.Test.YtbkcjmojgglbkaaGreatDoorB20
namespace Go.Proofs.YtbkcjmojgglbkaaGreatDoor
open Go.RowKit Big Go.ChangeMaps Go.MapKept
open Go.Lib (hid)
set_option maxRecDepth 100000
set_option maxHeartbeats 8000000
def RowPostS (w:World)(e:TypeId)(S:Nat)(m:Nat)(xs:List Value)(n:Int)(en:Ending)(w':World):Prop:=∃ v,en=.returned (.tuple #[v,.int .i64 n])∧New w w'∧w'.ownsRow w.heap.size e S v m xs
theorem info_arr2:(Tryz.prog.info? 95).map (fun i=>(i.zero,i.size,i.bytes))=some (some (.agg #[.int .i64 0,.int .i64 0]),2,16):=by kernel_rfl
theorem info_arr16:(Tryz.prog.info? 113).map (fun i=>(i.zero,i.size,i.bytes))=some (some (.agg #[.int .u16 0,.int .u16 0,.int .u16 0,.int .u16 0,.int .u16 0,.int .u16 0,.int .u16 0,.int .u16 0,.int .u16 0,.int .u16 0,.int .u16 0,.int .u16 0,.int .u16 0,.int .u16 0,.int .u16 0,.int .u16 0]),16,32):=by kernel_rfl
theorem info_fsl:(Tryz.prog.info? 52).map (fun i=>(i.zero,i.size,i.bytes))=some (some (.slice none 0 0),1,24):=by kernel_rfl
def RowsOf (w:World)(base:Nat)(ts te:TypeId)(out:Value)(xss:List (List Value)):Prop:=
 ∃ vs:List Value,w.ownsRow base ts 1 out vs.length vs∧vs.length=xss.length∧∀ (k:Nat) (v:Value) (xs:List Value),vs[k]?=some v→xss[k]?=some xs→w.ownsRow base te 1 v xs.length xs∧(v.ownBlock=none∨v.ownBlock≠out.ownBlock)
theorem RowsOf.nil (w:World)(base:Nat)(ts te:TypeId):RowsOf w base ts te (.slice none 0 0) []:=
 ⟨[],World.ownsRow_nil _ _ _ _,rfl,fun (k:Nat) v xs h=>by simp at h⟩
theorem RowsOf.mono {w:World}{base base':Nat}{ts te:TypeId}{out:Value}{xss:List (List Value)}(h:RowsOf w base ts te out xss)(hb:base'≤base):RowsOf w base' ts te out xss:=by
 obtain ⟨vs,h1,h2,h3⟩:=h;exact ⟨vs,own_mono h1 hb,h2,fun k v xs hk hx=>⟨own_mono (h3 k v xs hk hx).1 hb,(h3 k v xs hk hx).2⟩⟩
theorem RowsOf.snoc {wr w1 w2:World} {base:Nat} {ts te:TypeId} {out out' v:Value} {vs:List Value} {xss:List (List Value)} {xs:List Value} {o:Obj}
  (h1:wr.ownsRow base ts 1 out vs.length vs) (h2:vs.length=xss.length) (h3:∀ (k:Nat) (v:Value) (xs:List Value),vs[k]?=some v→xss[k]?=some xs→wr.ownsRow base te 1 v xs.length xs∧(v.ownBlock=none∨v.ownBlock≠out.ownBlock))
  (hn:New wr w1) (hv:w1.ownsRow wr.heap.size te 1 v xs.length xs) (hb:base≤wr.heap.size)
  (hown:w2.ownsRow base ts 1 out' (vs.length+1) (vs ++ [v])) (hg:(w1.alloc o).grownBy w2 out.ownBlock) (hat:out'.ownBlock=out.ownBlock∨out'.ownBlock=some (w1.heap.size+1)):RowsOf w2 base ts te out' (xss ++ [xs]):=by
 have hsz:(w1.alloc o).heap.size=w1.heap.size+1:=(size_alloc w1 o).symm;refine ⟨vs ++ [v],by simpa using hown,by simp[h2],fun k u ys hk hx=>?_⟩
 have key:∀ (u:Value) (ys:List Value),w1.ownsRow base te 1 u ys.length ys→(u.ownBlock=none∨u.ownBlock≠out.ownBlock)→w2.ownsRow base te 1 u ys.length ys∧(u.ownBlock=none∨u.ownBlock≠out'.ownBlock):=by
  intro u ys hu hne;refine ⟨World.ownsRow.kept (World.ownsRow.alloc hu o) hg hne,?_⟩;rcases hat with e | e
  ·rw[e];exact hne
  ·cases hb':u.ownBlock with
   | none=>exact .inl rfl
   | some j=>
    right;rw[e];intro hj;injection hj with hj;have:=(own_lt hu hb').2;omega
 by_cases hlt:k < vs.length
 ·rw[List.getElem?_append_left hlt] at hk;rw[List.getElem?_append_left (by omega)] at hx;have:=h3 k u ys hk hx;exact key u ys (own_newS this.1 hn) this.2
 ·rw[List.getElem?_append_right (by omega)] at hk hx
  have hk0:k - vs.length=0:=by
   rcases Nat.eq_zero_or_pos (k - vs.length) with h | h
   ·exact h
   ·rw[List.getElem?_eq_none (by simp;omega)] at hk;cases hk
  rw[hk0]at hk;rw[←h2,hk0] at hx;simp at hk hx;subst hk hx;refine key v xs (own_mono hv hb) ?_
  cases hb':v.ownBlock with
  | none=>exact .inl rfl
  | some j=>
   right;intro hj;have h4:=(own_lt hv hb').1;have h5:=(own_lt h1 hj.symm).2;omega
theorem RowsOf.rd {w:World}{base:Nat}{ts te:TypeId}{out:Value}{xss:List (List Value)}(h:RowsOf w base ts te out xss):
  ∃ (a:Option Addr) (cap:Nat) (vs:List Value),out=.slice a xss.length cap∧RdL w a vs∧vs.length=xss.length∧∀ (k:Nat) (v:Value) (xs:List Value),vs[k]?=some v→xss[k]?=some xs→∃ (a':Option Addr) (c':Nat),v=.slice a' xs.length c'∧RdL w a' xs∧xs.length≤c':=by
 obtain ⟨vs,h1,h2,h3⟩:=h;obtain ⟨a,cap,e,hr,_⟩:=own_rd h1;refine ⟨a,cap,vs,by rw[e,h2],hr,h2,fun k v xs hk hx=>?_⟩;have hv:=(h3 k v xs hk hx).1;obtain ⟨a',c',e',hr',_⟩:=own_rd hv;refine ⟨a',c',e',hr',?_⟩;rcases hv.2 with ⟨e2,h0⟩ | ⟨g,cap2,cur,e2,_,_,hle,_⟩
 ·omega
 ·rw[e'] at e2;injection e2 with _ _ e3;omega
def RdLL (w:World)(a:Option Addr)(rv:List Value)(xss:List (List Value)):Prop:=
 RdL w a rv∧rv.length=xss.length∧∀ (k:Nat) (v:Value) (xs:List Value),rv[k]?=some v→xss[k]?=some xs→∃ (a':Option Addr) (c':Nat),v=.slice a' xs.length c'∧RdL w a' xs∧xs.length≤c'
theorem RdLL.new {w w':World}{a:Option Addr}{rv:List Value}{xss:List (List Value)}(h:RdLL w a rv xss)(hn:New w w'):RdLL w' a rv xss:=
 ⟨h.1.new hn,h.2.1,fun k v xs hk hx=>by
  obtain ⟨a',c',e,hr⟩:=h.2.2 k v xs hk hx
  exact ⟨a',c',e,hr.1.new hn,hr.2⟩⟩
theorem RdLL.at {w:World}{a:Option Addr}{rv:List Value}{xss:List (List Value)}(h:RdLL w a rv xss)(k:Nat)(hk:k < xss.length):
  ∃ (b off:Nat) (a':Option Addr) (c':Nat),a=some ⟨b,off,none⟩∧w.cell? ⟨b,off+k,none⟩=some (.slice a' xss[k].length c')∧RdL w a' xss[k]∧xss[k].length≤c':=by
 have hk':k < rv.length:=by rw[h.2.1];exact hk
 obtain ⟨b,off,e,hc⟩:=h.1 k hk';obtain ⟨a',c',e',hr⟩:=h.2.2 k rv[k] xss[k] (List.getElem?_eq_getElem hk') (List.getElem?_eq_getElem hk);exact ⟨b,off,a',c',e,by rw[hc,e'],hr⟩
theorem RowsOf.rdll {w:World}{base:Nat}{ts te:TypeId}{out:Value}{xss:List (List Value)}(h:RowsOf w base ts te out xss):∃ (a:Option Addr) (cap:Nat) (vs:List Value),out=.slice a xss.length cap∧RdLL w a vs xss:=by
 obtain ⟨a,cap,vs,e,h1,h2,h3⟩:=h.rd;exact ⟨a,cap,vs,e,h1,h2,h3⟩
def padW (xs:List Nat)(m:Nat):List Nat:=(List.range m).map fun i=>xs.getD i 0
def nBlocks (n:Nat):Nat:=(n+15) / 16
theorem run_arrayAt_le (w:World)(a:Option Addr)(n c:Nat)(h:16≤n):Sem.run Tryz.prog (Instr.arrayAt 113 (.slice a n c)) w=.ok (.pointer a) w:=by
 have hu:=run_underlying Tryz.underlying113 w
 have h2:¬n < 16:=by omega
 simp[Instr.arrayAt,go_sem,hu,h2]
theorem padW_len (xs:List Nat)(m:Nat):(padW xs m).length=m:=by simp[padW]
theorem words_pad (xs:List Nat){m:Nat}(h:xs.length≤m):words (padW xs m)=words xs ++ List.replicate (m - xs.length) (.int .u16 0):=by
 apply List.ext_getElem?;intro i;unfold words padW;by_cases hi:i < xs.length
 ·rw[List.getElem?_append_left (by simpa using hi)];simp[hi,show i < m by omega]
 ·rw[List.getElem?_append_right (by simp;omega)];by_cases him:i < m
  ·simp[him,show i - xs.length < m - xs.length by omega,List.getD_eq_getElem?_getD,List.getElem?_eq_none (show xs.length≤i by omega)]
  ·simp[him,show ¬i - xs.length < m - xs.length by omega]
theorem pad_next (xs:List Nat){m k:Nat}(h:k < m):words ((padW xs (16*m)).take (16*(k+1)))=words ((padW xs (16*m)).take (16*k)) ++ words ((List.range 16).map fun j=>xs.getD (16*k+j) 0):=by
 have e:(padW xs (16*m)).take (16*(k+1))=(padW xs (16*m)).take (16*k) ++ (List.range 16).map fun j=>xs.getD (16*k+j) 0:=by
  apply List.ext_getElem?;intro i;unfold padW;by_cases hi:i < 16*k
  ·rw[List.getElem?_append_left (by simp;omega)];simp[hi,show i < 16*(k+1) by omega]
  ·rw[List.getElem?_append_right (by simp;omega)];by_cases h2:i < 16*(k+1)
   ·have h3:i < 16*m:=by omega
    have h4:min (16*k) (16*m)=16*k:=by omega
    simp[h2,h3,h4,show i - 16*k < 16 by omega,show 16*k+(i - 16*k)=i by omega]
   ·have h4:min (16*k) (16*m)=16*k:=by omega
    simp[List.getElem?_take,h2,h4,show ¬i - 16*k < 16 by omega]
 rw[e];simp[words]
theorem words_oneCell (xs:List Nat):∀ u∈words xs,u.oneCell'=true:=by
 intro u hu;unfold words at hu;obtain ⟨x,_,rfl⟩:=List.mem_map.1 hu;rfl
theorem Blocks_ok (a:Option Addr)(cap:Nat)(xs:List Nat)(w:World)(hl:xs.length≤4096)(hr:RdL w a (words xs)):
  Calls Tryz.prog 60 #[.slice a xs.length cap] w (RowPostS w 113 16 (nBlocks xs.length) (words (padW xs (16*nBlocks xs.length))) 0):=by
 obtain ⟨i0,hi,hz0,hz1,hz2⟩:=info_parts info_arr16;have hfew:=fun W=>few_u16 a xs.length cap W (by omega);rw[show fewErr xs.length=0 from if_neg (by omega)] at hfew;obtain ⟨m,hm⟩:∃ m,nBlocks xs.length=m:=⟨_,rfl⟩;have hm':(xs.length+15) / 16=m:=hm;have hb:=fun W=>pblocks_calls xs.length W (by omega);simp only[hm'] at hb;rw[hm]
 have hmb:m≤256:=by omega
 have hw1:wrap64 (16*(m:Int))=((16*m:Nat):Int):=by rw[ld_in (by omega) (by omega)];omega
 have hw2:IntKind.i64.wrap (16*(m:Int))=((16*m:Nat):Int):=by rw[IntKind.wrap_i64];omega
 have HFEW:=hid hfew;have HB:=hid hb;have HR:=hid hr;have HM:=hid hm';have HL:=hid hl;clear hfew hb hr hm' hl;go_enter Tryz.func60,Tryz.ntmps60;go_wp2_with fail;refine (HFEW.out _).mono ?_;rintro e w1 ⟨rfl,hn⟩;have HN:=hid hn;clear hn;go_wp2_with fail;refine (HB.out _).mono ?_;rintro e w2 ⟨rfl,hn⟩;replace HN:=tW HN hn;clear hn;obtain ⟨iu,hiu,hu0,hu1,hu2⟩:=info_parts info_u16;have hms:=HN.out.size;go_wp2_with (at_make;refine wpList_make_full _ rfl _ _ 102 rfl w.heap.size 112 iu (.int .u16 0) 1 Tryz.underlying102 hiu hu0 hu1 .i64 .i64 _ _ (16*m) rfl rfl (by omega) (by omega) (by rw[hu2];omega) (by unfold maxLen;omega) hms ?_);intro w3 hown hg3;obtain ⟨B,hB⟩:∃ x,w2.heap.size=x:=⟨_,rfl⟩;have hn3:New w2 w3:=⟨hg3.os,by first | exact hg3.tape | exact hg3.output,by first | exact hg3.output | exact hg3.tape,hg3.size,fun j hj=>hg3.block j hj (by intro h;cases h)⟩
 have hwB:w.heap.size≤B:=by rw[←hB];exact hms
 rw[hB]at hown⊢
 have hbox:w3.heap[B]?=some (.cells (List.replicate (16*m) (Value.int .u16 0)).toArray 112 (0,0)):=by
  rcases hown.2 with ⟨h0,_⟩ | ⟨g,cap2,cur,hv,_,hc,h2,_,h3,h4⟩
  ·cases h0
  ·injection hv with hv1 _ hv2;injection hv1 with hv1;injection hv1 with hv1;subst hv1;rw[hc];congr 2;rw[Nat.mul_one] at h4
   have:cur.toList=List.replicate (16*m) (Value.int .u16 0):=by
    rw[List.take_of_length_le (by simp;omega)]at h4;rw[h4];simp[madeCells,Nat.mod_one];rw[List.eq_replicate_iff];simp
   rw[←this]
 clear hown hg3 hms;have HBOX:=hid hbox;have HWB:=hid hwB;have HBE:=hid hB;clear hbox hwB hB;replace HN:=tW HN hn3;clear hn3;have hpos:0 < (words xs).length→(some (⟨B,0,none⟩:Addr)=some ⟨B,0,none⟩∧∃ ad,a=some ad∧∀ j v,(words xs)[j]?=some v→w3.cell? (ad.add j)=some v):=fun h0=>⟨rfl,(HR.out.new HN.out).src h0⟩
 have hwl:(words xs).length=xs.length:=by simp[words]
 have hmin:(words xs).length=Nat.min xs.length (16*m):=by rw[hwl];have:=HM.out;exact (Nat.min_eq_left (by omega)).symm
 have HPOS:=hid hpos;have HWL:=hid hwl;have HMIN:=hid hmin;clear hpos hwl hmin;go_wp2_with ((with_reducible show wpList _ _ _ _ _ _);refine wpList_copy_splice rfl (.tmp 18) (.tmp 19) 102 102 rfl 112 Tryz.underlying102 (by rw[hiu];simp[hu1]) _ _ _ _ _ _ rfl rfl B 0 (List.replicate (16*m) (Value.int .u16 0)) 112 HBOX.out (words xs) HMIN.out HPOS.out (by rw[HWL.out,List.length_replicate];have:=HM.out;omega) (words_oneCell xs) w.heap.size w HN.out HWB.out ?_);intro w4 hb4 hn4
 have hsp:splice (List.replicate (16*m) (Value.int .u16 0)) 0 (words xs)=words (padW xs (16*m)):=by
  have h1:=HM.out;rw[words_pad xs (by omega)];unfold splice;rw[HWL.out];simp
 have hpb:w4.heap[B]?=some (.cells (words (padW xs (16*m))).toArray 112 (0,0)):=by rw[←hsp];exact hb4.out
 have hN4:New w w4:=hn4;clear hb4 hn4 hsp HN HBOX HPOS HMIN;have HPB:=hid hpb;have HN:=hid hN4;clear hpb hN4;go_wp2_with fail;refine (HB.out _).mono ?_;rintro e w5 ⟨rfl,hn⟩;have hpb:Box w5 B 112 (words (padW xs (16*m))).toArray:=Box.new (show Box w4 B 112 _ from HPB.out) hn;clear HPB;have HPB:=hid hpb;clear hpb;replace HN:=tW HN hn;clear hn;go_wp2_with fail;go_loopw [6,24] (fun v i wr=>∃ (k:Nat),k≤m∧i=.int .i64 (k:Int)∧Hid (wr.ownsRow w5.heap.size 113 16 v k (words ((padW xs (16*m)).take (16*k))))∧Hid (New w5 wr)) (fun _ i _=>m - (intOf i).toNat)
 case atStart=>exact ⟨0,Nat.zero_le _,rfl,hid (World.ownsRow_nil _ _ _ _),hid (New.refl _)⟩
 case round=>
  obtain ⟨k,hk,rfl,HO,HM2⟩:=hrel;by_cases hlt:k < m
  ·obtain ⟨f,hf⟩:∃ f:Nat→Nat,(fun j=>xs.getD (16*k+j) 0)=f:=⟨_,rfl⟩;obtain ⟨o16,ho16⟩:∃ o,16*k=o:=⟨_,rfl⟩
   have hfd:∀ j,xs.getD (16*k+j) 0=f j:=fun j=>by rw[←hf]
   have hnx:=pad_next xs hlt;simp only[hfd] at hnx;have hnx2:words ((List.range 16).map fun j=>f j)=[.int .u16 (f 0:Nat),.int .u16 (f 1:Nat),.int .u16 (f 2:Nat),.int .u16 (f 3:Nat),.int .u16 (f 4:Nat),.int .u16 (f 5:Nat),.int .u16 (f 6:Nat),.int .u16 (f 7:Nat),.int .u16 (f 8:Nat),.int .u16 (f 9:Nat),.int .u16 (f 10:Nat),.int .u16 (f 11:Nat),.int .u16 (f 12:Nat),.int .u16 (f 13:Nat),.int .u16 (f 14:Nat),.int .u16 (f 15:Nat)]:=rfl;rw[hnx2,ho16] at hnx
   have hwa:wrap64 ((k:Int)*16)=(o16:Int):=by rw[ld_in (by omega) (by omega)];omega
   have hwb:IntKind.i64.wrap ((k:Int)*16)=(o16:Int):=by rw[IntKind.wrap_i64];omega
   have hobd:o16+16≤16*m:=by omega
   have hat:=fun W=>run_arrayAt_le W (some ⟨B,o16,none⟩) (16*m - o16) (16*m - o16) (by omega);have hbx:=HPB.out.new HM2.out
   have hcell:∀ j,j < 16→wr.cell? ⟨B,o16+j,none⟩=some (.int .u16 (f j:Nat)):=by
    intro j hj;rw[hbx.cell (o16+j),←hfd j,ho16]
    have:o16+j < (padW xs (16*m)).length:=by rw[padW_len];omega
    simp[words,padW,show o16+j < 16*m by omega]
   have hol:(o16:Int)≤5000:=by omega
   have hne16:¬16*m=o16:=by omega
   have hoi:(o16:Int)≤16*(m:Int):=by omega
   clear hnx2 hf hbx;have HNX:=hid hnx;have HFD:=hid hfd;have HCELL:=hid hcell;have HO16:=hid ho16;have HOBD:=hid hobd;clear hnx hfd hcell ho16 hobd;have c0:wr.cell? ⟨B,o16,none⟩=some (.int .u16 (f 0:Nat)):=HCELL.out 0 (by omega);have c1:wr.cell? ⟨B,o16+1,none⟩=some (.int .u16 (f 1:Nat)):=HCELL.out 1 (by omega);have c2:wr.cell? ⟨B,o16+2,none⟩=some (.int .u16 (f 2:Nat)):=HCELL.out 2 (by omega);have c3:wr.cell? ⟨B,o16+3,none⟩=some (.int .u16 (f 3:Nat)):=HCELL.out 3 (by omega);have c4:wr.cell? ⟨B,o16+4,none⟩=some (.int .u16 (f 4:Nat)):=HCELL.out 4 (by omega);have c5:wr.cell? ⟨B,o16+5,none⟩=some (.int .u16 (f 5:Nat)):=HCELL.out 5 (by omega);have c6:wr.cell? ⟨B,o16+6,none⟩=some (.int .u16 (f 6:Nat)):=HCELL.out 6 (by omega);have c7:wr.cell? ⟨B,o16+7,none⟩=some (.int .u16 (f 7:Nat)):=HCELL.out 7 (by omega);have c8:wr.cell? ⟨B,o16+8,none⟩=some (.int .u16 (f 8:Nat)):=HCELL.out 8 (by omega);have c9:wr.cell? ⟨B,o16+9,none⟩=some (.int .u16 (f 9:Nat)):=HCELL.out 9 (by omega);have c10:wr.cell? ⟨B,o16+10,none⟩=some (.int .u16 (f 10:Nat)):=HCELL.out 10 (by omega);have c11:wr.cell? ⟨B,o16+11,none⟩=some (.int .u16 (f 11:Nat)):=HCELL.out 11 (by omega);have c12:wr.cell? ⟨B,o16+12,none⟩=some (.int .u16 (f 12:Nat)):=HCELL.out 12 (by omega);have c13:wr.cell? ⟨B,o16+13,none⟩=some (.int .u16 (f 13:Nat)):=HCELL.out 13 (by omega);have c14:wr.cell? ⟨B,o16+14,none⟩=some (.int .u16 (f 14:Nat)):=HCELL.out 14 (by omega);have c15:wr.cell? ⟨B,o16+15,none⟩=some (.int .u16 (f 15:Nat)):=HCELL.out 15 (by omega)
   have h1c:∀ u∈([.int .u16 (f 0:Nat),.int .u16 (f 1:Nat),.int .u16 (f 2:Nat),.int .u16 (f 3:Nat),.int .u16 (f 4:Nat),.int .u16 (f 5:Nat),.int .u16 (f 6:Nat),.int .u16 (f 7:Nat),.int .u16 (f 8:Nat),.int .u16 (f 9:Nat),.int .u16 (f 10:Nat),.int .u16 (f 11:Nat),.int .u16 (f 12:Nat),.int .u16 (f 13:Nat),.int .u16 (f 14:Nat),.int .u16 (f 15:Nat)]:List Value),u.oneCell'=true:=by intro u hu;simp at hu;rcases hu with rfl | rfl | rfl | rfl | rfl | rfl | rfl | rfl | rfl | rfl | rfl | rfl | rfl | rfl | rfl | rfl <;> rfl
   have hki:(k:Int)≤300:=by omega
   have H1C:=hid h1c;clear h1c;go_wp2_with (at_builtin;refine wpList_append_own _ rfl _ _ 106 rfl w5.heap.size 113 i0 _ 16 32 Tryz.underlying106 hi hz0 hz1 hz2 rfl (by decide) _ _ _ rfl (HO.out.alloc _) ⟨wr.heap.size,0,none⟩ 1 1 [.int .u16 (f 0:Nat),.int .u16 (f 1:Nat),.int .u16 (f 2:Nat),.int .u16 (f 3:Nat),.int .u16 (f 4:Nat),.int .u16 (f 5:Nat),.int .u16 (f 6:Nat),.int .u16 (f 7:Nat),.int .u16 (f 8:Nat),.int .u16 (f 9:Nat),.int .u16 (f 10:Nat),.int .u16 (f 11:Nat),.int .u16 (f 12:Nat),.int .u16 (f 13:Nat),.int .u16 (f 14:Nat),.int .u16 (f 15:Nat)] rfl rfl (alloc_cells _ #[.int .u16 (f 0:Nat),.int .u16 (f 1:Nat),.int .u16 (f 2:Nat),.int .u16 (f 3:Nat),.int .u16 (f 4:Nat),.int .u16 (f 5:Nat),.int .u16 (f 6:Nat),.int .u16 (f 7:Nat),.int .u16 (f 8:Nat),.int .u16 (f 9:Nat),.int .u16 (f 10:Nat),.int .u16 (f 11:Nat),.int .u16 (f 12:Nat),.int .u16 (f 13:Nat),.int .u16 (f 14:Nat),.int .u16 (f 15:Nat)] _) H1C.out (by unfold maxLen;omega) (by omega) (by have:=HM2.out.size;rw[←size_alloc];omega) ?_);intro v' w9 hown' hgrow _;have hN1:=grown_newS HM2.out HO.out hgrow
   have hO1:w9.ownsRow w5.heap.size 113 16 v' (k+1) (words ((padW xs (16*m)).take (16*(k+1)))):=by
    rw[HNX.out,←HO16.out];exact hown'
   clear hown' hgrow c0 c1 c2 c3 c4 c5 c6 c7 c8 c9 c10 c11 c12 c13 c14 c15;have HN1:=hid hN1;have HO1:=hid hO1;clear hN1 hO1;go_wp2_with fail;go_roundw
   case rel=>exact ⟨k+1,by omega,by go_num,HO1,HN1⟩
   case measure=>simp[intOf];omega
  ·have hkk:k=m:=by omega
   have hO:=HO.out;rw[hkk,List.take_of_length_le (by rw[padW_len];omega)] at hO;clear HO;have HO:=hid hO;have HKK:=hid hkk;clear hO hkk;go_wp2_with fail;go_ret2;exact ⟨_,rfl,HN.out.trans HM2.out,own_mono HO.out HN.out.size⟩
def sameF (x y:Nat):Bool:=FloatKind.f32.format.order x y==some Ordering.eq
def codeEs (vol:Nat→Nat)(n:Nat):List MapEntry:=(List.range n).map fun i=>{key:=.float .f32 (vol i),val:=.int .i64 i,born:=i}
theorem codeEs_succ (vol:Nat→Nat)(n:Nat):codeEs vol (n+1)=codeEs vol n ++ [{key:=.float .f32 (vol n),val:=.int .i64 n,born:=n}]:=by
 unfold codeEs;rw[List.range_succ,List.map_append];rfl
def findF (x:Nat):List MapEntry→Nat→Option (Nat × Value)
 | [],_=>none
 | e::es,i=>match e.key with
  | .float .f32 y=>if sameF x y then some (i,e.val) else findF x es (i+1)
  | _=>none
theorem run_equal_f32 {P:Program}{kt:TypeId}(ht:P.underlying kt=some (.float .f32))(w:World)(x y:Nat):(Op.equal kt (.float .f32 x) (.float .f32 y)).run P w=.ok (sameF x y) w:=by
 have h:=run_underlying ht w;unfold Op.equal Op.maxDepth;unfold Op.equalIn;simp[h,Result.andThen,Op.floatEq,sameF]
theorem run_findAsking {P:Program}{kt:TypeId}(ht:P.underlying kt=some (.float .f32))(w:World)(x:Nat):∀ (es:List MapEntry) (i:Nat),(∀ e∈es,∃ y,e.key=.float .f32 y)→
  (Instr.findAsking kt (.float .f32 x) es i).run P w=.ok (findF x es i) w:=by
 intro es
 induction es with
 | nil=>intro i _;simp[Instr.findAsking,findF]
 | cons e es ih=>
  intro i h;obtain ⟨y,hy⟩:=h e (by simp);unfold Instr.findAsking findF;simp only[Sem.run_bind,hy,run_equal_f32 ht w x y,Result.andThen]
  cases sameF x y with
  | true=>simp
  | false=>simpa using ih (i+1) fun e' he'=>h e' (by simp[he'])
theorem run_findKey_f32 {P:Program}{kt:TypeId}(ht:P.underlying kt=some (.float .f32))(w:World)(x:Nat)(es:List MapEntry)(h:∀ e∈es,∃ y,e.key=.float .f32 y):
  (Instr.findKey kt (.float .f32 x) es).run P w=.ok (findF x es 0) w:=by
 unfold Instr.findKey;simp only[Sem.run_bind,run_underlying ht,Result.andThen]
 cases es with
 | nil=>simp[Instr.findNow,findF]
 | cons e es=>
  have:Instr.findNow (.float .f32) (.float .f32 x) (e::es) 0=none:=by
   unfold Instr.findNow Instr.sameNow;rfl
  rw[this];exact run_findAsking ht w x (e::es) 0 h
theorem run_checkKey_f32 {P:Program}{kt:TypeId}(ht:P.underlying kt=some (.float .f32))(w:World)(x:Nat)(b:Bool):(Instr.checkKey b 10000 kt (.float .f32 x)).run P w=.ok () w:=by
 have h:=run_underlying ht w;unfold Instr.checkKey;simp[h,Result.andThen]
theorem codeEs_keys (vol:Nat→Nat)(n:Nat):∀ e∈codeEs vol n,∃ y,e.key=.float .f32 y:=by
 intro e he;unfold codeEs at he;obtain ⟨i,_,rfl⟩:=List.mem_map.1 he;exact ⟨_,rfl⟩
def CodeMap (w:World)(b:Nat)(vol:Nat→Nat)(n:Nat):Prop:=∃ es,w.heap[b]?=some (.map es n)∧es.toList=codeEs vol n
theorem CodeMap.made (w:World)(vol:Nat→Nat):CodeMap (w.alloc (.map #[] 0)) w.heap.size vol 0:=⟨#[],by show (w.heap.push _)[w.heap.size]?=_;simp,rfl⟩
theorem CodeMap.lt {w:World}{b n:Nat}{vol:Nat→Nat}(h:CodeMap w b vol n):b < w.heap.size:=by
 obtain ⟨es,h1,_⟩:=h;rcases Nat.lt_or_ge b w.heap.size with h2 | h2
 ·exact h2
 ·rw[Array.getElem?_eq_none h2] at h1;cases h1
theorem CodeMap.new {w w':World}{b n:Nat}{vol:Nat→Nat}(h:CodeMap w b vol n)(hn:New w w'):CodeMap w' b vol n:=by
 have hl:=h.lt;obtain ⟨es,h1,h2⟩:=h;exact ⟨es,by rw[Below.block hn b hl,h1],h2⟩
theorem findF_none (x:Nat)(vol:Nat→Nat)(_n:Nat):∀ (l:List Nat) (i:Nat),(∀ j∈l,sameF x (vol j)=false)→findF x (l.map fun i=>{key:=.float .f32 (vol i),val:=.int .i64 i,born:=i}) i=none:=by
 intro l
 induction l with
 | nil=>intro i _;rfl
 | cons a l ih=>
  intro i h;simp only[List.map_cons,findF];rw[h a (by simp),if_neg (by decide)];exact ih _ fun j hj=>h j (by simp[hj])
theorem findF_val (x:Nat)(vol:Nat→Nat):∀ (l:List Nat) (i:Nat),(findF x (l.map fun i=>{key:=.float .f32 (vol i),val:=.int .i64 i,born:=i}) i).map (·.2)=(l.find? fun j=>sameF x (vol j)).map fun j=>Value.int .i64 (j:Int):=by
 intro l
 induction l with
 | nil=>intro i;rfl
 | cons a l ih=>
  intro i;simp only[List.map_cons,findF,List.find?_cons]
  cases sameF x (vol a) with
  | true=>rfl
  | false=>exact ih _
theorem CodeMap.put {P:Program}{t kt e:TypeId}(ht:P.underlying t=some (.map kt e))(hk:P.underlying kt=some (.float .f32)){w:World}{b n:Nat}{vol:Nat→Nat}(h:CodeMap w b vol n)(hd:∀ j,j < n→sameF (vol n) (vol j)=false):
  ∃ w',(Instr.mapUpdate t (.map (some b)) (.float .f32 (vol n)) (.int .i64 n)).run P w=.ok () w'∧CodeMap w' b vol (n+1)∧w.grownBy w' (some b):=by
 obtain ⟨es,hb,he⟩:=h;have hf:=run_findKey_f32 hk w (vol n) es.toList (by rw[he];exact codeEs_keys vol n)
 have hnone:findF (vol n) es.toList 0=none:=by
  rw[he];exact findF_none _ _ n _ _ fun j hj=>hd j (by simpa using hj)
 rw[hnone]at hf;refine ⟨setBlock w b (.map (es.push {key:=.float .f32 (vol n),val:=.int .i64 n,born:=n}) (n+1)),?_,⟨_,heap_setBlock_same hb _,by rw[Array.toList_push,he,codeEs_succ]⟩,⟨rfl,rfl,rfl,by simp[setBlock],fun i _ hi=>heap_setBlock_other hb _ (fun e=>hi (by rw[e]))⟩⟩;simp[Instr.mapUpdate,run_underlying ht,MapKept.run_getObj_map hb,run_checkKey_f32 hk,hf,MapKept.run_setObj_map _ hb,Result.andThen,setBlock]
def codeOf (vol:Nat→Nat)(n x:Nat):Int × Bool:=match (List.range n).find? fun j=>sameF x (vol j) with
 | some j=>(j,true)
 | none=>(0,false)
theorem CodeMap.look {P:Program}{t kt e:TypeId}(ht:P.underlying t=some (.map kt e))(hk:P.underlying kt=some (.float .f32)){w:World}(hz:(zeroValue e).run P w=.ok (.int .i64 0) w){b n:Nat}{vol:Nat→Nat}(h:CodeMap w b vol n)(x:Nat):
  (Instr.lookup t (.map (some b)) (.float .f32 x) true).run P w=.ok (.tuple #[.int .i64 (codeOf vol n x).1,.bool (codeOf vol n x).2]) w:=by
 obtain ⟨es,hb,he⟩:=h;have hf:=run_findKey_f32 hk w x es.toList (by rw[he];exact codeEs_keys vol n);have hv:=findF_val x vol (List.range n) 0;have he':es.toList=(List.range n).map fun i=>{key:=.float .f32 (vol i),val:=.int .i64 i,born:=i}:=he;rw[←he'] at hv;unfold codeOf
 cases hfd:(List.range n).find? fun j=>sameF x (vol j) with
 | none=>
  rw[hfd]at hv
  have h0:findF x es.toList 0=none:=by simpa using hv
  rw[h0]at hf;simp[Instr.lookup,run_underlying ht,MapKept.run_getObj_map hb,run_checkKey_f32 hk,hf,hz,Result.andThen]
 | some j=>
  rw[hfd]at hv
  obtain ⟨⟨i,v⟩,h0,h1⟩:∃ p,findF x es.toList 0=some p∧p.2=Value.int .i64 (j:Int):=by simpa using hv
  rw[h0]at hf;simp only at h1;subst h1;simp[Instr.lookup,run_underlying ht,MapKept.run_getObj_map hb,run_checkKey_f32 hk,hf,Result.andThen]
theorem wpList_codePut {P:Program} (w:World) {ops:Array Oper} {rest:List Oper} {o:Oper} {a:Act} {Q:Exit→Act→World→Prop}
  (hg:o.guard=none) (m x v:Operand) (t:TypeId) (hop:o.op=Op.mapUpdate t m x v) (kt e:TypeId) (ht:P.underlying t=some (.map kt e)) (hk:P.underlying kt=some (.float .f32)) (b n:Nat) (vol:Nat→Nat)
  (hm:a.eval m=.map (some b)) (h:CodeMap w b vol n) (hx:a.eval x=.float .f32 (vol n)) (hv:a.eval v=.int .i64 n) (hd:∀ j,j < n→sameF (vol n) (vol j)=false)
  (hK:∀ w',CodeMap w' b vol (n+1)→w.grownBy w' (some b)→wpList P ops Q rest (a.put o.dst undef) w'):
  wpList P ops Q (o::rest) a w:=by
 refine wpList_plain hg fun K' hK'=>?_;obtain ⟨w',hrun,r1,r2⟩:=h.put ht hk hd;unfold Oper.wp;simp[execOp,hop,hm,hx,hv,hrun,Result.andThen];exact hK' _ _ (hK w' r1 r2)
def volN (s z:Int)(c:Nat):Nat:=Flo.vol ((c:Int) - z) s
theorem volN_ne {s z:Int}{c e:Nat}(hs: -100≤s)(hs':s≤100)(hz:0≤z)(hz':z≤5000)(hc:c≤5000)(he:e≤5000)(h:c≠e):sameF (volN s z c) (volN s z e)=false:=by
 unfold sameF volN;show (Ieee.single.order _ _==some Ordering.eq)=false;rw[Flo.vol_same (by omega) (by omega) hs hs',decide_eq_false];omega
def codesL (vol:Nat→Nat)(n:Nat):List Nat→List Int
 | []=>[]
 | x::l=>(codeOf vol n x).1::codesL vol n l
def codesB (vol:Nat→Nat)(n:Nat)(l:List Nat):Bool:=l.all fun x=>(codeOf vol n x).2
def codesOk (vol:Nat→Nat)(n:Nat)(l:List Nat):Prop:=∀ x∈l,(codeOf vol n x).2=true
theorem codesL_snoc (vol:Nat→Nat)(n:Nat)(l:List Nat)(x:Nat):codesL vol n (l ++ [x])=codesL vol n l ++ [(codeOf vol n x).1]:=by
 induction l with
 | nil=>rfl
 | cons y l ih=>show _::codesL vol n (l ++ [x])=_::codesL vol n l ++ _;rw[ih];rfl
theorem codesL_len (vol:Nat→Nat)(n:Nat)(l:List Nat):(codesL vol n l).length=l.length:=by
 induction l with
 | nil=>rfl
 | cons y l ih=>show (codesL vol n l).length+1=l.length+1;rw[ih]
theorem codes_next {vol:Nat→Nat}{n:Nat}{xs:List Nat}{k:Nat}(hk:k < xs.length){x:Nat}(hx:xs[k]=x){ys:List Int}(hy:codesL vol n (xs.take k)=ys):codesL vol n (xs.take (k+1))=ys ++ [(codeOf vol n x).1]:=by
 rw[List.take_succ_eq_append_getElem hk,codesL_snoc,hy,hx]
theorem zero_int (w:World):(zeroValue 3).run Tryz.prog w=.ok (.int .i64 0) w:=by first | exact Tryz.zeroValue3 w | kernel_rfl
theorem grown_put {w wr w1:World}{b:Nat}(hn:New w wr)(hb:w.heap.size≤b)(hg:wr.grownBy w1 (some b)):New w w1:=by
 obtain ⟨a1,a2,a3,a4,a5⟩:=hn;refine ⟨hg.os.trans a1,?_,?_,Nat.le_trans a4 hg.size,fun j hj=>?_⟩
 ·first | exact hg.tape.trans a2 | exact hg.output.trans a2
 ·first | exact hg.output.trans a3 | exact hg.tape.trans a3
 ·refine (hg.block j (Nat.lt_of_lt_of_le hj a4) ?_).trans (a5 j hj);intro h;injection h with h;omega
theorem Box.grownPut {w wr:World}{A b:Nat}{t:TypeId}{cs:Array Value}(h:Box w A t cs)(hne:A≠b)(hg:w.grownBy wr (some b)):Box wr A t cs:=by
 have:=hg.block A h.lt (by intro h;injection h with h;omega);unfold Box at h⊢;rw[this,h]
theorem Codes_all {b s z:Int} {g o:ByteArray} {qg qo:Rat} (h:AdcOk b s z g o qg qo) (a:Option Addr) (cap:Nat) (xs:List Nat) (w:World) (he:Env w) (hl:xs.length≤4096) (hr:RdL w a (flts xs)) (h0:samplesErr xs=0)
  (N:Nat) (hN:(N:Int)=2^b.toNat) (L:List Int) (m0:Int) (hL:(if codesB (volN s z) N xs=true then codesL (volN s z) N xs else [])=L) (hm0:(if codesB (volN s z) N xs=true then 0 else 3)=m0):
  Calls Tryz.prog 29 #[.agg #[.int .i64 b,.int .i64 s,.int .i64 z,.string g,.string o],.slice a xs.length cap] w (RowPost w 3 (ints L) m0):=by
 have HLL0:=hid hL;have HMM0:=hid hm0;clear hL hm0;have hc:=fun W hW=>checkAdc_ok h W hW;have hs:=fun W (hn:New w W)=>samples_new a cap xs W (by omega) (hr.new hn);simp only[h0] at hs;have hlo:=h.blo;have hhi:=h.bhi;have hslo:=h.slo;have hshi:=h.shi;have hzlo:=h.zlo;have hzhi:=h.zhi;have htp1:=top_bd hlo hhi;obtain ⟨tp,htp⟩:∃ tp:Nat,(tp:Int)=2^b.toNat - 1:=⟨N - 1,by omega⟩;rw[←htp] at htp1 hzhi;have ht:=fun W=>top_calls b s z g o W hlo hhi;simp only[←htp] at ht;have hv:=fun (c:Nat) W (hcc:c≤4095)=>volts_calls h (c:Int) W (by omega) (by omega);change ∀ (c:Nat) W,c≤4095→Calls Tryz.prog 72 #[.agg #[.int .i64 b,.int .i64 s,.int .i64 z,.string g,.string o],.int .i64 (c:Int)] W fun e w'=>e=.returned (.float .f32 (volN s z c))∧New W w' at hv;have hd:∀ n,n≤tp→∀ j,j < n→sameF (volN s z n) (volN s z j)=false:=fun n hn j hj=>volN_ne (by omega) (by omega) hzlo (by omega) (by omega) (by omega) (by omega);obtain ⟨vol,hvol⟩:∃ vol,volN s z=vol:=⟨_,rfl⟩;rw[hvol] at hd;simp only[hvol] at hv
 have htp2:tp≤4095:=by omega
 have hmm:=@run_makeMap Tryz.prog
 have hNt:N=tp+1:=by omega
 have hw1:wrap64 ((tp:Int)+1)=(N:Int):=by rw[ld_in (by omega) (by omega)];omega
 have hNi:(N:Int)≤5000:=by omega
 obtain ⟨i0,hi,hz0,hz1,hz2⟩:=info_parts info_int
 have hli:(xs.length:Int)≤4096:=by omega
 have hL:=HLL0.out;have hm0:=HMM0.out;rw[hvol] at hL hm0;clear HLL0 HMM0;clear h hlo hhi hslo hshi hzlo hzhi htp1 htp hvol h0 hN;have HNT:=hid hNt;have HC:=hid hc;have HS:=hid hs;have HT:=hid ht;have HV:=hid hv;have HD:=hid hd;have HE:=hid he;have HLL:=hid hL;have HMM:=hid hm0;have HR:=hid hr;have HTP2:=hid htp2;clear hNt hc hs ht hv hd he hL hm0 hr htp2;go_enter Tryz.func29,Tryz.ntmps29;go_wp2_with fail;obtain ⟨BA,HN⟩:=lay1 w 32 #[.int .i64 b,.int .i64 s,.int .i64 z,.string g,.string o];refine (HC.out _ (HE.out.new HN.out)).mono ?_;rintro e w1 ⟨rfl,hn⟩;replace BA:=bW BA hn;replace HN:=tW HN hn;clear hn;go_wp2_with fail;refine (HS.out _ HN.out).mono ?_;rintro e w2 ⟨rfl,hn⟩;replace BA:=bW BA hn;replace HN:=tW HN hn;clear hn;go_wp2_with fail;have HN0:=HN;clear HN;obtain ⟨BG,HN⟩:=lay1 w2 29 #[.int .i64 0,.int .i64 0];replace BA:=hid (BA.out.new HN.out);have HN_:=HN0.out.trans HN.out;clear HN HN0;have HN:=hid HN_;clear HN_;refine (pfirst2_new 0 0 _ _ 29 _ BG.out).mono ?_;rintro e w3 ⟨rfl,hn⟩;replace BA:=bW BA hn;replace HN:=tW HN hn;clear hn;obtain ⟨⟨pa0,pa1,pa2,pa3,pa4⟩,pa5⟩:=BA.out.five;go_wp2_with fail;clear pa0 pa1 pa2 pa3 pa4 pa5;have hB:w.heap.size≤w3.heap.size:=HN.out.size
 have hneq:w.heap.size≠w3.heap.size:=by have:=BA.out.lt;omega
 have hn:=(New.refl w3).alloc (.map #[] 0);have CM_:=CodeMap.made w3 vol;have CM:=hid CM_;have HB:=hid hB;have HNE:=hid hneq;clear CM_ hB hneq;replace BA:=bW BA hn;replace HN:=tW HN hn;clear hn;obtain ⟨w4,hw4⟩:∃ w4,w3.alloc (.map #[] 0)=w4:=⟨_,rfl⟩;rw[hw4] at BA HN CM⊢;obtain ⟨m,hm⟩:∃ m,w3.heap.size=m:=⟨_,rfl⟩;rw[hm] at CM HB HNE⊢;clear hw4 hm;refine (HT.out _).mono ?_;rintro e w5 ⟨rfl,hn⟩;replace CM:=hid (CM.out.new hn);replace BA:=bW BA hn;replace HN:=tW HN hn;clear hn;go_wp2_with fail;clear BG;rw[hw1];clear hw1;go_loopw [27] (fun i wr=>∃ (k:Nat),k≤N∧i=.int .i64 (k:Int)∧Hid (CodeMap wr m vol k)∧Hid (New w wr)∧Hid (Box wr w.heap.size 32 #[.int .i64 b,.int .i64 s,.int .i64 z,.string g,.string o])) (fun i _=>N - (intOf i).toNat)
 case atStart=>exact ⟨0,Nat.zero_le _,rfl,CM,HN,BA⟩
 case round=>
  clear HN BA CM;obtain ⟨k,hk,rfl,CM,HN,BA⟩:=hrel;by_cases hlt:k < N
  ·have hdk:=HD.out k (by have:=HNT.out;omega);obtain ⟨⟨pa0,pa1,pa2,pa3,pa4⟩,pa5⟩:=BA.out.five;have HDK:=hid hdk;clear hdk;go_wp2_with fail;refine (HV.out k _ (by have:=HNT.out;have:=HTP2.out;omega)).mono ?_;rintro e w6 ⟨rfl,hn⟩;clear pa0 pa1 pa2 pa3 pa4 pa5;replace CM:=hid (CM.out.new hn);replace BA:=bW BA hn;replace HN:=tW HN hn;clear hn;go_wp2_with (at_mapUpdate;refine wpList_codePut _ rfl _ _ _ 152 rfl 35 3 Tryz.underlying152 Tryz.underlying35 m k vol rfl CM.out rfl rfl HDK.out ?_);intro w7 hcm hg;have hN7:=grown_put HN.out HB.out hg;have hB7:=BA.out.grownPut HNE.out hg;clear CM HN BA hg;have CM:=hid hcm;have HN:=hid hN7;have BA:=hid hB7;clear hcm hN7 hB7;go_wp2_with fail;go_roundw
   case rel=>exact ⟨k+1,by omega,by go_num,CM,HN,BA⟩
   case measure=>simp[intOf];omega
  ·have hkk:k=N:=by omega
   subst hkk;have hml:=CM.out.lt;have HML:=hid hml;clear hml;go_wp2_with fail;obtain ⟨w8,hw8⟩:∃ x,x=wr:=⟨_,rfl⟩;rw[←hw8] at CM HN BA HML⊢;clear hw8;go_loopw [9,38] (fun v i wr=>∃ (j:Nat) (ys:List Int),j≤xs.length∧i=.int .i64 (j:Int)∧Hid (codesL vol k (xs.take j)=ys)∧Hid (∀ x∈xs.take j,(codeOf vol k x).2=true)∧Hid (wr.ownsRow w8.heap.size 3 1 v (ints ys).length (ints ys))∧Hid (New w8 wr)) (fun _ i _=>xs.length - (intOf i).toNat)
   case atStart=>exact ⟨0,[],Nat.zero_le _,rfl,hid rfl,hid (by simp),hid (World.ownsRow_nil _ _ _ _),hid (New.refl _)⟩
   case round=>
    obtain ⟨j,ys,hj,rfl,HY,HPRE,HO,HM⟩:=hrel;by_cases hlt2:j < xs.length
    ·obtain ⟨b1,off,rfl,hcell⟩:=HR.out.flt j hlt2;have hcell:=(HN.out.trans HM.out).cell hcell;obtain ⟨x,hx⟩:∃ x,xs[j]=x:=⟨_,rfl⟩;rw[hx] at hcell;have hnx:=codes_next hlt2 hx HY.out;have hlook:=(CM.out.new HM.out).look Tryz.underlying152 Tryz.underlying35 (zero_int _) x;obtain ⟨c1,hc1⟩:∃ c,(codeOf vol k x).1=c:=⟨_,rfl⟩;rw[hc1] at hlook hnx
     cases hko:(codeOf vol k x).2 with
     | true=>
      rw[hko]at hlook
      have hpre:∀ y∈xs.take (j+1),(codeOf vol k y).2=true:=fun y hy=>by
       rw[List.take_succ_eq_append_getElem hlt2]at hy;rcases List.mem_append.1 hy with hy | hy
       ·exact HPRE.out y hy
       ·rw[List.mem_singleton.1 hy,hx];exact hko
      have hle:(ints ys).length=j:=by rw[←HY.out];simp[ints,codesL_len];omega
      have h1:∀ u∈[Value.int .i64 c1],u.oneCell'=true:=one_c2 c1;clear hko;have HX:=hid hx;have HNX:=hid hnx;have HC1:=hid hc1;have HLE:=hid hle;have H1:=hid h1;have HPR:=hid hpre;clear hx hnx hc1 hle h1 hpre;go_wp2_with (at_builtin;refine wpList_append_own _ rfl _ _ 57 rfl w8.heap.size 3 i0 (.int .i64 0) 1 8 Tryz.underlying57 hi hz0 hz1 hz2 rfl (by decide) _ _ _ rfl (HO.out.alloc _) ⟨wr.heap.size,0,none⟩ 1 1 [.int .i64 c1] rfl rfl (one_c1 _ _ _) H1.out (by have:=HLE.out;unfold maxLen;omega) (by have:=HLE.out;omega) (by have:=HM.out.size;rw[←size_alloc];omega) ?_);intro v' w9 hown' hgrow _;have hN1:=grown_new HM.out HO.out hgrow
      have hO1:w9.ownsRow w8.heap.size 3 1 v' (ints (ys ++ [c1])).length (ints (ys ++ [c1])):=by
       have:ints (ys ++ [c1])=ints ys ++ [.int .i64 c1]:=by simp[ints]
       rw[this];simpa using hown'
      clear hown' hgrow;have HN1:=hid hN1;have HO1:=hid hO1;clear hN1 hO1;go_wp2_with fail;go_roundw
      case rel=>exact ⟨j+1,_,by omega,by go_num,HNX,HPR,HO1,HN1⟩
      case measure=>simp[intOf];omega
     | false=>
      rw[hko]at hlook
      have hall:codesB vol k xs=false:=by
       cases hb:codesB vol k xs with
       | false=>rfl
       | true=>
        have:=List.all_eq_true.1 hb x (by rw[←hx];exact List.getElem_mem hlt2);rw[hko] at this
        cases this
      have e1:=HLL.out;have e2:=HMM.out;rw[hall,if_neg (by decide)] at e1 e2;clear hko hnx hc1 hall;have HX:=hid hx;have E1:=hid e1;have E2:=hid e2;clear hx e1 e2;go_wp2_with fail;go_ret2;exact ⟨_,by rw[←E2.out];rfl,HN.out.trans HM.out,by rw[←E1.out];exact World.ownsRow_nil _ _ _ _⟩
    ·have hkk:j=xs.length:=by omega
     have hY:=HY.out;rw[hkk,List.take_length] at hY;have hall:codesB vol k xs=true:=List.all_eq_true.2 fun x hx=>HPRE.out x (by rw[hkk,List.take_length];exact hx);have e1:=HLL.out;have e2:=HMM.out;rw[hall,if_pos rfl] at e1 e2;clear hall;have HKK:=hid hkk;have HYY:=hid hY;have E1:=hid e1;have E2:=hid e2;clear hkk hY e1 e2;go_wp2_with fail;go_ret2;exact ⟨_,by rw[←E2.out];rfl,HN.out.trans HM.out,by rw[←E1.out,HYY.out];exact World.ownsRow.mono HO.out HN.out.size⟩
theorem Codes_ok {b s z:Int} {g o:ByteArray} {qg qo:Rat} (h:AdcOk b s z g o qg qo) (a:Option Addr) (cap:Nat) (xs:List Nat) (w:World) (he:Env w) (hl:xs.length≤4096) (hr:RdL w a (flts xs)) (h0:samplesErr xs=0)
  (N:Nat) (hN:(N:Int)=2^b.toNat) (hok:codesOk (volN s z) N xs):
  Calls Tryz.prog 29 #[.agg #[.int .i64 b,.int .i64 s,.int .i64 z,.string g,.string o],.slice a xs.length cap] w (RowPost w 3 (ints (codesL (volN s z) N xs)) 0):=by
 have hb:codesB (volN s z) N xs=true:=List.all_eq_true.2 hok;exact Codes_all h a cap xs w he hl hr h0 N hN _ _ (by rw[if_pos hb]) (by rw[if_pos hb])
end Go.Proofs.YtbkcjmojgglbkaaGreatDoor
