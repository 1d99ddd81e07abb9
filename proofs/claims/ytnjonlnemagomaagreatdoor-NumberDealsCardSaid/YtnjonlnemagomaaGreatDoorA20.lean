/- Part A20. -/
import Derived.OwnWalk
import Derived.Laws.AppendOwn
import Derived.Test.YtnjonlnemagomaaGreatDoorA19
namespace Go.Proofs.YtnjonlnemagomaaGreatDoor
open Go.RowKit Big
open Go.Lib (hid)
set_option maxRecDepth 100000
set_option maxHeartbeats 8000000
def Fr2 (W:World)(b:Nat)(p q:Rat):Prop:=∃ (s:Int) (a:Option Addr) (l c:Nat) (t:Int) (d:Option Addr) (m k:Nat) (s':Int) (a':Option Addr) (l' c':Nat) (t':Int) (d':Option Addr) (m' k':Nat),
 Box W b 115 #[.int .i64 s,.slice a l c,.int .i64 t,.slice d m k,.int .i64 s',.slice a' l' c',.int .i64 t',.slice d' m' k']∧
 IsFrac W (.agg #[.int .i64 s,.slice a l c,.int .i64 t,.slice d m k]) p∧IsFrac W (.agg #[.int .i64 s',.slice a' l' c',.int .i64 t',.slice d' m' k']) q
theorem info_frac:(Tryz.prog.info? 115).map (fun i=>(i.zero,i.size,i.bytes))=some (some (.agg #[.int .i64 0,.slice none 0 0,.int .i64 0,.slice none 0 0]),4,64):=by kernel_rfl
theorem made_two:madeCells (Value.agg #[.int .i64 0,.slice none 0 0,.int .i64 0,.slice none 0 0]).cells 8=#[.int .i64 0,.slice none 0 0,.int .i64 0,.slice none 0 0,.int .i64 0,.slice none 0 0,.int .i64 0,.slice none 0 0]:=by kernel_rfl
theorem run_make_frac2 (w:World):(Instr.makeSlice 201 (.int .i64 2) (.int .i64 2)).run Tryz.prog w=.ok (.slice (some ⟨w.heap.size,0,none⟩) 2 2) (w.alloc (.cells #[.int .i64 0,.slice none 0 0,.int .i64 0,.slice none 0 0,.int .i64 0,.slice none 0 0,.int .i64 0,.slice none 0 0] 115)):=by
 obtain ⟨i,hi,hz0,hz1,hz2⟩:=info_parts info_frac;have hr:=run_make (P:=Tryz.prog) w 201 115 i _ Tryz.underlying201 hi hz0 .i64 .i64 2 2 (by omega) (Int.le_refl _) (by rw[hz2];omega) (by omega)
 have e:(2:Int).toNat*i.size=8:=by rw[hz1];rfl
 rw[e,made_two]at hr;exact hr
theorem IsFrac.setN {w:World}{v:Value}{q:Rat}(h:IsFrac w v q){B:Nat}(hd:NoDig w B)(o1 o2 o3 o4:Nat)(n n':Int)(b b':Option Addr)(m k m' k':Nat):
  IsFrac ((((w.setCell ⟨B,o1,none⟩ (.int .i64 n)).setCell ⟨B,o2,none⟩ (.slice b m k)).setCell ⟨B,o3,none⟩ (.int .i64 n')).setCell ⟨B,o4,none⟩ (.slice b' m' k')) v q:=by
 obtain ⟨s,a,l,c,s',a',l',c',e,h1,h2⟩:=h
 have key:∀ {v:Value} {z:Int},IsInt w v z→IsInt ((((w.setCell ⟨B,o1,none⟩ (.int .i64 n)).setCell ⟨B,o2,none⟩ (.slice b m k)).setCell ⟨B,o3,none⟩ (.int .i64 n')).setCell ⟨B,o4,none⟩ (.slice b' m' k')) v z:=fun h=>
  (((h.set (p:=⟨B,o1,none⟩) hd _).set (p:=⟨B,o2,none⟩) (hd.set _ (.i64 n)) _).set (p:=⟨B,o3,none⟩) ((hd.set _ (.i64 n)).set _ (.slice b m k)) _).set (p:=⟨B,o4,none⟩) (((hd.set _ (.i64 n)).set _ (.slice b m k)).set _ (.i64 n')) _
 exact ⟨s,a,l,c,s',a',l',c',e,key h1,key h2⟩
theorem noDig8 {w:World}{B:Nat}{t:TypeId}{s1 s2 s3 s4:Int}{a1 a2 a3 a4:Option Addr}{l1 c1 l2 c2 l3 c3 l4 c4:Nat}(h:Box w B t #[.int .i64 s1,.slice a1 l1 c1,.int .i64 s2,.slice a2 l2 c2,.int .i64 s3,.slice a3 l3 c3,.int .i64 s4,.slice a4 l4 c4]):NoDig w B:=
 h.noDig fun v hv=>by
  simp at hv
  rcases hv with rfl | rfl | rfl | rfl | rfl | rfl | rfl | rfl <;> first | exact .i64 _ | exact .slice _ _ _
def FaRel (w0:World)(b:Nat)(p q:Rat)(k:Nat)(wr:World):Prop:=New w0 wr∧
 ((k=0∧Box wr b 115 #[.int .i64 0,.slice none 0 0,.int .i64 0,.slice none 0 0,.int .i64 0,.slice none 0 0,.int .i64 0,.slice none 0 0])∨
  (k=1∧∃ (s:Int) (a:Option Addr) (l c:Nat) (t:Int) (d:Option Addr) (m k:Nat),Box wr b 115 #[.int .i64 s,.slice a l c,.int .i64 t,.slice d m k,.int .i64 0,.slice none 0 0,.int .i64 0,.slice none 0 0]∧IsFrac wr (.agg #[.int .i64 s,.slice a l c,.int .i64 t,.slice d m k]) p)∨
  (k=2∧Fr2 wr b p q))
theorem fa_one {w0 w:World} {b:Nat} {p q:Rat} {s:Int} {a:Option Addr} {l c:Nat} {t:Int} {d:Option Addr} {m k:Nat} (hN:New w0 w) (hB:w0.heap.size≤b)
  (hb:Box w b 115 #[.int .i64 0,.slice none 0 0,.int .i64 0,.slice none 0 0,.int .i64 0,.slice none 0 0,.int .i64 0,.slice none 0 0]) (hf:IsFrac w (.agg #[.int .i64 s,.slice a l c,.int .i64 t,.slice d m k]) p):
  FaRel w0 b p q 1 ((((w.setCell ⟨b,0,none⟩ (.int .i64 s)).setCell ⟨b,1,none⟩ (.slice a l c)).setCell ⟨b,2,none⟩ (.int .i64 t)).setCell ⟨b,3,none⟩ (.slice d m k)):=
 ⟨hN.put4 hB _ _ _ _,.inr (.inl ⟨rfl,s,a,l,c,t,d,m,k,(((hb.set 0 _).set 1 _).set 2 _).set 3 _,hf.setN (noDig8 hb) 0 1 2 3 _ _ _ _ _ _ _ _⟩)⟩
theorem fa_two {w0 w:World} {b:Nat} {p q:Rat} {s:Int} {a:Option Addr} {l c:Nat} {t:Int} {d:Option Addr} {m k:Nat} {s':Int} {a':Option Addr} {l' c':Nat} {t':Int} {d':Option Addr} {m' k':Nat} (hN:New w0 w) (hB:w0.heap.size≤b)
  (hb:Box w b 115 #[.int .i64 s,.slice a l c,.int .i64 t,.slice d m k,.int .i64 0,.slice none 0 0,.int .i64 0,.slice none 0 0]) (hf:IsFrac w (.agg #[.int .i64 s,.slice a l c,.int .i64 t,.slice d m k]) p) (hf':IsFrac w (.agg #[.int .i64 s',.slice a' l' c',.int .i64 t',.slice d' m' k']) q):
  FaRel w0 b p q 2 ((((w.setCell ⟨b,4,none⟩ (.int .i64 s')).setCell ⟨b,5,none⟩ (.slice a' l' c')).setCell ⟨b,6,none⟩ (.int .i64 t')).setCell ⟨b,7,none⟩ (.slice d' m' k')):=
 ⟨(((hN.setCell (p:=⟨b,4,none⟩) hB _).setCell (p:=⟨b,5,none⟩) hB _).setCell (p:=⟨b,6,none⟩) hB _).setCell (p:=⟨b,7,none⟩) hB _,
  .inr (.inr ⟨rfl,s,a,l,c,t,d,m,k,s',a',l',c',t',d',m',k',(((hb.set 4 _).set 5 _).set 6 _).set 7 _,hf.setN (noDig8 hb) 4 5 6 7 _ _ _ _ _ _ _ _,hf'.setN (noDig8 hb) 4 5 6 7 _ _ _ _ _ _ _ _⟩)⟩
theorem fromAll_two (x y:ByteArray)(p q:Rat)(hx:x.data.toList=ratText p)(hy:y.data.toList=ratText q)(lx:x.size≤100000)(ly:y.size≤100000)(B cap:Nat)(T:TypeId)(w:World)(he:Env w)(hB:Box w B T #[.string x,.string y]):
  Calls Tryz.prog 200 #[.slice (some ⟨B,0,none⟩) 2 cap] w fun e w'=>∃ b:Nat,e=.returned (.slice (some ⟨b,0,none⟩) 2 2)∧New w w'∧w.heap.size≤b∧Fr2 w' b p q:=by
 obtain ⟨i0,hi,hz0,hz1,hz2⟩:=info_parts info_frac;have hf1:=fun W hW=>from_calls x p W hW hx (by omega);have hf2:=fun W hW=>from_calls y q W hW hy (by omega);clear hx hy lx ly;have HE:=hid he;have HF1:=hid hf1;have HF2:=hid hf2;have BA:=hid hB;clear he hf1 hf2 hB;go_enter Tryz.func200,Tryz.ntmps200;have hmk:=run_make_frac2;go_wp2_with fail;have BA0:=BA;have HN:=hid (New.refl w);have HN0:=HN;clear HN;obtain ⟨BR,HN⟩:=lay1 w 115 #[.int .i64 0,.slice none 0 0,.int .i64 0,.slice none 0 0,.int .i64 0,.slice none 0 0,.int .i64 0,.slice none 0 0];replace BA:=hid (BA.out.new HN.out);have HN_:=HN0.out.trans HN.out;clear HN HN0;have HN:=hid HN_;clear HN_;clear hmk;have hst:FaRel w w.heap.size p q 0 _:=⟨HN.out,.inl ⟨rfl,BR.out⟩⟩;clear BR HN;have HS:=hid hst;clear hst;go_loopw [11] (fun i wr=>∃ k:Nat,k≤2∧i=.int .i64 (k:Int)∧Hid (FaRel w w.heap.size p q k wr)) (fun i _=>2 - (RowKit.intOf i).toNat)
 case atStart=>exact ⟨0,by omega,rfl,HS⟩
 case round=>
  obtain ⟨k,hk,rfl,HR⟩:=hrel;obtain ⟨hN,hr⟩:=HR.out;clear HR;rcases hr with ⟨rfl,hb⟩ | ⟨rfl,s,a,l,c,t,d,m,kk,hb,hf⟩ | ⟨rfl,h2⟩
  ·have BAR:=hid (BA0.out.new hN);have HEN:=hid (HE.out.new hN);have BR:=hid hb;have HN:=hid hN;clear hb hN;obtain ⟨pa0,pa1,pa2,pa3,pa4⟩:=BAR.out.two;go_wp2_with fail;refine (HF1.out _ HEN.out).mono ?_;rintro e w3 ⟨v,rfl,hn,hf⟩;obtain ⟨s,a,l,c,t,d,m,kk,rfl⟩:=hf.shape;have HF:=hid hf;clear hf;clear pa0 pa1 pa2 pa3 pa4;replace BR:=hid (BR.out.new hn);replace HN:=hid (HN.out.trans hn);clear hn;have y0:=BR.out.cell 0;have y1:=BR.out.cell 1;have y2:=BR.out.cell 2;have y3:=BR.out.cell 3;have z0:=BR.out.frozen 0;have z1:=BR.out.frozen 1;have z2:=BR.out.frozen 2;have z3:=BR.out.frozen 3;have z4:=BR.out.lt;go_wp2_with fail;go_roundw
   case rel=>exact ⟨1,by omega,by go_num,hid (fa_one HN.out (Nat.le_refl _) BR.out HF.out)⟩
   case measure=>simp[RowKit.intOf]
  ·have BAR:=hid (BA0.out.new hN);have HEN:=hid (HE.out.new hN);have BR:=hid hb;have HN:=hid hN;have HP:=hid hf;clear hb hN hf;obtain ⟨pa0,pa1,pa2,pa3,pa4⟩:=BAR.out.two;go_wp2_with fail;refine (HF2.out _ HEN.out).mono ?_;rintro e w3 ⟨v,rfl,hn,hf⟩;obtain ⟨s',a',l',c',t',d',m',kk',rfl⟩:=hf.shape;have HF:=hid hf;clear hf;clear pa0 pa1 pa2 pa3 pa4;replace BR:=hid (BR.out.new hn);replace HP:=hid (HP.out.new hn);replace HN:=hid (HN.out.trans hn);clear hn;have y0:=BR.out.cell 4;have y1:=BR.out.cell 5;have y2:=BR.out.cell 6;have y3:=BR.out.cell 7;have z0:=BR.out.frozen 4;have z1:=BR.out.frozen 5;have z2:=BR.out.frozen 6;have z3:=BR.out.frozen 7;have z4:=BR.out.lt;go_wp2_with fail;go_roundw
   case rel=>exact ⟨2,by omega,by go_num,hid (fa_two HN.out (Nat.le_refl _) BR.out HP.out HF.out)⟩
   case measure=>simp[RowKit.intOf]
  ·skip
   have HN:=hid hN;have H2:=hid h2;clear hN h2;go_wp2_with fail;go_ret;exact ⟨_,rfl,HN.out,Nat.le_refl _,H2.out⟩
theorem zero_notU {z:Array Value}(hz:∀ u∈z,NotU u)(n:Nat):∀ u∈Builtin.zeroCells z n,NotU u:=by
 intro u hu;unfold Builtin.zeroCells at hu;rw[Array.mem_map] at hu;obtain ⟨i, -,rfl⟩:=hu;by_cases h:z.size=0
 ·have:z=#[]:=Array.eq_empty_of_size_eq_zero h;subst this;intro x hx
  cases hx
 ·have hlt:i % z.size < z.size:=Nat.mod_lt _ (by omega);rw[getElem!_pos z _ hlt];exact hz _ (Array.getElem_mem hlt)
def RowNo (w:World)(v:Value):Prop:=∀ g,v.ownBlock=some g→NoDig w g
theorem RowNo.new {w w':World}{v:Value}(h:RowNo w v)(hn:New w w'):RowNo w' v:=fun g hg=>(h g hg).new hn
theorem append_noDig (w:World) (base:Nat) (t ty e:TypeId) (i:TypeInfo) (z:Value) (size bytes:Nat) (ht:Tryz.prog.underlying t=some (.slice e)) (hi:Tryz.prog.info? e=some i) (hz:i.zero=some z)
  (hsize:i.size=size) (hby:i.bytes=bytes) (hzs:z.cells.size=size) (hsz:0 < size)
  (v:Value) (n:Nat) (xs:List Value) (hown:w.ownsRow base e size v n xs)
  (a:Addr) (m c:Nat) (news:List Value) (hl:news.length=m*size) (hnews:∀ j u,news[j]?=some u→w.cell? (a.add j)=some u) (h1:∀ u∈news,u.oneCell'=true)
  (h63:n+m≤maxLen) (hbytes:(n+m)*bytes≤140737488355328) (hbase:base≤w.heap.size) (hzu:∀ u∈z.cells,NotU u) (hnu:∀ u∈news,NotU u) (hno:RowNo w v):
  ∃ v' w',(Builtin.append_ #[t,t] ty #[v,.slice (some a) m c]).run Tryz.prog w=.ok v' w'∧w'.ownsRow base e size v' (n+m) (xs ++ news)∧w.grownBy w' v.ownBlock∧
   (v'=.slice none 0 0 ↔ v=.slice none 0 0∧m=0)∧RowNo w' v'∧∀ g,v'.ownBlock=some g→v.ownBlock=some g∨w.heap.size≤g:=by
 obtain ⟨v',w',hr,h2,h3,h4⟩:=run_append_own (P:=Tryz.prog) w base t ty e i z size bytes ht hi hz hsize hby hzs hsz v n xs hown a m c news hl hnews h1 h63 hbytes hbase;refine ⟨v',w',hr,h2,h3,h4,?_⟩;subst hsize;subst hby
 have hsmall:n+m≤9223372036854775807:=by simp only[maxLen] at h63;omega
 have fresh:∀ (cs:Array Value) (k cap:Nat),(∀ u∈cs,NotU u)→v'=.slice (some ⟨w.heap.size,0,none⟩) k cap→w'=w.drew.alloc (.cells cs e)→RowNo w' v'∧∀ g,v'.ownBlock=some g→v.ownBlock=some g∨w.heap.size≤g:=fun cs k cap hcs e1 e2=>by
  subst e1;subst e2;refine ⟨fun g hg=>?_,fun g hg=>?_⟩
  ·simp[Value.ownBlock] at hg;subst hg;exact noDig_alloc w.drew cs e hcs
  ·simp[Value.ownBlock] at hg;subst hg;exact .inr (Nat.le_refl _)
 rcases hown.2 with ⟨rfl,rfl⟩ | ⟨g,cap,cur,rfl,hbg,hg,hnc,hcm,hcs,htake⟩
 ·by_cases hm:m=0
  ·subst hm;have:v'=.slice none 0 0:=h4.2 ⟨rfl,rfl⟩;subst this;exact ⟨fun g hg=>by simp[Value.ownBlock] at hg,fun g hg=>by simp[Value.ownBlock] at hg⟩
  ·have hr2:=run_append_nil (P:=Tryz.prog) w t ty e i z ht hi hz a m c news hl hnews (by omega) (by omega) (by have hb:=hbytes;simp only[Nat.zero_add] at hb;omega);rw[hr] at hr2;injection hr2 with e1 e2
   exact fresh _ _ _ (fun u hu=>by
    rw[Array.mem_append]at hu;rcases hu with hu | hu
    ·exact hnu u (by simpa using hu)
    ·exact zero_notU hzu _ u hu) e1 e2
 ·by_cases hroom:n+m≤cap
  ·have hfit:n*i.size+news.length≤cur.size:=by rw[hl,hcs,←Nat.add_mul];exact Nat.mul_le_mul_right _ hroom
   have hr2:=run_append_room (P:=Tryz.prog) w t ty e i ht hi g n cap cur hg a m c news hl hnews h1 hroom hfit;rw[hr] at hr2;injection hr2 with e1 e2;subst e1;subst e2;refine ⟨fun g' hg'=>?_,fun g' hg'=>.inl hg'⟩;simp[Value.ownBlock] at hg';subst hg';have hold:=hno g rfl;refine ⟨?_,fun o x hc=>?_⟩
   ·have:=setRow_heap w g cur (cur.toList.take (n*i.size) ++ news ++ cur.toList.drop (n*i.size+news.length)).toArray e (0,0) hg;exact (Array.getElem?_eq_some_iff.1 this).1
   ·rw[cell_of_row _ g o _ e (0,0) (setRow_heap w g cur _ e (0,0) hg)] at hc;have hmem:=Array.mem_of_getElem? hc;simp only[List.mem_toArray,List.mem_append] at hmem
    have hcur:∀ u∈cur.toList,NotU u:=fun u hu=>by
     obtain ⟨j,hj,rfl⟩:=List.getElem_of_mem hu;intro y hy;refine hold.2 j y ?_;rw[cell_of_row w g j cur e (0,0) hg,←hy];simp
    rcases hmem with (h5 | h5) | h5
    ·exact hcur _ (List.mem_of_mem_take h5) x rfl
    ·exact hnu _ h5 x rfl
    ·exact hcur _ (List.mem_of_mem_drop h5) x rfl
  ·have holds:∀ j u,xs[j]?=some u→w.cell? ((⟨g,0,none⟩:Addr).add j)=some u:=hown.cells (g:=g) rfl;have hr2:=run_append_grow (P:=Tryz.prog) w t ty e i z ht hi hz ⟨g,0,none⟩ n cap xs hown.1 holds a m c news hl hnews (by omega) (by omega) (growslice_fits (by omega) hbytes);rw[hr] at hr2;injection hr2 with e1 e2;have hold:=hno g rfl
   exact fresh _ _ _ (fun u hu=>by
    rw[Array.mem_append,Array.mem_append]at hu;rcases hu with (hu | hu) | hu
    ·have hu2:u∈xs:=by simpa using hu
     obtain ⟨j,hj,rfl⟩:=List.getElem_of_mem hu2;intro y hy;have:=holds j xs[j] (by simp[hj]);rw[Addr.add_lit,hy] at this;exact hold.2 _ y (by simpa using this)
    ·exact hnu u (by simpa using hu)
    ·exact zero_notU hzu _ u hu) e1 e2
theorem IsInt.grown {w w':World}{v v0:Value}{z:Int}(h:IsInt w v z)(hg:w.grownBy w' v0.ownBlock)(hno:RowNo w v0):IsInt w' v z:=by
 rcases h with ⟨h,lo,hi⟩ | ⟨b,off,n,cap,f,s,h,hs,hw,h0,hv,hz⟩
 ·exact .small h lo hi
 ·obtain ⟨a,cap',h1,h2,h3⟩:=hw;refine .big b off n cap f s h hs ⟨a,cap',h1,fun i hi=>?_,h3⟩ h0 hv hz;obtain ⟨b',off',e,hc⟩:=h2 i hi;exact ⟨b',off',e,hg.cell hc fun e2=>(hno b' e2.symm).2 _ _ hc⟩
theorem IsFrac.grown {w w':World}{v v0:Value}{q:Rat}(h:IsFrac w v q)(hg:w.grownBy w' v0.ownBlock)(hno:RowNo w v0):IsFrac w' v q:=by
 obtain ⟨s,a,l,c,s',a',l',c',e,h1,h2⟩:=h;exact ⟨s,a,l,c,s',a',l',c',e,h1.grown hg hno,h2.grown hg hno⟩
theorem Box.grown {w w':World}{B:Nat}{t:TypeId}{cs:Array Value}{row:Option Nat}(h:Box w B t cs)(hg:w.grownBy w' row)(hne:row≠some B):Box w' B t cs:=by
 unfold Box at *;rw[hg.block B (by rcases Nat.lt_or_ge B w.heap.size with h1 | h1;exact h1;rw[Array.getElem?_eq_none h1] at h;cases h) (Ne.symm hne)];exact h
theorem wpList_append_noDig {ops:Array Oper} {rest:List Oper} {o:Oper} {a:Act} {w:World} {Q:Exit→Act→World→Prop} (hgd:o.guard=none) (s x:Operand) (t:TypeId)
  (ho:o.op=.call {callee:=.builtin .append,args:=#[s,x],argTypes:=#[t,t]})
  (base:Nat) (e:TypeId) (i:TypeInfo) (z:Value) (size bytes:Nat) (ht:Tryz.prog.underlying t=some (.slice e)) (hi:Tryz.prog.info? e=some i) (hz:i.zero=some z)
  (hsize:i.size=size) (hby:i.bytes=bytes) (hzs:z.cells.size=size) (hsz:0 < size)
  (v:Value) (n:Nat) (xs:List Value) (hs:a.eval s=v) (hown:w.ownsRow base e size v n xs)
  (ad:Addr) (m c:Nat) (news:List Value) (hx:a.eval x=.slice (some ad) m c) (hl:news.length=m*size) (hnews:∀ j u,news[j]?=some u→w.cell? (ad.add j)=some u) (h1:∀ u∈news,u.oneCell'=true)
  (h63:n+m≤maxLen) (hbytes:(n+m)*bytes≤140737488355328) (hbase:base≤w.heap.size) (hzu:∀ u∈z.cells,NotU u) (hnu:∀ u∈news,NotU u) (hno:RowNo w v)
  (h:∀ v' w',w'.ownsRow base e size v' (n+m) (xs ++ news)→w.grownBy w' v.ownBlock→RowNo w' v'→(∀ g,v'.ownBlock=some g→v.ownBlock=some g∨w.heap.size≤g)→wpList Tryz.prog ops Q rest (a.put o.dst v') w'):wpList Tryz.prog ops Q (o::rest) a w:=by
 refine wpList_plain hgd fun _ hK=>?_;obtain ⟨v',w',hr,h2,h3, -,h5,h6⟩:=append_noDig w base t o.type e i z size bytes ht hi hz hsize hby hzs hsz v n xs hown ad m c news hl hnews h1 h63 hbytes hbase hzu hnu hno;unfold Oper.wp execOp;simp only[ho,resolve,invoke,builtin,Sem.run_bind,Sem.run_pure,Result.andThen_ok,List.map_toArray,List.map_cons,List.map_nil,hs,hx,hr];exact hK _ _ (h v' w' h2 h3 h5 h6)
end Go.Proofs.YtnjonlnemagomaaGreatDoor
