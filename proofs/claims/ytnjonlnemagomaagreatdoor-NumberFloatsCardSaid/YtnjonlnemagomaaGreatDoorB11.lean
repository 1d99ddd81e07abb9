/- Part B11. -/
import Derived.Laws.AppendOwn
import Derived.Deep.LoopGhost
import Derived.Deep.DeepCutAuto
import Derived.Test.YtnjonlnemagomaaGreatDoorB07
namespace Go.Proofs.YtnjonlnemagomaaGreatDoor
open Go.RowKit Big Tryz
open Go.Lib (hid)
set_option maxRecDepth 100000
set_option maxHeartbeats 8000000
set_option linter.all false
theorem zero_notU {z:Array Value}(hz:∀ u∈z,NotU u)(n:Nat):∀ u∈Builtin.zeroCells z n,NotU u:=by
 intro u hu;unfold Builtin.zeroCells at hu;rw[Array.mem_map] at hu;obtain ⟨i, -,rfl⟩:=hu;by_cases h:z.size=0
 ·have:z=#[]:=Array.eq_empty_of_size_eq_zero h;subst this;intro x hx
  cases hx
 ·have aa:i % z.size < z.size:=Nat.mod_lt _ (by omega);rw[getElem!_pos z _ aa];exact hz _ (Array.getElem_mem aa)
def RowNo (w:World)(v:Value):Prop:=∀ g,v.ownBlock=some g→NoDig w g
theorem RowNo.new {w w':World}{v:Value}(h:RowNo w v)(hn:New w w'):RowNo w' v:=fun g hg=>(h g hg).new hn
theorem append_noDig (w:World) (base:Nat) (t ty e:TypeId) (i:TypeInfo) (z:Value) (size bytes:Nat) (ht:prog.underlying t=some (.slice e)) (hi:prog.info? e=some i) (hz:i.zero=some z)
  (hsize:i.size=size) (hby:i.bytes=bytes) (hzs:z.cells.size=size) (hsz:0 < size)
  (v:Value) (n:Nat) (xs:List Value) (hown:w.ownsRow base e size v n xs)
  (a:Addr) (m c:Nat) (news:List Value) (hl:news.length=m*size) (hnews:∀ j u,news[j]?=some u→w.cell? (a.add j)=some u) (h1:∀ u∈news,u.oneCell'=true)
  (h63:n+m≤maxLen) (hbytes:(n+m)*bytes≤140737488355328) (hbase:base≤w.heap.size) (hzu:∀ u∈z.cells,NotU u) (hnu:∀ u∈news,NotU u) (hno:RowNo w v):
  ∃ v' w',(Builtin.append_ #[t,t] ty #[v,.slice (some a) m c]).run prog w=.ok v' w'∧w'.ownsRow base e size v' (n+m) (xs ++ news)∧w.grownBy w' v.ownBlock∧
   (v'=.slice none 0 0 ↔ v=.slice none 0 0∧m=0)∧RowNo w' v'∧∀ g,v'.ownBlock=some g→v.ownBlock=some g∨w.heap.size≤g:=by
 obtain ⟨v',w',hr,h2,h3,h4⟩:=run_append_own (P:=prog) w base t ty e i z size bytes ht hi hz hsize hby hzs hsz v n xs hown a m c news hl hnews h1 h63 hbytes hbase;refine ⟨v',w',hr,h2,h3,h4,?_⟩;subst hsize;subst hby
 have al:n+m≤9223372036854775807:=by simp only[maxLen] at h63;omega
 have ad:∀ (cs:Array Value) (k ac:Nat),(∀ u∈cs,NotU u)→v'=.slice (some ⟨w.heap.size,0,none⟩) k ac→w'=w.drew.alloc (.cells cs e)→RowNo w' v'∧∀ g,v'.ownBlock=some g→v.ownBlock=some g∨w.heap.size≤g:=fun cs k ac aj e1 e2=>by
  subst e1;subst e2;refine ⟨fun g hg=>?_,fun g hg=>?_⟩
  ·simp[Value.ownBlock] at hg;subst hg;exact noDig_alloc w.drew cs e aj
  ·simp[Value.ownBlock] at hg;subst hg;exact .inr (Nat.le_refl _)
 rcases hown.2 with ⟨rfl,rfl⟩ | ⟨g,ac,aa,rfl,ao,hg,aq,ap,aj,am⟩
 ·by_cases hm:m=0
  ·subst hm;have:v'=.slice none 0 0:=h4.2 ⟨rfl,rfl⟩;subst this;exact ⟨fun g hg=>by simp[Value.ownBlock] at hg,fun g hg=>by simp[Value.ownBlock] at hg⟩
  ·have ab:=run_append_nil (P:=prog) w t ty e i z ht hi hz a m c news hl hnews (by omega) (by omega) (by have hb:=hbytes;simp only[Nat.zero_add] at hb;omega);rw[hr] at ab;injection ab with e1 e2
   exact ad _ _ _ (fun u hu=>by
    rw[Array.mem_append]at hu;rcases hu with hu | hu
    ·exact hnu u (by simpa using hu)
    ·exact zero_notU hzu _ u hu) e1 e2
 ·by_cases hroom:n+m≤ac
  ·have ak:n*i.size+news.length≤aa.size:=by rw[hl,aj,←Nat.add_mul];exact Nat.mul_le_mul_right _ hroom
   have ab:=run_append_room (P:=prog) w t ty e i ht hi g n ac aa hg a m c news hl hnews h1 hroom ak;rw[hr] at ab;injection ab with e1 e2;subst e1;subst e2;refine ⟨fun g' ag=>?_,fun g' ag=>.inl ag⟩;simp[Value.ownBlock] at ag;subst ag;have ae:=hno g rfl;refine ⟨?_,fun o x hc=>?_⟩
   ·have:=setRow_heap w g aa (aa.toList.take (n*i.size) ++ news ++ aa.toList.drop (n*i.size+news.length)).toArray e (0,0) hg;exact (Array.getElem?_eq_some_iff.1 this).1
   ·rw[cell_of_row _ g o _ e (0,0) (setRow_heap w g aa _ e (0,0) hg)] at hc;have ai:=Array.mem_of_getElem? hc;simp only[List.mem_toArray,List.mem_append] at ai
    have ah:∀ u∈aa.toList,NotU u:=fun u hu=>by
     obtain ⟨j,hj,rfl⟩:=List.getElem_of_mem hu;intro y hy;refine ae.2 j y ?_;rw[cell_of_row w g j aa e (0,0) hg,←hy];simp
    rcases ai with (h5 | h5) | h5
    ·exact ah _ (List.mem_of_mem_take h5) x rfl
    ·exact hnu _ h5 x rfl
    ·exact ah _ (List.mem_of_mem_drop h5) x rfl
  ·have af:∀ j u,xs[j]?=some u→w.cell? ((⟨g,0,none⟩:Addr).add j)=some u:=hown.cells (g:=g) rfl;have ab:=run_append_grow (P:=prog) w t ty e i z ht hi hz ⟨g,0,none⟩ n ac xs hown.1 af a m c news hl hnews (by omega) (by omega) (growslice_fits (by omega) hbytes);rw[hr] at ab;injection ab with e1 e2;have ae:=hno g rfl
   exact ad _ _ _ (fun u hu=>by
    rw[Array.mem_append,Array.mem_append]at hu;rcases hu with (hu | hu) | hu
    ·have an:u∈xs:=by simpa using hu
     obtain ⟨j,hj,rfl⟩:=List.getElem_of_mem an;intro y hy;have:=af j xs[j] (by simp[hj]);rw[Addr.add_lit,hy] at this;exact ae.2 _ y (by simpa using this)
    ·exact hnu u (by simpa using hu)
    ·exact zero_notU hzu _ u hu) e1 e2
theorem IsInt.grown {w w':World}{v v0:Value}{z:Int}(h:IsInt w v z)(hg:w.grownBy w' v0.ownBlock)(hno:RowNo w v0):IsInt w' v z:=by
 rcases h with ⟨h,lo,hi⟩ | ⟨b,ad,n,ac,f,s,h,hs,hw,h0,hv,hz⟩
 ·exact .small h lo hi
 ·obtain ⟨a,aa,h1,h2,h3⟩:=hw;refine .big b ad n ac f s h hs ⟨a,aa,h1,fun i hi=>?_,h3⟩ h0 hv hz;obtain ⟨b',ab,e,hc⟩:=h2 i hi;exact ⟨b',ab,e,hg.cell hc fun e2=>(hno b' e2.symm).2 _ _ hc⟩
theorem IsFrac.grown {w w':World}{v v0:Value}{q:Rat}(h:IsFrac w v q)(hg:w.grownBy w' v0.ownBlock)(hno:RowNo w v0):IsFrac w' v q:=by
 obtain ⟨s,a,l,c,s',a',l',c',e,h1,h2⟩:=h;exact ⟨s,a,l,c,s',a',l',c',e,h1.grown hg hno,h2.grown hg hno⟩
theorem Box.grown {w w':World}{B:Nat}{t:TypeId}{cs:Array Value}{row:Option Nat}(h:Box w B t cs)(hg:w.grownBy w' row)(hne:row≠some B):Box w' B t cs:=by
 unfold Box at *;rw[hg.block B (by rcases Nat.lt_or_ge B w.heap.size with h1 | h1;exact h1;rw[Array.getElem?_eq_none h1] at h;cases h) (Ne.symm hne)];exact h
theorem wpList_append_noDig {ops:Array Oper} {rest:List Oper} {o:Oper} {a:Act} {w:World} {Q:Exit→Act→World→Prop} (hgd:o.guard=none) (s x:Operand) (t:TypeId)
  (ho:o.op=.call {callee:=.builtin .append,args:=#[s,x],argTypes:=#[t,t]})
  (base:Nat) (e:TypeId) (i:TypeInfo) (z:Value) (size bytes:Nat) (ht:prog.underlying t=some (.slice e)) (hi:prog.info? e=some i) (hz:i.zero=some z)
  (hsize:i.size=size) (hby:i.bytes=bytes) (hzs:z.cells.size=size) (hsz:0 < size)
  (v:Value) (n:Nat) (xs:List Value) (hs:a.eval s=v) (hown:w.ownsRow base e size v n xs)
  (ad:Addr) (m c:Nat) (news:List Value) (hx:a.eval x=.slice (some ad) m c) (hl:news.length=m*size) (hnews:∀ j u,news[j]?=some u→w.cell? (ad.add j)=some u) (h1:∀ u∈news,u.oneCell'=true)
  (h63:n+m≤maxLen) (hbytes:(n+m)*bytes≤140737488355328) (hbase:base≤w.heap.size) (hzu:∀ u∈z.cells,NotU u) (hnu:∀ u∈news,NotU u) (hno:RowNo w v)
  (h:∀ v' w',w'.ownsRow base e size v' (n+m) (xs ++ news)→w.grownBy w' v.ownBlock→RowNo w' v'→(∀ g,v'.ownBlock=some g→v.ownBlock=some g∨w.heap.size≤g)→wpList prog ops Q rest (a.put o.dst v') w'):wpList prog ops Q (o::rest) a w:=by
 refine wpList_plain hgd fun _ hK=>?_;obtain ⟨v',w',hr,h2,h3, -,h5,h6⟩:=append_noDig w base t o.type e i z size bytes ht hi hz hsize hby hzs hsz v n xs hown ad m c news hl hnews h1 h63 hbytes hbase hzu hnu hno;unfold Oper.wp execOp;simp only[ho,resolve,invoke,builtin,Sem.run_bind,Sem.run_pure,Result.andThen_ok,List.map_toArray,List.map_cons,List.map_nil,hs,hx,hr];exact hK _ _ (h v' w' h2 h3 h5 h6)
def IsRt (a r:Int):Prop:=0≤r∧r*r≤a∧a < (r+1)*(r+1)
theorem sq_le {x y:Int}(hx:0≤x)(h:x≤y):x*x≤y*y:=Int.mul_le_mul h h hx (Int.le_trans hx h)
theorem lt_of_sq {x y:Int}(hy:0≤y)(h:x*x < y*y):x < y:=by
 rcases Int.lt_or_le x y with h1 | h1
 ·exact h1
 ·have:=sq_le hy h1;omega
theorem IsRt.le {a r s:Int}(h:IsRt a r)(hs:s*s≤a):s≤r:=by
 have h1:=lt_of_sq (x:=s) (y:=r+1) (by have:=h.1;omega) (by have:=h.2.2;omega);omega
theorem IsRt.unique {a r s:Int}(h:IsRt a r)(g:IsRt a s):r=s:=by
 have h1:=h.le g.2.1;have h2:=g.le h.2.1;omega
theorem newton_ge {a x s:Int}(hx:0 < x)(hs:s*s≤a):s≤(x+a / x) / 2:=by
 have h1:(2*s - x)*x≤a:=by
  have h2:0≤(x - s)*(x - s):=by
   rcases Int.le_total 0 (x - s) with h | h
   ·exact Int.mul_nonneg h h
   ·have:=Int.mul_nonneg (show 0≤ -(x - s) by omega) (show 0≤ -(x - s) by omega)
    rwa [Int.neg_mul_neg] at this
  have h3:(x - s)*(x - s)=s*s - (2*s - x)*x:=by grind
  omega
 have h4:2*s - x≤a / x:=(Int.le_ediv_iff_mul_le hx).2 h1;omega
theorem newton_end {a x:Int}(hx:0 < x)(h:x≤(x+a / x) / 2):x*x≤a:=by
 have h1:x≤a / x:=by omega
 exact (Int.le_ediv_iff_mul_le hx).1 h1
theorem newton_step {a x:Int}(ha:0 < a)(hx:0 < x):0 < (x+a / x) / 2∧a < ((x+a / x) / 2+1)*((x+a / x) / 2+1):=by
 have h1:=newton_ge (a:=a) (s:=1) hx (by omega);refine ⟨by omega,?_⟩;rcases Int.lt_or_le a (((x+a / x) / 2+1)*((x+a / x) / 2+1)) with h | h
 ·exact h
 ·have:=newton_ge hx h;omega
theorem newton_done {a x:Int}(hx:0 < x)(hi:a < (x+1)*(x+1))(h:x≤(x+a / x) / 2):IsRt a x:=⟨by omega,newton_end hx h,hi⟩
theorem isRt_zero:IsRt 0 0:=⟨by omega,by omega,by omega⟩
def IntAt (W:World)(B:Nat)(z:Int):Prop:=∃ (s:Int) (a:Option Addr) (l c:Nat),Box W B 113 #[.int .i64 s,.slice a l c]∧IsInt W (.agg #[.int .i64 s,.slice a l c]) z
def SqRel (w1:World)(P:Nat)(a X0:Int)(g:Nat)(wr:World):Prop:=∃ x:Int,x.toNat=g∧0 < x∧x≤X0∧a < (x+1)*(x+1)∧New w1 wr∧IntAt wr P x
theorem nsqrt_calls (va:Value)(a r:Int)(k:Nat)(w:World)(hx:IsInt w va a)(hr:IsRt a r)(hb:BdK k a)(hk:k≤100000):Calls prog 117 #[va] w (IntPost w r):=by
 obtain ⟨sa,aa,la,ca,rfl⟩:=hx.shape;have ba:Bd a:=hb.bd (by omega)
 have ha:0≤a:=Int.le_trans (by
  have:=Int.mul_nonneg hr.1 hr.1
  exact this) hr.2.1
 have ak:∀ w' v,New w w'→IsInt w' v r→IntPost w r (.returned v) w':=fun w' v h1 h2=>⟨v,rfl,h1,h2⟩;by_cases h0:a=0
 ·subst h0;have cx:r=0:=hr.unique isRt_zero;subst cx;clear hr ha hb hk;refine zh3 ?_ hx ba ak;clear hx ba ak;intro HX ay ap;go_in;go_upto_region 1 with (fail);obtain ⟨BA,BP,HN⟩:=lay2 w 113 #[.int .i64 sa,.slice aa la ca] 113 #[.int .i64 0,.slice none 0 0];have a:=BA.out.two;go_wp2_with fail;refine zM (sign_calls _ 0 _ (HX.new HN)) fun w4 hn=>?_;clear a;obtain ⟨HN,BA,BP⟩:=zn3 hn HN BA.new BP.new;clear hn;obtain ⟨a0,a1,a2,a3,a4⟩:=BA.out.two;obtain ⟨p0,p1,p2,p3,p4⟩:=BP.out.two;go_wp2_with fail;refine bodyPost_ret (v:=.agg #[.int .i64 sa,.slice aa la ca]) (by simp[results,results117,go_sem,p0,p1,p4]) rfl ?_;refine ap _ _ (HN.putAt BP (by omega) _ _) ?_;exact ((HX.new HN)).put2 BP _ _ _ _
 ·have bh:0 < a:=by omega
  have cy:a.sign=1:=Int.sign_eq_one_of_pos bh;have ch:∀ W,IsInt W (.agg #[.int .i64 2,.slice none 0 0]) 2:=fun W=>.small rfl (by omega) (by omega)
  obtain ⟨X0,cb,cg⟩:∃ X0:Nat→Int,(∀ b,X0 b=2^((b+1) / 2))∧∀ b:Nat,b≤k→∃ c d:Nat,IntKind.i64.wrap ((b:Int)+1)=(c:Int)∧wrap64 ((b:Int)+1)=(c:Int)∧(c:Int).tdiv 2=(d:Int)∧IntKind.i64.wrap (d:Int)=(d:Int)∧∀ W va,IsInt W va 2→Calls prog 178 #[va,.int .i64 (d:Int)] W (IntPost W (X0 b)):=
   ⟨fun b=>2^((b+1) / 2),fun _=>rfl,fun b hb=>⟨b+1,(b+1) / 2,by rw[IntKind.wrap_i64];omega,by unfold wrap64;omega,rfl,by rw[IntKind.wrap_i64];omega,fun W va h=>pow_calls va 2 ((b+1) / 2) 2 W h (by unfold BdK;decide) (by omega) (by omega)⟩⟩
  obtain ⟨m,da,db⟩:∃ m,k+1=m∧m≤100001:=⟨_,rfl,by omega⟩
  have cd:∀ b,IsBits a.natAbs b→b≤k∧0 < X0 b∧a < (X0 b+1)*(X0 b+1)∧BdK m (X0 b):=fun b h=>by
   have h1:=h.le hb
   have h2:a < ((2^b:Nat):Int):=by have:=h.lt;omega
   rw[cb]
   have h3:((2^b:Nat):Int)≤2^((b+1) / 2)*2^((b+1) / 2):=by
    have h5:2^b≤2^((b+1) / 2)*2^((b+1) / 2):=by
     rw[←Nat.pow_add];exact Nat.pow_le_pow_right (by omega) (by omega)
    have h6:=Int.ofNat_le.2 h5;simpa using h6
   have h4:(0:Int) < 2^((b+1) / 2):=Int.pow_pos (by omega);refine ⟨h1,h4,?_,?_⟩
   ·have h5:((2:Int)^((b+1) / 2)+1)*(2^((b+1) / 2)+1)=2^((b+1) / 2)*2^((b+1) / 2)+2*2^((b+1) / 2)+1:=by grind
    omega
   ·unfold BdK;rw[Int.natAbs_pow];exact Nat.pow_lt_pow_right (by decide) (by omega)
  clear cb ha h0;refine zh8 ?_ hx ba ak bh ch cg cd hr;clear hx ba ak bh ch cg cd hr;intro HX ay ap cn am a6 az cr;have co:Hid (BdK m a):=hid (BdK.mono hb (by omega));clear hb;go_in;go_upto_region 1 with (fail);obtain ⟨BA,BP,HN⟩:=lay2 w 113 #[.int .i64 sa,.slice aa la ca] 113 #[.int .i64 0,.slice none 0 0];obtain ⟨a0,a1,a2,a3,a4⟩:=BA.out.two;go_wp2_with fail;refine zM (sign_calls _ a _ (HX.new HN)) fun w1 hn=>?_;rw[cy];clear a0 a1 a2 a3 a4;obtain ⟨HN,BA,BP⟩:=zn3 hn HN BA.new BP.new;clear hn;have ab:=hid (HX.new HN);go_upto_region 3 with (fail);have b6:=HN;clear HN
  go_cut [3] (fun x wx=>∃ (P:Nat) (b:Nat),x=.pointer (some ⟨P,0,none⟩)∧IsBits a.natAbs b∧New w1 wx∧w1.heap.size≤P∧IntAt wx P (X0 b))
  case first=>
   have HN:=hid (New.refl w1);obtain ⟨a0,a1,a2,a3,a4⟩:=BA.out.two;refine zR 7 8 (fun W=>zI W w.heap.size sa aa la ca) ?_;clear a0 a1 a2 a3 a4;replace BA:=hid (BA.new (New.refl w1).drew);replace ab:=hid (ab.new (New.refl w1).drew);replace HN:=hid (HN.drew);obtain ⟨c7,ci⟩:∃ x,w1.drew=x:=⟨_,rfl⟩;rw[ci] at HN BA ab⊢;clear ci
   focus
    refine zT 1 (cW2 BA) ?_;refine zw2 0 6 (fun K hK=>?_) fun K hK=>?_
    focus
     go_simp;refine zM (of_calls 2 _) fun cm hn=>?_;obtain ⟨HN,BA,ab⟩:=zn3 hn HN BA.new ab.new;clear hn;refine zK hK (cW2 BA) ?_;clear hK K;have ST1:=trivial
    rotate_left
    focus
     go_simp;have ar:=hid (HN.size);obtain ⟨cm,ah,af,hn⟩:=laid1 c7 113 #[.int .i64 0,.slice none 0 0];rw[ah];clear ah;have BX:=hid af;clear af;obtain ⟨HN,BA,ab⟩:=zn3 hn HN BA.new ab.new;clear hn;refine zK hK (cW2 BA) ?_;clear hK K;have ST2:=trivial
    rotate_left
    all_goals try
     clear ST1;refine zw2 2 6 (fun K hK=>?_) fun K hK=>?_
     focus
      go_simp;refine zN (bits_calls _ a _ ab ay) fun bu b hn ac=>?_;obtain ⟨c9,d9,bn,bo,bp,br,av⟩:=a6.out b (az.out b ac).1;have bf:=hid av;have b5:=hid ac;clear av ac;obtain ⟨HN,BA,ab⟩:=zn3 hn HN BA.new ab.new;clear hn;refine zK hK (cW2 BA) ?_;clear hK K;refine zT 3 (hy:=by (intro W hW;(try dsimp only at hW);(go_simp;try simp only[bn,bo]);try with_reducible rfl)) (cW2 BA) ?_;refine zT 4 (hy:=by (intro W hW;(try dsimp only at hW);(go_simp;try simp only[bp,br]);try with_reducible rfl)) (cW2 BA) ?_;have ST3:=trivial
     rotate_left
     focus
      go_simp;have ar:=hid (HN.size);obtain ⟨bu,ah,af,hn⟩:=laid1 cm 113 #[.int .i64 0,.slice none 0 0];rw[ah];clear ah;have BX:=hid af;clear af;obtain ⟨HN,BA,ab⟩:=zn3 hn HN BA.new ab.new;clear hn;refine zK hK (cW2 BA) ?_;clear hK K;have ST4:=trivial
     rotate_left
    all_goals try
     clear ST2;refine tk1 0 fun K hK=>?_;go_simp;refine zM (of_calls 2 _) fun bu hn=>?_;obtain ⟨HN,BA,ab,BX⟩:=zn4 hn HN BA.new ab.new BX.new;clear hn;refine zK hK (cW2 BA) ?_;clear hK K;have ST4:=trivial
    all_goals try
     clear ST3;refine zw2 5 6 (fun K hK=>?_) fun K hK=>?_
     focus
      go_simp;refine zO (bf _ _ (am _)) fun bv s9 a9 l9 k9 hn hi=>?_;have ai:=hid hi;clear hi;obtain ⟨HN,BA,ab⟩:=zn3 hn HN BA.new ab.new;clear hn;refine zK hK (cW2 BA) ?_;clear hK K;have ST5:=trivial
     rotate_left
     focus
      go_simp;have ar:=hid (HN.size);obtain ⟨bv,ah,af,hn⟩:=laid1 bu 113 #[.int .i64 0,.slice none 0 0];rw[ah];clear ah;have BX:=hid af;clear af;obtain ⟨HN,BA,ab⟩:=zn3 hn HN BA.new ab.new;clear hn;refine zK hK (cW2 BA) ?_;clear hK K;have ST6:=trivial
     rotate_left
    all_goals try
     clear ST4;refine tk1 2 fun K hK=>?_;go_simp;refine zN (bits_calls _ a _ ab ay) fun bv b hn ac=>?_;obtain ⟨c9,d9,bn,bo,bp,br,av⟩:=a6.out b (az.out b ac).1;have bf:=hid av;have b5:=hid ac;clear av ac;obtain ⟨HN,BA,ab,BX⟩:=zn4 hn HN BA.new ab.new BX.new;clear hn;refine zK hK (cW2 BA) ?_;clear hK K;refine zT 3 (hy:=by (intro W hW;(try dsimp only at hW);(go_simp;try simp only[bn,bo]);try with_reducible rfl)) (cW2 BA) ?_;refine zT 4 (hy:=by (intro W hW;(try dsimp only at hW);(go_simp;try simp only[bp,br]);try with_reducible rfl)) (cW2 BA) ?_;have ST6:=trivial
    all_goals try
     clear ST5;refine tk1 6 fun K hK=>?_;go_simp;have ar:=hid (HN.size);obtain ⟨c8,ah,af,hn⟩:=laid1 bv 113 #[.int .i64 0,.slice none 0 0];rw[ah];clear ah;have BX:=hid af;clear af;obtain ⟨HN,BA,ab,ai⟩:=zn4 hn HN BA.new ab.new ai.new;clear hn;refine zK hK (cW2 BA) ?_;clear hK K;have ST7:=trivial
    all_goals try
     clear ST6;refine tk1 5 fun K hK=>?_;go_simp;refine zO (bf _ _ (am _)) fun c8 s9 a9 l9 k9 hn hi=>?_;have ai:=hid hi;clear hi;obtain ⟨HN,BA,ab,BX⟩:=zn4 hn HN BA.new ab.new BX.new;clear hn;refine zK hK (cW2 BA) ?_;clear hK K;have ST7:=trivial
    all_goals
     clear ST7;refine tlW ?_;obtain ⟨a0,a1,a2,a3,a4⟩:=BA.out.two;obtain ⟨u0,u1,u2,u3,u4⟩:=BX.out.two;go_wp2_with fail
     go_meet
     exact ⟨_,b,rfl,b5,HN.putAt BX ar _ _,ar,⟨_,_,_,_,BX.put2 _ _,ai.put2 BX _ _ _ _⟩⟩
  case rest=>
   obtain ⟨P,b,rfl,ac,hn,hP,bk⟩:=hcut;obtain ⟨-,aw,bl,bi⟩:=az.out b ac;obtain ⟨X,hX⟩:∃ X,X0 b=X:=⟨_,rfl⟩;rw[hX] at bk aw bl bi;have b9:w.heap.size≤P:=Nat.le_trans b6.out.size hP;have al:SqRel w1 P a X X.toNat wc:=⟨X,rfl,aw,Int.le_refl _,bl,hn,bk⟩;clear hn hX ac a6 az am;have am:∀ W,IsInt W (.agg #[.int .i64 2,.slice none 0 0]) 2:=fun W=>.small rfl (by omega) (by omega);clear aw bl bk;refine zh5 ?_ al am bi b9 hP;clear al am bi b9 hP;intro HS b7 cp a6 cq;go_wp2_with fail
   go_loopg [] X.toNat (fun g wr=>SqRel w1 P a X g wr)
   case atStart=>exact HS
   case round=>
    clear HS;obtain ⟨x,hg,cj,ck,cl,hN,s,o,l,c,hB,hi⟩:=hrel
    have bx:BdK m x:=by
     have:=cp.out;unfold BdK at *;exact Nat.lt_of_le_of_lt (by omega) this
    have bq:BdK m (a / x):=by
     have h1:=Int.natAbs_ediv_le_natAbs a x;have h2:BdK m a:=co.out;unfold BdK at *;omega
    have bs:=bx.add bq;have bw:=BA.out.new hN;have bz:=BP.out.new hN;have b8:=ab.out.new hN;have aj:=b6.out.trans hN;refine zh12 ?_ bw bz b8 aj hN hB hi hg cj ck cl bx;intro ao ad ct HN ae B HI HG bg cu cs a5;replace bq:=hid bq;replace bs:=hid bs;clear bw bz b8 aj hN hB hi hg cj ck cl bx;obtain ⟨a0,a1,a2,a3,a4⟩:=ao.out.two;have b:=B.out.two;go_wp2_with fail;refine (divmod_calls _ _ a x _ ct HI ay (a5.bd (by omega)) bg).mono ?_;rintro e w3 ⟨v7,v8,rfl,hn,bj,ce⟩;obtain ⟨s7,a7,l7,k7,rfl⟩:=bj.shape;obtain ⟨s8,a8,l8,k8,rfl⟩:=ce.shape;clear ce;have be:=hid bj;clear bj;clear a0 a1 a2 a3 a4 b;replace ae:=tW ae hn;obtain ⟨HN,ao,ad,B,HI⟩:=zn5 hn HN ao.new ad.new B.new HI.new;clear hn;go_upto_region 5 with (fail);have aq:=HN;clear HN;obtain ⟨BQ,BR,HN⟩:=lay2 w3 113 #[.int .i64 s7,.slice a7 l7 k7] 113 #[.int .i64 s8,.slice a8 l8 k8];replace ae:=hid (ae.trans HN);obtain ⟨ao,ad,B,HI,be⟩:=zm5 HN ao.new ad.new B.new HI.new be.new;have aj:=aq.out.trans HN.out;clear HN aq;have HN:=hid aj;clear aj;obtain ⟨b0,b1,b2,b3,b4⟩:=B.out.two;have q:=BQ.out.two;go_wp2_with fail;refine zN (add_calls _ _ x (a / x) _ HI be (a5.bd (by omega)) (bq.bd (by omega))) fun w4 v9 hn cf=>?_;have ai:=hid cf;clear cf;clear b0 b1 b2 b3 b4 q;replace ae:=tW ae hn;obtain ⟨HN,ad,B,HI⟩:=zn4 hn HN ad.new B.new HI.new;clear hn;go_wp2_with fail;refine zM (of_calls 2 _) fun w5 hn=>?_;replace ae:=tW ae hn;obtain ⟨HN,ad,B,HI,ai⟩:=zn5 hn HN ad.new B.new HI.new ai.new;clear hn;go_wp2_with fail;refine (divmod_calls _ _ (x+a / x) 2 _ ai (b7 _) (bs.bd (by omega)) ⟨2,by omega,by decide⟩ (by omega)).mono ?_;rintro e w6 ⟨dc,dd,rfl,hn,au,bc⟩;obtain ⟨c5,cv,c3,c1,rfl⟩:=au.shape;obtain ⟨c6,cw,c4,c2,rfl⟩:=bc.shape;clear bc;have ag:=hid au;clear au;replace ae:=tW ae hn;obtain ⟨HN,ad,B,HI⟩:=zn4 hn HN ad.new B.new HI.new;clear hn;go_upto_region 6 with (fail);have aq:=HN;clear HN;obtain ⟨BY,BZ,HN⟩:=lay2 w6 113 #[.int .i64 c5,.slice cv c3 c1] 113 #[.int .i64 c6,.slice cw c4 c2];replace ae:=hid (ae.trans HN);obtain ⟨ad,B,HI,ag⟩:=zm4 HN ad.new B.new HI.new ag.new;have aj:=aq.out.trans HN.out;clear HN aq;have HN:=hid aj;clear aj
    have bb:BdK (m+1) ((x+a / x) / 2):=by
     have h1:=Int.natAbs_ediv_le_natAbs (x+a / x) 2;have h2:=bs.out;unfold BdK at *;omega
    have ax:=newton_step (a:=a) cn.out bg.out;replace bb:=hid bb;replace ax:=hid ax;by_cases an:x≤(x+a / x) / 2
    ·obtain ⟨t,ht,bm⟩:∃ t,((x+a / x) / 2 - x).sign=t∧0≤t:=⟨_,rfl,Int.sign_nonneg_iff.2 (by omega)⟩;have cz:decide (0≤t)=true:=decide_eq_true bm;have bt:=(newton_done bg.out cs.out an).unique cr.out;clear an;replace bt:=hid bt;have b:=B.out.two;have y:=BY.out.two;go_wp2_with fail;refine zM (cmp_calls _ _ ((x+a / x) / 2) x _ ag HI (bb.bd (by omega)) (a5.bd (by omega))) fun w7 hn=>?_;rw[ht];clear ht;clear b y;replace ae:=tW ae hn;obtain ⟨HN,ad,B,HI⟩:=zn4 hn HN ad.new B.new HI.new;clear hn;obtain ⟨b0,b1,b2,b3,b4⟩:=B.out.two;obtain ⟨p0,p1,p2,p3,p4⟩:=ad.out.two;go_wp2_with fail;refine bodyPost_ret (v:=.agg #[.int .i64 s,.slice o l c]) (by simp[results,results117,go_sem,p0,p1,p4]) rfl ?_;refine ap _ _ (HN.putAt ad (by omega) _ _) ?_;rw[←bt.out];exact HI.put2 ad _ _ _ _
    ·obtain ⟨t,ht,bm⟩:∃ t,((x+a / x) / 2 - x).sign=t∧t < 0:=⟨_,rfl,Int.sign_neg_iff.2 (by omega)⟩
     have c0:¬0≤t:=by omega
     have cz:decide (0≤t)=false:=decide_eq_false c0;replace an:=hid an;clear bm;have b:=B.out.two;have y:=BY.out.two;go_wp2_with fail;refine zM (cmp_calls _ _ ((x+a / x) / 2) x _ ag HI (bb.bd (by omega)) (a5.bd (by omega))) fun w7 hn=>?_;rw[ht];clear ht;clear b y;replace ae:=tW ae hn;obtain ⟨HN,ad,B,ag,BY⟩:=zn5 hn HN ad.new B.new ag.new BY.new;clear hn;obtain ⟨b0,b1,b2,b3,b4⟩:=B.out.two;obtain ⟨y0,y1,y2,y3,y4⟩:=BY.out.two;go_wp2_with fail
     go_roundg ((x+a / x) / 2).toNat
     case measure=>have:=an.out;have:=ax.out.1;have:=HG.out;omega
     case rel=>exact ⟨_,rfl,ax.1,by have:=an.out;have:=cu.out;omega,ax.out.2,ae.out.put2 cq.out _ _,⟨_,_,_,_,B.out.put2 _ _,ag.out.put2 B.out _ _ _ _⟩⟩
theorem Box.otheri {w:World}{B B':Nat}{t:TypeId}{cs:Array Value}(h:Box w B t cs)(hp:B'≠B)(u u':Value):Box ((w.setCell ⟨B',0,none⟩ u).setCell ⟨B',1,none⟩ u') B t cs:=
 (h.other (p:=⟨B',0,none⟩) hp u).other (p:=⟨B',1,none⟩) hp u'
theorem Box.otherf {w:World}{B B':Nat}{t:TypeId}{cs:Array Value}(h:Box w B t cs)(hp:B'≠B)(u u' v v':Value):Box ((((w.setCell ⟨B',0,none⟩ u).setCell ⟨B',1,none⟩ u').setCell ⟨B',2,none⟩ v).setCell ⟨B',3,none⟩ v') B t cs:=
 (((h.other (p:=⟨B',0,none⟩) hp u).other (p:=⟨B',1,none⟩) hp u').other (p:=⟨B',2,none⟩) hp v).other (p:=⟨B',3,none⟩) hp v'
theorem two_puti {w w6:World} {x y:Int} {B C:Nat} {t t':TypeId} {s:Int} {a:Option Addr} {l c:Nat} {r:Int} {d:Option Addr} {i j:Nat} {n:Int} {b:Option Addr} {m k:Nat} {p:Int} {e:Option Addr} {f g:Nat} (hN:New w w6)
  (bp:Box w6 B t #[.int .i64 s,.slice a l c]) (bq:Box w6 C t' #[.int .i64 r,.slice d i j]) (hB:w.heap.size≤B) (hC:w.heap.size≤C) (hne:B≠C)
  (h1:IsInt w6 (.agg #[.int .i64 n,.slice b m k]) x) (h2:IsInt w6 (.agg #[.int .i64 p,.slice e f g]) y):
  ∀ W,W=((((w6.setCell ⟨B,0,none⟩ (.int .i64 n)).setCell ⟨B,1,none⟩ (.slice b m k)).setCell ⟨C,0,none⟩ (.int .i64 p)).setCell ⟨C,1,none⟩ (.slice e f g))→
  New w W∧Box W B t #[.int .i64 n,.slice b m k]∧Box W C t' #[.int .i64 p,.slice e f g]∧IsInt W (.agg #[.int .i64 n,.slice b m k]) x∧IsInt W (.agg #[.int .i64 p,.slice e f g]) y:=by
 rintro W rfl;exact ⟨(hN.put2 hB _ _).put2 hC _ _,(bp.put2 _ _).otheri (Ne.symm hne) _ _,(bq.otheri hne _ _).put2 _ _,(h1.put2 bp _ _ _ _).put2 (bq.otheri hne _ _) _ _ _ _,(h2.put2 bp _ _ _ _).put2 (bq.otheri hne _ _) _ _ _ _⟩
def RtPost (w:World)(n d:Int)(t:Bool)(e:Ending)(w':World):Prop:=∃ (s:Int) (a:Option Addr) (l c:Nat) (s':Int) (a':Option Addr) (l' c':Nat),
 e=.returned (.tuple #[.agg #[.int .i64 s,.slice a l c,.int .i64 s',.slice a' l' c'],.bool t])∧New w w'∧IsInt w' (.agg #[.int .i64 s,.slice a l c]) n∧IsInt w' (.agg #[.int .i64 s',.slice a' l' c']) d
theorem fsqrt_calls (va:Value)(q:Rat)(n d:Int)(k:Nat)(w:World)(hx:IsFrac w va q)(h0:0≤q.num)(hn:IsRt q.num n)(hd:IsRt q.den d)(hb:FB k q)(hk:k≤50000):Calls prog 113 #[va] w (RtPost w n d (decide (n*n=q.num) && decide (d*d=q.den))):=by
 obtain ⟨s,a,l,c,s',a',l',c',rfl,h1,h2⟩:=hx;obtain ⟨t,ht,cl⟩:∃ t,q.num.sign=t∧¬t < 0:=⟨_,rfl,fun h=>by have:=Int.sign_neg_iff.1 h;omega⟩;have co:decide (t < 0)=false:=decide_eq_false cl;have bv:=fun W va hx=>fsign_calls va q W hx;simp only[ht] at bv;have b8:=fun W va h=>nsqrt_calls va q.num n k W h hn hb.num (by omega);have b9:=fun W va h=>nsqrt_calls va (q.den:Int) d k W h hd hb.den (by omega)
 have rb:∀ {x r:Int},IsRt x r→BdK k x→BdK k r:=fun {x r} h hb=>by
  have h1:=h.2.1
  have h3:r.natAbs≤x.natAbs:=by
   have h4:r≤r*r:=by
    rcases Int.lt_or_le r 1 with h5 | h5
    ·have:r=0:=by have:=h.1;omega
     subst this;omega
    ·have:=Int.mul_le_mul_of_nonneg_right h5 (Int.le_trans (by omega) h5);omega
   have:=h.1;omega
  unfold BdK at *;omega
 have bn:=rb hn hb.num;have bd:=rb hd hb.den;have b6:=fun W va vb h1 h2=>mul_calls va vb n n W h1 h2 (bn.bd (by omega)) (bn.bd (by omega));have b7:=fun W va vb h1 h2=>mul_calls va vb d d W h1 h2 (bd.bd (by omega)) (bd.bd (by omega));have bl:=fun W va vb h1 h2=>cmp_calls va vb (n*n) q.num W h1 h2 ((bn.mul bn).bd (by omega)) (hb.num.bd (by omega));have bm:=fun W va vb h1 h2=>cmp_calls va vb (d*d) (q.den:Int) W h1 h2 ((bd.mul bd).bd (by omega)) (hb.den.bd (by omega));unfold SignPost at bl bm;obtain ⟨u1,bw⟩:∃ u,(n*n - q.num).sign=u:=⟨_,rfl⟩;obtain ⟨u2,bx⟩:∃ u,(d*d - (q.den:Int)).sign=u:=⟨_,rfl⟩;simp only[bw] at bl;simp only[bx] at bm
 have hz:∀ {x y u:Int},(x - y).sign=u→(u==0)=decide (x=y):=fun {x y u} h=>by
  by_cases e:x=y
  ·rw[decide_eq_true e]
   have:u=0:=by rw[←h,e,Int.sub_self];rfl
   rw[this];rfl
  ·rw[decide_eq_false e];exact beq_false_of_ne fun h2=>e (by have:=Int.sign_eq_zero_iff_zero.1 (h.trans h2);omega)
 obtain ⟨b1,bo⟩:∃ b,decide (n*n=q.num)=b:=⟨_,rfl⟩;obtain ⟨b2,bp⟩:∃ b,decide (d*d=(q.den:Int))=b:=⟨_,rfl⟩;have cd:=(hz bw).trans bo;have ce:=(hz bx).trans bp;rw[bo,bp];clear bw bx bo bp hz rb bn bd hn hd hb ht h0;refine zh11 ?_ h1 h2 bv b8 b9 b6 b7 bl bm cd ce;clear h1 h2 bv b8 b9 b6 b7 bl bm cd ce;intro H1 H2 cj bh bi b3 ci b0 ch b5 ck;go_in;go_upto_region 1 with (fail);obtain ⟨BA,BP,HN⟩:=lay2 w 115 #[.int .i64 s,.slice a l c,.int .i64 s',.slice a' l' c'] 115 #[.int .i64 0,.slice none 0 0,.int .i64 0,.slice none 0 0];obtain ⟨⟨aa,ab,ac,ad⟩,am,an,ao,ap,aq⟩:=BA.out.four;go_wp2_with fail;refine zM (cj _ _ ⟨_,_,_,_,_,_,_,_,rfl,H1.new HN,H2.new HN⟩) fun w1 hn=>?_;clear aa ab ac ad am an ao ap aq;obtain ⟨HN,BA,BP⟩:=zn3 hn HN BA.new BP.new;clear hn;refine zh3 ?_ (H1.new HN) (H2.new HN) BP.lt;intro aj ai bz;go_upto_region 3 with (fail);have b4:=HN;clear HN
 go_cut [4,5] (fun x y wx=>∃ (L M:Nat),x=.pointer (some ⟨L,0,none⟩)∧y=.pointer (some ⟨M,0,none⟩)∧New w1 wx∧w1.heap.size≤L∧w1.heap.size≤M∧IntAt wx L n∧IntAt wx M d)
 case first=>
  have HN:=hid (New.refl w1);obtain ⟨⟨aa,ab,ac,ad⟩,am,an,ao,ap,aq⟩:=BA.out.four;refine zR 8 10 (fun W=>zF W w.heap.size s a l c s' a' l' c') ?_;clear aa ab ac ad am an ao ap aq;replace BA:=hid (BA.new (New.refl w1).drew);replace aj:=hid (aj.new (New.refl w1).drew);replace ai:=hid (ai.new (New.refl w1).drew);replace HN:=hid (HN.drew);obtain ⟨cf,cb⟩:∃ x,w1.drew=x:=⟨_,rfl⟩;rw[cb] at HN BA aj ai⊢;clear cb
  focus
   refine zT 0 (cW4 BA) ?_;refine zT 1 (cW4 BA) ?_;refine zT 3 (cW4 BA) ?_;refine zT 4 (cW4 BA) ?_;refine zw3 2 6 7 (fun K hK=>?_) (fun K hK=>?_) fun K hK=>?_
   focus
    go_simp;refine zO (bh _ _ aj) fun a7 s9 a9 l9 k9 hn hi=>?_;have al:=hid hi;clear hi;obtain ⟨HN,BA,aj,ai⟩:=zn4 hn HN BA.new aj.new ai.new;clear hn;refine zK hK (cW4 BA) ?_;clear hK K;have ST1:=trivial
   rotate_left
   focus
    go_simp;have a6:=hid (HN.size);obtain ⟨a7,ak,ar,hn⟩:=laid1 cf 113 #[.int .i64 0,.slice none 0 0];rw[ak];clear ak;have BL:=hid ar;clear ar;obtain ⟨HN,BA,aj,ai⟩:=zn4 hn HN BA.new aj.new ai.new;clear hn;refine zK hK (cW4 BA) ?_;clear hK K;have ST2:=trivial
   rotate_left
   focus
    go_simp;have a5:=hid (HN.size);obtain ⟨a7,ak,a2,hn⟩:=laid1 cf 113 #[.int .i64 0,.slice none 0 0];rw[ak];clear ak;have BH:=hid a2;clear a2;obtain ⟨HN,BA,aj,ai⟩:=zn4 hn HN BA.new aj.new ai.new;clear hn;refine zK hK (cW4 BA) ?_;clear hK K;have ST3:=trivial
   rotate_left
   all_goals try
    clear ST1;refine zw3 5 6 7 (fun K hK=>?_) (fun K hK=>?_) fun K hK=>?_
    focus
     go_simp;refine zO (bi _ _ ai) fun a3 s8 a8 l8 k8 hn hi=>?_;have a1:=hid hi;clear hi;obtain ⟨HN,BA,aj,ai,al⟩:=zn5 hn HN BA.new aj.new ai.new al.new;clear hn;refine zK hK (cW4 BA) ?_;clear hK K;have ST4:=trivial
    rotate_left
    focus
     go_simp;have a6:=hid (HN.size);obtain ⟨a3,ak,ar,hn⟩:=laid1 a7 113 #[.int .i64 0,.slice none 0 0];rw[ak];clear ak;have BL:=hid ar;clear ar;obtain ⟨HN,BA,aj,ai,al⟩:=zn5 hn HN BA.new aj.new ai.new al.new;clear hn;refine zK hK (cW4 BA) ?_;clear hK K;have ST5:=trivial
    rotate_left
    focus
     go_simp;have a5:=hid (HN.size);obtain ⟨a3,ak,a2,hn⟩:=laid1 a7 113 #[.int .i64 0,.slice none 0 0];rw[ak];clear ak;have BH:=hid a2;clear a2;obtain ⟨HN,BA,aj,ai,al⟩:=zn5 hn HN BA.new aj.new ai.new al.new;clear hn;refine zK hK (cW4 BA) ?_;clear hK K;have ST6:=trivial
    rotate_left
   all_goals try
    clear ST2;refine zw2 2 7 (fun K hK=>?_) fun K hK=>?_
    focus
     go_simp;refine zO (bh _ _ aj) fun a3 s9 a9 l9 k9 hn hi=>?_;have al:=hid hi;clear hi;obtain ⟨HN,BA,aj,ai,BL⟩:=zn5 hn HN BA.new aj.new ai.new BL.new;clear hn;refine zK hK (cW4 BA) ?_;clear hK K;have ST5:=trivial
    rotate_left
    focus
     go_simp;have a5:=hid (HN.size);have au:=hid (Nat.ne_of_lt BL.lt);obtain ⟨a3,ak,a2,hn⟩:=laid1 a7 113 #[.int .i64 0,.slice none 0 0];rw[ak];clear ak;have BH:=hid a2;clear a2;obtain ⟨HN,BA,aj,ai,BL⟩:=zn5 hn HN BA.new aj.new ai.new BL.new;clear hn;refine zK hK (cW4 BA) ?_;clear hK K;have ST7:=trivial
    rotate_left
   all_goals try
    clear ST3;refine zw2 2 6 (fun K hK=>?_) fun K hK=>?_
    focus
     go_simp;refine zO (bh _ _ aj) fun a3 s9 a9 l9 k9 hn hi=>?_;have al:=hid hi;clear hi;obtain ⟨HN,BA,aj,ai,BH⟩:=zn5 hn HN BA.new aj.new ai.new BH.new;clear hn;refine zK hK (cW4 BA) ?_;clear hK K;have ST6:=trivial
    rotate_left
    focus
     go_simp;have a6:=hid (HN.size);have au:=hid (Nat.ne_of_gt BH.lt);obtain ⟨a3,ak,ar,hn⟩:=laid1 a7 113 #[.int .i64 0,.slice none 0 0];rw[ak];clear ak;have BL:=hid ar;clear ar;obtain ⟨HN,BA,aj,ai,BH⟩:=zn5 hn HN BA.new aj.new ai.new BH.new;clear hn;refine zK hK (cW4 BA) ?_;clear hK K;have ST7:=trivial
    rotate_left
   all_goals try
    clear ST4;refine zw2 6 7 (fun K hK=>?_) fun K hK=>?_
    focus
     go_simp;have a6:=hid (HN.size);obtain ⟨a4,ak,ar,hn⟩:=laid1 a3 113 #[.int .i64 0,.slice none 0 0];rw[ak];clear ak;have BL:=hid ar;clear ar;obtain ⟨HN,BA,aj,ai,a1,al⟩:=zn6 hn HN BA.new aj.new ai.new a1.new al.new;clear hn;refine zK hK (cW4 BA) ?_;clear hK K;have ST8:=trivial
    rotate_left
    focus
     go_simp;have a5:=hid (HN.size);obtain ⟨a4,ak,a2,hn⟩:=laid1 a3 113 #[.int .i64 0,.slice none 0 0];rw[ak];clear ak;have BH:=hid a2;clear a2;obtain ⟨HN,BA,aj,ai,a1,al⟩:=zn6 hn HN BA.new aj.new ai.new a1.new al.new;clear hn;refine zK hK (cW4 BA) ?_;clear hK K;have ST9:=trivial
    rotate_left
   all_goals try
    clear ST5;refine zw2 5 7 (fun K hK=>?_) fun K hK=>?_
    focus
     go_simp;refine zO (bi _ _ ai) fun a4 s8 a8 l8 k8 hn hi=>?_;have a1:=hid hi;clear hi;obtain ⟨HN,BA,aj,ai,BL,al⟩:=zn6 hn HN BA.new aj.new ai.new BL.new al.new;clear hn;refine zK hK (cW4 BA) ?_;clear hK K;have ST8:=trivial
    rotate_left
    focus
     go_simp;have a5:=hid (HN.size);have au:=hid (Nat.ne_of_lt BL.lt);obtain ⟨a4,ak,a2,hn⟩:=laid1 a3 113 #[.int .i64 0,.slice none 0 0];rw[ak];clear ak;have BH:=hid a2;clear a2;obtain ⟨HN,BA,aj,ai,BL,al⟩:=zn6 hn HN BA.new aj.new ai.new BL.new al.new;clear hn;refine zK hK (cW4 BA) ?_;clear hK K;have ST10:=trivial
    rotate_left
   all_goals try
    clear ST6;refine zw2 5 6 (fun K hK=>?_) fun K hK=>?_
    focus
     go_simp;refine zO (bi _ _ ai) fun a4 s8 a8 l8 k8 hn hi=>?_;have a1:=hid hi;clear hi;obtain ⟨HN,BA,aj,ai,BH,al⟩:=zn6 hn HN BA.new aj.new ai.new BH.new al.new;clear hn;refine zK hK (cW4 BA) ?_;clear hK K;have ST9:=trivial
    rotate_left
    focus
     go_simp;have a6:=hid (HN.size);have au:=hid (Nat.ne_of_gt BH.lt);obtain ⟨a4,ak,ar,hn⟩:=laid1 a3 113 #[.int .i64 0,.slice none 0 0];rw[ak];clear ak;have BL:=hid ar;clear ar;obtain ⟨HN,BA,aj,ai,BH,al⟩:=zn6 hn HN BA.new aj.new ai.new BH.new al.new;clear hn;refine zK hK (cW4 BA) ?_;clear hK K;have ST10:=trivial
    rotate_left
   all_goals try
    clear ST7;refine tk1 2 fun K hK=>?_;go_simp;refine zO (bh _ _ aj) fun a4 s9 a9 l9 k9 hn hi=>?_;have al:=hid hi;clear hi;obtain ⟨HN,BA,aj,ai,BH,BL⟩:=zn6 hn HN BA.new aj.new ai.new BH.new BL.new;clear hn;refine zK hK (cW4 BA) ?_;clear hK K;have ST10:=trivial
   all_goals try
    clear ST8;refine tk1 7 fun K hK=>?_;go_simp;have a5:=hid (HN.size);have au:=hid (Nat.ne_of_lt BL.lt);obtain ⟨cg,ak,a2,hn⟩:=laid1 a4 113 #[.int .i64 0,.slice none 0 0];rw[ak];clear ak;have BH:=hid a2;clear a2;obtain ⟨HN,BA,aj,ai,BL,a1,al⟩:=zn7 hn HN BA.new aj.new ai.new BL.new a1.new al.new;clear hn;refine zK hK (cW4 BA) ?_;clear hK K;have ST11:=trivial
   all_goals try
    clear ST9;refine tk1 6 fun K hK=>?_;go_simp;have a6:=hid (HN.size);have au:=hid (Nat.ne_of_gt BH.lt);obtain ⟨cg,ak,ar,hn⟩:=laid1 a4 113 #[.int .i64 0,.slice none 0 0];rw[ak];clear ak;have BL:=hid ar;clear ar;obtain ⟨HN,BA,aj,ai,BH,a1,al⟩:=zn7 hn HN BA.new aj.new ai.new BH.new a1.new al.new;clear hn;refine zK hK (cW4 BA) ?_;clear hK K;have ST11:=trivial
   all_goals try
    clear ST10;refine tk1 5 fun K hK=>?_;go_simp;refine zO (bi _ _ ai) fun cg s8 a8 l8 k8 hn hi=>?_;have a1:=hid hi;clear hi;obtain ⟨HN,BA,aj,ai,BH,BL,al⟩:=zn7 hn HN BA.new aj.new ai.new BH.new BL.new al.new;clear hn;refine zK hK (cW4 BA) ?_;clear hK K;have ST11:=trivial
   all_goals
    clear ST11;refine tlW ?_;obtain ⟨⟨aa,ab,ac,ad⟩,am,an,ao,ap,aq⟩:=BA.out.four;obtain ⟨ae,af,av,aw,ax⟩:=BL.out.two;obtain ⟨v0,v1,v2,v3,v4⟩:=BH.out.two;have cn:=au.out;have cm:=au.out.symm;go_wp2_with fail
    go_meet
    obtain ⟨r1,r2,r3,r4,r5⟩:=two_puti HN BL BH a6 a5 au al a1 _ rfl;exact ⟨_,_,rfl,rfl,r1,a6,a5,⟨_,_,_,_,r2,r4⟩,⟨_,_,_,_,r3,r5⟩⟩
 case rest=>
  obtain ⟨L,M,rfl,rfl,hn,hL,hM,⟨s9,a9,l9,k9,br,bu⟩,⟨s8,a8,l8,k8,bq,bt⟩⟩:=hcut;obtain ⟨w2,ca⟩:∃ x,x=wc:=⟨_,rfl⟩;rw[←ca] at hn br bu bq bt⊢;clear ca;obtain ⟨BA,BP,aj,ai⟩:=zm4 hn BA.new BP.new aj.new ai.new;have HN:=hid (b4.trans hn);clear b4 hn;refine zh4 ?_ br bu bq bt;clear br bu bq bt;intro BL IL BM IM
  have bj:w.heap.size+1≠L:=by have:=bz.out;omega
  have bk:w.heap.size+1≠M:=by have:=bz.out;omega
  clear hL hM;replace bj:=hid bj;replace bk:=hid bk;go_upto_region 4 with (fail)
  cases b1 with
  | true=>
   obtain ⟨⟨aa,ab,ac,ad⟩,am,an,ao,ap,aq⟩:=BA.out.four;obtain ⟨ae,af,av,aw,ax⟩:=BL.out.two;obtain ⟨ag,ah,ay,az,a0⟩:=BM.out.two;refine zR 20 21 (fun W=>W.cell? ⟨w.heap.size,0,none⟩=some (.int .i64 s)∧W.cell? ⟨w.heap.size,1,none⟩=some (.slice a l c)∧W.cell? ⟨w.heap.size,2,none⟩=some (.int .i64 s')∧W.cell? ⟨w.heap.size,3,none⟩=some (.slice a' l' c')∧W.cell? ⟨L,0,none⟩=some (.int .i64 s9)∧W.cell? ⟨L,1,none⟩=some (.slice a9 l9 k9)∧W.cell? ⟨M,0,none⟩=some (.int .i64 s8)∧W.cell? ⟨M,1,none⟩=some (.slice a8 l8 k8)) ?_;refine zTE 0 ⟨aa,ab,ac,ad,ae,af,ag,ah⟩ ?_;refine zTE 1 ⟨aa,ab,ac,ad,ae,af,ag,ah⟩ ?_;refine zTE 2 ⟨aa,ab,ac,ad,ae,af,ag,ah⟩ ?_;refine zTE 3 ⟨aa,ab,ac,ad,ae,af,ag,ah⟩ ?_;refine zTE 4 ⟨aa,ab,ac,ad,ae,af,ag,ah⟩ ?_;refine zTE 6 ⟨aa,ab,ac,ad,ae,af,ag,ah⟩ ?_;refine zTE 7 ⟨aa,ab,ac,ad,ae,af,ag,ah⟩ ?_;refine tk1 5 fun K hK=>?_
   try simp only[PE]
   go_simp;refine zN (b3 _ _ _ (IL.new (New.refl _).drew) (IL.new (New.refl _).drew)) fun w3 v3 hn hi=>?_;have hn:=hn.undrew;have I3:=hid hi;clear hi;clear aa ab ac ad am an ao ap aq;clear ae af av aw ax ag ah ay az a0;obtain ⟨HN,BA,BP,BL,BM,IL,IM,aj,ai⟩:=zn9 hn HN BA.new BP.new BL.new BM.new IL.new IM.new aj.new ai.new;clear hn;obtain ⟨⟨aa,ab,ac,ad⟩,am,an,ao,ap,aq⟩:=BA.out.four;obtain ⟨ae,af,av,aw,ax⟩:=BL.out.two;obtain ⟨ag,ah,ay,az,a0⟩:=BM.out.two;refine zKE hK ⟨aa,ab,ac,ad,ae,af,ag,ah⟩ ?_;clear hK K;refine tk1 8 fun K hK=>?_
   try simp only[PE]
   go_simp;refine zM (b0 _ _ _ I3 aj) fun w4 hn=>?_;clear I3;clear aa ab ac ad am an ao ap aq;clear ae af av aw ax ag ah ay az a0;obtain ⟨HN,BA,BP,BL,BM,IL,IM,ai⟩:=zn8 hn HN BA.new BP.new BL.new BM.new IL.new IM.new ai.new;clear hn;obtain ⟨⟨aa,ab,ac,ad⟩,am,an,ao,ap,aq⟩:=BA.out.four;obtain ⟨ae,af,av,aw,ax⟩:=BL.out.two;obtain ⟨ag,ah,ay,az,a0⟩:=BM.out.two;refine zKE hK ⟨aa,ab,ac,ad,ae,af,ag,ah⟩ ?_;clear hK K;refine zTE 9 (hy:=by (intro W hW;(try dsimp only at hW);(have h:=b5.out;go_simp;try simp only[h]);try with_reducible rfl)) ⟨aa,ab,ac,ad,ae,af,ag,ah⟩ ?_;refine zTE 10 ⟨aa,ab,ac,ad,ae,af,ag,ah⟩ ?_;refine zTE 11 ⟨aa,ab,ac,ad,ae,af,ag,ah⟩ ?_;refine zTE 12 ⟨aa,ab,ac,ad,ae,af,ag,ah⟩ ?_;refine zTE 14 ⟨aa,ab,ac,ad,ae,af,ag,ah⟩ ?_;refine zTE 15 ⟨aa,ab,ac,ad,ae,af,ag,ah⟩ ?_;refine tk1 13 fun K hK=>?_
   try simp only[PE]
   go_simp;refine zN (ci _ _ _ IM IM) fun w5 v5 hn hi=>?_;have I5:=hid hi;clear hi;clear aa ab ac ad am an ao ap aq;clear ae af av aw ax ag ah ay az a0;obtain ⟨HN,BA,BP,BL,BM,IL,IM,ai⟩:=zn8 hn HN BA.new BP.new BL.new BM.new IL.new IM.new ai.new;clear hn;obtain ⟨⟨aa,ab,ac,ad⟩,am,an,ao,ap,aq⟩:=BA.out.four;obtain ⟨ae,af,av,aw,ax⟩:=BL.out.two;obtain ⟨ag,ah,ay,az,a0⟩:=BM.out.two;refine zKE hK ⟨aa,ab,ac,ad,ae,af,ag,ah⟩ ?_;clear hK K;refine tk1 16 fun K hK=>?_
   try simp only[PE]
   go_simp;refine zM (ch _ _ _ I5 ai) fun w6 hn=>?_;clear I5;clear aa ab ac ad am an ao ap aq;clear ae af av aw ax ag ah ay az a0;obtain ⟨HN,BA,BP,BL,BM,IL,IM⟩:=zn7 hn HN BA.new BP.new BL.new BM.new IL.new IM.new;clear hn;obtain ⟨⟨aa,ab,ac,ad⟩,am,an,ao,ap,aq⟩:=BA.out.four;obtain ⟨ae,af,av,aw,ax⟩:=BL.out.two;obtain ⟨ag,ah,ay,az,a0⟩:=BM.out.two;obtain ⟨⟨p0,p1,p2,p3⟩,p4,p5,p6,p7,p8⟩:=BP.out.four;refine zKE hK ⟨aa,ab,ac,ad,ae,af,ag,ah⟩ ?_;clear hK K;refine zTE 17 (hy:=by (intro W hW;(try dsimp only at hW);(have h:=ck.out;go_simp;try simp only[h]);try with_reducible rfl)) ⟨aa,ab,ac,ad,ae,af,ag,ah⟩ ?_;refine zTE 18 ⟨aa,ab,ac,ad,ae,af,ag,ah⟩ ?_;refine tk1 19 fun K hK=>?_
   try simp only[PE]
   go_simp;clear aa ab ac ad am an ao ap aq p0 p1 p2 p3 p4 p5 p6 p7 p8;clear ae af av aw ax ag ah ay az a0;have ba:=BA.out.otherf (show w.heap.size+1≠w.heap.size by omega) (.int .i64 s9) (.slice a9 l9 k9) (.int .i64 s8) (.slice a8 l8 k8);have ar:=BL.out.otherf bj.out (.int .i64 s9) (.slice a9 l9 k9) (.int .i64 s8) (.slice a8 l8 k8);have bb:=BM.out.otherf bk.out (.int .i64 s9) (.slice a9 l9 k9) (.int .i64 s8) (.slice a8 l8 k8);have bf:=IL.out.put4 BP.out s9 s8 a9 a8 l9 k9 l8 k8;have bg:=IM.out.put4 BP.out s9 s8 a9 a8 l9 k9 l8 k8;have be:=HN.out.put4 (B:=w.heap.size+1) (by omega) (.int .i64 s9) (.slice a9 l9 k9) (.int .i64 s8) (.slice a8 l8 k8);have bc:=BP.out.put4 (.int .i64 s9) (.slice a9 l9 k9) (.int .i64 s8) (.slice a8 l8 k8);clear BA BL BM IL IM HN BP;refine zh7 ?_ ba ar bb bf bg be bc;clear ba ar bb bf bg be bc;intro BA BL BM IL IM HN BP;obtain ⟨⟨aa,ab,ac,ad⟩,am,an,ao,ap,aq⟩:=BA.out.four;obtain ⟨ae,af,av,aw,ax⟩:=BL.out.two;obtain ⟨ag,ah,ay,az,a0⟩:=BM.out.two;refine zKE hK ⟨aa,ab,ac,ad,ae,af,ag,ah⟩ ?_;clear hK K;refine tlW ?_;clear aa ab ac ad am an ao ap aq;clear ae af av aw ax ag ah ay az a0;obtain ⟨⟨p0,p1,p2,p3⟩,p4,p5,p6,p7,p8⟩:=BP.out.four;go_wp2_with fail;refine bodyPost_ret (v:=.tuple #[.agg #[.int .i64 s9,.slice a9 l9 k9,.int .i64 s8,.slice a8 l8 k8],.bool b2]) (by simp[results,results113,go_sem,p0,p1,p2,p3]) rfl ?_;exact ⟨_,_,_,_,_,_,_,_,rfl,HN,IL,IM⟩
  | false=>
   obtain ⟨⟨aa,ab,ac,ad⟩,am,an,ao,ap,aq⟩:=BA.out.four;obtain ⟨ae,af,av,aw,ax⟩:=BL.out.two;obtain ⟨ag,ah,ay,az,a0⟩:=BM.out.two;refine zR 20 21 (fun W=>W.cell? ⟨w.heap.size,0,none⟩=some (.int .i64 s)∧W.cell? ⟨w.heap.size,1,none⟩=some (.slice a l c)∧W.cell? ⟨w.heap.size,2,none⟩=some (.int .i64 s')∧W.cell? ⟨w.heap.size,3,none⟩=some (.slice a' l' c')∧W.cell? ⟨L,0,none⟩=some (.int .i64 s9)∧W.cell? ⟨L,1,none⟩=some (.slice a9 l9 k9)∧W.cell? ⟨M,0,none⟩=some (.int .i64 s8)∧W.cell? ⟨M,1,none⟩=some (.slice a8 l8 k8)) ?_;refine zTE 0 ⟨aa,ab,ac,ad,ae,af,ag,ah⟩ ?_;refine zTE 1 ⟨aa,ab,ac,ad,ae,af,ag,ah⟩ ?_;refine zTE 2 ⟨aa,ab,ac,ad,ae,af,ag,ah⟩ ?_;refine zTE 3 ⟨aa,ab,ac,ad,ae,af,ag,ah⟩ ?_;refine zTE 4 ⟨aa,ab,ac,ad,ae,af,ag,ah⟩ ?_;refine zTE 6 ⟨aa,ab,ac,ad,ae,af,ag,ah⟩ ?_;refine zTE 7 ⟨aa,ab,ac,ad,ae,af,ag,ah⟩ ?_;refine tk1 5 fun K hK=>?_
   try simp only[PE]
   go_simp;refine zN (b3 _ _ _ (IL.new (New.refl _).drew) (IL.new (New.refl _).drew)) fun w3 v3 hn hi=>?_;have hn:=hn.undrew;replace hi:=hid hi;clear aa ab ac ad am an ao ap aq;clear ae af av aw ax ag ah ay az a0;obtain ⟨HN,BA,BP,BL,BM,IL,IM,aj⟩:=zn8 hn HN BA.new BP.new BL.new BM.new IL.new IM.new aj.new;clear hn;obtain ⟨⟨aa,ab,ac,ad⟩,am,an,ao,ap,aq⟩:=BA.out.four;obtain ⟨ae,af,av,aw,ax⟩:=BL.out.two;obtain ⟨ag,ah,ay,az,a0⟩:=BM.out.two;refine zKE hK ⟨aa,ab,ac,ad,ae,af,ag,ah⟩ ?_;clear hK K;refine tk1 8 fun K hK=>?_
   try simp only[PE]
   go_simp;refine zM (b0 _ _ _ hi aj) fun w4 hn=>?_;clear hi;clear aa ab ac ad am an ao ap aq;clear ae af av aw ax ag ah ay az a0;obtain ⟨HN,BA,BP,BL,BM,IL,IM⟩:=zn7 hn HN BA.new BP.new BL.new BM.new IL.new IM.new;clear hn;obtain ⟨⟨aa,ab,ac,ad⟩,am,an,ao,ap,aq⟩:=BA.out.four;obtain ⟨ae,af,av,aw,ax⟩:=BL.out.two;obtain ⟨ag,ah,ay,az,a0⟩:=BM.out.two;have p:=BP.out.four;refine zKE hK ⟨aa,ab,ac,ad,ae,af,ag,ah⟩ ?_;clear hK K;refine zTE 9 (hy:=by (intro W hW;(try dsimp only at hW);(have h:=b5.out;go_simp;try simp only[h]);try with_reducible rfl)) ⟨aa,ab,ac,ad,ae,af,ag,ah⟩ ?_;refine zTE 10 ⟨aa,ab,ac,ad,ae,af,ag,ah⟩ ?_;refine zVE 11 ⟨aa,ab,ac,ad,ae,af,ag,ah⟩ ?_;refine zVE 12 ⟨aa,ab,ac,ad,ae,af,ag,ah⟩ ?_;refine zVE 13 ⟨aa,ab,ac,ad,ae,af,ag,ah⟩ ?_;refine zVE 14 ⟨aa,ab,ac,ad,ae,af,ag,ah⟩ ?_;refine zVE 15 ⟨aa,ab,ac,ad,ae,af,ag,ah⟩ ?_;refine zVE 16 ⟨aa,ab,ac,ad,ae,af,ag,ah⟩ ?_;refine zVE 17 ⟨aa,ab,ac,ad,ae,af,ag,ah⟩ ?_;refine zTE 18 ⟨aa,ab,ac,ad,ae,af,ag,ah⟩ ?_;refine tk1 19 fun K hK=>?_
   try simp only[PE]
   go_simp;clear aa ab ac ad am an ao ap aq p;clear ae af av aw ax ag ah ay az a0;have ba:=BA.out.otherf (show w.heap.size+1≠w.heap.size by omega) (.int .i64 s9) (.slice a9 l9 k9) (.int .i64 s8) (.slice a8 l8 k8);have ar:=BL.out.otherf bj.out (.int .i64 s9) (.slice a9 l9 k9) (.int .i64 s8) (.slice a8 l8 k8);have bb:=BM.out.otherf bk.out (.int .i64 s9) (.slice a9 l9 k9) (.int .i64 s8) (.slice a8 l8 k8);have bf:=IL.out.put4 BP.out s9 s8 a9 a8 l9 k9 l8 k8;have bg:=IM.out.put4 BP.out s9 s8 a9 a8 l9 k9 l8 k8;have be:=HN.out.put4 (B:=w.heap.size+1) (by omega) (.int .i64 s9) (.slice a9 l9 k9) (.int .i64 s8) (.slice a8 l8 k8);have bc:=BP.out.put4 (.int .i64 s9) (.slice a9 l9 k9) (.int .i64 s8) (.slice a8 l8 k8);clear BA BL BM IL IM HN BP;refine zh7 ?_ ba ar bb bf bg be bc;clear ba ar bb bf bg be bc;intro BA BL BM IL IM HN BP;obtain ⟨⟨aa,ab,ac,ad⟩,am,an,ao,ap,aq⟩:=BA.out.four;obtain ⟨ae,af,av,aw,ax⟩:=BL.out.two;obtain ⟨ag,ah,ay,az,a0⟩:=BM.out.two;refine zKE hK ⟨aa,ab,ac,ad,ae,af,ag,ah⟩ ?_;clear hK K;refine tlW ?_;clear aa ab ac ad am an ao ap aq;clear ae af av aw ax ag ah ay az a0;obtain ⟨⟨p0,p1,p2,p3⟩,p4,p5,p6,p7,p8⟩:=BP.out.four;go_wp2_with fail;refine bodyPost_ret (v:=.tuple #[.agg #[.int .i64 s9,.slice a9 l9 k9,.int .i64 s8,.slice a8 l8 k8],.bool false]) (by simp[results,results113,go_sem,p0,p1,p2,p3]) rfl ?_;exact ⟨_,_,_,_,_,_,_,_,rfl,HN,IL,IM⟩
end Go.Proofs.YtnjonlnemagomaaGreatDoor
