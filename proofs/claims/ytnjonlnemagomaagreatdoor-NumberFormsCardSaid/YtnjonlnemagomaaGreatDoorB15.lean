/- Part B15. -/
import Derived.Laws.AppendOwn
import Derived.Deep.LoopGhost
import Derived.Deep.DeepCutAuto
import Derived.Test.YtnjonlnemagomaaGreatDoorB11
namespace Go.Proofs.YtnjonlnemagomaaGreatDoor
open Go.RowKit Big
open Go.Lib (hid)
set_option maxRecDepth 100000
set_option maxHeartbeats 8000000
theorem ydz {z:Array Value}(hz:∀ u∈z,NotU u)(n:Nat):∀ u∈Builtin.zeroCells z n,NotU u:=by
 intro u hu;unfold Builtin.zeroCells at hu;rw[Array.mem_map] at hu;obtain ⟨i, -,rfl⟩:=hu;by_cases h:z.size=0
 ·have:z=#[]:=Array.eq_empty_of_size_eq_zero h;subst this;intro x hx
  cases hx
 ·have hlt:i % z.size < z.size:=Nat.mod_lt _ (by omega);rw[getElem!_pos z _ hlt];exact hz _ (Array.getElem_mem hlt)
def y5j (w:World)(v:Value):Prop:=∀ g,v.ownBlock=some g->y6u w g
theorem y5j.new {w w':World}{v:Value}(h:y5j w v)(hn:New w w'):y5j w' v:=fun g hg=>(h g hg).new hn
theorem yei (w:World) (base:Nat) (t ty e:TypeId) (i:TypeInfo) (z:Value) (size bytes:Nat) (ht:Tryz.prog.underlying t=some (.slice e)) (hi:Tryz.prog.info? e=some i) (hz:i.zero=some z)
  (hsize:i.size=size) (hby:i.bytes=bytes) (hzs:z.cells.size=size) (hsz:0 < size)
  (v:Value) (n:Nat) (xs:List Value) (hown:w.ownsRow base e size v n xs)
  (a:Addr) (m c:Nat) (news:List Value) (hl:news.length=m*size) (hnews:∀ j u,news[j]?=some u->w.cell? (a.add j)=some u) (h1:∀ u∈news,u.oneCell'=true)
  (h63:n+m<=maxLen) (hbytes:(n+m)*bytes<=140737488355328) (hbase:base<=w.heap.size) (hzu:∀ u∈z.cells,NotU u) (hnu:∀ u∈news,NotU u) (hno:y5j w v):
  ∃ v' w',(Builtin.append_ #[t,t] ty #[v,.slice (some a) m c]).run Tryz.prog w=.ok v' w'/\w'.ownsRow base e size v' (n+m) (xs ++ news)/\w.grownBy w' v.ownBlock/\
   (v'=.slice none 0 0 ↔ v=.slice none 0 0/\m=0)/\y5j w' v'/\∀ g,v'.ownBlock=some g->v.ownBlock=some g\/w.heap.size<=g:=by
 obtain ⟨v',w',hr,h2,h3,h4⟩:=run_append_own (P:=Tryz.prog) w base t ty e i z size bytes ht hi hz hsize hby hzs hsz v n xs hown a m c news hl hnews h1 h63 hbytes hbase;refine ⟨v',w',hr,h2,h3,h4,?_⟩;subst hsize;subst hby
 have hsmall:n+m<=9223372036854775807:=by simp only[maxLen] at h63;omega
 have fresh:∀ (cs:Array Value) (k cap:Nat),(∀ u∈cs,NotU u)->v'=.slice (some ⟨w.heap.size,0,none⟩) k cap->w'=w.drew.alloc (.cells cs e)->y5j w' v'/\∀ g,v'.ownBlock=some g->v.ownBlock=some g\/w.heap.size<=g:=fun cs k cap hcs e1 e2=>by
  subst e1;subst e2;refine ⟨fun g hg=>?_,fun g hg=>?_⟩
  ·simp[Value.ownBlock] at hg;subst hg;exact yfi w.drew cs e hcs
  ·simp[Value.ownBlock] at hg;subst hg;exact .inr (Nat.le_refl _)
 rcases hown.2 with ⟨rfl,rfl⟩ | ⟨g,cap,cur,rfl,hbg,hg,hnc,hcm,hcs,htake⟩
 ·by_cases hm:m=0
  ·subst hm;have:v'=.slice none 0 0:=h4.2 ⟨rfl,rfl⟩;subst this;exact ⟨fun g hg=>by simp[Value.ownBlock] at hg,fun g hg=>by simp[Value.ownBlock] at hg⟩
  ·have hr2:=run_append_nil (P:=Tryz.prog) w t ty e i z ht hi hz a m c news hl hnews (by omega) (by omega) (by have hb:=hbytes;simp only[Nat.zero_add] at hb;omega);rw[hr] at hr2;injection hr2 with e1 e2
   exact fresh _ _ _ (fun u hu=>by
    rw[Array.mem_append]at hu;rcases hu with hu | hu
    ·exact hnu u (by simpa using hu)
    ·exact ydz hzu _ u hu) e1 e2
 ·by_cases hroom:n+m<=cap
  ·have hfit:n*i.size+news.length<=cur.size:=by rw[hl,hcs,<-Nat.add_mul];exact Nat.mul_le_mul_right _ hroom
   have hr2:=run_append_room (P:=Tryz.prog) w t ty e i ht hi g n cap cur hg a m c news hl hnews h1 hroom hfit;rw[hr] at hr2;injection hr2 with e1 e2;subst e1;subst e2;refine ⟨fun g' hg'=>?_,fun g' hg'=>.inl hg'⟩;simp[Value.ownBlock] at hg';subst hg';have hold:=hno g rfl;refine ⟨?_,fun o x hc=>?_⟩
   ·have:=setRow_heap w g cur (cur.toList.take (n*i.size) ++ news ++ cur.toList.drop (n*i.size+news.length)).toArray e (0,0) hg;exact (Array.getElem?_eq_some_iff.1 this).1
   ·rw[cell_of_row _ g o _ e (0,0) (setRow_heap w g cur _ e (0,0) hg)] at hc;have hmem:=Array.mem_of_getElem? hc;simp only[List.mem_toArray,List.mem_append] at hmem
    have hcur:∀ u∈cur.toList,NotU u:=fun u hu=>by
     obtain ⟨j,hj,rfl⟩:=List.getElem_of_mem hu;intro y hy;refine hold.2 j y ?_;rw[cell_of_row w g j cur e (0,0) hg,<-hy];simp
    rcases hmem with (h5 | h5) | h5
    ·exact hcur _ (List.mem_of_mem_take h5) x rfl
    ·exact hnu _ h5 x rfl
    ·exact hcur _ (List.mem_of_mem_drop h5) x rfl
  ·have holds:∀ j u,xs[j]?=some u->w.cell? ((⟨g,0,none⟩:Addr).add j)=some u:=hown.cells (g:=g) rfl;have hr2:=run_append_grow (P:=Tryz.prog) w t ty e i z ht hi hz ⟨g,0,none⟩ n cap xs hown.1 holds a m c news hl hnews (by omega) (by omega) (growslice_fits (by omega) hbytes);rw[hr] at hr2;injection hr2 with e1 e2;have hold:=hno g rfl
   exact fresh _ _ _ (fun u hu=>by
    rw[Array.mem_append,Array.mem_append]at hu;rcases hu with (hu | hu) | hu
    ·have hu2:u∈xs:=by simpa using hu
     obtain ⟨j,hj,rfl⟩:=List.getElem_of_mem hu2;intro y hy;have:=holds j xs[j] (by simp[hj]);rw[Addr.add_lit,hy] at this;exact hold.2 _ y (by simpa using this)
    ·exact hnu u (by simpa using hu)
    ·exact ydz hzu _ u hu) e1 e2
theorem y06.grown {w w':World}{v v0:Value}{z:Int}(h:y06 w v z)(hg:w.grownBy w' v0.ownBlock)(hno:y5j w v0):y06 w' v z:=by
 rcases h with ⟨h,lo,hi⟩ | ⟨b,off,n,cap,f,s,h,hs,hw,h0,hv,hz⟩
 ·exact .small h lo hi
 ·obtain ⟨a,cap',h1,h2,h3⟩:=hw;refine .big b off n cap f s h hs ⟨a,cap',h1,fun i hi=>?_,h3⟩ h0 hv hz;obtain ⟨b',off',e,hc⟩:=h2 i hi;exact ⟨b',off',e,hg.cell hc fun e2=>(hno b' e2.symm).2 _ _ hc⟩
theorem y07.grown {w w':World}{v v0:Value}{q:Rat}(h:y07 w v q)(hg:w.grownBy w' v0.ownBlock)(hno:y5j w v0):y07 w' v q:=by
 obtain ⟨s,a,l,c,s',a',l',c',e,h1,h2⟩:=h;exact ⟨s,a,l,c,s',a',l',c',e,h1.grown hg hno,h2.grown hg hno⟩
theorem Box.grown {w w':World}{B:Nat}{t:TypeId}{cs:Array Value}{row:Option Nat}(h:Box w B t cs)(hg:w.grownBy w' row)(hne:row≠some B):Box w' B t cs:=by
 unfold Box at *;rw[hg.block B (by rcases Nat.lt_or_ge B w.heap.size with h1 | h1;exact h1;rw[Array.getElem?_eq_none h1] at h;cases h) (Ne.symm hne)];exact h
theorem y30 {ops:Array Oper} {rest:List Oper} {o:Oper} {a:Act} {w:World} {Q:Exit->Act->World->Prop} (hgd:o.guard=none) (s x:Operand) (t:TypeId)
  (ho:o.op=.call {callee:=.builtin .append,args:=#[s,x],argTypes:=#[t,t]})
  (base:Nat) (e:TypeId) (i:TypeInfo) (z:Value) (size bytes:Nat) (ht:Tryz.prog.underlying t=some (.slice e)) (hi:Tryz.prog.info? e=some i) (hz:i.zero=some z)
  (hsize:i.size=size) (hby:i.bytes=bytes) (hzs:z.cells.size=size) (hsz:0 < size)
  (v:Value) (n:Nat) (xs:List Value) (hs:a.eval s=v) (hown:w.ownsRow base e size v n xs)
  (ad:Addr) (m c:Nat) (news:List Value) (hx:a.eval x=.slice (some ad) m c) (hl:news.length=m*size) (hnews:∀ j u,news[j]?=some u->w.cell? (ad.add j)=some u) (h1:∀ u∈news,u.oneCell'=true)
  (h63:n+m<=maxLen) (hbytes:(n+m)*bytes<=140737488355328) (hbase:base<=w.heap.size) (hzu:∀ u∈z.cells,NotU u) (hnu:∀ u∈news,NotU u) (hno:y5j w v)
  (h:∀ v' w',w'.ownsRow base e size v' (n+m) (xs ++ news)->w.grownBy w' v.ownBlock->y5j w' v'->(∀ g,v'.ownBlock=some g->v.ownBlock=some g\/w.heap.size<=g)->wpList Tryz.prog ops Q rest (a.put o.dst v') w'):wpList Tryz.prog ops Q (o::rest) a w:=by
 refine wpList_plain hgd fun _ hK=>?_;obtain ⟨v',w',hr,h2,h3, -,h5,h6⟩:=yei w base t o.type e i z size bytes ht hi hz hsize hby hzs hsz v n xs hown ad m c news hl hnews h1 h63 hbytes hbase hzu hnu hno;unfold Oper.wp execOp;simp only[ho,resolve,invoke,builtin,Sem.run_bind,Sem.run_pure,Result.andThen_ok,List.map_toArray,List.map_cons,List.map_nil,hs,hx,hr];exact hK _ _ (h v' w' h2 h3 h5 h6)
def IsRt (a r:Int):Prop:=0<=r/\r*r<=a/\a < (r+1)*(r+1)
theorem sq_le {x y:Int}(hx:0<=x)(h:x<=y):x*x<=y*y:=Int.mul_le_mul h h hx (Int.le_trans hx h)
theorem ymw {x y:Int}(hy:0<=y)(h:x*x < y*y):x < y:=by
 rcases Int.lt_or_le x y with h1 | h1
 ·exact h1
 ·have:=sq_le hy h1;omega
theorem IsRt.le {a r s:Int}(h:IsRt a r)(hs:s*s<=a):s<=r:=by
 have h1:=ymw (x:=s) (y:=r+1) (by have:=h.1;omega) (by have:=h.2.2;omega);omega
theorem IsRt.unique {a r s:Int}(h:IsRt a r)(g:IsRt a s):r=s:=by
 have h1:=h.le g.2.1;have h2:=g.le h.2.1;omega
theorem ycw {a x s:Int}(hx:0 < x)(hs:s*s<=a):s<=(x+a / x) / 2:=by
 have h1:(2*s - x)*x<=a:=by
  have h2:0<=(x - s)*(x - s):=by
   rcases Int.le_total 0 (x - s) with h | h
   ·exact Int.mul_nonneg h h
   ·have:=Int.mul_nonneg (show 0<= -(x - s) by omega) (show 0<= -(x - s) by omega)
    rwa [Int.neg_mul_neg] at this
  have h3:(x - s)*(x - s)=s*s - (2*s - x)*x:=by grind
  omega
 have h4:2*s - x<=a / x:=(Int.le_ediv_iff_mul_le hx).2 h1;omega
theorem yh2 {a x:Int}(hx:0 < x)(h:x<=(x+a / x) / 2):x*x<=a:=by
 have h1:x<=a / x:=by omega
 exact (Int.le_ediv_iff_mul_le hx).1 h1
theorem yg3 {a x:Int}(ha:0 < a)(hx:0 < x):0 < (x+a / x) / 2/\a < ((x+a / x) / 2+1)*((x+a / x) / 2+1):=by
 have h1:=ycw (a:=a) (s:=1) hx (by omega);refine ⟨by omega,?_⟩;rcases Int.lt_or_le a (((x+a / x) / 2+1)*((x+a / x) / 2+1)) with h | h
 ·exact h
 ·have:=ycw hx h;omega
theorem yfj {a x:Int}(hx:0 < x)(hi:a < (x+1)*(x+1))(h:x<=(x+a / x) / 2):IsRt a x:=⟨by omega,yh2 hx h,hi⟩
theorem yis:IsRt 0 0:=⟨by omega,by omega,by omega⟩
def yjh (W:World)(B:Nat)(z:Int):Prop:=∃ (s:Int) (a:Option Addr) (l c:Nat),Box W B 113 #[.int .i64 s,.slice a l c]/\y06 W (.agg #[.int .i64 s,.slice a l c]) z
def ypc (w1:World)(P:Nat)(a X0:Int)(g:Nat)(wr:World):Prop:=∃ x:Int,x.toNat=g/\0 < x/\x<=X0/\a < (x+1)*(x+1)/\New w1 wr/\yjh wr P x
theorem y6v (va:Value)(a r:Int)(k:Nat)(w:World)(hx:y06 w va a)(hr:IsRt a r)(hb:BdK k a)(hk:k<=100000):Calls Tryz.prog 117 #[va] w (y0l w r):=by
 obtain ⟨sa,aa,la,ca,rfl⟩:=hx.shape;have ba:Bd a:=hb.bd (by omega)
 have ha:0<=a:=Int.le_trans (by
  have:=Int.mul_nonneg hr.1 hr.1
  exact this) hr.2.1
 have hend:∀ w' v,New w w'->y06 w' v r->y0l w r (.returned v) w':=fun w' v h1 h2=>⟨v,rfl,h1,h2⟩;by_cases h0:a=0
 ·subst h0;have hr0:r=0:=hr.unique yis;subst hr0;clear hr ha hb hk;have HX:=hid hx;have BA0:=hid ba;have HEND:=hid hend;clear hx ba hend;go_enter Tryz.func117,Tryz.ntmps117;go_upto_region 1 with (fail);obtain ⟨BA,BP,HN⟩:=lay2 w 113 #[.int .i64 sa,.slice aa la ca] 113 #[.int .i64 0,.slice none 0 0];obtain ⟨a0,a1,a2,a3,a4⟩:=BA.out.two;go_wp2_with fail;refine (y0y _ 0 _ (HX.out.new HN.out)).mono ?_;rintro e w4 ⟨rfl,hn⟩;clear a0 a1 a2 a3 a4;replace BA:=bW BA hn;replace BP:=bW BP hn;replace HN:=tW HN hn;clear hn;obtain ⟨a0,a1,a2,a3,a4⟩:=BA.out.two;obtain ⟨p0,p1,p2,p3,p4⟩:=BP.out.two;go_wp2_with fail;refine bodyPost_ret (v:=.agg #[.int .i64 sa,.slice aa la ca]) (by simp[results,Tryz.results117,go_sem,p0,p1]) rfl ?_;refine HEND.out _ _ (HN.out.putAt BP.out (by omega) _ _) ?_;exact ((HX.out.new HN.out)).put2 BP.out _ _ _ _
 ·have hap:0 < a:=by omega
  have hsg:a.sign=1:=Int.sign_eq_one_of_pos hap;have hs2:∀ W,y06 W (.agg #[.int .i64 2,.slice none 0 0]) 2:=fun W=>.small rfl (by omega) (by omega)
  obtain ⟨X0,hX0,hpw⟩:∃ X0:Nat->Int,(∀ b,X0 b=2^((b+1) / 2))/\∀ b:Nat,b<=k->∃ c d:Nat,IntKind.i64.wrap ((b:Int)+1)=(c:Int)/\wrap64 ((b:Int)+1)=(c:Int)/\(c:Int).tdiv 2=(d:Int)/\IntKind.i64.wrap (d:Int)=(d:Int)/\∀ W va,y06 W va 2->Calls Tryz.prog 178 #[va,.int .i64 (d:Int)] W (y0l W (X0 b)):=
   ⟨fun b=>2^((b+1) / 2),fun _=>rfl,fun b hb=>⟨b+1,(b+1) / 2,by rw[IntKind.wrap_i64];omega,by unfold wrap64;omega,rfl,by rw[IntKind.wrap_i64];omega,fun W va h=>y5z va 2 ((b+1) / 2) 2 W h (by unfold BdK;decide) (by omega) (by omega)⟩⟩
  obtain ⟨m,hm1,hm2⟩:∃ m,k+1=m/\m<=100001:=⟨_,rfl,by omega⟩
  have hbk:∀ b,y6z a.natAbs b->b<=k/\0 < X0 b/\a < (X0 b+1)*(X0 b+1)/\BdK m (X0 b):=fun b h=>by
   have h1:=h.le hb
   have h2:a < ((2^b:Nat):Int):=by have:=h.lt;omega
   rw[hX0]
   have h3:((2^b:Nat):Int)<=2^((b+1) / 2)*2^((b+1) / 2):=by
    have h5:2^b<=2^((b+1) / 2)*2^((b+1) / 2):=by
     rw[<-Nat.pow_add];exact Nat.pow_le_pow_right (by omega) (by omega)
    have h6:=Int.ofNat_le.2 h5;simpa using h6
   have h4:(0:Int) < 2^((b+1) / 2):=Int.pow_pos (by omega);refine ⟨h1,h4,?_,?_⟩
   ·have h5:((2:Int)^((b+1) / 2)+1)*(2^((b+1) / 2)+1)=2^((b+1) / 2)*2^((b+1) / 2)+2*2^((b+1) / 2)+1:=by grind
    omega
   ·unfold BdK;rw[Int.natAbs_pow];exact Nat.pow_lt_pow_right (by decide) (by omega)
  clear hX0 ha h0;have HX:=hid hx;have BA0:=hid ba;have HEND:=hid hend;have HAP:=hid hap;have HS2:=hid hs2;have HPW:=hid hpw;have HBK:=hid hbk;have HRT:=hid hr;clear hx ba hend hap hs2 hpw hbk hr;have HBA:Hid (BdK m a):=hid (BdK.mono hb (by omega));clear hb;go_enter Tryz.func117,Tryz.ntmps117;go_upto_region 1 with (fail);obtain ⟨BA,BP,HN⟩:=lay2 w 113 #[.int .i64 sa,.slice aa la ca] 113 #[.int .i64 0,.slice none 0 0];obtain ⟨a0,a1,a2,a3,a4⟩:=BA.out.two;go_wp2_with fail;refine (y0y _ a _ (HX.out.new HN.out)).mono ?_;rintro e w1 ⟨rfl,hn⟩;rw[hsg];clear a0 a1 a2 a3 a4;replace BA:=bW BA hn;replace BP:=bW BP hn;replace HN:=tW HN hn;clear hn;have HX1:=hid (HX.out.new HN.out);go_upto_region 3 with (fail);have HN1:=HN;clear HN
  go_cut [3] (fun x wx=>∃ (P:Nat) (b:Nat),x=.pointer (some ⟨P,0,none⟩)/\y6z a.natAbs b/\New w1 wx/\w1.heap.size<=P/\yjh wx P (X0 b))
  case first=>
   have HN:=hid (New.refl w1);obtain ⟨a0,a1,a2,a3,a4⟩:=BA.out.two;refine y00 7 (fun W=>W.cell? ⟨w.heap.size,0,none⟩=some (.int .i64 sa)/\W.cell? ⟨w.heap.size,1,none⟩=some (.slice aa la ca)) 8 #[false,false,false,false,false,false,false,false] rfl (by kernel_rfl) (by kernel_rfl) ?_;clear a0 a1 a2 a3 a4;replace BA:=hid (BA.out.new (New.refl w1).drew);replace HX1:=hid (HX1.out.new (New.refl w1).drew);replace HN:=hid (HN.out.drew);obtain ⟨wdr,hwd⟩:∃ x,w1.drew=x:=⟨_,rfl⟩;rw[hwd] at HN BA HX1⊢;clear hwd;refine tk 1 (by exact cW2 BA) ?_
   try simp only[PT]
   refine y0h 0 6 rfl rfl (by kernel_rfl) (fun K hK=>?_) (fun K hK=>?_)
   ·skip
    go_simp;refine (y09 2 _).mono ?_;rintro e w9 ⟨rfl,hn⟩;replace BA:=bW BA hn;replace HX1:=hid (HX1.out.new hn);replace HN:=tW HN hn;clear hn;refine hK.out _ _ (fun _=>cW2 BA) ?_;clear hK K
    try simp only[PT]
    refine y0h 2 6 rfl rfl (by kernel_rfl) (fun K hK=>?_) (fun K hK=>?_)
    ·skip
     go_simp;refine (y3l _ a _ HX1.out BA0.out).mono ?_;rintro e w10 ⟨b,rfl,hn,hbits⟩;obtain ⟨c9,d9,hw1,hw2,hw3,hw4,hpc⟩:=HPW.out b (HBK.out b hbits).1;have HPC:=hid hpc;have HBT:=hid hbits;clear hpc hbits;replace BA:=bW BA hn;replace HX1:=hid (HX1.out.new hn);replace HN:=tW HN hn;clear hn;refine hK.out _ _ (fun _=>cW2 BA) ?_;clear hK K
     try simp only[PT]
     refine y0q 3 (v:=?_) rfl (by kernel_rfl) (fun _ _ _ h=>h) (by exact cW2 BA) (Or.inl ⟨by first | kernel_rfl | rfl,?_⟩) ?_;rotate_left
     ·(intro W hW;(try dsimp only at hW);(go_simp;try simp only[hw1,hw2]);try with_reducible rfl)
     try simp only[PT]
     refine y0q 4 (v:=?_) rfl (by kernel_rfl) (fun _ _ _ h=>h) (by exact cW2 BA) (Or.inl ⟨by first | kernel_rfl | rfl,?_⟩) ?_;rotate_left
     ·(intro W hW;(try dsimp only at hW);(go_simp;try simp only[hw3,hw4]);try with_reducible rfl)
     try simp only[PT]
     refine y0h 5 6 rfl rfl (by kernel_rfl) (fun K hK=>?_) (fun K hK=>?_)
     ·skip
      go_simp;refine (HPC.out _ _ (HS2.out _)).mono ?_;rintro e w11 ⟨v11,rfl,hn,hi⟩;obtain ⟨s9,a9,l9,k9,rfl⟩:=hi.shape;have HI9:=hid hi;clear hi;replace BA:=bW BA hn;replace HX1:=hid (HX1.out.new hn);replace HN:=tW HN hn;clear hn;refine hK.out _ _ (fun _=>cW2 BA) ?_;clear hK K
      try simp only[PT]
      refine tk1 6 fun K hK=>?_;go_simp;have LBX:=hid (HN.out.size);obtain ⟨wa1,hwa,BX_,hn⟩:=y0j w11 113 #[.int .i64 0,.slice none 0 0];rw[hwa];clear hwa;have BX:=hid BX_;clear BX_;replace BA:=bW BA hn;replace HX1:=hid (HX1.out.new hn);replace HI9:=hid (HI9.out.new hn);replace HN:=tW HN hn;clear hn;refine hK.out _ _ (fun _=>cW2 BA) ?_;clear hK K
      try simp only[PT]
      refine tlW ?_;obtain ⟨a0,a1,a2,a3,a4⟩:=BA.out.two;obtain ⟨u0,u1,u2,u3,u4⟩:=BX.out.two;go_wp2_with fail
      go_meet
      exact ⟨_,b,rfl,HBT.out,HN.out.putAt BX.out LBX.out _ _,LBX.out,⟨_,_,_,_,BX.out.put2 _ _,HI9.out.put2 BX.out _ _ _ _⟩⟩
     ·skip
      go_simp;have LBX:=hid (HN.out.size);obtain ⟨wa1,hwa,BX_,hn⟩:=y0j w10 113 #[.int .i64 0,.slice none 0 0];rw[hwa];clear hwa;have BX:=hid BX_;clear BX_;replace BA:=bW BA hn;replace HX1:=hid (HX1.out.new hn);replace HN:=tW HN hn;clear hn;refine hK.out _ _ (fun _=>cW2 BA) ?_;clear hK K
      try simp only[PT]
      refine tk1 5 fun K hK=>?_;go_simp;refine (HPC.out _ _ (HS2.out _)).mono ?_;rintro e w11 ⟨v11,rfl,hn,hi⟩;obtain ⟨s9,a9,l9,k9,rfl⟩:=hi.shape;have HI9:=hid hi;clear hi;replace BA:=bW BA hn;replace HX1:=hid (HX1.out.new hn);replace BX:=bW BX hn;replace HN:=tW HN hn;clear hn;refine hK.out _ _ (fun _=>cW2 BA) ?_;clear hK K
      try simp only[PT]
      refine tlW ?_;obtain ⟨a0,a1,a2,a3,a4⟩:=BA.out.two;obtain ⟨u0,u1,u2,u3,u4⟩:=BX.out.two;go_wp2_with fail
      go_meet
      exact ⟨_,b,rfl,HBT.out,HN.out.putAt BX.out LBX.out _ _,LBX.out,⟨_,_,_,_,BX.out.put2 _ _,HI9.out.put2 BX.out _ _ _ _⟩⟩
    ·skip
     go_simp;have LBX:=hid (HN.out.size);obtain ⟨wa1,hwa,BX_,hn⟩:=y0j w9 113 #[.int .i64 0,.slice none 0 0];rw[hwa];clear hwa;have BX:=hid BX_;clear BX_;replace BA:=bW BA hn;replace HX1:=hid (HX1.out.new hn);replace HN:=tW HN hn;clear hn;refine hK.out _ _ (fun _=>cW2 BA) ?_;clear hK K
     try simp only[PT]
     refine tk1 2 fun K hK=>?_;go_simp;refine (y3l _ a _ HX1.out BA0.out).mono ?_;rintro e w10 ⟨b,rfl,hn,hbits⟩;obtain ⟨c9,d9,hw1,hw2,hw3,hw4,hpc⟩:=HPW.out b (HBK.out b hbits).1;have HPC:=hid hpc;have HBT:=hid hbits;clear hpc hbits;replace BA:=bW BA hn;replace HX1:=hid (HX1.out.new hn);replace BX:=bW BX hn;replace HN:=tW HN hn;clear hn;refine hK.out _ _ (fun _=>cW2 BA) ?_;clear hK K
     try simp only[PT]
     refine y0q 3 (v:=?_) rfl (by kernel_rfl) (fun _ _ _ h=>h) (by exact cW2 BA) (Or.inl ⟨by first | kernel_rfl | rfl,?_⟩) ?_;rotate_left
     ·(intro W hW;(try dsimp only at hW);(go_simp;try simp only[hw1,hw2]);try with_reducible rfl)
     try simp only[PT]
     refine y0q 4 (v:=?_) rfl (by kernel_rfl) (fun _ _ _ h=>h) (by exact cW2 BA) (Or.inl ⟨by first | kernel_rfl | rfl,?_⟩) ?_;rotate_left
     ·(intro W hW;(try dsimp only at hW);(go_simp;try simp only[hw3,hw4]);try with_reducible rfl)
     try simp only[PT]
     refine tk1 5 fun K hK=>?_;go_simp;refine (HPC.out _ _ (HS2.out _)).mono ?_;rintro e w11 ⟨v11,rfl,hn,hi⟩;obtain ⟨s9,a9,l9,k9,rfl⟩:=hi.shape;have HI9:=hid hi;clear hi;replace BA:=bW BA hn;replace HX1:=hid (HX1.out.new hn);replace BX:=bW BX hn;replace HN:=tW HN hn;clear hn;refine hK.out _ _ (fun _=>cW2 BA) ?_;clear hK K
     try simp only[PT]
     refine tlW ?_;obtain ⟨a0,a1,a2,a3,a4⟩:=BA.out.two;obtain ⟨u0,u1,u2,u3,u4⟩:=BX.out.two;go_wp2_with fail
     go_meet
     exact ⟨_,b,rfl,HBT.out,HN.out.putAt BX.out LBX.out _ _,LBX.out,⟨_,_,_,_,BX.out.put2 _ _,HI9.out.put2 BX.out _ _ _ _⟩⟩
   ·skip
    go_simp;have LBX:=hid (HN.out.size);obtain ⟨wa1,hwa,BX_,hn⟩:=y0j wdr 113 #[.int .i64 0,.slice none 0 0];rw[hwa];clear hwa;have BX:=hid BX_;clear BX_;replace BA:=bW BA hn;replace HX1:=hid (HX1.out.new hn);replace HN:=tW HN hn;clear hn;refine hK.out _ _ (fun _=>cW2 BA) ?_;clear hK K
    try simp only[PT]
    refine tk1 0 fun K hK=>?_;go_simp;refine (y09 2 _).mono ?_;rintro e w9 ⟨rfl,hn⟩;replace BA:=bW BA hn;replace HX1:=hid (HX1.out.new hn);replace BX:=bW BX hn;replace HN:=tW HN hn;clear hn;refine hK.out _ _ (fun _=>cW2 BA) ?_;clear hK K
    try simp only[PT]
    refine tk1 2 fun K hK=>?_;go_simp;refine (y3l _ a _ HX1.out BA0.out).mono ?_;rintro e w10 ⟨b,rfl,hn,hbits⟩;obtain ⟨c9,d9,hw1,hw2,hw3,hw4,hpc⟩:=HPW.out b (HBK.out b hbits).1;have HPC:=hid hpc;have HBT:=hid hbits;clear hpc hbits;replace BA:=bW BA hn;replace HX1:=hid (HX1.out.new hn);replace BX:=bW BX hn;replace HN:=tW HN hn;clear hn;refine hK.out _ _ (fun _=>cW2 BA) ?_;clear hK K
    try simp only[PT]
    refine y0q 3 (v:=?_) rfl (by kernel_rfl) (fun _ _ _ h=>h) (by exact cW2 BA) (Or.inl ⟨by first | kernel_rfl | rfl,?_⟩) ?_;rotate_left
    ·(intro W hW;(try dsimp only at hW);(go_simp;try simp only[hw1,hw2]);try with_reducible rfl)
    try simp only[PT]
    refine y0q 4 (v:=?_) rfl (by kernel_rfl) (fun _ _ _ h=>h) (by exact cW2 BA) (Or.inl ⟨by first | kernel_rfl | rfl,?_⟩) ?_;rotate_left
    ·(intro W hW;(try dsimp only at hW);(go_simp;try simp only[hw3,hw4]);try with_reducible rfl)
    try simp only[PT]
    refine tk1 5 fun K hK=>?_;go_simp;refine (HPC.out _ _ (HS2.out _)).mono ?_;rintro e w11 ⟨v11,rfl,hn,hi⟩;obtain ⟨s9,a9,l9,k9,rfl⟩:=hi.shape;have HI9:=hid hi;clear hi;replace BA:=bW BA hn;replace HX1:=hid (HX1.out.new hn);replace BX:=bW BX hn;replace HN:=tW HN hn;clear hn;refine hK.out _ _ (fun _=>cW2 BA) ?_;clear hK K
    try simp only[PT]
    refine tlW ?_;obtain ⟨a0,a1,a2,a3,a4⟩:=BA.out.two;obtain ⟨u0,u1,u2,u3,u4⟩:=BX.out.two;go_wp2_with fail
    go_meet
    exact ⟨_,b,rfl,HBT.out,HN.out.putAt BX.out LBX.out _ _,LBX.out,⟨_,_,_,_,BX.out.put2 _ _,HI9.out.put2 BX.out _ _ _ _⟩⟩
  case rest=>
   obtain ⟨P,b,rfl,hbits,hn,hP,hix⟩:=hcut;obtain ⟨-,hpos,hlt,hbd⟩:=HBK.out b hbits;obtain ⟨X,hX⟩:∃ X,X0 b=X:=⟨_,rfl⟩;rw[hX] at hix hpos hlt hbd;have hPw:w.heap.size<=P:=Nat.le_trans HN1.out.size hP;have hstart:ypc w1 P a X X.toNat wc:=⟨X,rfl,hpos,Int.le_refl _,hlt,hn,hix⟩;clear hn hX hbits HPW HBK HS2;have HS2:∀ W,y06 W (.agg #[.int .i64 2,.slice none 0 0]) 2:=fun W=>.small rfl (by omega) (by omega);clear hpos hlt hix;have HS:=hid hstart;have HTWO:=hid HS2;have HBD:=hid hbd;have HPW:=hid hPw;have HP1:=hid hP;clear hstart HS2 hbd hPw hP;go_wp2_with fail
   go_loopg [] X.toNat (fun g wr=>ypc w1 P a X g wr)
   case atStart=>exact HS.out
   case round=>
    clear HS;obtain ⟨x,hg,hx0,hxX,hxa,hN,s,o,l,c,hB,hi⟩:=hrel
    have bx:BdK m x:=by
     have:=HBD.out;unfold BdK at *;exact Nat.lt_of_le_of_lt (by omega) this
    have bq:BdK m (a / x):=by
     have h1:=Int.natAbs_ediv_le_natAbs a x;have h2:BdK m a:=HBA.out;unfold BdK at *;omega
    have bs:=bx.add bq;have BA_:=BA.out.new hN;have BP_:=BP.out.new hN;have HX_:=HX1.out.new hN;have HN_:=HN1.out.trans hN;have BAR:=hid BA_;have BPR:=hid BP_;have HXR:=hid HX_;have HN:=hid HN_;have HNR:=hid hN;have B:=hid hB;have HI:=hid hi;have HG:=hid hg;have HX0:=hid hx0;have HXX:=hid hxX;have HXA:=hid hxa;have HBX:=hid bx;have HBQ:=hid bq;have HBS:=hid bs;clear BA_ BP_ HX_ HN_ hN hB hi hg hx0 hxX hxa bx bq bs;obtain ⟨a0,a1,a2,a3,a4⟩:=BAR.out.two;obtain ⟨b0,b1,b2,b3,b4⟩:=B.out.two;go_wp2_with fail;refine (y36 _ _ a x _ HXR.out HI.out BA0.out (HBX.out.bd (by omega)) HX0.out).mono ?_;rintro e w3 ⟨v7,v8,rfl,hn,hi7,hi8⟩;obtain ⟨s7,a7,l7,k7,rfl⟩:=hi7.shape;obtain ⟨s8,a8,l8,k8,rfl⟩:=hi8.shape;clear hi8;have HI7:=hid hi7;clear hi7;clear a0 a1 a2 a3 a4 b0 b1 b2 b3 b4;replace HNR:=tW HNR hn;replace BAR:=bW BAR hn;replace BPR:=bW BPR hn;replace B:=bW B hn;replace HI:=hid (HI.out.new hn);replace HN:=tW HN hn;clear hn;go_upto_region 5 with (fail);have HN0:=HN;clear HN;obtain ⟨BQ,BR,HN⟩:=lay2 w3 113 #[.int .i64 s7,.slice a7 l7 k7] 113 #[.int .i64 s8,.slice a8 l8 k8];replace HNR:=hid (HNR.out.trans HN.out);replace BAR:=hid (BAR.out.new HN.out);replace BPR:=hid (BPR.out.new HN.out);replace B:=hid (B.out.new HN.out);replace HI:=hid (HI.out.new HN.out);replace HI7:=hid (HI7.out.new HN.out);have HN_:=HN0.out.trans HN.out;clear HN HN0;have HN:=hid HN_;clear HN_;obtain ⟨b0,b1,b2,b3,b4⟩:=B.out.two;obtain ⟨q0,q1,q2,q3,q4⟩:=BQ.out.two;go_wp2_with fail;refine (y1r _ _ x (a / x) _ HI.out HI7.out (HBX.out.bd (by omega)) (HBQ.out.bd (by omega))).mono ?_;rintro e w4 ⟨v9,rfl,hn,hi9⟩;have HI9:=hid hi9;clear hi9;clear b0 b1 b2 b3 b4 q0 q1 q2 q3 q4;replace HNR:=tW HNR hn;replace BPR:=bW BPR hn;replace B:=bW B hn;replace HI:=hid (HI.out.new hn);replace HN:=tW HN hn;clear hn;go_wp2_with fail;refine (y09 2 _).mono ?_;rintro e w5 ⟨rfl,hn⟩;replace HNR:=tW HNR hn;replace BPR:=bW BPR hn;replace B:=bW B hn;replace HI:=hid (HI.out.new hn);replace HI9:=hid (HI9.out.new hn);replace HN:=tW HN hn;clear hn;go_wp2_with fail;refine (y36 _ _ (x+a / x) 2 _ HI9.out (HTWO.out _) (HBS.out.bd (by omega)) ⟨2,by omega,by decide⟩ (by omega)).mono ?_;rintro e w6 ⟨v10,v11,rfl,hn,hi10,hi11⟩;obtain ⟨s10,a10,l10,k10,rfl⟩:=hi10.shape;obtain ⟨s11,a11,l11,k11,rfl⟩:=hi11.shape;clear hi11;have HI10:=hid hi10;clear hi10;replace HNR:=tW HNR hn;replace BPR:=bW BPR hn;replace B:=bW B hn;replace HI:=hid (HI.out.new hn);replace HN:=tW HN hn;clear hn;go_upto_region 6 with (fail);have HN0:=HN;clear HN;obtain ⟨BY,BZ,HN⟩:=lay2 w6 113 #[.int .i64 s10,.slice a10 l10 k10] 113 #[.int .i64 s11,.slice a11 l11 k11];replace HNR:=hid (HNR.out.trans HN.out);replace BPR:=hid (BPR.out.new HN.out);replace B:=hid (B.out.new HN.out);replace HI:=hid (HI.out.new HN.out);replace HI10:=hid (HI10.out.new HN.out);have HN_:=HN0.out.trans HN.out;clear HN HN0;have HN:=hid HN_;clear HN_
    have hby:BdK (m+1) ((x+a / x) / 2):=by
     have h1:=Int.natAbs_ediv_le_natAbs (x+a / x) 2;have h2:=HBS.out;unfold BdK at *;omega
    have hst:=yg3 (a:=a) HAP.out HX0.out;have HBY:=hid hby;have HST:=hid hst;clear hby hst;by_cases hle:x<=(x+a / x) / 2
    ·obtain ⟨t,ht,ht0⟩:∃ t,((x+a / x) / 2 - x).sign=t/\0<=t:=⟨_,rfl,Int.sign_nonneg_iff.2 (by omega)⟩;have htb:decide (0<=t)=true:=decide_eq_true ht0;have hxr:=(yfj HX0.out HXA.out hle).unique HRT.out;clear hle;have HXXR:=hid hxr;clear hxr;obtain ⟨b0,b1,b2,b3,b4⟩:=B.out.two;obtain ⟨y0,y1,y2,y3,y4⟩:=BY.out.two;go_wp2_with fail;refine (y3x _ _ ((x+a / x) / 2) x _ HI10.out HI.out (HBY.out.bd (by omega)) (HBX.out.bd (by omega))).mono ?_;rintro e w7 ⟨rfl,hn⟩;rw[ht];clear ht;clear b0 b1 b2 b3 b4 y0 y1 y2 y3 y4;replace HNR:=tW HNR hn;replace BPR:=bW BPR hn;replace B:=bW B hn;replace HI:=hid (HI.out.new hn);replace HN:=tW HN hn;clear hn;obtain ⟨b0,b1,b2,b3,b4⟩:=B.out.two;obtain ⟨p0,p1,p2,p3,p4⟩:=BPR.out.two;go_wp2_with fail;refine bodyPost_ret (v:=.agg #[.int .i64 s,.slice o l c]) (by simp[results,Tryz.results117,go_sem,p0,p1]) rfl ?_;refine HEND.out _ _ (HN.out.putAt BPR.out (by omega) _ _) ?_;rw[<-HXXR.out];exact HI.out.put2 BPR.out _ _ _ _
    ·obtain ⟨t,ht,ht0⟩:∃ t,((x+a / x) / 2 - x).sign=t/\t < 0:=⟨_,rfl,Int.sign_neg_iff.2 (by omega)⟩
     have hti:¬0<=t:=by omega
     have htb:decide (0<=t)=false:=decide_eq_false hti;have HLE:=hid hle;clear hle;clear ht0;obtain ⟨b0,b1,b2,b3,b4⟩:=B.out.two;obtain ⟨y0,y1,y2,y3,y4⟩:=BY.out.two;go_wp2_with fail;refine (y3x _ _ ((x+a / x) / 2) x _ HI10.out HI.out (HBY.out.bd (by omega)) (HBX.out.bd (by omega))).mono ?_;rintro e w7 ⟨rfl,hn⟩;rw[ht];clear ht;clear b0 b1 b2 b3 b4 y0 y1 y2 y3 y4;replace HNR:=tW HNR hn;replace BPR:=bW BPR hn;replace B:=bW B hn;replace HI10:=hid (HI10.out.new hn);replace BY:=bW BY hn;replace HN:=tW HN hn;clear hn;obtain ⟨b0,b1,b2,b3,b4⟩:=B.out.two;obtain ⟨y0,y1,y2,y3,y4⟩:=BY.out.two;go_wp2_with fail
     go_roundg ((x+a / x) / 2).toNat
     case measure=>have:=HLE.out;have:=HST.out.1;have:=HG.out;omega
     case rel=>exact ⟨_,rfl,HST.out.1,by have:=HLE.out;have:=HXX.out;omega,HST.out.2,HNR.out.put2 HP1.out _ _,⟨_,_,_,_,B.out.put2 _ _,HI10.out.put2 B.out _ _ _ _⟩⟩
end Go.Proofs.YtnjonlnemagomaaGreatDoor
