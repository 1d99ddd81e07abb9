/- Part B12. -/
import Derived.Deep.DeepCutAuto
import Derived.Deep.RegionHeld
import Derived.WalkSpells
import Derived.Test.YtnjonlnemagomaaGreatDoorB06
namespace Go.Proofs.YtnjonlnemagomaaGreatDoor
open Go.RowKit Big Tryz
open Go.Lib (hid)
set_option maxRecDepth 100000
set_option maxHeartbeats 8000000
set_option linter.all false
abbrev B9:Nat:=1000000000
def SlM (v:Value)(a:Option Addr)(n cap:Nat):Prop:=v=.slice a n cap∧n≤cap∧cap≤maxLen∧(a=none→cap=0)
def DgN (w:World)(v:Value)(n:Nat)(f:Nat→Nat):Prop:=∃ a cap,SlM v a n cap∧Rd w a .i64 n f∧∀ i,i < n→f i < B9
def Dg (w:World)(v:Value)(n:Nat)(f:Nat→Nat):Prop:=DgN w v n f∧(n≠0→f (n - 1)≠0)
theorem DgN.new {w w':World}{v:Value}{n:Nat}{f:Nat→Nat}(h:DgN w v n f)(hn:New w w'):DgN w' v n f:=by
 obtain ⟨a,aa,h1,h2,h3⟩:=h;exact ⟨a,aa,h1,h2.new hn,h3⟩
theorem Dg.new {w w':World}{v:Value}{n:Nat}{f:Nat→Nat}(h:Dg w v n f)(hn:New w w'):Dg w' v n f:=⟨h.1.new hn,h.2⟩
theorem Dg.canon {w:World}{v:Value}{n:Nat}{f:Nat→Nat}(h:Dg w v n f):Canon B9 f n:=by
 obtain ⟨⟨a,aa,h1,h2,h3⟩,h4⟩:=h;exact ⟨h3,h4⟩
theorem DgN.lt {w:World}{v:Value}{n:Nat}{f:Nat→Nat}(h:DgN w v n f):∀ i,i < n→f i < B9:=by
 obtain ⟨a,aa,h1,h2,h3⟩:=h;exact h3
def lenOf:Value→Nat
 | .slice _ n _=>n
 | _=>0
def ds (o:Nat→Nat)(k:Nat):List Value:=(List.range k).map fun i=>.int .i64 ((o i:Nat):Int)
theorem ds_len (o:Nat→Nat)(k:Nat):(ds o k).length=k:=by simp[ds]
theorem ds_snoc (o:Nat→Nat)(k y:Nat):ds (upd o k y) (k+1)=ds o k ++ [.int .i64 ((y:Nat):Int)]:=by
 unfold ds;rw[List.range_succ,List.map_append];congr 1
 ·refine List.map_congr_left fun i hi=>?_;rw[upd_other _ _ (by have:=List.mem_range.1 hi;omega)]
 ·simp[upd_same]
theorem ds_cell (o:Nat→Nat)(k:Nat):∀ u∈ds o k,u.oneCell'=true:=by intro u hu;simp[ds] at hu;obtain ⟨x, -,rfl⟩:=hu;rfl
theorem rdl_ds {w:World}{a:Option Addr}{o:Nat→Nat}{n:Nat}(h:RdL w a (ds o n)):Rd w a .i64 n o:=fun i hi=>by
 obtain ⟨b,off,e,hc⟩:=h i (by rw[ds_len];exact hi);exact ⟨b,off,e,by rw[hc];simp[ds]⟩
theorem rd_ds {w:World}{a:Option Addr}{o:Nat→Nat}{n:Nat}(h:Rd w a .i64 n o):RdL w a (ds o n):=fun i hi=>by
 rw[ds_len]at hi;obtain ⟨b,off,e,hc⟩:=h i hi;exact ⟨b,off,e,by rw[hc];simp[ds]⟩
theorem own_sl {w:World}{base n:Nat}{t:TypeId}{v:Value}{o:Nat→Nat}(h:w.ownsRow base t 1 v n (ds o n)):∃ a aa,SlM v a n aa∧Rd w a .i64 n o:=by
 obtain ⟨a,aa,e,hr, -⟩:=own_rd h;refine ⟨a,aa,?_,rdl_ds hr⟩;rcases h.2 with ⟨e2,rfl⟩ | ⟨g,ab,ac,e2,hb,hc,h2,h3,h4,h5⟩
 ·rw[e] at e2;injection e2 with e3 e4 e5;exact ⟨e,by omega,by rw[e5];exact Nat.zero_le _,fun _=>e5⟩
 ·rw[e] at e2;injection e2 with e3 e4 e5;exact ⟨e,by omega,by omega,fun h=>by rw[h] at e3;cases e3⟩
theorem own_dgn {w:World}{base n:Nat}{t:TypeId}{v:Value}{o:Nat→Nat}(h:w.ownsRow base t 1 v n (ds o n))(hl:∀ i,i < n→o i < B9):DgN w v n o:=by
 obtain ⟨a,aa,h1,h2⟩:=own_sl h;exact ⟨a,aa,h1,h2,hl⟩
def RTrimPost (w:World)(a:Option Addr)(cap len:Nat)(f:Nat→Nat)(e:Ending)(w':World):Prop:=
 w=w'∧∃ n,e=.returned (.slice a n cap)∧n≤len∧(∀ i,n≤i→i < len→f i=0)∧(n=0∨f (n - 1)≠0)
theorem rtrim_any (a:Option Addr)(len cap:Nat)(f:Nat→Nat)(w:World)(hl:len≤cap)(hcap:cap≤maxLen)(hr:Rd w a .i64 len f):
  Calls prog 220 #[.slice a len cap] w (RTrimPost w a cap len f):=by
 have ab:cap≤9223372036854775807:=hcap
 have h0:(0:Int)≤(len:Int):=by omega
 clear hcap;go_in;go_wp2
 go_loop [0] (fun v=>∃ k:Nat,k≤len∧v=.slice a k cap∧∀ i,k≤i→i < len→f i=0) (fun v=>lenOf v)
 case atStart=>exact ⟨len,Nat.le_refl _,rfl,fun i h1 h2=>by omega⟩
 case round=>
  obtain ⟨k,hk,rfl,hz⟩:=hrel;have HZ:=hid hz;clear hz;by_cases hk0:0 < k
  ·obtain ⟨b,ad,rfl,ac⟩:=hr (k - 1) (by omega);clear hr;go_wp2
   ·have hz:((f (k - 1):Int)==0)=true:=by assumption
    have aa:f (k - 1)=0:=by simp at hz;omega
    go_round
    case rel=>exact ⟨k - 1,by omega,by go_num,fun i h1 h2=>by
     by_cases e:i=k - 1
     ·rw[e];exact aa
     ·exact HZ i (by omega) h2⟩
    case measure=>simp[lenOf];omega
   ·have hz:((f (k - 1):Int)==0)=false:=by assumption
    have aa:f (k - 1)≠0:=by intro e;rw[e] at hz;simp at hz
    go_ret;exact ⟨rfl,k,rfl,hk,HZ,.inr aa⟩
  ·obtain rfl:k=0:=by omega
   clear hr;go_wp2;go_ret;exact ⟨rfl,0,rfl,hk,HZ,.inl rfl⟩
theorem rtrim_calls (v:Value)(len:Nat)(f:Nat→Nat)(w:World)(h:DgN w v len f):
  Calls prog 220 #[v] w fun e w'=>w=w'∧∃ v n,e=.returned v∧n≤len∧Dg w v n f∧vf B9 f n=vf B9 f len:=by
 obtain ⟨a,aa,⟨rfl,h1,h2,h3⟩,hr,ab⟩:=h;refine (rtrim_any a len aa f w h1 h2 hr).mono fun e w' ⟨h4,n,h5,h6,h7,h8⟩=>?_;obtain ⟨c1,c2⟩:=canon_trim ab h6 h7 h8;exact ⟨h4,_,n,h5,h6,⟨⟨a,aa,⟨rfl,by omega,h2,h3⟩,hr.le h6,c1.lt⟩,c1.top⟩,c2⟩
def RCmpPost (w:World)(m n:Nat)(f g:Nat→Nat)(e:Ending)(w':World):Prop:=New w w'∧∃ r:Int,e=.returned (.int .i64 r)∧
 ((r= -1∧(m < n∨(m=n∧∃ i,i < n∧f i < g i∧∀ j,i < j→j < n→f j=g j)))∨(r=1∧(n < m∨(m=n∧∃ i,i < n∧g i < f i∧∀ j,i < j→j < n→f j=g j)))∨(r=0∧m=n∧∀ j,j < n→f j=g j))
theorem rcompare_any (a b:Option Addr)(m n ca cb:Nat)(f g:Nat→Nat)(w:World)(hm:m≤281474976710656)(hn:n≤281474976710656)(ha:Rd w a .i64 m f)(hb:Rd w b .i64 n g):
  Calls prog 197 #[.slice a m ca,.slice b n cb] w (RCmpPost w m n f g):=by
 go_in;by_cases hmn:m=n
 ·subst hmn;go_wp2;go_loopw [5] (fun i wr=>∃ k:Nat,k≤m∧i=.int .i64 ((k:Int) - 1)∧(∀ j,k≤j→j < m→f j=g j)∧New w wr) (fun n _=>(intOf n+1).toNat)
  case atStart=>exact ⟨m,Nat.le_refl _,rfl,fun i h1 h2=>by omega,New.refl _⟩
  case round=>
   obtain ⟨k,hk,rfl,hz,aa⟩:=hrel;replace hz:=hid hz;by_cases hk0:k=0
   ·subst hk0;go_wp2;go_ret;exact ⟨aa,_,rfl,.inr (.inr ⟨rfl,rfl,fun j hj=>hz j (by omega) hj⟩)⟩
   ·obtain ⟨b1,o1,rfl,h1⟩:=(ha.new aa) (k - 1) (by omega);obtain ⟨b2,o2,rfl,h2⟩:=(hb.new aa) (k - 1) (by omega);clear ha hb;go_wp2
    go_quiet (fail)
    go_wp2
    ·have ac:f (k - 1) < g (k - 1):=by assumption
     go_ret;exact ⟨aa.drewN _,_,rfl,.inl ⟨rfl,.inr ⟨rfl,k - 1,by omega,ac,fun j h1 h2=>hz.out j (by omega) h2⟩⟩⟩
    ·have ac:¬f (k - 1) < g (k - 1):=by assumption
     go_quiet (fail)
     go_wp2
     ·have ab:g (k - 1) < f (k - 1):=by assumption
      go_ret;exact ⟨(aa.drewN _).drewN _,_,rfl,.inr (.inl ⟨rfl,.inr ⟨rfl,k - 1,by omega,ab,fun j h1 h2=>hz.out j (by omega) h2⟩⟩)⟩
     ·have ab:¬g (k - 1) < f (k - 1):=by assumption
      go_roundw
      case rel=>exact ⟨k - 1,by omega,by go_num,fun j h1 h2=>by
       by_cases e:j=k - 1
       ·rw[e];omega
       ·exact hz j (by omega) h2,aa.drewN _⟩
      case measure=>simp[intOf];omega
 ·have ad:(m==n)=false:=by simpa using hmn
  go_wp2
  all_goals (go_ret;rename_i h1 h2)
  ·exact ⟨New.refl _,_,rfl,.inl ⟨rfl,.inl (by assumption)⟩⟩
  ·exact ⟨New.refl _,_,rfl,.inr (.inl ⟨rfl,.inl (by omega)⟩)⟩
theorem rcompare_calls (va vb:Value)(m n:Nat)(f g:Nat→Nat)(w:World)(ha:Dg w va m f)(hb:Dg w vb n g)(hm:m≤1000000)(hn:n≤1000000):
  Calls prog 197 #[va,vb] w fun e w'=>New w w'∧e=.returned (.int .i64 (cmpNat (vf B9 f m) (vf B9 g n))):=by
 have cf:=ha.canon;have cg:=hb.canon;obtain ⟨⟨a,ca,⟨rfl,a1,a2,a3⟩,ra,_⟩,_⟩:=ha;obtain ⟨⟨b,cb,⟨rfl,b1,b2,b3⟩,rb,_⟩,_⟩:=hb;refine (rcompare_any a b m n ca cb f g w (by omega) (by omega) ra rb).mono fun e w' ⟨h1,r,h2,h3⟩=>⟨h1,?_⟩;rw[h2];congr 2;unfold cmpNat;rcases h3 with ⟨rfl,h | ⟨rfl,i,hi,ab,aa⟩⟩ | ⟨rfl,h | ⟨rfl,i,hi,ab,aa⟩⟩ | ⟨rfl,rfl,aa⟩
 ·rw[if_pos (cf.lt_of_len cg (by decide) h)]
 ·rw[if_pos (vf_lt_of_digit cf.lt cg.lt hi aa ab)]
 ·have:=cg.lt_of_len cf (by decide) h;rw[if_neg (by omega),if_pos this]
 ·have:=vf_lt_of_digit cg.lt cf.lt hi (fun j h1 h2=>(aa j h1 h2).symm) ab;rw[if_neg (by omega),if_pos this]
 ·have:vf B9 f m=vf B9 g m:=vf_congr aa;rw[if_neg (by omega),if_neg (by omega)]
theorem rdigit_calls (v:Value)(n:Nat)(f:Nat→Nat)(i:Nat)(w:World)(h:DgN w v n f)(hn:n≤1000000):
  Calls prog 240 #[v,.int .i64 (i:Int)] w fun e w'=>e=.returned (.int .i64 (padded f n i:Nat))∧w'=w:=by
 obtain ⟨a,ad,⟨rfl,h1,h2,h3⟩,hr,aa⟩:=h;by_cases hi:i < n
 ·obtain ⟨b,ae,rfl,ab⟩:=hr i hi;rw[padded_in hi];clear hr h3 h2 aa
  have ac:(i:Int) < (n:Int):=by omega
  go_in;go_wp2_with fail;go_ret;exact ⟨rfl,rfl⟩
 ·rw[padded_out hi];clear hr h3 h2 aa
  have ac:¬(i:Int) < (n:Int):=by omega
  go_in;go_wp2_with fail;go_ret;exact ⟨rfl,rfl⟩
theorem div9 (s:Nat):∃ q r:Nat,r+B9*q=s∧r < B9∧(s:Int) / 1000000000=(q:Int)∧Int.tdiv (s:Int) 1000000000=(q:Int)∧Int.tmod (s:Int) 1000000000=(r:Int)∧(s:Int) % 1000000000=(r:Int):=by
 refine ⟨s / 1000000000,s % 1000000000,by unfold B9;omega,by unfold B9;omega,by omega,?_,?_,by omega⟩
 ·rw[Int.tdiv_eq_ediv_of_nonneg (by omega)];omega
 ·rw[Int.tmod_eq_emod_of_nonneg (by omega)];omega
theorem own_b9 {o:Nat→Nat}{k y:Nat}(h:∀ j,o j < B9)(hy:y < B9):∀ j,upd o k y j < B9:=fun j=>upd_lt h hy j
def RAddPost (w:World)(m z:Nat)(e:Ending)(w':World):Prop:=∃ v k o,e=.returned v∧New w w'∧DgN w' v k o∧vf B9 o k=z∧k≤m
theorem radd_calls (va vb:Value)(m n:Nat)(f g:Nat→Nat)(w:World)(ha:DgN w va m f)(hb:DgN w vb n g)(hm:m≤100000)(hn:n≤100000):
  Calls prog 196 #[va,vb] w (RAddPost w (max m n+1) (vf B9 f m+vf B9 g n)):=by
 obtain ⟨M,hM⟩:∃ M,max m n=M:=⟨_,rfl⟩;rw[hM]
 have a5:M≤100000∧m≤M∧n≤M∧(M≤m∨M≤n):=by omega
 have aq:=fun W (hW:New w W) k=>rdigit_calls va m f k W (ha.new hW) (by omega);have ar:=fun W (hW:New w W) k=>rdigit_calls vb n g k W (hb.new hW) (by omega);have aw:=fun j=>padded_lt (n:=m) (g:=f) (B:=B9) (by decide) ha.lt j;have ax:=fun j=>padded_lt (n:=n) (g:=g) (B:=B9) (by decide) hb.lt j
 have au:∀ K,m≤K→vf B9 (padded f m) K=vf B9 f m:=fun K hK=>by
  rw[vf_pad (m:=m) hK fun i h1 _=>padded_out (by omega)];exact vf_congr fun i hi=>padded_in hi
 have av:∀ K,n≤K→vf B9 (padded g n) K=vf B9 g n:=fun K hK=>by
  rw[vf_pad (m:=n) hK fun i h1 _=>padded_out (by omega)];exact vf_congr fun i hi=>padded_in hi
 have ay:∀ j,m≤j→padded f m j=0:=fun j h=>padded_out (by omega);have az:∀ j,n≤j→padded g n j=0:=fun j h=>padded_out (by omega);obtain ⟨F,hF⟩:∃ F,padded f m=F:=⟨_,rfl⟩;obtain ⟨G,hG⟩:∃ G,padded g n=G:=⟨_,rfl⟩;simp only[hF,hG] at aq ar aw ax au av ay az;obtain ⟨aa,ca,⟨rfl, -⟩, -⟩:=ha;obtain ⟨ab,cb,⟨rfl, -⟩, -⟩:=hb;obtain ⟨i0,bv,bx,bz,b0⟩:=info_parts info_int;clear hF hG hM;refine zh9 ?_ aq ar aw ax au av a5 ay az;clear aq ar aw ax au av a5 ay az;intro ba bb bh bi bf bg ad bj bk;go_in;go_wp2_with fail;go_loopw [5,6,7] (fun v c i wr=>∃ (k cc:Nat) (o:Nat→Nat),k≤M+1∧cc≤1∧i=.int .i64 (k:Int)∧c=.int .i64 (cc:Int)∧Hid (k=M+1→cc=0)∧Hid (wr.ownsRow w.heap.size 3 1 v k (ds o k))∧Hid (New w wr)∧Hid (∀ j,o j < B9)∧Hid (vf B9 o k+cc*B9^k=vf B9 F k+vf B9 G k)) (fun _ _ i _=>M+1 - (intOf i).toNat)
 case atStart=>exact ⟨0,0,fun _=>0,Nat.zero_le _,Nat.zero_le _,rfl,rfl,hid (fun _=>rfl),hid (World.ownsRow_nil _ _ _ _),hid (New.refl _),hid (fun _=>Nat.zero_lt_succ _),hid rfl⟩
 case round=>
  obtain ⟨k,cc,o,hk,b8,rfl,rfl,HL,HO,HN,HB,HV⟩:=hrel;obtain ⟨t,ht⟩:∃ t:Bool,decide (k < m∨k < n∨0 < cc)=t:=⟨_,rfl⟩;have HT:=hid ht;clear ht;go_upto_region 4 with (fail)
  go_cut [22] (fun s wx=>s=.bool t∧wx=wr)
  case first=>
   by_cases h1:k < m
   ·have d1:decide ((k:Int) < (m:Int))=true:=decide_eq_true (by omega)
    have bq:(k:Int) < (m:Int):=by omega
    have ht:=HT.out;rw[decide_eq_true (.inl h1)] at ht;subst ht;go_wp2_with fail
    go_meet
    exact ⟨rfl,rfl⟩
   have d1:decide ((k:Int) < (m:Int))=false:=decide_eq_false (by omega)
   have bq:¬(k:Int) < (m:Int):=by omega
   by_cases h2:k < n
   ·have d2:decide ((k:Int) < (n:Int))=true:=decide_eq_true (by omega)
    have br:(k:Int) < (n:Int):=by omega
    have ht:=HT.out;rw[decide_eq_true (.inr (.inl h2))] at ht;subst ht;go_wp2_with fail
    go_meet
    exact ⟨rfl,rfl⟩
   have d2:decide ((k:Int) < (n:Int))=false:=decide_eq_false (by omega)
   have br:¬(k:Int) < (n:Int):=by omega
   by_cases h3:0 < cc
   ·have d3:decide ((0:Int) < (cc:Int))=true:=decide_eq_true (by omega)
    have bt:(0:Int) < (cc:Int):=by omega
    have ht:=HT.out;rw[decide_eq_true (.inr (.inr h3))] at ht;subst ht;go_wp2_with fail
    go_meet
    exact ⟨rfl,rfl⟩
   have d3:decide ((0:Int) < (cc:Int))=false:=decide_eq_false (by omega)
   have bt:¬(0:Int) < (cc:Int):=by omega
   have ht:=HT.out;rw[decide_eq_false (by omega)] at ht;subst ht;go_wp2_with fail
   go_meet
   exact ⟨rfl,rfl⟩
  case rest=>
   obtain ⟨rfl,a2⟩:=hcut;replace a2:=a2.symm;subst a2
   go_step
   cases t with
   | true=>
    have ae:=HT.out;rw[decide_eq_true_eq] at ae;obtain ⟨x,hx⟩:∃ x,F k=x:=⟨_,rfl⟩;obtain ⟨y,hy⟩:∃ y,G k=y:=⟨_,rfl⟩;have ak:=bh.out k;have al:=bi.out k;have ao:=ba.out wr HN.out k;have ap:=bb.out wr HN.out k;rw[hx] at ak ao;rw[hy] at al ap
    have b9:k≤M:=by
     have:=ad.out;have:=HL.out;rcases Nat.lt_or_ge k (M+1) with h | h
     ·omega
     ·have h4:=HL.out (by omega);omega
    have b3:(x:Int) < 1000000000:=by unfold B9 at ak;omega
    have b4:(y:Int) < 1000000000:=by unfold B9 at al;omega
    have b1:(cc:Int)≤1:=by omega
    have cd:(k:Int)≤200000:=by have:=ad.out;omega
    obtain ⟨s,hs⟩:∃ s,x+y+cc=s:=⟨_,rfl⟩
    have cf:(x:Int)+(y:Int)+(cc:Int)=(s:Int):=by omega
    obtain ⟨q,r,a0,aj,e1,e2,e3,e4⟩:=div9 s
    have bw:q≤1:=by unfold B9 at *;omega
    have ah:vf B9 (upd o k r) (k+1)+q*B9^(k+1)=vf B9 F (k+1)+vf B9 G (k+1):=by
     refine add_step (c:=cc) ?_ ?_
     ·rw[vf_upd_above (Nat.le_refl _)];exact HV
     ·rw[upd_same,hx,hy,a0,hs]
    have ag:k+1=M+1→q=0:=fun h=>by
     have h5:=ad.out;have h6:=bj.out k (by omega);have h7:=bk.out k (by omega);rw[hx] at h6;rw[hy] at h7;unfold B9 at a0;omega
    have a7:=own_b9 (k:=k) HB.out aj
    have ce:(s:Int) < 3000000000:=by omega
    have b2:(r:Int) < 1000000000:=by unfold B9 at aj;omega
    have an:k+1≤maxLen:=by have:=ad.out;unfold maxLen;omega
    have am:(k+1)*8≤140737488355328:=by have:=ad.out;omega
    clear hx hy hs a0 ae;refine zh10 ?_ ao ap ah ag a7 ak al aj an am;clear ao ap ah ag a7 ak al aj an am;intro a8 a9 bo bl be b6 b7 b5 a4 a3;go_wp2_with fail;refine a8.mono ?_;rintro e w1 ⟨rfl,ai⟩;rw[ai];clear ai;go_wp2_with fail;refine a9.mono ?_;rintro e w1 ⟨rfl,ai⟩;rw[ai];clear ai;go_wp2_with (at_builtin;refine wpList_append_own _ rfl _ _ 24 rfl w.heap.size 3 i0 (.int .i64 0) 1 8 underlying24 bv bx bz b0 rfl (by decide) _ _ _ rfl (HO.alloc _) ⟨wr.heap.size,0,none⟩ 1 1 [.int .i64 (r:Int)] rfl rfl (one_c1 _ _ _) (one_c2 _) a4 a3 (by have:=HN.out.size;rw[←size_alloc];omega) ?_);intro v' w9 ac af _;have a6:=grown_new HN.out HO.out af;rw[←ds_snoc] at ac;clear af;have bm:=hid a6;have bn:=hid ac;clear a6 ac;go_wp2_with fail;go_roundw
    case rel=>exact ⟨k+1,q,upd o k r,by omega,bw,by go_num,rfl,bl,bn,bm,be,bo⟩
    case measure=>simp[intOf];omega
   | false=>
    have a1:=HT.out;rw[decide_eq_false_iff_not] at a1;have hv:=HV.out
    have bu:cc=0:=by omega
    rw[bu,Nat.zero_mul,Nat.add_zero,bf.out k (by omega),bg.out k (by omega)]at hv;have hd:=own_dgn HO.out fun i _=>HB.out i;have bp:=hid hv;have bc:=hid hd;clear hv hd;go_wp2_with fail;go_ret;exact ⟨_,k,o,rfl,HN,bc,bp,hk⟩
def IsD (w:World)(v:Value)(z:Nat):Prop:=∃ n f,Dg w v n f∧vf B9 f n=z
theorem IsD.new {w w':World}{v:Value}{z:Nat}(h:IsD w v z)(hn:New w w'):IsD w' v z:=by
 obtain ⟨n,f,h1,h2⟩:=h;exact ⟨n,f,h1.new hn,h2⟩
def RetD (w:World)(z:Nat)(e:Ending)(w':World):Prop:=∃ v,e=.returned v∧New w w'∧IsD w' v z
theorem rsub_calls (va vb:Value)(x y:Nat)(m:Nat)(f:Nat→Nat)(w:World)(ha:Dg w va m f)(hfx:vf B9 f m=x)(hb:IsD w vb y)(hm:m≤100000)(hle:y≤x):
  Calls prog 198 #[va,vb] w (RetD w (x - y)):=by
 obtain ⟨n,g,hb,a5⟩:=hb
 have a7:n≤m:=by
  rcases Nat.lt_or_ge m n with h | h
  ·have:=ha.canon.lt_of_len hb.canon (by decide) h;omega
  ·exact h
 have a4:=ha.1.lt;have ay:=fun W (hW:New w W) k=>rdigit_calls vb n g k W (hb.1.new hW) (by omega);have a0:=fun j=>padded_lt (n:=n) (g:=g) (B:=B9) (by decide) hb.1.lt j
 have az:vf B9 (padded g n) m=y:=by
  rw[vf_pad (m:=n) a7 fun i h1 _=>padded_out (by omega),←a5];exact vf_congr fun i hi=>padded_in hi
 obtain ⟨G,hG⟩:∃ G,padded g n=G:=⟨_,rfl⟩;simp only[hG] at ay a0 az;obtain ⟨⟨aa,ca,⟨rfl, -⟩,a8, -⟩, -⟩:=ha;obtain ⟨⟨ab,cb,⟨rfl, -⟩, -⟩, -⟩:=hb;obtain ⟨i0,a6,be,bf,bg⟩:=info_parts info_int
 have b2:(m:Int)≤100000:=by omega
 clear hG a5 a7;refine zh7 ?_ ay a0 az hfx a4 a8 hle;clear ay a0 az hfx a4 a8 hle;intro bj bl bk bn bm bp bo;go_in;go_wp2_with fail;go_loopw [5,6,7] (fun v c i wr=>∃ (k bb:Nat) (o:Nat→Nat),k≤m∧bb≤1∧i=.int .i64 (k:Int)∧c=.int .i64 (bb:Int)∧Hid (wr.ownsRow w.heap.size 3 1 v k (ds o k))∧Hid (New w wr)∧Hid (∀ j,o j < B9)∧Hid (vf B9 o k+vf B9 G k=vf B9 f k+bb*B9^k)) (fun _ _ i _=>m - (intOf i).toNat)
 case atStart=>exact ⟨0,0,fun _=>0,Nat.zero_le _,Nat.zero_le _,rfl,rfl,hid (World.ownsRow_nil _ _ _ _),hid (New.refl _),hid (fun _=>Nat.zero_lt_succ _),hid rfl⟩
 case round=>
  obtain ⟨k,bb,o,hk,b0,rfl,rfl,HO,HN,HB,HV⟩:=hrel;by_cases hlt:k < m
  ·obtain ⟨b',bz,rfl,af⟩:=bp.out k hlt;replace af:=HN.cell af;obtain ⟨x',hx⟩:∃ x,f k=x:=⟨_,rfl⟩;obtain ⟨y',hy⟩:∃ y,G k=y:=⟨_,rfl⟩;have aj:=bm.out k hlt;have ak:=bl.out k;have ax:=fun W hW=>bj.out W hW k;rw[hx] at aj af;rw[hy] at ak;simp only[hy] at ax
   have bw:(x':Int) < 1000000000:=by unfold B9 at aj;omega
   have bx:(y':Int) < 1000000000:=by unfold B9 at ak;omega
   have bv:(bb:Int)≤1:=by omega
   have b1:(k:Int) < (m:Int):=by omega
   obtain ⟨s,hs⟩:∃ s:Int,(x':Int) - (y':Int) - (bb:Int)=s:=⟨_,rfl⟩
   have b4: -2000000000 < s:=by omega
   have b5:s < 1000000000:=by omega
   have ao:k+1≤maxLen:=by unfold maxLen;omega
   have an:(k+1)*8≤140737488355328:=by omega
   refine zh3 ?_ ax ao an;clear ax ao an;intro bh am al;go_wp2_with fail
   go_quiet ((go_at_call 240;exact Calls.quiet_of_same (bh _ (HN.drewN _))))
   replace HO:Hid ((wr.drewN nq).ownsRow w.heap.size 3 1 u5 k (ds o k)):=hid HO.out;have aw:=HN.out.drewN nq;obtain ⟨w1,ba⟩:∃ x,wr.drewN nq=x:=⟨_,rfl⟩;rw[ba] at HO aw⊢;clear ba af HN;have HN:=hid aw;clear aw;by_cases hneg:s < 0
   ·obtain ⟨r,b3⟩:∃ r:Nat,s+1000000000=(r:Int):=⟨(s+1000000000).toNat,by omega⟩
    have ae:vf B9 (upd o k r) (k+1)+vf B9 G (k+1)=vf B9 f (k+1)+1*B9^(k+1):=by
     refine sub_step (c:=bb) ?_ ?_
     ·rw[vf_upd_above (Nat.le_refl _)];exact HV
     ·rw[upd_same,hx,hy];unfold B9;omega
    have ai:r < B9:=by unfold B9 at *;omega
    have ah:=own_b9 (k:=k) HB.out ai;clear hx hy aj ak ai;have av:=hid ae;have aq:=hid ah;clear ae ah;go_wp2_with (at_builtin;refine wpList_append_own _ rfl _ _ 24 rfl w.heap.size 3 i0 (.int .i64 0) 1 8 underlying24 a6 be bf bg rfl (by decide) _ _ _ rfl (HO.alloc _) ⟨w1.heap.size,0,none⟩ 1 1 [.int .i64 (r:Int)] rfl rfl (one_c1 _ _ _) (one_c2 _) am al (by have:=HN.out.size;rw[←size_alloc];omega) ?_);intro v' w9 ac ad _;have ag:=grown_new HN.out HO.out ad;rw[←ds_snoc] at ac;clear ad;have ar:=hid ag;have au:=hid ac;clear ag ac;go_wp2_with fail;go_roundw
    case rel=>exact ⟨k+1,1,upd o k r,by omega,by decide,by go_num,rfl,au,ar,aq,av⟩
    case measure=>simp[intOf];omega
   ·obtain ⟨r,rfl⟩:∃ r:Nat,s=(r:Int):=⟨s.toNat,by omega⟩
    have ae:vf B9 (upd o k r) (k+1)+vf B9 G (k+1)=vf B9 f (k+1)+0*B9^(k+1):=by
     refine sub_step (c:=bb) ?_ ?_
     ·rw[vf_upd_above (Nat.le_refl _)];exact HV
     ·rw[upd_same,hx,hy];unfold B9;omega
    have ai:r < B9:=by unfold B9 at *;omega
    have ah:=own_b9 (k:=k) HB.out ai;clear hx hy aj ak ai;have av:=hid ae;have aq:=hid ah;clear ae ah;go_wp2_with (at_builtin;refine wpList_append_own _ rfl _ _ 24 rfl w.heap.size 3 i0 (.int .i64 0) 1 8 underlying24 a6 be bf bg rfl (by decide) _ _ _ rfl (HO.alloc _) ⟨w1.heap.size,0,none⟩ 1 1 [.int .i64 (r:Int)] rfl rfl (one_c1 _ _ _) (one_c2 _) am al (by have:=HN.out.size;rw[←size_alloc];omega) ?_);intro v' w9 ac ad _;have ag:=grown_new HN.out HO.out ad;rw[←ds_snoc] at ac;clear ad;have ar:=hid ag;have au:=hid ac;clear ag ac;go_wp2_with fail;go_roundw
    case rel=>exact ⟨k+1,0,upd o k r,by omega,by decide,by go_num,rfl,au,ar,aq,av⟩
    case measure=>simp[intOf];omega
  ·obtain rfl:k=m:=by omega
   have hv:=HV.out;have bu:vf B9 o k < B9^k:=vf_lt fun i _=>HB.out i;rw[bk.out,bn.out] at hv
   have bt:bb=0:=by
    rcases Nat.lt_or_ge bb 1 with h | h
    ·omega
    ·obtain rfl:bb=1:=by omega
     have:=bo.out;rw[Nat.one_mul] at hv;generalize B9^k=P at *;omega
   subst bt
   have ap:vf B9 o k=x - y:=by omega
   have hd:=own_dgn HO.out fun i _=>HB.out i;have a9:=fun W (hW:New wr W)=>rtrim_calls u5 k o W (hd.new hW);clear bu hv hd;have a2:=hid ap;have bq:=hid a9;clear ap a9;go_wp2_with fail;refine (bq _ (New.refl _)).mono ?_;rintro e w9 ⟨bc,v9,n9,rfl, -,a3,a1⟩;rw[←bc];rw[a2.out] at a1;clear bc;have bi:=hid a3;have br:=hid a1;clear a3 a1;go_wp2_with fail;go_ret;exact ⟨_,rfl,HN,n9,o,bi,br⟩
theorem mul_b9 {x y p c z s:Nat}(hx:x < B9)(hy:y < B9)(hp:p < B9)(hc:c < B9)(hz:x*y=z)(hs:p+z+c=s):z≤999999998000000001∧s < B9*B9:=by
 have h:=Nat.mul_le_mul (Nat.le_pred_of_lt hx) (Nat.le_pred_of_lt hy);unfold B9 at *;simp only[Nat.pred_eq_sub_one,Nat.reduceSub,Nat.reduceMul] at h;omega
theorem rmul_any (a b:Option Addr)(m n ca cb:Nat)(f g:Nat→Nat)(w:World)(hm:m≤1000000)(hn:n≤1000000)(ha:Rd w a .i64 m f)(hb:Rd w b .i64 n g)(hfl:∀ i,i < m→f i < B9)(hgl:∀ i,i < n→g i < B9):
  Calls prog 189 #[.slice a m ca,.slice b n cb] w (RetD w (vf B9 f m*vf B9 g n)):=by
 have ax:=fun W=>run_make_row' (P:=prog) 24 3 (.int .i64 0) 8 underlying24 info_int rfl .i64 .i64 (m+n) (by omega) (by omega) W;rw[show ((m+n:Nat):Int)=(m:Int)+n by omega] at ax;go_in;go_wp2;clear ax;obtain ⟨B,hB⟩:∃ B,B=w.heap.size:=⟨_,rfl⟩;have ae:=Row.made w .i64 (m+n) 3;have ah:New w (w.alloc (.cells (madeCells #[.int .i64 0] (m+n)) 3)):=(New.refl w).alloc _;rw[←hB] at ae⊢;generalize w.alloc (.cells (madeCells #[.int .i64 0] (m+n)) 3)=w0 at ae ah⊢;replace hB:=hid hB;go_loopw [6] (fun i wr=>∃ (k:Nat) (o:Nat→Nat),k≤m∧i=.int .i64 k∧Row wr B 3 .i64 (m+n) o∧(∀ j,o j < B9)∧(∀ j,k+n≤j→o j=0)∧vf B9 o (m+n)=vf B9 f k*vf B9 g n∧New w wr) (fun i _=>m - (intOf i).toNat)
 case atStart=>exact ⟨0,fun _=>0,Nat.zero_le _,rfl,ae,fun _=>Nat.zero_lt_succ _,fun _ _=>rfl,by rw[vf_zeros (fun _ _=>rfl),vf_zero,Nat.zero_mul],ah⟩
 case round=>
  obtain ⟨k,o,hk,rfl,ab,ay,hz,ag,aa⟩:=hrel;refine zh3 ?_ ag hz ay;clear ag ae ah hz ay;intro HV HZ HO;by_cases hkm:k < m
  ·obtain ⟨b1,o1,rfl,h1⟩:=(ha.new aa) k hkm;have am:=hfl k hkm;go_wp2;obtain ⟨wo,rfl⟩:∃ wo:World,wo=wr:=⟨_,rfl⟩;go_loopw [7,8] (fun c i wr=>∃ (j cc:Nat) (p:Nat→Nat),j≤n∧i=.int .i64 j∧c=.int .i64 cc∧cc < B9∧Row wr B 3 .i64 (m+n) p∧(∀ j,p j < B9)∧(∀ j,k+n≤j→p j=0)∧vf B9 p (m+n)+cc*B9^(k+j)=vf B9 f k*vf B9 g n+f k*vf B9 g j*B9^k∧New w wr) (fun _ i _=>n - (intOf i).toNat)
   case atStart=>exact ⟨0,0,o,Nat.zero_le _,rfl,rfl,by decide,ab,HO.out,HZ.out,by rw[HV.out];simp[vf_zero],aa⟩
   case round=>
    clear ab aa HO HZ HV;obtain ⟨j,cc,p,hj,rfl,rfl,af,ab,ap,az,ag,aa⟩:=hrel;refine zh3 ?_ ag ap az;clear ag az;intro HV HP HZ;by_cases hjn:j < n
    ·obtain ⟨b2,o2,rfl,h2⟩:=(hb.new aa) j hjn;have al:=(ha.new aa) k hkm;obtain ⟨b3,o3,e3,al⟩:=al;injection e3 with e3;injection e3 with e3 e4;subst e3 e4;have an:=hgl j hjn;have ao:=ap (k+j);clear ha hb hgl hfl ap h1;have ac:=ab.cell (i:=k+j) (by omega);have aj:=ab.frozen (k+j);obtain ⟨x,hx⟩:∃ x,f k=x:=⟨_,rfl⟩;obtain ⟨y,hy⟩:∃ y,g j=y:=⟨_,rfl⟩;obtain ⟨u,hu⟩:∃ u,p (k+j)=u:=⟨_,rfl⟩;rw[hx] at am al;rw[hy] at an h2;rw[hu] at ao ac;obtain ⟨z,hz⟩:∃ z,x*y=z:=⟨_,rfl⟩;obtain ⟨s,hs⟩:∃ s,u+z+cc=s:=⟨_,rfl⟩;obtain ⟨a3,aq⟩:=mul_b9 am an ao af hz hs;obtain ⟨q,r,a0,au,e1,e2,e3,e4⟩:=div9 s
     have ar:q < B9:=by
      rcases Nat.lt_or_ge q B9 with h | h
      ·exact h
      ·have:=Nat.mul_le_mul_left B9 h;omega
     have ba:(x:Int)*(y:Int)=(z:Int):=by rw[←hz,Int.natCast_mul]
     have a8:(u:Int)+(z:Int)+(cc:Int)=(s:Int):=by omega
     have b1:(z:Int)≤999999998000000001:=by omega
     have b2:(s:Int) < 1000000000000000000:=by unfold B9 at aq;omega
     have b3:(u:Int) < 1000000000:=by unfold B9 at ao;omega
     have b4:(cc:Int) < 1000000000:=by unfold B9 at af;omega
     have b5:(x:Int) < 1000000000:=by unfold B9 at am;omega
     have b6:(y:Int) < 1000000000:=by unfold B9 at an;omega
     have b7:(r:Int) < 1000000000:=by unfold B9 at au;omega
     have b8:(q:Int) < 1000000000:=by unfold B9 at ar;omega
     have a1:r+B9*q=p (k+j)+f k*g j+cc:=by rw[hu,hx,hy,hz,hs,a0]
     clear am an ao hx hy hu hz hs a0 aq a3;refine zh6 ?_ a1 au ar ab aa af;clear a1 au ar ab aa af;intro a6 a5 a4 ad ai a7;go_wp2_with fail
     go_quiet (fail)
     replace ad:=hid (ad.drewN nq);replace ai:=hid (ai.drewN nq);obtain ⟨w9,ak⟩:∃ x,wr.drewN nq=x:=⟨_,rfl⟩;rw[ak] at ad ai⊢;clear ak ac aj h2 al;have ac:=ad.out.cell (i:=k+j) (by omega);have aj:=ad.out.frozen (k+j);go_wp2_with fail;clear ac aj;go_roundw
     case rel=>
      refine ⟨j+1,q,upd p (k+j) r,by omega,by go_num,rfl,a4.out,ad.out.set _ _,upd_lt HP.out a5.out,fun i aw=>?_,?_,ai.out.setCell (Nat.le_of_eq hB.out.symm) _⟩
      ·rw[upd_other _ _ (by omega)];exact HZ i aw
      ·exact mul_step (by omega) HV a6
     case measure=>simp[intOf];omega
    ·obtain rfl:j=n:=by omega
     have ac:=ab.cell (i:=k+j) (by omega);have aj:=ab.frozen (k+j);have a2:=HZ.out (k+j) (by omega);rw[a2] at ac
     have b4:(cc:Int) < 1000000000:=by unfold B9 at af;omega
     have a9:((0:Nat):Int)+(cc:Int)=(cc:Int):=by omega
     clear ap ha hb hfl hgl a2;replace af:=hid af;go_wp2_with fail;clear ac aj h1;go_roundw
     case rel=>
      refine ⟨k+1,upd p (k+j) cc,by omega,by go_num,ab.set _ _,upd_lt HP.out af.out,fun i aw=>?_,?_,aa.setCell (Nat.le_of_eq hB.out.symm) _⟩
      ·rw[upd_other _ _ (by omega)];exact HZ i (by omega)
      ·have e1:=HV.out;have e2:=vf_upd (B:=B9) (f:=p) (v:=cc) (show k+j < m+j by omega);rw[HZ.out (k+j) (by omega),Nat.zero_mul] at e2
       have e3:f k*vf B9 g j*B9^k=f k*B9^k*vf B9 g j:=by rw[Nat.mul_assoc,Nat.mul_comm (vf B9 g j),←Nat.mul_assoc]
       rw[vf_succ,Nat.add_mul,←e3];omega
     case measure=>simp[intOf];omega
  ·obtain rfl:k=m:=by omega
   have hd:DgN wr (.slice (some ⟨B,0,none⟩) (k+n) (k+n)) (k+n) o:=⟨_,_,⟨rfl,Nat.le_refl _,by unfold maxLen;omega,fun h=>by cases h⟩,ab.rd,fun i _=>HO.out i⟩;have av:=rtrim_calls _ (k+n) o wr hd;clear ab hd;replace av:=hid av;replace aa:=hid aa;go_wp2_with fail;refine av.mono ?_;rintro e w' ⟨ak,v,n',rfl, -,hw,hv⟩;rw[←ak];rw[HV.out] at hv;clear ak;replace hv:=hid hv;replace hw:=hid hw;go_wp2_with fail;go_ret;exact ⟨v,rfl,aa,n',o,hw,hv⟩
theorem len_le {f:Nat→Nat}{n x K:Nat}(h:Canon B9 f n)(hv:vf B9 f n=x)(hx:x < B9^K):n≤K:=by
 rcases Nat.eq_zero_or_pos n with h0 | h0
 ·omega
 ·have h1:=h.ge (by omega);rw[hv] at h1;rcases Nat.lt_or_ge K n with h2 | h2
  ·exfalso;have h3:B9^K≤B9^(n - 1):=Nat.pow_le_pow_right (by decide) (by omega);omega
  ·exact h2
theorem rmul_calls (K:Nat)(va vb:Value)(x y:Nat)(w:World)(ha:IsD w va x)(hb:IsD w vb y)(hK:K≤100000)(hx:x < B9^K)(hy:y < B9^K):
  Calls prog 189 #[va,vb] w (RetD w (x*y)):=by
 obtain ⟨m,f,hf,aa⟩:=ha;obtain ⟨n,g,hg,ab⟩:=hb;have hm:=len_le hf.canon aa hx;have hn:=len_le hg.canon ab hy;have ac:=hf.1.lt;have ad:=hg.1.lt;obtain ⟨⟨a,ca,⟨rfl, -⟩,ae, -⟩, -⟩:=hf;obtain ⟨⟨b,cb,⟨rfl, -⟩,af, -⟩, -⟩:=hg;have:=rmul_any a b m n ca cb f g w (by omega) (by omega) ae af ac ad;rw[aa,ab] at this;exact this
def RDivPost (w:World)(q r:Nat)(e:Ending)(w':World):Prop:=∃ v,e=.returned (.tuple #[v,.int .i64 (r:Nat)])∧New w w'∧IsD w' v q
theorem rdiv_digit {q f:Nat→Nat}{kk m y rr r' d:Nat}(h0:kk≠0)(hm:kk≤m)(h:vf B9 (fun i=>q (kk+i)) (m - kk)*y+rr=vf B9 (fun i=>f (kk+i)) (m - kk))(hs:d*y+r'=rr*B9+f (kk - 1)):
  vf B9 (fun i=>upd q (kk - 1) d (kk - 1+i)) (m - (kk - 1))*y+r'=vf B9 (fun i=>f (kk - 1+i)) (m - (kk - 1)):=by
 obtain ⟨i,rfl⟩:∃ i,kk=i+1:=⟨kk - 1,by omega⟩;simp only[Nat.add_sub_cancel] at hs⊢;refine div1_step (q:=upd q i d) (by omega) (r:=rr) ?_ ?_
 ·rw[←h];congr 2;exact vf_congr fun x hx=>upd_other _ _ (by omega)
 ·rw[upd_same];exact hs
theorem divd (s d:Nat):(s:Int) / (d:Int)=((s / d:Nat):Int)∧Int.tdiv (s:Int) (d:Int)=((s / d:Nat):Int)∧Int.tmod (s:Int) (d:Int)=((s % d:Nat):Int)∧(s:Int) % (d:Int)=((s % d:Nat):Int):=by
 refine ⟨by omega,?_,?_,by omega⟩
 ·rw[Int.tdiv_eq_ediv_of_nonneg (by omega)];omega
 ·rw[Int.tmod_eq_emod_of_nonneg (by omega)];omega
theorem rdivd_any (a:Option Addr)(m ca d:Nat)(f:Nat→Nat)(w:World)(hm:m≤1000000)(ha:Rd w a .i64 m f)(hfl:∀ i,i < m→f i < B9)(ab:0 < d)(hd:d < B9):
  Calls prog 219 #[.slice a m ca,.int .i64 (d:Int)] w (RDivPost w (vf B9 f m / d) (vf B9 f m % d)):=by
 have a9:=fun W=>run_make_row' (P:=prog) 24 3 (.int .i64 0) 8 underlying24 info_int rfl .i64 .i64 m (by omega) (by omega) W
 have an:(d:Int) < 1000000000:=by unfold B9 at hd;omega
 have ah:(0:Int) < (d:Int):=by omega
 have bb:((d:Int)==0)=false:=by simp;omega
 have a7:(d:Int)≠0:=by omega
 refine zh5 ?_ hfl hd ab ah an;clear hfl hd ab ah an;intro a2 HD am aq a1;go_in;go_wp2_with fail;clear a9;obtain ⟨B,hB⟩:∃ B,B=w.heap.size:=⟨_,rfl⟩;have ac:=Row.made w .i64 m 3;have af:New w (w.alloc (.cells (madeCells #[.int .i64 0] m) 3)):=(New.refl w).alloc _;rw[←hB] at ac⊢;generalize w.alloc (.cells (madeCells #[.int .i64 0] m) 3)=w2 at ac af⊢;replace hB:=hid hB
 go_loopw [7,8] (fun sr si wx=>∃ (kk rr:Nat) (q:Nat→Nat),kk≤m∧si=.int .i64 ((kk:Int) - 1)∧sr=.int .i64 rr∧rr < d∧New w wx∧Row wx B 3 .i64 m q∧(∀ i,q i < B9)∧
  vf B9 (fun i=>q (kk+i)) (m - kk)*d+rr=vf B9 (fun i=>f (kk+i)) (m - kk)) (fun _ si _=>(intOf si+1).toNat)
 case atStart=>exact ⟨m,0,fun _=>0,Nat.le_refl _,rfl,rfl,am,af,ac,fun _=>Nat.zero_lt_succ _,by rw[Nat.sub_self,vf_zero,vf_zero,Nat.zero_mul]⟩
 case round=>
  clear ac af;obtain ⟨kk,rr,q,a8,rfl,rfl,ai,ad,aa,ak,ae⟩:=hrel;replace ae:=hid ae;replace ak:=hid ak;by_cases hk0:kk=0
  ·subst hk0;simp only[Nat.zero_add,Nat.sub_zero] at ae;have av:DgN wr (.slice (some ⟨B,0,none⟩) m m) m q:=⟨_,_,⟨rfl,Nat.le_refl _,by unfold maxLen;omega,fun h=>by cases h⟩,aa.rd,fun i _=>ak.out i⟩;have az:=rtrim_calls _ m q wr av;have ab:=am.out
   have ax:vf B9 q m=vf B9 f m / d∧rr=vf B9 f m % d:=by
    have h1:=ae.out;have e:vf B9 (fun i=>q i) m=vf B9 q m:=rfl;have e':vf B9 (fun i=>f i) m=vf B9 f m:=rfl;rw[e,e'] at h1;constructor
    ·rw[←h1,Nat.mul_comm,Nat.mul_add_div ab,Nat.div_eq_of_lt ai,Nat.add_zero]
    ·rw[←h1,Nat.mul_comm,Nat.mul_add_mod,Nat.mod_eq_of_lt ai]
   clear aa av ab;refine zh3 ?_ az ad ax;clear az ad ax;intro a6 ag ar;go_wp2_with fail;refine a6.mono ?_;rintro e w' ⟨a0,v,n',rfl, -,hw,hv⟩;rw[←a0];rw[ar.out.1] at hv;clear a0;replace hv:=hid hv;replace hw:=hid hw;go_wp2_with fail;go_ret2;have ba:=ar.out.2;rw[←ba];exact ⟨v,rfl,ag,n',q,hw,hv⟩
  ·have bf:(1:Int)≤(kk:Int):=by omega
   go_upto_region 6 with (fail);have ab:=am.out;have an:=a1.out;have ah:=aq.out;obtain ⟨b1,o1,rfl,e1⟩:=(ha.new ad) (kk - 1) (by omega);have ao:=a2.out (kk - 1) (by omega);have f1:=aa.cell (i:=kk - 1) (by omega);have ff:=aa.frozen (kk - 1);obtain ⟨x,hx⟩:∃ x,f (kk - 1)=x:=⟨_,rfl⟩;rw[hx] at e1 ao;obtain ⟨s,hs⟩:∃ s,rr*B9+x=s:=⟨_,rfl⟩;obtain ⟨z,hz⟩:∃ z,rr*B9=z:=⟨_,rfl⟩
   have bh:(rr:Int)*1000000000=(z:Int):=by unfold B9 at hz;omega
   have bg:(z:Int)+(x:Int)=(s:Int):=by omega
   have b0:(z:Int) < 1000000000000000000:=by unfold B9 at hz;omega
   obtain ⟨g1,g2,g3,g4⟩:=divd s d
   have aj:s / d < B9:=by
    rw[Nat.div_lt_iff_lt_mul ab,←hs];have:=Nat.mul_le_mul_right B9 ai;rw[Nat.succ_eq_add_one,Nat.add_mul,Nat.one_mul,Nat.mul_comm d] at this;omega
   have ap:s % d < d:=Nat.mod_lt _ ab
   have al:s / d*d+s % d=rr*B9+f (kk - 1):=by rw[hx,hs,Nat.mul_comm];exact Nat.div_add_mod s d
   obtain ⟨qq,aw⟩:∃ z,s / d=z:=⟨_,rfl⟩;obtain ⟨r2,ay⟩:∃ z,s % d=z:=⟨_,rfl⟩;rw[aw] at g1 g2 aj al;rw[ay] at g3 g4 ap al
   have be:(rr:Int) < 1000000000:=by omega
   have b2:(x:Int) < 1000000000:=by unfold B9 at ao;omega
   have b3:(s:Int) < 1000000000000000000:=by omega
   have b4:(qq:Int) < 1000000000:=by unfold B9 at aj;omega
   have b5:(r2:Int) < 1000000000:=by omega
   clear hx hs aw ay ao ha hz ab;refine zh6 ?_ al aj ap ad aa ai;clear al aj ap ad aa ai;intro a5 a3 a4 ag au bc;go_wp2_with fail;clear e1 f1 ff;go_roundw
   case rel=>
    exact ⟨kk - 1,r2,upd q (kk - 1) qq,by omega,by go_num,rfl,a4.out,ag.out.setCell (by rw[←hB.out];exact Nat.le_refl _) _,au.out.set _ _,upd_lt ak.out a3.out,rdiv_digit hk0 a8 ae.out a5.out⟩
   case measure=>simp[intOf];omega
theorem rdivd_calls (K:Nat)(va:Value)(x d:Nat)(w:World)(ha:IsD w va x)(hK:K≤100000)(hx:x < B9^K)(hd0:0 < d)(hd:d < B9):
  Calls prog 219 #[va,.int .i64 (d:Int)] w (RDivPost w (x / d) (x % d)):=by
 obtain ⟨m,f,hf,aa⟩:=ha;have hm:=len_le hf.canon aa hx;have ab:=hf.1.lt;obtain ⟨⟨a,ca,⟨rfl, -⟩,ac, -⟩, -⟩:=hf;have:=rdivd_any a m ca d f w (by omega) ac ab hd0 hd;rw[aa] at this;exact this
theorem New.undr {a b:World}(h:New a.drew b):New a b:=((New.refl a).drew).trans h
theorem Rd.far {w:World}{a:Option Addr}{n B:Nat}{f:Nat→Nat}(h:Rd w a .i64 n f)(hb:∀ i x,w.cell? ⟨B,i,none⟩≠some (.int .i64 x))(u u':Value):Rd ((w.setCell ⟨B,0,none⟩ u).setCell ⟨B,1,none⟩ u') a .i64 n f:=fun i hi=>by
 obtain ⟨b,ab,e,hc⟩:=h i hi
 have aa:b≠B:=by
  rintro rfl;exact hb _ _ hc
 refine ⟨b,ab,e,?_⟩;rw[World.cell?_setCell_far _ _ _ _ (by exact Ne.symm aa),World.cell?_setCell_far _ _ _ _ (by exact Ne.symm aa)];exact hc
theorem Box.noInt {w:World}{B:Nat}{t:TypeId}{b:Bool}{a:Option Addr}{l c:Nat}(h:Box w B t #[.bool b,.slice a l c]):∀ i x,w.cell? ⟨B,i,none⟩≠some (.int .i64 x):=fun i x e=>by
 rw[h.cell i]at e
 match i,e with
 | 0,e=>simp at e
 | 1,e=>simp at e
 | i+2,e=>simp at e
def IsN (w:World)(v:Value)(z:Nat):Prop:=∃ n f,DgN w v n f∧vf B9 f n=z
theorem IsN.new {w w':World}{v:Value}{z:Nat}(h:IsN w v z)(hn:New w w'):IsN w' v z:=by
 obtain ⟨n,f,h1,h2⟩:=h;exact ⟨n,f,h1.new hn,h2⟩
theorem IsD.n {w:World}{v:Value}{z:Nat}(h:IsD w v z):IsN w v z:=by
 obtain ⟨n,f,h1,h2⟩:=h;exact ⟨n,f,h1.1,h2⟩
theorem IsN.shape {w:World}{v:Value}{z:Nat}(h:IsN w v z):∃ a n c,v=.slice a n c:=by
 obtain ⟨n,f,⟨a,aa,⟨rfl, -⟩, -⟩, -⟩:=h;exact ⟨_,_,_,rfl⟩
theorem IsD.shape {w:World}{v:Value}{z:Nat}(h:IsD w v z):∃ a n c,v=.slice a n c:=h.n.shape
def RetN (w:World)(z:Nat)(e:Ending)(w':World):Prop:=∃ v,e=.returned v∧New w w'∧IsN w' v z
theorem RetD.n {w w':World}{z:Nat}{e:Ending}(h:RetD w z e w'):RetN w z e w':=by
 obtain ⟨v,h1,h2,h3⟩:=h;exact ⟨v,h1,h2,h3.n⟩
theorem IsD.far {w:World}{v:Value}{z B:Nat}(h:IsD w v z)(hb:∀ i x,w.cell? ⟨B,i,none⟩≠some (.int .i64 x))(u u':Value):IsD ((w.setCell ⟨B,0,none⟩ u).setCell ⟨B,1,none⟩ u') v z:=by
 obtain ⟨n,f,⟨⟨a,aa,h1,h2,h3⟩,h4⟩,h5⟩:=h;exact ⟨n,f,⟨⟨a,aa,h1,h2.far hb _ _,h3⟩,h4⟩,h5⟩
def IsZ (w:World)(v:Value)(z:Int):Prop:=∃ vw,v=.agg #[.bool (decide (z < 0)),vw]∧IsD w vw z.natAbs
theorem IsZ.new {w w':World}{v:Value}{z:Int}(h:IsZ w v z)(hn:New w w'):IsZ w' v z:=by
 obtain ⟨vw,h1,h2⟩:=h;exact ⟨vw,h1,h2.new hn⟩
theorem IsZ.far {w:World}{v:Value}{z:Int}{B:Nat}(h:IsZ w v z)(hb:∀ i x,w.cell? ⟨B,i,none⟩≠some (.int .i64 x))(u u':Value):IsZ ((w.setCell ⟨B,0,none⟩ u).setCell ⟨B,1,none⟩ u') v z:=by
 obtain ⟨vw,h1,h2⟩:=h;exact ⟨vw,h1,h2.far hb _ _⟩
theorem IsZ.mk' {w:World}{vw:Value}{z:Int}{b:Bool}{m:Nat}(hb:b=decide (z < 0))(hm:z.natAbs=m)(h:IsD w vw m):IsZ w (.agg #[.bool b,vw]) z:=⟨vw,by rw[hb],by rw[hm];exact h⟩
theorem IsZ.shape {w:World}{v:Value}{z:Int}(h:IsZ w v z):∃ b a n c,v=.agg #[.bool b,.slice a n c]:=by
 obtain ⟨vw,rfl,h2⟩:=h;obtain ⟨a,n,c,rfl⟩:=h2.shape;exact ⟨_,_,_,_,rfl⟩
theorem IsZ.parts {w:World}{b:Bool}{a:Option Addr}{n c:Nat}{z:Int}(h:IsZ w (.agg #[.bool b,.slice a n c]) z):b=decide (z < 0)∧IsD w (.slice a n c) z.natAbs:=by
 obtain ⟨vw,h1,h2⟩:=h;injection h1 with h1;simp only[Array.mk.injEq,List.cons.injEq,Value.bool.injEq,and_true] at h1;obtain ⟨h1,rfl⟩:=h1;exact ⟨h1,h2⟩
def RetZ (w:World)(z:Int)(e:Ending)(w':World):Prop:=∃ v,e=.returned v∧New w w'∧IsZ w' v z
theorem z_ret {w w6:World}{z:Int}{B:Nat}{t:TypeId}{b0 b:Bool}{a0 a:Option Addr}{l0 c0 l c:Nat}(hN:New w w6)(bp:Box w6 B t #[.bool b0,.slice a0 l0 c0])(hB:w.heap.size≤B)(h:IsZ w6 (.agg #[.bool b,.slice a l c]) z):
  RetZ w z (.returned (.agg #[.bool b,.slice a l c])) ((w6.setCell ⟨B,0,none⟩ (.bool b)).setCell ⟨B,1,none⟩ (.slice a l c)):=⟨_,rfl,(hN.setCell hB _).setCell hB _,h.far bp.noInt _ _⟩
def sgnd (neg:Bool)(m:Nat):Int:=if neg then -(m:Int) else m
theorem sgnd_abs (neg:Bool)(m:Nat):(sgnd neg m).natAbs=m:=by unfold sgnd;split <;> omega
theorem sgnd_lt (neg:Bool)(m:Nat):decide (sgnd neg m < 0)=(neg && decide (0 < m)):=by
 unfold sgnd
 cases neg with
 | true=>simp
 | false=>simp
theorem sgnd_of (z:Int):sgnd (decide (z < 0)) z.natAbs=z:=by
 unfold sgnd;by_cases h:z < 0
 ·rw[if_pos (by simpa using h)];omega
 ·rw[if_neg (by simpa using h)];omega
theorem rsigned_calls (neg:Bool)(v:Value)(m:Nat)(w:World)(h:IsN w v m):
  Calls prog 188 #[.bool neg,v] w (RetZ w (sgnd neg m)):=by
 obtain ⟨n,f,h,hm⟩:=h;have ac:=fun W (hW:New w W)=>rtrim_calls v n f W (h.new hW);rw[hm] at ac;obtain ⟨a,ag,⟨rfl, -⟩, -⟩:=h;clear hm;replace ac:=hid ac;go_in;go_wp2_with fail;obtain ⟨BP,HN⟩:=lay1 w 124 #[.bool false,.slice none 0 0];refine (ac _ HN).mono ?_;rintro e w1 ⟨ae,v1,n1,rfl, -,hd,hv⟩;rw[←ae];clear ae;have hz:=hd.canon.zero_iff (by decide);have aa:IsD _ v1 m:=⟨n1,f,hd,hv⟩;rw[hv] at hz;obtain ⟨⟨a1,ab,⟨rfl, -⟩, -⟩, -⟩:=hd;clear hv;obtain ⟨w5,af⟩:∃ x,w.alloc (.cells #[.bool false,.slice none 0 0] 124)=x:=⟨_,rfl⟩;rw[af] at HN BP aa⊢;clear af ac;replace aa:=hid aa;by_cases h0:n1=0
 ·have ad:=hz.2 h0;subst h0;subst ad;clear hz
  have hs:decide (sgnd neg 0 < 0)=false:=by rw[sgnd_lt];cases neg <;> rfl
  have HS:=hid hs;clear hs
  cases neg with
  | true=>
   obtain ⟨p0,p1,p2,p3,p4⟩:=BP.out.two;go_wp2_with fail;refine bodyPost_ret (v:=.agg #[.bool false,.slice a1 0 ab]) (by simp[results,results188,go_sem,p0,p1]) rfl ?_;exact z_ret HN BP (by omega) (IsZ.mk' HS.symm (sgnd_abs _ _) aa)
  | false=>
   obtain ⟨p0,p1,p2,p3,p4⟩:=BP.out.two;go_wp2_with fail;refine bodyPost_ret (v:=.agg #[.bool false,.slice a1 0 ab]) (by simp[results,results188,go_sem,p0,p1]) rfl ?_;exact z_ret HN BP (by omega) (IsZ.mk' HS.symm (sgnd_abs _ _) aa)
 ·have ah:(0:Int) < (n1:Int):=by omega
  have ai:0 < n1:=by omega
  have ad:0 < m:=by
   rcases Nat.eq_zero_or_pos m with h | h
   ·exact absurd (hz.1 h) h0
   ·exact h
  have hs:∀ b:Bool,decide (sgnd b m < 0)=b:=fun b=>by rw[sgnd_lt,decide_eq_true ad,Bool.and_true]
  clear hz h0 ad;replace hs:=hid hs
  cases neg with
  | true=>
   obtain ⟨p0,p1,p2,p3,p4⟩:=BP.out.two;go_wp2_with fail;refine bodyPost_ret (v:=.agg #[.bool true,.slice a1 n1 ab]) (by simp[results,results188,go_sem,p0,p1]) rfl ?_;exact z_ret HN BP (by omega) (IsZ.mk' (hs true).symm (sgnd_abs _ _) aa)
  | false=>
   obtain ⟨p0,p1,p2,p3,p4⟩:=BP.out.two;go_wp2_with fail;refine bodyPost_ret (v:=.agg #[.bool false,.slice a1 n1 ab]) (by simp[results,results188,go_sem,p0,p1]) rfl ?_;exact z_ret HN BP (by omega) (IsZ.mk' (hs false).symm (sgnd_abs _ _) aa)
structure GWay (B:Nat)(u v:Nat→Nat)(k t r:Nat):Prop where
 rest:t*v (k+1)+r=u (k+2)*B+u (k+1)
 hr:r < B
 ge:vf B u (k+3) < (t+1)*vf B v (k+2)
structure GFit (B:Nat)(u v:Nat→Nat)(k t:Nat):Prop where
 hh:t < B
 ge:vf B u (k+3) < (t+1)*vf B v (k+2)
 le:t*vf B v (k+2)≤vf B u (k+3)+vf B v (k+2)
section
variable {B:Nat} {u v:Nat→Nat} {k t r:Nat}
theorem topB_le (hv:∀ i,i < k+2→v i < B)(hlt:vf B (fun i=>u (1+i)) (k+2) < vf B v (k+2)):u (k+2)≤v (k+1):=by
 rcases Nat.lt_or_ge (v (k+1)) (u (k+2)) with h | h
 ·exfalso;rw[vf_succ _ v,vf_succ,show 1+(k+1)=k+2 by omega] at hlt;have h1:vf B v (k+1) < B^(k+1):=vf_lt fun i hi=>hv i (by omega);have h2:(v (k+1)+1)*B^(k+1)≤u (k+2)*B^(k+1):=Nat.mul_le_mul_right _ h;rw[Nat.add_mul,Nat.one_mul] at h2;omega
 ·exact h
theorem allB_lt (hu:∀ i,i < k+3→u i < B)(hlt:vf B (fun i=>u (1+i)) (k+2) < vf B v (k+2)):vf B u (k+3) < B*vf B v (k+2):=by
 have e:vf B u (k+3)=u 0+B*vf B (fun i=>u (i+1)) (k+2):=vf_head B u (k+2)
 have e2:(fun i=>u (i+1))=fun i=>u (1+i):=funext fun i=>by rw[Nat.add_comm]
 rw[e,e2];have h1:=hu 0 (by omega);have h2:B*(vf B (fun i=>u (1+i)) (k+2)+1)≤B*vf B v (k+2):=Nat.mul_le_mul_left _ hlt;rw[Nat.mul_add,Nat.mul_one] at h2;omega
theorem GWay.start (hB:0 < B)(hu:∀ i,i < k+3→u i < B)(hv:∀ i,i < k+2→v i < B)(hv0:v (k+1)≠0):
  GWay B u v k ((u (k+2)*B+u (k+1)) / v (k+1)) ((u (k+2)*B+u (k+1)) % v (k+1)):=by
 refine ⟨?_,?_,first_ge hB hu hv0⟩
 ·rw[Nat.mul_comm];exact Nat.div_add_mod _ _
 ·exact Nat.lt_trans (Nat.mod_lt _ (by omega)) (hv _ (by omega))
theorem GWay.bound (h:GWay B u v k t r)(hu:∀ i,i < k+3→u i < B)(hv:∀ i,i < k+2→v i < B)(hv0:v (k+1)≠0)(hlt:vf B (fun i=>u (1+i)) (k+2) < vf B v (k+2)):t < 2*B:=by
 have h1:=topB_le hv hlt;have h2:=hu (k+1) (by omega);have h3:=h.rest;generalize v (k+1)=a at *;generalize u (k+2)=b at *;generalize u (k+1)=c at *;rcases Nat.lt_or_ge t (2*B) with h4 | h4
 ·exact h4
 ·exfalso;have h5:2*B*a≤t*a:=Nat.mul_le_mul_right _ h4;have h6:b*B≤a*B:=Nat.mul_le_mul_right _ h1;have h7:1*B≤a*B:=Nat.mul_le_mul_right _ (by omega);rw[Nat.mul_assoc,Nat.mul_comm B a] at h5;omega
theorem GWay.pass (h:GWay B u v k t r)(hv:∀ i,i < k+2→v i < B)(hv0:v (k+1)≠0)(ht:t < B)(hok:t*v k≤r*B+u k):GFit B u v k t:=
 ⟨ht,h.ge,guess_pass hv hv0 ht ((test_iff h.rest).1 hok)⟩
theorem GWay.less (h:GWay B u v k t r)(hB:0 < B)(hu:∀ i,i < k+3→u i < B)(hv:∀ i,i < k+2→v i < B)(hv0:v (k+1)≠0)(hlt:vf B (fun i=>u (1+i)) (k+2) < vf B v (k+2))(hbad:B≤t∨r*B+u k < t*v k):
  0 < t∧(r+v (k+1) < B→GWay B u v k (t - 1) (r+v (k+1)))∧(B≤r+v (k+1)→GFit B u v k (t - 1)):=by
 have h0:=h.rest
 have hg:0 < t∧vf B u (k+3) < (t - 1+1)*vf B v (k+2):=by
  rcases hbad with h1 | h1
  ·refine ⟨by omega,?_⟩;have h2:=allB_lt hu hlt;have h3:B*vf B v (k+2)≤(t - 1+1)*vf B v (k+2):=Nat.mul_le_mul_right _ (by omega);omega
  ·refine guess_fail hB hu hv0 ?_;rcases Nat.lt_or_ge ((u (k+2)*B+u (k+1))*B+u k) (t*(v (k+1)*B+v k)) with h2 | h2
   ·exact h2
   ·exact absurd ((test_iff h0).2 h2) (by omega)
 obtain ⟨hp,ab⟩:=hg;obtain ⟨n,rfl⟩:∃ n,t=n+1:=⟨t - 1,by omega⟩;rw[Nat.add_mul,Nat.one_mul] at h0;simp only[Nat.add_sub_cancel] at ab⊢
 have aa:n*v (k+1)+(r+v (k+1))=u (k+2)*B+u (k+1):=by omega
 refine ⟨hp,fun h1=>⟨aa,h1,ab⟩,fun h1=>?_⟩;have h2:=topB_le hv hlt;have h3:=hu (k+1) (by omega)
 have hn:n < B:=by
  rcases Nat.lt_or_ge n B with h4 | h4
  ·exact h4
  ·exfalso;have h5:B*v (k+1)≤n*v (k+1):=Nat.mul_le_mul_right _ h4;have h6:u (k+2)*B≤v (k+1)*B:=Nat.mul_le_mul_right _ h2;rw[Nat.mul_comm] at h5;omega
 exact ⟨hn,ab,guess_pass hv hv0 hn (test_over aa h1 hn (hv _ (by omega)))⟩
end
theorem msubB_digit {B:Nat} {p u g:Nat→Nat} {j i t c d lo c':Nat} (h:vf B (fun i=>p (j+i)) i+t*vf B g i=vf B u i+c*B^i)
  (hs:d+t*g i+c=u i+B*c'):
  vf B (fun x=>upd p (j+i) d (j+x)) (i+1)+t*vf B g (i+1)=vf B u (i+1)+c'*B^(i+1):=by
 have e:vf B (fun x=>upd p (j+i) d (j+x)) i=vf B (fun i=>p (j+i)) i:=vf_congr fun x hx=>upd_other _ _ (by omega)
 have h2:(d+t*g i+c)*B^i=(u i+B*c')*B^i:=by rw[hs]
 rw[Nat.add_mul,Nat.add_mul,Nat.add_mul]at h2;rw[vf_succ _ u,vf_succ _ g,vf_succ,e,upd_same,Nat.pow_succ,Nat.mul_comm (B^i) B,←Nat.mul_assoc,Nat.mul_comm c',Nat.mul_add,←Nat.mul_assoc];omega
theorem msubB_last {B:Nat}{p u:Nat→Nat}{j n c d b' t V:Nat}(h:vf B (fun i=>p (j+i)) n+t*V=vf B u n+c*B^n)(hs:d+c=u n+B*b'):
  vf B (fun x=>upd p (j+n) d (j+x)) (n+1)+t*V=vf B u (n+1)+b'*B^(n+1):=by
 have e:vf B (fun x=>upd p (j+n) d (j+x)) n=vf B (fun i=>p (j+i)) n:=vf_congr fun x hx=>upd_other _ _ (by omega)
 have h2:(d+c)*B^n=(u n+B*b')*B^n:=by rw[hs]
 rw[Nat.add_mul,Nat.add_mul]at h2;rw[vf_succ _ u,vf_succ,e,upd_same,Nat.pow_succ,Nat.mul_comm (B^n) B,←Nat.mul_assoc,Nat.mul_comm b'];omega
theorem backB_digit {B:Nat}{p q g:Nat→Nat}{j i cc d c':Nat}(h:vf B (fun i=>p (j+i)) i+cc*B^i=vf B (fun i=>q (j+i)) i+vf B g i)(hs:d+B*c'=q (j+i)+g i+cc):
  vf B (fun x=>upd p (j+i) d (j+x)) (i+1)+c'*B^(i+1)=vf B (fun i=>q (j+i)) (i+1)+vf B g (i+1):=by
 refine add_step (c:=cc) ?_ ?_
 ·rw[←h];congr 1;exact vf_congr fun x hx=>upd_other _ _ (by omega)
 ·simp only[upd_same];exact hs
end Go.Proofs.YtnjonlnemagomaaGreatDoor
namespace Go.Proofs.YtnjonlnemagomaaGreatDoor
open Big Go.Lib Go.RowKit Tryz
set_option maxRecDepth 100000
set_option maxHeartbeats 8000000
set_option linter.all false
theorem back_done {P U V t e cc un c vo vp vp2:Nat} (h1:vp+t*V=vo+c*P) (hU:U=vo+un*P) (he:c=un+e) (h0:0 < e) (h2:vp2+cc*P=vp+V) (hvp:vp < P) (hvp2:vp2 < P) (hV:V≤P) (hcc:cc≤1)
  (hle:t*V≤U+V):0 < t∧e=cc∧vp2+(t - 1)*V=U∧vp2 < V:=by
 have hP:U+e*P=vo+c*P:=by rw[hU,he,Nat.add_mul];omega
 have ac:1*P≤e*P:=Nat.mul_le_mul_right _ h0
 have ht:0 < t:=by
  rcases Nat.eq_zero_or_pos t with h | h
  ·subst h;omega
  ·exact h
 obtain ⟨s,rfl⟩:∃ s,t=s+1:=⟨t - 1,by omega⟩;rw[Nat.add_mul,Nat.one_mul] at h1 hle;simp only[Nat.add_sub_cancel];generalize s*V=S at *
 have aa:cc=1:=by
  rcases Nat.eq_zero_or_pos cc with h | h
  ·subst h;omega
  ·omega
 subst aa;rw[Nat.one_mul] at h2
 have ab:e=1:=by
  rcases Nat.lt_or_ge e 2 with h | h
  ·omega
  ·exfalso;have:=Nat.mul_le_mul_right P h;omega
 subst ab;omega
theorem unscale {x y M r Q:Nat}(hM:0 < M)(h:r+y*M*Q=x*M)(hr:r < y*M):Q=x / y∧r / M=x % y:=by
 have hy:0 < y:=by
  rcases Nat.eq_zero_or_pos y with h0 | h0
  ·subst h0;omega
  ·exact h0
 have hd:M ∣ r:=by
  have h1:M ∣ r+y*M*Q:=by rw[h];exact Nat.dvd_mul_left _ _
  have h2:M ∣ y*M*Q:=⟨y*Q,by rw[Nat.mul_comm y M,Nat.mul_assoc]⟩;exact (Nat.dvd_add_left h2).1 h1
 obtain ⟨s,rfl⟩:=hd
 have h3:(s+y*Q)*M=x*M:=by
  rw[Nat.add_mul,←h,Nat.mul_comm s M,Nat.mul_right_comm]
 have h4:s+y*Q=x:=Nat.eq_of_mul_eq_mul_right hM h3
 have h5:s < y:=by rw[Nat.mul_comm y M] at hr;exact Nat.lt_of_mul_lt_mul_left hr
 subst h4;rw[Nat.mul_div_cancel_left _ hM];refine ⟨?_,?_⟩
 ·rw[Nat.add_mul_div_left _ _ hy,Nat.div_eq_of_lt h5,Nat.zero_add]
 ·rw[Nat.add_mul_mod_self_left,Nat.mod_eq_of_lt h5]
theorem scaled_len {B k n y M x:Nat}{g v:Nat→Nat}(hB:1 < B)(hgl:∀ i,i < k+2→g i < B)(hy:y=vf B g (k+2))(hx:g (k+1)=x)(hx0:0 < x)(hM:M=B / (x+1))(hv:Canon B v n)(hvv:vf B v n=y*M):
  0 < M∧n=k+2∧x*M*B^(k+1)≤y*M∧y*M≤B^(k+2):=by
 have ad:x < B:=by rw[←hx];exact hgl _ (by omega)
 have aa:0 < M:=by rw[hM];exact Nat.div_pos ad (by omega)
 have ab:(x+1)*M≤B:=by rw[hM];exact Nat.mul_div_le _ _
 have h0:vf B g (k+1) < B^(k+1):=vf_lt fun i hi=>hgl i (by omega)
 have h1:y=vf B g (k+1)+x*B^(k+1):=by rw[hy,vf_succ,hx]
 have ac:B^(k+2)=B*B^(k+1):=by rw[Nat.pow_succ,Nat.mul_comm]
 have h3:(y+1)*M≤B^(k+2):=by
  have a:y+1≤(x+1)*B^(k+1):=by rw[Nat.add_mul,Nat.one_mul];omega
  have b:=Nat.mul_le_mul_right M a;rw[Nat.mul_right_comm] at b;rw[ac];exact Nat.le_trans b (Nat.mul_le_mul_right _ ab)
 have h4:x*M*B^(k+1)≤y*M:=by
  have a:x*B^(k+1)≤y:=by omega
  have b:=Nat.mul_le_mul_right M a
  rwa [Nat.mul_right_comm] at b
 rw[Nat.add_mul,Nat.one_mul]at h3;refine ⟨aa,?_,h4,by omega⟩
 have h5:B^(k+1)≤y*M:=by
  have a:1≤x*M:=Nat.mul_pos hx0 aa;have b:=Nat.mul_le_mul_right (B^(k+1)) a;omega
 have h6:=hv.lt_pow;rw[hvv] at h6;rcases Nat.lt_trichotomy n (k+2) with h | h | h
 ·exfalso;have:=Nat.pow_le_pow_right (n:=B) (by omega) (show n≤k+1 by omega);omega
 ·exact h
 ·exfalso;have h7:=hv.ge (by omega);rw[hvv] at h7;have:=Nat.pow_le_pow_right (n:=B) (by omega) (show k+2≤n - 1 by omega);omega
theorem padDigits_cons (i n:Nat):padDigits (i+1) n=UInt8.ofNat (48+n / 10^i % 10)::padDigits i n:=by
 induction i generalizing n with
 | zero=>simp[padDigits]
 | succ i ih=>
  rw[padDigits,ih (n / 10),List.cons_append,Nat.div_div_eq_div_mul,Nat.pow_succ,Nat.mul_comm (10^i)];rfl
structure DecAt (n0 least i n:Nat):Prop where
 now:n=n0 / 10^i
 few:i≤least∨10^(i - 1)≤n0
theorem DecAt.start (n0 least:Nat):DecAt n0 least 0 n0:=⟨by simp,.inl (Nat.zero_le _)⟩
theorem DecAt.next {n0 least i n:Nat}(h:DecAt n0 least i n)(hg:0 < n∨i < least):DecAt n0 least (i+1) (n / 10):=by
 refine ⟨by rw[h.now,Nat.div_div_eq_div_mul,Nat.pow_succ],?_⟩;rcases hg with h1 | h1
 ·refine .inr ?_;rw[Nat.add_sub_cancel];rw[h.now] at h1;exact (Nat.div_pos_iff.1 h1).2
 ·exact .inl h1
theorem DecAt.done {n0 least i n:Nat}(h:DecAt n0 least i n)(hn:n=0)(hi:least≤i):n0 < 10^i∧(i=least∨10^(i - 1)≤n0):=by
 refine ⟨?_,?_⟩
 ·have h1:=h.now;rw[hn] at h1;exact (Nat.div_eq_zero_iff.1 h1.symm).resolve_left (Nat.ne_of_gt (Nat.pow_pos (by omega)))
 ·rcases h.few with h1 | h1
  ·exact .inl (by omega)
  ·exact .inr h1
theorem DecAt.nine {n0 i n:Nat}(h:DecAt n0 9 i n)(hn:n=0)(hi:9≤i)(h9:n0 < 1000000000):padDigits i n0=padDigits 9 n0:=by
 obtain ⟨h1,h2 | h2⟩:=h.done hn hi
 ·rw[h2]
 ·have:i - 1 < 9:=by
   rcases Nat.lt_or_ge (i - 1) 9 with h3 | h3
   ·exact h3
   ·have:=Nat.pow_le_pow_right (n:=10) (by omega) h3;omega
  rw[show i=9 by omega]
theorem DecAt.one {n0 i n:Nat}(h:DecAt n0 1 i n)(hn:n=0)(hi:1≤i):padDigits i n0=decDigits n0:=by
 obtain ⟨h1,h2⟩:=h.done hn hi;have h3:=(nDigits_le_iff (u:=n0) (k:=i) (by omega)).2 h1;refine padDigits_full ?_;rcases h2 with h2 | h2
 ·have:=nDigits_pos n0;omega
 ·rcases Nat.lt_or_ge (nDigits n0) i with h4 | h4
  ·exfalso;by_cases h5:i=1
   ·have:=nDigits_pos n0;omega
   ·have:=(nDigits_le_iff (u:=n0) (k:=i - 1) (by omega)).1 (by omega);omega
  ·omega
theorem text_step {f:Nat→Nat}{n k:Nat}(hk:0 < k)(hkn:k≤n)(hl:∀ i,i < n→f i < 1000000000)(h0:vf 1000000000 (fun i=>f (k+i)) (n - k)≠0):
  decDigits (vf 1000000000 (fun i=>f (k - 1+i)) (n - (k - 1)))=decDigits (vf 1000000000 (fun i=>f (k+i)) (n - k)) ++ padDigits 9 (f (k - 1))∧vf 1000000000 (fun i=>f (k - 1+i)) (n - (k - 1))≠0:=by
 obtain ⟨j,rfl⟩:∃ j,k=j+1:=⟨k - 1,by omega⟩;rw[Nat.add_sub_cancel]
 have e:n - j=n - (j+1)+1:=by omega
 have e1:(fun i=>f (j+(i+1)))=fun i=>f (j+1+i):=funext fun i=>by rw[show j+(i+1)=j+1+i by omega]
 have h1:vf 1000000000 (fun i=>f (j+i)) (n - j)=vf 1000000000 (fun i=>f (j+1+i)) (n - (j+1))*10^9+f j:=by
  rw[e,vf_head,e1,Nat.add_zero,Nat.mul_comm];omega
 rw[h1,decDigits_pad h0 9 (f j) (hl j (by omega))];exact ⟨rfl,by omega⟩
def bs (l:List UInt8):ByteArray:=⟨l.toArray⟩
theorem bs_size (l:List UInt8):(bs l).size=l.length:=by simp[bs,ByteArray.size]
theorem bs_list (l:List UInt8):(bs l).data.toList=l:=by simp[bs]
theorem bs_append (a b:List UInt8):bs a ++ bs b=bs (a ++ b):=by apply ByteArray.ext;simp[bs,ByteArray.data_append]
theorem dig_cut:∀ d,d < 10→(⟨#[48,49,50,51,52,53,54,55,56,57]⟩:ByteArray).extract d (d+1)=bs [UInt8.ofNat (48+d)]:=by
 intro d hd;apply ByteArray.ext
 have:∀ d,d < 10→(#[48,49,50,51,52,53,54,55,56,57]:Array UInt8).extract d (d+1)=#[UInt8.ofNat (48+d)]:=by decide
 simpa[bs] using this d hd
theorem div10 (s:Nat):∃ q r:Nat,s / 10=q∧s % 10=r∧r < 10∧(s:Int) / 10=(q:Int)∧Int.tdiv (s:Int) 10=(q:Int)∧Int.tmod (s:Int) 10=(r:Int)∧(s:Int) % 10=(r:Int):=by
 refine ⟨s / 10,s % 10,rfl,rfl,by omega,by omega,?_,?_,by omega⟩
 ·rw[Int.tdiv_eq_ediv_of_nonneg (by omega)];omega
 ·rw[Int.tmod_eq_emod_of_nonneg (by omega)];omega
theorem DecAt.le {n0 least i n:Nat}(h:DecAt n0 least i n)(hl:least≤9)(hn:n0 < 9223372036854775808):i≤20:=by
 rcases h.few with h1 | h1
 ·omega
 ·rcases Nat.lt_or_ge 20 i with h2 | h2
  ·exfalso;have:=Nat.pow_le_pow_right (n:=10) (by omega) (show 19≤i - 1 by omega);omega
  ·omega
def lenS:Value→Nat
 | .string s=>s.size
 | _=>0
def DecPost (w:World)(n0 least:Nat)(e:Ending)(w':World):Prop:=∃ i n,e=.returned (.string (bs (padDigits i n0)))∧New w w'∧DecAt n0 least i n∧n=0∧least≤i
theorem rdecimal_any (n0 least:Nat)(w:World)(al:n0 < 9223372036854775808)(hl:least≤9):
  Calls prog 151 #[.int .i64 (n0:Int),.int .i64 (least:Int)] w (DecPost w n0 least):=by
 have ay:(n0:Int) < 9223372036854775808:=by omega
 replace al:=hid al;go_in;go_wp2_with fail;go_loopw [0,5] (fun sn ss wr=>∃ (n i:Nat),sn=.int .i64 (n:Int)∧ss=.string (bs (padDigits i n0))∧n≤n0∧Hid (DecAt n0 least i n)∧Hid (New w wr)) (fun sn ss _=>(RowKit.intOf sn).toNat+(least - lenS ss))
 case atStart=>exact ⟨n0,0,rfl,rfl,Nat.le_refl _,hid (DecAt.start _ _),hid (New.refl _)⟩
 case round=>
  obtain ⟨n,i,rfl,rfl,ax,HD,HN⟩:=hrel;obtain ⟨S,hS⟩:∃ S,bs (padDigits i n0)=S:=⟨_,rfl⟩
  have aa:S.size=i:=by rw[←hS,bs_size,padDigits_length]
  have ad:=HD.out.le hl al.out;rw[hS];obtain ⟨q,d,hq,hd,ac,e1,e2,e3,e4⟩:=div10 n
  have a0:(S.size:Int)≤20:=by omega
  have a3:(n:Int)≤(n0:Int):=by omega
  by_cases ab:0 < n∨i < least
  ·have ap:=dig_cut d ac;have am:=HD.out.next ab;rw[hq] at am
   have an:bs [UInt8.ofNat (48+d)] ++ S=bs (padDigits (i+1) n0):=by
    rw[←hS,bs_append,padDigits_cons,←HD.out.now,hd];rfl
   have ar:q≤n0:=by omega
   obtain ⟨C,hC⟩:∃ C,bs [UInt8.ofNat (48+d)]=C:=⟨_,rfl⟩
   have aj:C.size=1:=by rw[←hC,bs_size];rfl
   rw[hC]at ap an
   have az:¬9223372036854775807 < C.size+S.size:=by omega
   have a4:(q:Int) < 9223372036854775808:=by omega
   have a2:(d:Int) < 10:=by omega
   have hm:q+(least - (i+1)) < n+(least - i):=by omega
   clear hC hS hq hd ac ad ax;have au:lenS (.string S)=i:=aa
   have av:lenS (.string (C ++ S))=i+1:=by show (C ++ S).size=_;rw[ByteArray.size_append,aj,aa];omega
   refine zh7 ?_ am an ar hm aj au av;clear am an ar hm aj au av;intro ae af ag HM a1 ah ai;rcases ab with ab | ab
   ·clear aa
    have h0:(0:Int) < (n:Int):=by omega
    have ao:decide ((0:Int) < (n:Int))=true:=decide_eq_true h0;go_wp2_with fail;go_roundw
    case rel=>exact ⟨q,i+1,rfl,by rw[af.out],ag.out,ae,HN⟩
    case measure=>
     have h1:=ah.out;have h2:=ai.out;have h3:=HM.out;simp[RowKit.intOf,h1,h2];omega
   ·by_cases hn00:0 < n
    ·clear aa
     have h0:(0:Int) < (n:Int):=by omega
     have ao:decide ((0:Int) < (n:Int))=true:=decide_eq_true h0;go_wp2_with fail;go_roundw
     case rel=>exact ⟨q,i+1,rfl,by rw[af.out],ag.out,ae,HN⟩
     case measure=>
      have h1:=ah.out;have h2:=ai.out;have h3:=HM.out;simp[RowKit.intOf,h1,h2];omega
    ·have h0:¬(0:Int) < (n:Int):=by omega
     have ao:decide ((0:Int) < (n:Int))=false:=decide_eq_false h0
     have h1:(S.size:Int) < (least:Int):=by have:=aa;omega
     have aw:decide ((S.size:Int) < (least:Int))=true:=decide_eq_true h1;clear aa;go_wp2_with fail;go_roundw
     case rel=>exact ⟨q,i+1,rfl,by rw[af.out],ag.out,ae,HN⟩
     case measure=>
      have h1:=ah.out;have h2:=ai.out;have h3:=HM.out;simp[RowKit.intOf,h1,h2];omega
  ·have aq:n=0:=by omega
   subst aq
   have h1:¬(S.size:Int) < (least:Int):=by omega
   have aw:decide ((S.size:Int) < (least:Int))=false:=decide_eq_false h1
   have ak:least≤i:=by omega
   clear ab e1 e2 e3 e4 aa ad;replace hS:=hid hS;replace ak:=hid ak;go_wp2_with fail;go_ret;exact ⟨i,0,by rw[hS.out];rfl,HN.out,HD.out,rfl,ak.out⟩
theorem rdecimal_one (n0:Nat)(w:World)(hn0:n0 < 9223372036854775808):
  Calls prog 151 #[.int .i64 (n0:Int),.int .i64 1] w fun e w'=>e=.returned (.string (bs (decDigits n0)))∧New w w':=
 (rdecimal_any n0 1 w hn0 (by omega)).mono fun e w' ⟨i,n,h1,h2,h3,h4,h5⟩=>⟨by rw[h1,h3.one h4 h5],h2⟩
theorem rdecimal_nine (n0:Nat)(w:World)(hn0:n0 < 1000000000):
  Calls prog 151 #[.int .i64 (n0:Int),.int .i64 9] w fun e w'=>e=.returned (.string (bs (padDigits 9 n0)))∧New w w':=
 (rdecimal_any n0 9 w (by omega) (by omega)).mono fun e w' ⟨i,n,h1,h2,h3,h4,h5⟩=>⟨by rw[h1,h3.nine h4 h5 hn0],h2⟩
theorem take_snoc (s:ByteArray)(k:Nat)(h:k < s.size):s.data.toList.take (k+1)=s.data.toList.take k ++ [s[k]]:=by
 rw[List.take_succ_eq_append_getElem (by simpa using h)];rfl
theorem rvalue_calls (s:ByteArray)(l:List UInt8)(w:World)(hs:s.data.toList=l)(hd:∀ c∈l,isDig c=true)(hl:l.length≤18):
  Calls prog 186 #[.string s] w fun e w'=>e=.returned (.int .i64 (dval 0 l:Nat))∧w'=w:=by
 subst hs
 have ag:s.size≤18:=by simpa using hl
 have aa:∀ k,dval 0 (s.data.toList.take k) < 1000000000000000000:=fun k=>by
  have h1:=dval_lt (l:=s.data.toList.take k) fun c hc=>hd c (List.mem_of_mem_take hc);have h2:10^(s.data.toList.take k).length≤10^18:=Nat.pow_le_pow_right (by omega) (by rw[List.length_take];omega);omega
 replace hd:=hid hd;replace aa:=hid aa;go_in;go_wp2
 go_loop [3,4] (fun n i=>∃ k:Nat,k≤s.size∧i=.int .i64 k∧n=.int .i64 (dval 0 (s.data.toList.take k):Nat)) (fun _ i=>s.size - (RowKit.intOf i).toNat)
 case atStart=>exact ⟨0,Nat.zero_le _,rfl,rfl⟩
 case round=>
  obtain ⟨k,hk,rfl,rfl⟩:=hrel;by_cases hlt:k < s.size
  ·have ad:=take_snoc s k hlt
   have hc:=isDig_iff.1 (hd.out s[k] (by
    have:s[k]=s.data.toList[k]'(by simpa using hlt):=rfl;rw[this]
    exact List.getElem_mem _))
   have hx:=aa.out k
   have hv:dval 0 (s.data.toList.take (k+1))=10*dval 0 (s.data.toList.take k)+(s[k].toNat - 48):=by rw[ad,dval_append,dval_cons,dval_nil]
   obtain ⟨x,ac⟩:∃ x,dval 0 (s.data.toList.take k)=x:=⟨_,rfl⟩;rw[ac] at hv hx
   have ah:(x:Int) < 100000000000000000:=by
    have h1:=aa.out (k+1);rw[hv] at h1;omega
   have ae:48≤(s[k].toNat:Int):=by omega
   have af:(s[k].toNat:Int)≤57:=by omega
   have ab:((dval 0 (s.data.toList.take (k+1)):Nat):Int)=10*(x:Int)+(s[k].toNat:Int) - 48:=by rw[hv];omega
   rw[ac];clear ad hc hv hx ac;replace ab:=hid ab;go_wp2;go_round
   case rel=>exact ⟨k+1,by omega,by go_num,by first | (rw[ab.out];done) | (rw[ab.out];go_num)⟩
   case measure=>simp[RowKit.intOf];omega
  ·go_wp2;go_ret;exact ⟨by rw[List.take_of_length_le (by simp;omega)];rfl,rfl⟩
theorem sl_len (l:List UInt8):(upTo l).length≤l.length:=by
 unfold upTo;exact (List.takeWhile_sublist _).length_le
theorem upTo_in:∀ {l:List UInt8} {k:Nat},k < (upTo l).length→∃ c,l[k]?=some c∧c≠47
 | [],k,h=>by simp[upTo] at h
 | c::l,k,h=>by
  by_cases hc:c=47
  ·subst hc;simp[upTo] at h
  ·have e:upTo (c::l)=c::upTo l:=by simp[upTo,hc]
   rw[e]at h
   match k,h with
   | 0,_=>exact ⟨c,rfl,hc⟩
   | k+1,h=>exact upTo_in (l:=l) (k:=k) (by simpa using h)
theorem upTo_at {l:List UInt8}(h:(upTo l).length < l.length):l[(upTo l).length]?=some 47:=by
 cases hs:slashed l with
 | true=>
  have e:=split_slash hs;obtain ⟨a,ha⟩:∃ a,upTo l=a:=⟨_,rfl⟩;obtain ⟨b,hb⟩:∃ b,behind l=b:=⟨_,rfl⟩;rw[ha,hb] at e;rw[ha,e];simp
 | false=>
  have e:=(split_plain hs).1;rw[e] at h;omega
theorem byte_at (s:ByteArray){k:Nat}{c:UInt8}(h:s.data.toList[k]?=some c):∃ h':k < s.size,s[k]'h'=c:=by
 obtain ⟨h1,h2⟩:=List.getElem?_eq_some_iff.1 h;exact ⟨by simpa using h1,h2⟩
theorem rslash_calls (s:ByteArray)(w:World)(hl:s.size≤1000000):
  Calls prog 96 #[.string s] w fun e w'=>e=.returned (.int .i64 ((upTo s.data.toList).length:Nat))∧w'=w:=by
 obtain ⟨m,hm⟩:∃ m,(upTo s.data.toList).length=m:=⟨_,rfl⟩;have h1:=sl_len s.data.toList;have ac:=fun k=>upTo_in (l:=s.data.toList) (k:=k)
 have ab:s.data.toList.length=s.size:=by simp
 have ae:m < s.size→s.data.toList[m]?=some 47:=fun h=>by
  have:=upTo_at (l:=s.data.toList) (by rw[hm,ab];exact h)
  rwa [hm] at this
 simp only[hm]at ac;rw[hm] at h1⊢;rw[ab] at h1;clear hm ab;replace ac:=hid ac;replace ae:=hid ae;go_in;go_wp2
 go_loop [3] (fun i=>∃ k:Nat,k≤m∧i=.int .i64 k) (fun i=>s.size - (RowKit.intOf i).toNat)
 case atStart=>exact ⟨0,Nat.zero_le _,rfl⟩
 case round=>
  obtain ⟨k,hk,rfl⟩:=hrel;by_cases hlt:k < m
  ·have ad:k < s.size:=by omega
   obtain ⟨c,ag,ah⟩:=ac.out k hlt;obtain ⟨h',aa⟩:=byte_at s ag
   have hc:¬(s[k].toNat:Int)=47:=by
    intro h;refine ah (UInt8.toNat_inj.1 ?_);rw[←aa];show s[k].toNat=47;omega
   have ai:((s[k].toNat:Int)==47)=false:=beq_eq_false_iff_ne.2 hc;clear ah ag aa;go_wp2;go_round
   case rel=>exact ⟨k+1,by omega,by go_num⟩
   case measure=>simp[RowKit.intOf];omega
  ·obtain rfl:k=m:=by omega
   by_cases ad:k < s.size
   ·have af:=ae.out ad;obtain ⟨h',aa⟩:=byte_at s af
    have hc:(s[k].toNat:Int)=47:=by rw[aa];rfl
    have ai:((s[k].toNat:Int)==47)=true:=beq_iff_eq.2 hc;clear af aa;go_wp2;go_ret;exact ⟨rfl,rfl⟩
   ·have ad:k=s.size:=by omega
    subst ad;go_wp2;go_ret;exact ⟨rfl,rfl⟩
theorem rdigits_calls (s:ByteArray)(w:World)(hl:s.size≤1000000):Calls prog 169 #[.string s] w fun e w'=>e=.returned (.bool (s.data.toList.all isDig))∧w'=w:=by
 obtain ⟨b,hb⟩:∃ b,s.data.toList.all isDig=b:=⟨_,rfl⟩;rw[hb];replace hb:=hid hb;go_in;go_wp2
 go_loop [3] (fun i=>∃ k:Nat,k≤s.size∧i=.int .i64 k∧Hid (∀ c∈s.data.toList.take k,isDig c=true)) (fun i=>s.size - (RowKit.intOf i).toNat)
 case atStart=>exact ⟨0,Nat.zero_le _,rfl,hid (fun c hc=>by simp at hc)⟩
 case round=>
  obtain ⟨k,hk,rfl,HD⟩:=hrel;by_cases hlt:k < s.size
  ·have ab:=take_snoc s k hlt;obtain ⟨c,hc⟩:∃ c,s[k]=c:=⟨_,rfl⟩;by_cases hdig:isDig s[k]=true
   ·have h1:=isDig_iff.1 hdig
    have ad:¬((s[k].toNat:Int) < 48):=by omega
    have ae:¬((57:Int) < (s[k].toNat:Int)):=by omega
    have aa:∀ c∈s.data.toList.take (k+1),isDig c=true:=by
     rw[ab];intro x hx;rcases List.mem_append.1 hx with hx | hx
     ·exact HD x hx
     ·rw[List.mem_singleton] at hx;rw[hx];exact hdig
    clear ab hc h1 hdig;replace aa:=hid aa;go_wp2;go_round
    case rel=>exact ⟨k+1,by omega,by go_num,aa⟩
    case measure=>simp[RowKit.intOf];omega
   ·have hf:b=false:=by
     rw[←hb.out,List.all_eq_false]
     exact ⟨s[k],by
      have:s[k]=s.data.toList[k]'(by simpa using hlt):=rfl;rw[this]
      exact List.getElem_mem _,by simpa using hdig⟩
    have ac:¬(48≤s[k].toNat∧s[k].toNat≤57):=fun h=>hdig (isDig_iff.2 h);clear ab hc hdig;replace hf:=hid hf;by_cases ad:(s[k].toNat:Int) < 48
    ·clear ac;go_wp2;go_ret;exact ⟨by rw[hf.out];rfl,rfl⟩
    ·have ae:(57:Int) < (s[k].toNat:Int):=by omega
     clear ac;go_wp2;go_ret;exact ⟨by rw[hf.out];rfl,rfl⟩
  ·have hf:b=true:=by
    rw[←hb.out,List.all_eq_true];have:=HD.out;rw[List.take_of_length_le (by simp;omega)] at this;exact this
   replace hf:=hid hf;go_wp2;go_ret;exact ⟨by rw[hf.out];rfl,rfl⟩
theorem rdecform_calls (s:ByteArray)(w:World)(hl:s.size≤1000000):Calls prog 97 #[.string s] w fun e w'=>e=.returned (.bool (isDec s.data.toList))∧w'=w:=by
 have ac:=fun W=>rdigits_calls s W hl;obtain ⟨b,hb⟩:∃ b,isDec s.data.toList=b:=⟨_,rfl⟩;rw[hb]
 have ab:s.data.toList.length=s.size:=by simp
 by_cases h0:s.size=0
 ·have hf:b=false:=by
   rw[←hb,List.eq_nil_of_length_eq_zero (l:=s.data.toList) (by rw[ab];exact h0)];rfl
  have ak:((s.size:Int)==0)=true:=beq_iff_eq.2 (by omega);rw[hf];clear hb ab ac;go_in;go_wp2_with fail;go_ret;exact ⟨rfl,rfl⟩
 have hp:0 < s.size:=by omega
 have ak:((s.size:Int)==0)=false:=beq_eq_false_iff_ne.2 (by omega)
 have aa:s.data.toList.head?=some (s[0]'hp):=by
  rw[List.head?_eq_getElem?,List.getElem?_eq_getElem (by rw[ab];exact hp)];rfl
 have ag:s.data.toList.isEmpty=false:=by
  rw[List.isEmpty_eq_false_iff];intro e;rw[e] at aa
  cases aa
 by_cases h1:1 < s.size∧(s[0]'hp).toNat=48
 ·obtain ⟨h1,ad⟩:=h1
  have hf:b=false:=by
   rw[←hb];unfold isDec;rw[aa,show s[0]'hp=48 from UInt8.toNat_inj.1 ad]
   have:(s.data.toList==[48])=false:=by
    rw[beq_eq_false_iff_ne];intro e;have:=congrArg List.length e;rw[ab] at this;simp at this;omega
   rw[this];simp
  have ae:(1:Int) < (s.size:Int):=by omega
  have ah:decide ((1:Int) < (s.size:Int))=true:=decide_eq_true ae
  have af:((s[0]'hp).toNat:Int)=48:=by omega
  have al:(((s[0]'hp).toNat:Int)==48)=true:=beq_iff_eq.2 af;rw[hf];clear hb ab ac aa ag ad;go_in;go_wp2_with fail;go_ret;exact ⟨rfl,rfl⟩
 ·have ai:s.data.toList.all isDig=b:=by
   rw[←hb];unfold isDec;rw[ag]
   have:(s.data.toList.head? != some 48 || s.data.toList==[48])=true:=by
    rw[aa];by_cases ad:(s[0]'hp).toNat=48
    ·have h2:s.size=1:=by
      rcases Nat.lt_or_ge 1 s.size with h | h
      ·exact absurd ⟨h,ad⟩ h1
      ·omega
     have:s.data.toList=[48]:=by
      cases hd:s.data.toList with
      | nil=>rw[hd] at ab;simp at ab;omega
      | cons c l=>
       rw[hd]at ab aa;simp only[List.head?_cons,Option.some.injEq] at aa;simp only[List.length_cons] at ab;have am:l=[]:=List.eq_nil_of_length_eq_zero (by omega);rw[aa,am,show s[0]'hp=48 from UInt8.toNat_inj.1 ad]
     rw[this];simp
    ·have:(some (s[0]'hp) != some (48:UInt8))=true:=by
      simp only[bne_iff_ne,ne_eq,Option.some.injEq];intro e;exact ad (by rw[e];rfl)
     rw[this];rfl
   rw[this];simp
  rw[ai]at ac;clear hb ab aa ag ai;by_cases h1s:1 < s.size
  ·have af:¬((s[0]'hp).toNat:Int)=48:=by
    intro h;exact h1 ⟨h1s,by omega⟩
   have al:(((s[0]'hp).toNat:Int)==48)=false:=beq_eq_false_iff_ne.2 af
   have ae:(1:Int) < (s.size:Int):=by omega
   have ah:decide ((1:Int) < (s.size:Int))=true:=decide_eq_true ae;clear h1;have aj:=hid ac;clear ac;go_in;go_wp2_with fail;refine (aj _).mono ?_;rintro e w1 ⟨rfl,hw⟩;rw[hw];clear hw;go_wp2_with fail;go_ret;exact ⟨rfl,rfl⟩
  ·have ae:¬(1:Int) < (s.size:Int):=by omega
   have ah:decide ((1:Int) < (s.size:Int))=false:=decide_eq_false ae;clear h1;replace ac:=hid ac;go_in;go_wp2_with fail;refine (ac _).mono ?_;rintro e w1 ⟨rfl,hw⟩;rw[hw];clear hw;go_wp2_with fail;go_ret;exact ⟨rfl,rfl⟩
end Go.Proofs.YtnjonlnemagomaaGreatDoor
