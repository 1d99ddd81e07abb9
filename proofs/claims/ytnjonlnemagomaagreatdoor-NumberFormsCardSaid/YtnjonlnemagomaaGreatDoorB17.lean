/- Part B17. -/
import Derived.Deep.DeepCutAuto
import Derived.Deep.RegionHeld
import Derived.Test.YtnjonlnemagomaaGreatDoorB09
namespace Go.Proofs.YtnjonlnemagomaaGreatDoor
open Go.RowKit Big
open Go.Lib (hid)
set_option maxRecDepth 100000
set_option maxHeartbeats 8000000
abbrev B9:Nat:=1000000000
def SlM (v:Value)(a:Option Addr)(n cap:Nat):Prop:=v=.slice a n cap/\n<=cap/\cap<=maxLen/\(a=none->cap=0)
def DgN (w:World)(v:Value)(n:Nat)(f:Nat->Nat):Prop:=∃ a cap,SlM v a n cap/\Rd w a .i64 n f/\∀ i,i < n->f i < B9
def Dg (w:World)(v:Value)(n:Nat)(f:Nat->Nat):Prop:=DgN w v n f/\(n≠0->f (n - 1)≠0)
theorem DgN.new {w w':World}{v:Value}{n:Nat}{f:Nat->Nat}(h:DgN w v n f)(hn:New w w'):DgN w' v n f:=by
 obtain ⟨a,cap,h1,h2,h3⟩:=h;exact ⟨a,cap,h1,h2.new hn,h3⟩
theorem Dg.new {w w':World}{v:Value}{n:Nat}{f:Nat->Nat}(h:Dg w v n f)(hn:New w w'):Dg w' v n f:=⟨h.1.new hn,h.2⟩
theorem Dg.canon {w:World}{v:Value}{n:Nat}{f:Nat->Nat}(h:Dg w v n f):Canon B9 f n:=by
 obtain ⟨⟨a,cap,h1,h2,h3⟩,h4⟩:=h;exact ⟨h3,h4⟩
theorem DgN.lt {w:World}{v:Value}{n:Nat}{f:Nat->Nat}(h:DgN w v n f):∀ i,i < n->f i < B9:=by
 obtain ⟨a,cap,h1,h2,h3⟩:=h;exact h3
def lenOf:Value->Nat
 | .slice _ n _=>n
 | _=>0
def ds (o:Nat->Nat)(k:Nat):List Value:=(List.range k).map fun i=>.int .i64 ((o i:Nat):Int)
theorem yh0 (o:Nat->Nat)(k:Nat):(ds o k).length=k:=by simp[ds]
theorem y4b (o:Nat->Nat)(k y:Nat):ds (upd o k y) (k+1)=ds o k ++ [.int .i64 ((y:Nat):Int)]:=by
 unfold ds;rw[List.range_succ,List.map_append];congr 1
 ·refine List.map_congr_left fun i hi=>?_;rw[y0a _ _ (by have:=List.mem_range.1 hi;omega)]
 ·simp[upd_same]
theorem yow (o:Nat->Nat)(k:Nat):∀ u∈ds o k,u.oneCell'=true:=by intro u hu;simp[ds] at hu;obtain ⟨x, -,rfl⟩:=hu;rfl
theorem ypj {w:World}{a:Option Addr}{o:Nat->Nat}{n:Nat}(h:RdL w a (ds o n)):Rd w a .i64 n o:=fun i hi=>by
 obtain ⟨b,off,e,hc⟩:=h i (by rw[yh0];exact hi);exact ⟨b,off,e,by rw[hc];simp[ds]⟩
theorem rd_ds {w:World}{a:Option Addr}{o:Nat->Nat}{n:Nat}(h:Rd w a .i64 n o):RdL w a (ds o n):=fun i hi=>by
 rw[yh0]at hi;obtain ⟨b,off,e,hc⟩:=h i hi;exact ⟨b,off,e,by rw[hc];simp[ds]⟩
theorem yjd {w:World}{base n:Nat}{t:TypeId}{v:Value}{o:Nat->Nat}(h:w.ownsRow base t 1 v n (ds o n)):∃ a cap,SlM v a n cap/\Rd w a .i64 n o:=by
 obtain ⟨a,cap,e,hr, -⟩:=yde h;refine ⟨a,cap,?_,ypj hr⟩;rcases h.2 with ⟨e2,rfl⟩ | ⟨g,cap2,cur,e2,hb,hc,h2,h3,h4,h5⟩
 ·rw[e] at e2;injection e2 with e3 e4 e5;exact ⟨e,by omega,by rw[e5];exact Nat.zero_le _,fun _=>e5⟩
 ·rw[e] at e2;injection e2 with e3 e4 e5;exact ⟨e,by omega,by omega,fun h=>by rw[h] at e3;cases e3⟩
theorem y7p {w:World}{base n:Nat}{t:TypeId}{v:Value}{o:Nat->Nat}(h:w.ownsRow base t 1 v n (ds o n))(hl:∀ i,i < n->o i < B9):DgN w v n o:=by
 obtain ⟨a,cap,h1,h2⟩:=yjd h;exact ⟨a,cap,h1,h2,hl⟩
def yj2 (w:World)(a:Option Addr)(cap len:Nat)(f:Nat->Nat)(e:Ending)(w':World):Prop:=
 w=w'/\∃ n,e=.returned (.slice a n cap)/\n<=len/\(∀ i,n<=i->i < len->f i=0)/\(n=0\/f (n - 1)≠0)
theorem yiv (a:Option Addr)(len cap:Nat)(f:Nat->Nat)(w:World)(hl:len<=cap)(hcap:cap<=maxLen)(hr:Rd w a .i64 len f):
  Calls Tryz.prog 220 #[.slice a len cap] w (yj2 w a cap len f):=by
 have hcap':cap<=9223372036854775807:=hcap
 have h0:(0:Int)<=(len:Int):=by omega
 clear hcap;go_enter Tryz.func220,Tryz.ntmps220;go_wp2
 go_loop [0] (fun v=>∃ k:Nat,k<=len/\v=.slice a k cap/\∀ i,k<=i->i < len->f i=0) (fun v=>lenOf v)
 case atStart=>exact ⟨len,Nat.le_refl _,rfl,fun i h1 h2=>by omega⟩
 case round=>
  obtain ⟨k,hk,rfl,hz⟩:=hrel;have HZ:=hid hz;clear hz;by_cases hk0:0 < k
  ·obtain ⟨b,off,rfl,hcell⟩:=hr (k - 1) (by omega);clear hr;go_wp2
   ·have hz:((f (k - 1):Int)==0)=true:=by assumption
    have hz':f (k - 1)=0:=by simp at hz;omega
    go_round
    case rel=>exact ⟨k - 1,by omega,by go_num,fun i h1 h2=>by
     by_cases e:i=k - 1
     ·rw[e];exact hz'
     ·exact HZ.out i (by omega) h2⟩
    case measure=>simp[lenOf];omega
   ·have hz:((f (k - 1):Int)==0)=false:=by assumption
    have hz':f (k - 1)≠0:=by intro e;rw[e] at hz;simp at hz
    go_ret;exact ⟨rfl,k,rfl,hk,HZ.out,.inr hz'⟩
  ·obtain rfl:k=0:=by omega
   clear hr;go_wp2;go_ret;exact ⟨rfl,0,rfl,hk,HZ.out,.inl rfl⟩
theorem y3q (v:Value)(len:Nat)(f:Nat->Nat)(w:World)(h:DgN w v len f):
  Calls Tryz.prog 220 #[v] w fun e w'=>w=w'/\∃ v n,e=.returned v/\n<=len/\Dg w v n f/\vf B9 f n=vf B9 f len:=by
 obtain ⟨a,cap,⟨rfl,h1,h2,h3⟩,hr,hlt⟩:=h;refine (yiv a len cap f w h1 h2 hr).mono fun e w' ⟨h4,n,h5,h6,h7,h8⟩=>?_;obtain ⟨c1,c2⟩:=ybe hlt h6 h7 h8;exact ⟨h4,_,n,h5,h6,⟨⟨a,cap,⟨rfl,by omega,h2,h3⟩,hr.le h6,c1.lt⟩,c1.top⟩,c2⟩
def ylo (w:World)(m n:Nat)(f g:Nat->Nat)(e:Ending)(w':World):Prop:=New w w'/\∃ r:Int,e=.returned (.int .i64 r)/\
 ((r= -1/\(m < n\/(m=n/\∃ i,i < n/\f i < g i/\∀ j,i < j->j < n->f j=g j)))\/(r=1/\(n < m\/(m=n/\∃ i,i < n/\g i < f i/\∀ j,i < j->j < n->f j=g j)))\/(r=0/\m=n/\∀ j,j < n->f j=g j))
theorem yd0 (a b:Option Addr)(m n ca cb:Nat)(f g:Nat->Nat)(w:World)(hm:m<=281474976710656)(hn:n<=281474976710656)(ha:Rd w a .i64 m f)(hb:Rd w b .i64 n g):
  Calls Tryz.prog 197 #[.slice a m ca,.slice b n cb] w (ylo w m n f g):=by
 go_enter Tryz.func197,Tryz.ntmps197;by_cases hmn:m=n
 ·subst hmn;go_wp2;go_loopw [5] (fun i wr=>∃ k:Nat,k<=m/\i=.int .i64 ((k:Int) - 1)/\(∀ j,k<=j->j < m->f j=g j)/\New w wr) (fun n _=>(intOf n+1).toNat)
  case atStart=>exact ⟨m,Nat.le_refl _,rfl,fun i h1 h2=>by omega,New.refl _⟩
  case round=>
   obtain ⟨k,hk,rfl,hz,hbl⟩:=hrel;have HZ:=hid hz;clear hz;by_cases hk0:k=0
   ·subst hk0;go_wp2;go_ret;exact ⟨hbl,_,rfl,.inr (.inr ⟨rfl,rfl,fun j hj=>HZ.out j (by omega) hj⟩)⟩
   ·obtain ⟨b1,o1,rfl,h1⟩:=(ha.new hbl) (k - 1) (by omega);obtain ⟨b2,o2,rfl,h2⟩:=(hb.new hbl) (k - 1) (by omega);clear ha hb;go_wp2
    go_quiet (fail)
    go_wp2
    ·have hlt:f (k - 1) < g (k - 1):=by assumption
     go_ret;exact ⟨hbl.drewN _,_,rfl,.inl ⟨rfl,.inr ⟨rfl,k - 1,by omega,hlt,fun j h1 h2=>HZ.out j (by omega) h2⟩⟩⟩
    ·have hlt:¬f (k - 1) < g (k - 1):=by assumption
     go_quiet (fail)
     go_wp2
     ·have hgt:g (k - 1) < f (k - 1):=by assumption
      go_ret;exact ⟨(hbl.drewN _).drewN _,_,rfl,.inr (.inl ⟨rfl,.inr ⟨rfl,k - 1,by omega,hgt,fun j h1 h2=>HZ.out j (by omega) h2⟩⟩)⟩
     ·have hgt:¬g (k - 1) < f (k - 1):=by assumption
      go_roundw
      case rel=>exact ⟨k - 1,by omega,by go_num,fun j h1 h2=>by
       by_cases e:j=k - 1
       ·rw[e];omega
       ·exact HZ.out j (by omega) h2,hbl.drewN _⟩
      case measure=>simp[intOf];omega
 ·have hne:(m==n)=false:=by simpa using hmn
  go_wp2
  all_goals (go_ret;rename_i h1 h2)
  ·exact ⟨New.refl _,_,rfl,.inl ⟨rfl,.inl (by assumption)⟩⟩
  ·exact ⟨New.refl _,_,rfl,.inr (.inl ⟨rfl,.inl (by omega)⟩)⟩
theorem y4s (va vb:Value)(m n:Nat)(f g:Nat->Nat)(w:World)(ha:Dg w va m f)(hb:Dg w vb n g)(hm:m<=1000000)(hn:n<=1000000):
  Calls Tryz.prog 197 #[va,vb] w fun e w'=>New w w'/\e=.returned (.int .i64 (y1a (vf B9 f m) (vf B9 g n))):=by
 have cf:=ha.canon;have cg:=hb.canon;obtain ⟨⟨a,ca,⟨rfl,a1,a2,a3⟩,ra,_⟩,_⟩:=ha;obtain ⟨⟨b,cb,⟨rfl,b1,b2,b3⟩,rb,_⟩,_⟩:=hb;refine (yd0 a b m n ca cb f g w (by omega) (by omega) ra rb).mono fun e w' ⟨h1,r,h2,h3⟩=>⟨h1,?_⟩;rw[h2];congr 2;unfold y1a;rcases h3 with ⟨rfl,h | ⟨rfl,i,hi,hlt,heq⟩⟩ | ⟨rfl,h | ⟨rfl,i,hi,hlt,heq⟩⟩ | ⟨rfl,rfl,heq⟩
 ·rw[if_pos (cf.lt_of_len cg (by decide) h)]
 ·rw[if_pos (y3r cf.lt cg.lt hi heq hlt)]
 ·have:=cg.lt_of_len cf (by decide) h;rw[if_neg (by omega),if_pos this]
 ·have:=y3r cg.lt cf.lt hi (fun j h1 h2=>(heq j h1 h2).symm) hlt;rw[if_neg (by omega),if_pos this]
 ·have:vf B9 f m=vf B9 g m:=y0s heq;rw[if_neg (by omega),if_neg (by omega)]
theorem y88 (v:Value)(n:Nat)(f:Nat->Nat)(i:Nat)(w:World)(h:DgN w v n f)(_hn:n<=1000000):
  Calls Tryz.prog 240 #[v,.int .i64 (i:Int)] w fun e w'=>e=.returned (.int .i64 (padded f n i:Nat))/\w'=w:=by
 obtain ⟨a,cap,⟨rfl,h1,h2,h3⟩,hr,hlt⟩:=h;by_cases hi:i < n
 ·obtain ⟨b,off,rfl,hcell⟩:=hr i hi;rw[y4j hi];clear hr h3 h2 hlt
  have hii:(i:Int) < (n:Int):=by omega
  go_enter Tryz.func240,Tryz.ntmps240;go_wp2_with fail;go_ret;exact ⟨rfl,rfl⟩
 ·rw[y3o hi];clear hr h3 h2 hlt
  have hii:¬(i:Int) < (n:Int):=by omega
  go_enter Tryz.func240,Tryz.ntmps240;go_wp2_with fail;go_ret;exact ⟨rfl,rfl⟩
theorem div9 (s:Nat):∃ q r:Nat,r+B9*q=s/\r < B9/\(s:Int) / 1000000000=(q:Int)/\Int.tdiv (s:Int) 1000000000=(q:Int)/\Int.tmod (s:Int) 1000000000=(r:Int)/\(s:Int) % 1000000000=(r:Int):=by
 refine ⟨s / 1000000000,s % 1000000000,by unfold B9;omega,by unfold B9;omega,by omega,?_,?_,by omega⟩
 ·rw[Int.tdiv_eq_ediv_of_nonneg (by omega)];omega
 ·rw[Int.tmod_eq_emod_of_nonneg (by omega)];omega
theorem y6j {o:Nat->Nat}{k y:Nat}(h:∀ j,o j < B9)(hy:y < B9):∀ j,upd o k y j < B9:=fun j=>y2a h hy j
def ymu (w:World)(m z:Nat)(e:Ending)(w':World):Prop:=∃ v k o,e=.returned v/\New w w'/\DgN w' v k o/\vf B9 o k=z/\k<=m
theorem yhs (va vb:Value)(m n:Nat)(f g:Nat->Nat)(w:World)(ha:DgN w va m f)(hb:DgN w vb n g)(hm:m<=100000)(hn:n<=100000):
  Calls Tryz.prog 196 #[va,vb] w (ymu w (max m n+1) (vf B9 f m+vf B9 g n)):=by
 obtain ⟨M,hM⟩:∃ M,max m n=M:=⟨_,rfl⟩;rw[hM]
 have hM1:M<=100000/\m<=M/\n<=M/\(M<=m\/M<=n):=by omega
 have hda:=fun W (hW:New w W) k=>y88 va m f k W (ha.new hW) (by omega);have hdb:=fun W (hW:New w W) k=>y88 vb n g k W (hb.new hW) (by omega);have hfa:=fun j=>y8y (n:=m) (g:=f) (B:=B9) (by decide) ha.lt j;have hfb:=fun j=>y8y (n:=n) (g:=g) (B:=B9) (by decide) hb.lt j
 have hea:∀ K,m<=K->vf B9 (padded f m) K=vf B9 f m:=fun K hK=>by
  rw[ydf (m:=m) hK fun i h1 _=>y3o (by omega)];exact y0s fun i hi=>y4j hi
 have heb:∀ K,n<=K->vf B9 (padded g n) K=vf B9 g n:=fun K hK=>by
  rw[ydf (m:=n) hK fun i h1 _=>y3o (by omega)];exact y0s fun i hi=>y4j hi
 have hfz:∀ j,m<=j->padded f m j=0:=fun j h=>y3o (by omega);have hgz:∀ j,n<=j->padded g n j=0:=fun j h=>y3o (by omega);obtain ⟨F,hF⟩:∃ F,padded f m=F:=⟨_,rfl⟩;obtain ⟨G,hG⟩:∃ G,padded g n=G:=⟨_,rfl⟩;simp only[hF,hG] at hda hdb hfa hfb hea heb hfz hgz;obtain ⟨aa,ca,⟨rfl, -⟩, -⟩:=ha;obtain ⟨ab,cb,⟨rfl, -⟩, -⟩:=hb;obtain ⟨i0,hi0,hz0,hz1,hz2⟩:=info_parts y3b;clear hF hG hM;have HDA:=hid hda;have HDB:=hid hdb;have HFA:=hid hfa;have HFB:=hid hfb;have HEA:=hid hea;have HEB:=hid heb;have HM1:=hid hM1;have HFZ:=hid hfz;have HGZ:=hid hgz;clear hda hdb hfa hfb hea heb hM1 hfz hgz;go_enter Tryz.func196,Tryz.ntmps196;go_wp2_with fail;go_loopw [5,6,7] (fun v c i wr=>∃ (k cc:Nat) (o:Nat->Nat),k<=M+1/\cc<=1/\i=.int .i64 (k:Int)/\c=.int .i64 (cc:Int)/\Hid (k=M+1->cc=0)/\Hid (wr.ownsRow w.heap.size 3 1 v k (ds o k))/\Hid (New w wr)/\Hid (∀ j,o j < B9)/\Hid (vf B9 o k+cc*B9^k=vf B9 F k+vf B9 G k)) (fun _ _ i _=>M+1 - (intOf i).toNat)
 case atStart=>exact ⟨0,0,fun _=>0,Nat.zero_le _,Nat.zero_le _,rfl,rfl,hid (fun _=>rfl),hid (World.ownsRow_nil _ _ _ _),hid (New.refl _),hid (fun _=>Nat.zero_lt_succ _),hid rfl⟩
 case round=>
  obtain ⟨k,cc,o,hk,hcc,rfl,rfl,HL,HO,HN,HB,HV⟩:=hrel;obtain ⟨t,ht⟩:∃ t:Bool,decide (k < m\/k < n\/0 < cc)=t:=⟨_,rfl⟩;have HT:=hid ht;clear ht;go_upto_region 4 with (fail)
  go_cut [22] (fun s wx=>s=.bool t/\wx=wr)
  case first=>
   by_cases h1:k < m
   ·have d1:decide ((k:Int) < (m:Int))=true:=decide_eq_true (by omega)
    have h1i:(k:Int) < (m:Int):=by omega
    have ht:=HT.out;rw[decide_eq_true (.inl h1)] at ht;subst ht;go_wp2_with fail
    go_meet
    exact ⟨rfl,rfl⟩
   have d1:decide ((k:Int) < (m:Int))=false:=decide_eq_false (by omega)
   have h1i:¬(k:Int) < (m:Int):=by omega
   by_cases h2:k < n
   ·have d2:decide ((k:Int) < (n:Int))=true:=decide_eq_true (by omega)
    have h2i:(k:Int) < (n:Int):=by omega
    have ht:=HT.out;rw[decide_eq_true (.inr (.inl h2))] at ht;subst ht;go_wp2_with fail
    go_meet
    exact ⟨rfl,rfl⟩
   have d2:decide ((k:Int) < (n:Int))=false:=decide_eq_false (by omega)
   have h2i:¬(k:Int) < (n:Int):=by omega
   by_cases h3:0 < cc
   ·have d3:decide ((0:Int) < (cc:Int))=true:=decide_eq_true (by omega)
    have h3i:(0:Int) < (cc:Int):=by omega
    have ht:=HT.out;rw[decide_eq_true (.inr (.inr h3))] at ht;subst ht;go_wp2_with fail
    go_meet
    exact ⟨rfl,rfl⟩
   have d3:decide ((0:Int) < (cc:Int))=false:=decide_eq_false (by omega)
   have h3i:¬(0:Int) < (cc:Int):=by omega
   have ht:=HT.out;rw[decide_eq_false (by omega)] at ht;subst ht;go_wp2_with fail
   go_meet
   exact ⟨rfl,rfl⟩
  case rest=>
   obtain ⟨rfl,hwx⟩:=hcut;replace hwx:=hwx.symm;subst hwx
   go_step
   cases t with
   | true=>
    have hcont:=HT.out;rw[decide_eq_true_eq] at hcont;obtain ⟨x,hx⟩:∃ x,F k=x:=⟨_,rfl⟩;obtain ⟨y,hy⟩:∃ y,G k=y:=⟨_,rfl⟩;have hx9:=HFA.out k;have hy9:=HFB.out k;have hca:=HDA.out wr HN.out k;have hcb:=HDB.out wr HN.out k;rw[hx] at hx9 hca;rw[hy] at hy9 hcb
    have hkM:k<=M:=by
     have:=HM1.out;have:=HL.out;rcases Nat.lt_or_ge k (M+1) with h | h
     ·omega
     ·have h4:=HL.out (by omega);omega
    have hx9i:(x:Int) < 1000000000:=by unfold B9 at hx9;omega
    have hy9i:(y:Int) < 1000000000:=by unfold B9 at hy9;omega
    have hcci:(cc:Int)<=1:=by omega
    have hki:(k:Int)<=200000:=by have:=HM1.out;omega
    obtain ⟨s,hs⟩:∃ s,x+y+cc=s:=⟨_,rfl⟩
    have hsi:(x:Int)+(y:Int)+(cc:Int)=(s:Int):=by omega
    obtain ⟨q,r,hqr,hr9,e1,e2,e3,e4⟩:=div9 s
    have hq1:q<=1:=by unfold B9 at *;omega
    have hstep:vf B9 (upd o k r) (k+1)+q*B9^(k+1)=vf B9 F (k+1)+vf B9 G (k+1):=by
     refine y8m (c:=cc) ?_ ?_
     ·rw[y0o (Nat.le_refl _)];exact HV.out
     ·rw[upd_same,hx,hy,hqr,hs]
    have hlast:k+1=M+1->q=0:=fun h=>by
     have h5:=HM1.out;have h6:=HFZ.out k (by omega);have h7:=HGZ.out k (by omega);rw[hx] at h6;rw[hy] at h7;unfold B9 at hqr;omega
    have hdn:=y6j (k:=k) HB.out hr9
    have hs9:(s:Int) < 3000000000:=by omega
    have hr9i:(r:Int) < 1000000000:=by unfold B9 at hr9;omega
    have hk63:k+1<=maxLen:=by have:=HM1.out;unfold maxLen;omega
    have hk47:(k+1)*8<=140737488355328:=by have:=HM1.out;omega
    clear hx hy hs hqr hcont;have HCA:=hid hca;have HCB:=hid hcb;have HST:=hid hstep;have HLA:=hid hlast;have HDN:=hid hdn;have HX9:=hid hx9;have HY9:=hid hy9;have HR9:=hid hr9;have HK63:=hid hk63;have HK47:=hid hk47;clear hca hcb hstep hlast hdn hx9 hy9 hr9 hk63 hk47;go_wp2_with fail;refine HCA.out.mono ?_;rintro e w1 ⟨rfl,hw1⟩;rw[hw1];clear hw1;go_wp2_with fail;refine HCB.out.mono ?_;rintro e w1 ⟨rfl,hw1⟩;rw[hw1];clear hw1;go_wp2_with (at_builtin;refine wpList_append_own _ rfl _ _ 24 rfl w.heap.size 3 i0 (.int .i64 0) 1 8 Tryz.underlying24 hi0 hz0 hz1 hz2 rfl (by decide) _ _ _ rfl (HO.out.alloc _) ⟨wr.heap.size,0,none⟩ 1 1 [.int .i64 (r:Int)] rfl rfl (y3i _ _ _) (y4m _) HK63.out HK47.out (by have:=HN.out.size;rw[<-size_alloc];omega) ?_);intro v' w9 hown' hgrow _;have hN1:=y11 HN.out HO.out hgrow;rw[<-y4b] at hown';clear hgrow;have HN1:=hid hN1;have HO1:=hid hown';clear hN1 hown';go_wp2_with fail;go_roundw
    case rel=>exact ⟨k+1,q,upd o k r,by omega,hq1,by go_num,rfl,HLA,HO1,HN1,HDN,HST⟩
    case measure=>simp[intOf];omega
   | false=>
    have hstop:=HT.out;rw[decide_eq_false_iff_not] at hstop;have hv:=HV.out
    have hc0:cc=0:=by omega
    rw[hc0,Nat.zero_mul,Nat.add_zero,HEA.out k (by omega),HEB.out k (by omega)]at hv;have hd:=y7p HO.out fun i _=>HB.out i;have HVV:=hid hv;have HDD:=hid hd;clear hv hd;go_wp2_with fail;go_ret;exact ⟨_,k,o,rfl,HN.out,HDD.out,HVV.out,hk⟩
def IsD (w:World)(v:Value)(z:Nat):Prop:=∃ n f,Dg w v n f/\vf B9 f n=z
theorem IsD.new {w w':World}{v:Value}{z:Nat}(h:IsD w v z)(hn:New w w'):IsD w' v z:=by
 obtain ⟨n,f,h1,h2⟩:=h;exact ⟨n,f,h1.new hn,h2⟩
def RetD (w:World)(z:Nat)(e:Ending)(w':World):Prop:=∃ v,e=.returned v/\New w w'/\IsD w' v z
theorem ypu {x y p c z s:Nat}(hx:x < B9)(hy:y < B9)(hp:p < B9)(hc:c < B9)(hz:x*y=z)(hs:p+z+c=s):z<=999999998000000001/\s < B9*B9:=by
 have h:=Nat.mul_le_mul (Nat.le_pred_of_lt hx) (Nat.le_pred_of_lt hy);unfold B9 at *;simp only[Nat.pred_eq_sub_one,Nat.reduceSub,Nat.reduceMul] at h;omega
theorem ylr (a b:Option Addr)(m n ca cb:Nat)(f g:Nat->Nat)(w:World)(hm:m<=1000000)(hn:n<=1000000)(ha:Rd w a .i64 m f)(hb:Rd w b .i64 n g)(hfl:∀ i,i < m->f i < B9)(hgl:∀ i,i < n->g i < B9):
  Calls Tryz.prog 189 #[.slice a m ca,.slice b n cb] w (RetD w (vf B9 f m*vf B9 g n)):=by
 have hmk:=fun W=>run_make_row' (P:=Tryz.prog) 24 3 (.int .i64 0) 8 Tryz.underlying24 y3b rfl .i64 .i64 (m+n) (by omega) (by omega) W;rw[show ((m+n:Nat):Int)=(m:Int)+n by omega] at hmk;go_enter Tryz.func189,Tryz.ntmps189;go_wp2;clear hmk;obtain ⟨B,hB⟩:∃ B,B=w.heap.size:=⟨_,rfl⟩;have hrow0:=Row.made w .i64 (m+n) 3;have hnew0:New w (w.alloc (.cells (madeCells #[.int .i64 0] (m+n)) 3)):=(New.refl w).alloc _;rw[<-hB] at hrow0⊢;generalize w.alloc (.cells (madeCells #[.int .i64 0] (m+n)) 3)=w0 at hrow0 hnew0⊢;have HB:=hid hB;clear hB;go_loopw [6] (fun i wr=>∃ (k:Nat) (o:Nat->Nat),k<=m/\i=.int .i64 k/\Row wr B 3 .i64 (m+n) o/\(∀ j,o j < B9)/\(∀ j,k+n<=j->o j=0)/\vf B9 o (m+n)=vf B9 f k*vf B9 g n/\New w wr) (fun i _=>m - (intOf i).toNat)
 case atStart=>exact ⟨0,fun _=>0,Nat.zero_le _,rfl,hrow0,fun _=>Nat.zero_lt_succ _,fun _ _=>rfl,by rw[ycg (fun _ _=>rfl),y14,Nat.zero_mul],hnew0⟩
 case round=>
  obtain ⟨k,o,hk,rfl,hrow,hol,hz,hval,hnew⟩:=hrel;have HV:=hid hval;have HZ:=hid hz;have HO:=hid hol;clear hval hrow0 hnew0 hz hol;by_cases hkm:k < m
  ·obtain ⟨b1,o1,rfl,h1⟩:=(ha.new hnew) k hkm;have hf0:=hfl k hkm;go_wp2;obtain ⟨wo,rfl⟩:∃ wo:World,wo=wr:=⟨_,rfl⟩;go_loopw [7,8] (fun c i wr=>∃ (j cc:Nat) (p:Nat->Nat),j<=n/\i=.int .i64 j/\c=.int .i64 cc/\cc < B9/\Row wr B 3 .i64 (m+n) p/\(∀ j,p j < B9)/\(∀ j,k+n<=j->p j=0)/\vf B9 p (m+n)+cc*B9^(k+j)=vf B9 f k*vf B9 g n+f k*vf B9 g j*B9^k/\New w wr) (fun _ i _=>n - (intOf i).toNat)
   case atStart=>exact ⟨0,0,o,Nat.zero_le _,rfl,rfl,by decide,hrow,HO.out,HZ.out,by rw[HV.out];simp[y14],hnew⟩
   case round=>
    clear hrow hnew HO HZ HV;obtain ⟨j,cc,p,hj,rfl,rfl,hcc,hrow,hpl,hpz,hval,hnew⟩:=hrel;have HV:=hid hval;have HP:=hid hpl;have HZ:=hid hpz;clear hval hpz;by_cases hjn:j < n
    ·obtain ⟨b2,o2,rfl,h2⟩:=(hb.new hnew) j hjn;have h1':=(ha.new hnew) k hkm;obtain ⟨b3,o3,e3,h1'⟩:=h1';injection e3 with e3;injection e3 with e3 e4;subst e3 e4;have hg0:=hgl j hjn;have hp0:=hpl (k+j);clear ha hb hgl hfl hpl h1;have hcell:=hrow.cell (i:=k+j) (by omega);have hfr:=hrow.frozen (k+j);obtain ⟨x,hx⟩:∃ x,f k=x:=⟨_,rfl⟩;obtain ⟨y,hy⟩:∃ y,g j=y:=⟨_,rfl⟩;obtain ⟨u,hu⟩:∃ u,p (k+j)=u:=⟨_,rfl⟩;rw[hx] at hf0 h1';rw[hy] at hg0 h2;rw[hu] at hp0 hcell;obtain ⟨z,hz⟩:∃ z,x*y=z:=⟨_,rfl⟩;obtain ⟨s,hs⟩:∃ s,u+z+cc=s:=⟨_,rfl⟩;obtain ⟨hz18,hs18⟩:=ypu hf0 hg0 hp0 hcc hz hs;obtain ⟨q,r,hqr,hr9,e1,e2,e3,e4⟩:=div9 s
     have hq9:q < B9:=by
      rcases Nat.lt_or_ge q B9 with h | h
      ·exact h
      ·have:=Nat.mul_le_mul_left B9 h;omega
     have hzi:(x:Int)*(y:Int)=(z:Int):=by rw[<-hz,Int.natCast_mul]
     have hsi:(u:Int)+(z:Int)+(cc:Int)=(s:Int):=by omega
     have b1:(z:Int)<=999999998000000001:=by omega
     have b2:(s:Int) < 1000000000000000000:=by unfold B9 at hs18;omega
     have b3:(u:Int) < 1000000000:=by unfold B9 at hp0;omega
     have b4:(cc:Int) < 1000000000:=by unfold B9 at hcc;omega
     have b5:(x:Int) < 1000000000:=by unfold B9 at hf0;omega
     have b6:(y:Int) < 1000000000:=by unfold B9 at hg0;omega
     have b7:(r:Int) < 1000000000:=by unfold B9 at hr9;omega
     have b8:(q:Int) < 1000000000:=by unfold B9 at hq9;omega
     have hst:r+B9*q=p (k+j)+f k*g j+cc:=by rw[hu,hx,hy,hz,hs,hqr]
     clear hf0 hg0 hp0 hx hy hu hz hs hqr hs18 hz18;have HST:=hid hst;have HR9:=hid hr9;have HQ9:=hid hq9;have HROW:=hid hrow;have HNEW:=hid hnew;have HCC:=hid hcc;clear hst hr9 hq9 hrow hnew hcc;go_wp2_with fail
     go_quiet (fail)
     replace HROW:=hid (HROW.out.drewN nq);replace HNEW:=hid (HNEW.out.drewN nq);obtain ⟨w9,hw9⟩:∃ x,wr.drewN nq=x:=⟨_,rfl⟩;rw[hw9] at HROW HNEW⊢;clear hw9 hcell hfr h2 h1';have hcell:=HROW.out.cell (i:=k+j) (by omega);have hfr:=HROW.out.frozen (k+j);go_wp2_with fail;clear hcell hfr;go_roundw
     case rel=>
      refine ⟨j+1,q,upd p (k+j) r,by omega,by go_num,rfl,HQ9.out,HROW.out.set _ _,y2a HP.out HR9.out,fun i hi'=>?_,?_,HNEW.out.setCell (Nat.le_of_eq HB.out.symm) _⟩
      ·rw[y0a _ _ (by omega)];exact HZ.out i hi'
      ·exact ygn (by omega) HV.out HST.out
     case measure=>simp[intOf];omega
    ·obtain rfl:j=n:=by omega
     have hcell:=hrow.cell (i:=k+j) (by omega);have hfr:=hrow.frozen (k+j);have hz0:=HZ.out (k+j) (by omega);rw[hz0] at hcell
     have b4:(cc:Int) < 1000000000:=by unfold B9 at hcc;omega
     have hzc:((0:Nat):Int)+(cc:Int)=(cc:Int):=by omega
     clear hpl ha hb hfl hgl hz0;have HCC:=hid hcc;clear hcc;go_wp2_with fail;clear hcell hfr h1;go_roundw
     case rel=>
      refine ⟨k+1,upd p (k+j) cc,by omega,by go_num,hrow.set _ _,y2a HP.out HCC.out,fun i hi'=>?_,?_,hnew.setCell (Nat.le_of_eq HB.out.symm) _⟩
      ·rw[y0a _ _ (by omega)];exact HZ.out i (by omega)
      ·have e1:=HV.out;have e2:=yk9 (B:=B9) (f:=p) (v:=cc) (show k+j < m+j by omega);rw[HZ.out (k+j) (by omega),Nat.zero_mul] at e2
       have e3:f k*vf B9 g j*B9^k=f k*B9^k*vf B9 g j:=by rw[Nat.mul_assoc,Nat.mul_comm (vf B9 g j),<-Nat.mul_assoc]
       rw[y03,Nat.add_mul,<-e3];omega
     case measure=>simp[intOf];omega
  ·obtain rfl:k=m:=by omega
   have hd:DgN wr (.slice (some ⟨B,0,none⟩) (k+n) (k+n)) (k+n) o:=⟨_,_,⟨rfl,Nat.le_refl _,by unfold maxLen;omega,fun h=>by cases h⟩,hrow.rd,fun i _=>HO.out i⟩;have htr:=y3q _ (k+n) o wr hd;clear hrow hd;have HTR:=hid htr;have HNEW:=hid hnew;clear htr hnew;go_wp2_with fail;refine HTR.out.mono ?_;rintro e w' ⟨hw9,v,n',rfl, -,hw,hv⟩;rw[<-hw9];rw[HV.out] at hv;clear hw9;have HV2:=hid hv;have HW:=hid hw;clear hv hw;go_wp2_with fail;go_ret;exact ⟨v,rfl,HNEW.out,n',o,HW.out,HV2.out⟩
theorem y4c {f:Nat->Nat}{n x K:Nat}(h:Canon B9 f n)(hv:vf B9 f n=x)(hx:x < B9^K):n<=K:=by
 rcases Nat.eq_zero_or_pos n with h0 | h0
 ·omega
 ·have h1:=h.ge (by omega);rw[hv] at h1;rcases Nat.lt_or_ge K n with h2 | h2
  ·exfalso;have h3:B9^K<=B9^(n - 1):=Nat.pow_le_pow_right (by decide) (by omega);omega
  ·exact h2
theorem yah (K:Nat)(va vb:Value)(x y:Nat)(w:World)(ha:IsD w va x)(hb:IsD w vb y)(hK:K<=100000)(hx:x < B9^K)(hy:y < B9^K):
  Calls Tryz.prog 189 #[va,vb] w (RetD w (x*y)):=by
 obtain ⟨m,f,hf,hfv⟩:=ha;obtain ⟨n,g,hg,hgv⟩:=hb;have hm:=y4c hf.canon hfv hx;have hn:=y4c hg.canon hgv hy;have hfl:=hf.1.lt;have hgl:=hg.1.lt;obtain ⟨⟨a,ca,⟨rfl, -⟩,hra, -⟩, -⟩:=hf;obtain ⟨⟨b,cb,⟨rfl, -⟩,hrb, -⟩, -⟩:=hg;have:=ylr a b m n ca cb f g w (by omega) (by omega) hra hrb hfl hgl;rw[hfv,hgv] at this;exact this
def ygk (w:World)(q r:Nat)(e:Ending)(w':World):Prop:=∃ v,e=.returned (.tuple #[v,.int .i64 (r:Nat)])/\New w w'/\IsD w' v q
theorem yhh {q f:Nat->Nat}{kk m y rr r' d:Nat}(h0:kk≠0)(hm:kk<=m)(h:vf B9 (fun i=>q (kk+i)) (m - kk)*y+rr=vf B9 (fun i=>f (kk+i)) (m - kk))(hs:d*y+r'=rr*B9+f (kk - 1)):
  vf B9 (fun i=>upd q (kk - 1) d (kk - 1+i)) (m - (kk - 1))*y+r'=vf B9 (fun i=>f (kk - 1+i)) (m - (kk - 1)):=by
 obtain ⟨i,rfl⟩:∃ i,kk=i+1:=⟨kk - 1,by omega⟩;simp only[Nat.add_sub_cancel] at hs⊢;refine ye4 (q:=upd q i d) (by omega) (r:=rr) ?_ ?_
 ·rw[<-h];congr 2;exact y0s fun x hx=>y0a _ _ (by omega)
 ·rw[upd_same];exact hs
theorem divd (s d:Nat):(s:Int) / (d:Int)=((s / d:Nat):Int)/\Int.tdiv (s:Int) (d:Int)=((s / d:Nat):Int)/\Int.tmod (s:Int) (d:Int)=((s % d:Nat):Int)/\(s:Int) % (d:Int)=((s % d:Nat):Int):=by
 refine ⟨by omega,?_,?_,by omega⟩
 ·rw[Int.tdiv_eq_ediv_of_nonneg (by omega)];omega
 ·rw[Int.tmod_eq_emod_of_nonneg (by omega)];omega
theorem yl5 (a:Option Addr)(m ca d:Nat)(f:Nat->Nat)(w:World)(hm:m<=1000000)(ha:Rd w a .i64 m f)(hfl:∀ i,i < m->f i < B9)(hd0:0 < d)(hd:d < B9):
  Calls Tryz.prog 219 #[.slice a m ca,.int .i64 (d:Int)] w (ygk w (vf B9 f m / d) (vf B9 f m % d)):=by
 have hmk:=fun W=>run_make_row' (P:=Tryz.prog) 24 3 (.int .i64 0) 8 Tryz.underlying24 y3b rfl .i64 .i64 m (by omega) (by omega) W
 have hdi:(d:Int) < 1000000000:=by unfold B9 at hd;omega
 have hdi0:(0:Int) < (d:Int):=by omega
 have hdne:((d:Int)==0)=false:=by simp;omega
 have hdne2:(d:Int)≠0:=by omega
 have HFL:=hid hfl;have HD:=hid hd;have HD0:=hid hd0;have HDI0:=hid hdi0;have HDI:=hid hdi;clear hfl hd hd0 hdi0 hdi;go_enter Tryz.func219,Tryz.ntmps219;go_wp2_with fail;clear hmk;obtain ⟨B,hB⟩:∃ B,B=w.heap.size:=⟨_,rfl⟩;have hrow0:=Row.made w .i64 m 3;have hnew0:New w (w.alloc (.cells (madeCells #[.int .i64 0] m) 3)):=(New.refl w).alloc _;rw[<-hB] at hrow0⊢;generalize w.alloc (.cells (madeCells #[.int .i64 0] m) 3)=w2 at hrow0 hnew0⊢;have HB:=hid hB;clear hB
 go_loopw [7,8] (fun sr si wx=>∃ (kk rr:Nat) (q:Nat->Nat),kk<=m/\si=.int .i64 ((kk:Int) - 1)/\sr=.int .i64 rr/\rr < d/\New w wx/\Row wx B 3 .i64 m q/\(∀ i,q i < B9)/\
  vf B9 (fun i=>q (kk+i)) (m - kk)*d+rr=vf B9 (fun i=>f (kk+i)) (m - kk)) (fun _ si _=>(intOf si+1).toNat)
 case atStart=>exact ⟨m,0,fun _=>0,Nat.le_refl _,rfl,rfl,HD0.out,hnew0,hrow0,fun _=>Nat.zero_lt_succ _,by rw[Nat.sub_self,y14,y14,Nat.zero_mul]⟩
 case round=>
  clear hrow0 hnew0;obtain ⟨kk,rr,q,hkk,rfl,rfl,hrr,hnew,hrow,hql,hval⟩:=hrel;have HV:=hid hval;have HQ:=hid hql;clear hval hql;by_cases hk0:kk=0
  ·subst hk0;simp only[Nat.zero_add,Nat.sub_zero] at HV;have hdg:DgN wr (.slice (some ⟨B,0,none⟩) m m) m q:=⟨_,_,⟨rfl,Nat.le_refl _,by unfold maxLen;omega,fun h=>by cases h⟩,hrow.rd,fun i _=>HQ.out i⟩;have htr:=y3q _ m q wr hdg;have hd0:=HD0.out
   have hqv:vf B9 q m=vf B9 f m / d/\rr=vf B9 f m % d:=by
    have h1:=HV.out;have e:vf B9 (fun i=>q i) m=vf B9 q m:=rfl;have e':vf B9 (fun i=>f i) m=vf B9 f m:=rfl;rw[e,e'] at h1;constructor
    ·rw[<-h1,Nat.mul_comm,Nat.mul_add_div hd0,Nat.div_eq_of_lt hrr,Nat.add_zero]
    ·rw[<-h1,Nat.mul_comm,Nat.mul_add_mod,Nat.mod_eq_of_lt hrr]
   clear hrow hdg hd0;have HTR:=hid htr;have HNEW:=hid hnew;have HQV:=hid hqv;clear htr hnew hqv;go_wp2_with fail;refine HTR.out.mono ?_;rintro e w' ⟨hw9,v,n',rfl, -,hw,hv⟩;rw[<-hw9];rw[HQV.out.1] at hv;clear hw9;have HV2:=hid hv;have HW:=hid hw;clear hv hw;go_wp2_with fail;go_ret2;have hq2:=HQV.out.2;rw[<-hq2];exact ⟨v,rfl,HNEW.out,n',q,HW.out,HV2.out⟩
  ·have hkq:(1:Int)<=(kk:Int):=by omega
   go_upto_region 6 with (fail);have hd0:=HD0.out;have hdi:=HDI.out;have hdi0:=HDI0.out;obtain ⟨b1,o1,rfl,e1⟩:=(ha.new hnew) (kk - 1) (by omega);have hf9:=HFL.out (kk - 1) (by omega);have f1:=hrow.cell (i:=kk - 1) (by omega);have ff:=hrow.frozen (kk - 1);obtain ⟨x,hx⟩:∃ x,f (kk - 1)=x:=⟨_,rfl⟩;rw[hx] at e1 hf9;obtain ⟨s,hs⟩:∃ s,rr*B9+x=s:=⟨_,rfl⟩;obtain ⟨z,hz⟩:∃ z,rr*B9=z:=⟨_,rfl⟩
   have hzi:(rr:Int)*1000000000=(z:Int):=by unfold B9 at hz;omega
   have hsi:(z:Int)+(x:Int)=(s:Int):=by omega
   have b0:(z:Int) < 1000000000000000000:=by unfold B9 at hz;omega
   obtain ⟨g1,g2,g3,g4⟩:=divd s d
   have hq9:s / d < B9:=by
    rw[Nat.div_lt_iff_lt_mul hd0,<-hs];have:=Nat.mul_le_mul_right B9 hrr;rw[Nat.succ_eq_add_one,Nat.add_mul,Nat.one_mul,Nat.mul_comm d] at this;omega
   have hr9:s % d < d:=Nat.mod_lt _ hd0
   have hst:s / d*d+s % d=rr*B9+f (kk - 1):=by rw[hx,hs,Nat.mul_comm];exact Nat.div_add_mod s d
   obtain ⟨qq,hqq⟩:∃ z,s / d=z:=⟨_,rfl⟩;obtain ⟨r2,hr2⟩:∃ z,s % d=z:=⟨_,rfl⟩;rw[hqq] at g1 g2 hq9 hst;rw[hr2] at g3 g4 hr9 hst
   have b1':(rr:Int) < 1000000000:=by omega
   have b2:(x:Int) < 1000000000:=by unfold B9 at hf9;omega
   have b3:(s:Int) < 1000000000000000000:=by omega
   have b4:(qq:Int) < 1000000000:=by unfold B9 at hq9;omega
   have b5:(r2:Int) < 1000000000:=by omega
   clear hx hs hqq hr2 hf9 ha hz hd0;have HST:=hid hst;have HQ9:=hid hq9;have HR9:=hid hr9;have HNEW:=hid hnew;have HROW:=hid hrow;have HRR:=hid hrr;clear hst hq9 hr9 hnew hrow hrr;go_wp2_with fail;clear e1 f1 ff;go_roundw
   case rel=>
    exact ⟨kk - 1,r2,upd q (kk - 1) qq,by omega,by go_num,rfl,HR9.out,HNEW.out.setCell (by rw[<-HB.out];exact Nat.le_refl _) _,HROW.out.set _ _,y2a HQ.out HQ9.out,yhh hk0 hkk HV.out HST.out⟩
   case measure=>simp[intOf];omega
theorem y9a (K:Nat)(va:Value)(x d:Nat)(w:World)(ha:IsD w va x)(hK:K<=100000)(hx:x < B9^K)(hd0:0 < d)(hd:d < B9):
  Calls Tryz.prog 219 #[va,.int .i64 (d:Int)] w (ygk w (x / d) (x % d)):=by
 obtain ⟨m,f,hf,hfv⟩:=ha;have hm:=y4c hf.canon hfv hx;have hfl:=hf.1.lt;obtain ⟨⟨a,ca,⟨rfl, -⟩,hra, -⟩, -⟩:=hf;have:=yl5 a m ca d f w (by omega) hra hfl hd0 hd;rw[hfv] at this;exact this
theorem New.undr {a b:World}(h:New a.drew b):New a b:=((New.refl a).drew).trans h
theorem Rd.far {w:World}{a:Option Addr}{n B:Nat}{f:Nat->Nat}(h:Rd w a .i64 n f)(hb:∀ i x,w.cell? ⟨B,i,none⟩≠some (.int .i64 x))(u u':Value):Rd ((w.setCell ⟨B,0,none⟩ u).setCell ⟨B,1,none⟩ u') a .i64 n f:=fun i hi=>by
 obtain ⟨b,off,e,hc⟩:=h i hi
 have hne:b≠B:=by
  rintro rfl;exact hb _ _ hc
 refine ⟨b,off,e,?_⟩;rw[World.cell?_setCell_far _ _ _ _ (by exact Ne.symm hne),World.cell?_setCell_far _ _ _ _ (by exact Ne.symm hne)];exact hc
theorem Box.noInt {w:World}{B:Nat}{t:TypeId}{b:Bool}{a:Option Addr}{l c:Nat}(h:Box w B t #[.bool b,.slice a l c]):∀ i x,w.cell? ⟨B,i,none⟩≠some (.int .i64 x):=fun i x e=>by
 rw[h.cell i]at e
 match i,e with
 | 0,e=>simp at e
 | 1,e=>simp at e
 | i+2,e=>simp at e
def IsN (w:World)(v:Value)(z:Nat):Prop:=∃ n f,DgN w v n f/\vf B9 f n=z
theorem IsN.new {w w':World}{v:Value}{z:Nat}(h:IsN w v z)(hn:New w w'):IsN w' v z:=by
 obtain ⟨n,f,h1,h2⟩:=h;exact ⟨n,f,h1.new hn,h2⟩
theorem IsD.n {w:World}{v:Value}{z:Nat}(h:IsD w v z):IsN w v z:=by
 obtain ⟨n,f,h1,h2⟩:=h;exact ⟨n,f,h1.1,h2⟩
theorem IsN.shape {w:World}{v:Value}{z:Nat}(h:IsN w v z):∃ a n c,v=.slice a n c:=by
 obtain ⟨n,f,⟨a,cap,⟨rfl, -⟩, -⟩, -⟩:=h;exact ⟨_,_,_,rfl⟩
theorem IsD.shape {w:World}{v:Value}{z:Nat}(h:IsD w v z):∃ a n c,v=.slice a n c:=h.n.shape
def RetN (w:World)(z:Nat)(e:Ending)(w':World):Prop:=∃ v,e=.returned v/\New w w'/\IsN w' v z
theorem RetD.n {w w':World}{z:Nat}{e:Ending}(h:RetD w z e w'):RetN w z e w':=by
 obtain ⟨v,h1,h2,h3⟩:=h;exact ⟨v,h1,h2,h3.n⟩
theorem IsD.far {w:World}{v:Value}{z B:Nat}(h:IsD w v z)(hb:∀ i x,w.cell? ⟨B,i,none⟩≠some (.int .i64 x))(u u':Value):IsD ((w.setCell ⟨B,0,none⟩ u).setCell ⟨B,1,none⟩ u') v z:=by
 obtain ⟨n,f,⟨⟨a,cap,h1,h2,h3⟩,h4⟩,h5⟩:=h;exact ⟨n,f,⟨⟨a,cap,h1,h2.far hb _ _,h3⟩,h4⟩,h5⟩
def IsZ (w:World)(v:Value)(z:Int):Prop:=∃ vw,v=.agg #[.bool (decide (z < 0)),vw]/\IsD w vw z.natAbs
theorem IsZ.new {w w':World}{v:Value}{z:Int}(h:IsZ w v z)(hn:New w w'):IsZ w' v z:=by
 obtain ⟨vw,h1,h2⟩:=h;exact ⟨vw,h1,h2.new hn⟩
theorem IsZ.far {w:World}{v:Value}{z:Int}{B:Nat}(h:IsZ w v z)(hb:∀ i x,w.cell? ⟨B,i,none⟩≠some (.int .i64 x))(u u':Value):IsZ ((w.setCell ⟨B,0,none⟩ u).setCell ⟨B,1,none⟩ u') v z:=by
 obtain ⟨vw,h1,h2⟩:=h;exact ⟨vw,h1,h2.far hb _ _⟩
theorem IsZ.mk' {w:World}{vw:Value}{z:Int}{b:Bool}{m:Nat}(hb:b=decide (z < 0))(hm:z.natAbs=m)(h:IsD w vw m):IsZ w (.agg #[.bool b,vw]) z:=⟨vw,by rw[hb],by rw[hm];exact h⟩
theorem IsZ.shape {w:World}{v:Value}{z:Int}(h:IsZ w v z):∃ b a n c,v=.agg #[.bool b,.slice a n c]:=by
 obtain ⟨vw,rfl,h2⟩:=h;obtain ⟨a,n,c,rfl⟩:=h2.shape;exact ⟨_,_,_,_,rfl⟩
theorem IsZ.parts {w:World}{b:Bool}{a:Option Addr}{n c:Nat}{z:Int}(h:IsZ w (.agg #[.bool b,.slice a n c]) z):b=decide (z < 0)/\IsD w (.slice a n c) z.natAbs:=by
 obtain ⟨vw,h1,h2⟩:=h;injection h1 with h1;simp only[Array.mk.injEq,List.cons.injEq,Value.bool.injEq,and_true] at h1;obtain ⟨h1,rfl⟩:=h1;exact ⟨h1,h2⟩
def RetZ (w:World)(z:Int)(e:Ending)(w':World):Prop:=∃ v,e=.returned v/\New w w'/\IsZ w' v z
theorem y8j {w w6:World}{z:Int}{B:Nat}{t:TypeId}{b0 b:Bool}{a0 a:Option Addr}{l0 c0 l c:Nat}(hN:New w w6)(bp:Box w6 B t #[.bool b0,.slice a0 l0 c0])(hB:w.heap.size<=B)(h:IsZ w6 (.agg #[.bool b,.slice a l c]) z):
  RetZ w z (.returned (.agg #[.bool b,.slice a l c])) ((w6.setCell ⟨B,0,none⟩ (.bool b)).setCell ⟨B,1,none⟩ (.slice a l c)):=⟨_,rfl,(hN.setCell hB _).setCell hB _,h.far bp.noInt _ _⟩
def sgnd (neg:Bool)(m:Nat):Int:=if neg then -(m:Int) else m
theorem y6b (neg:Bool)(m:Nat):(sgnd neg m).natAbs=m:=by unfold sgnd;split <;> omega
theorem yjg (neg:Bool)(m:Nat):decide (sgnd neg m < 0)=(neg && decide (0 < m)):=by
 unfold sgnd
 cases neg with
 | true=>simp
 | false=>simp
theorem yjt (z:Int):sgnd (decide (z < 0)) z.natAbs=z:=by
 unfold sgnd;by_cases h:z < 0
 ·rw[if_pos (by simpa using h)];omega
 ·rw[if_neg (by simpa using h)];omega
theorem y1l (neg:Bool)(v:Value)(m:Nat)(w:World)(h:IsN w v m):
  Calls Tryz.prog 188 #[.bool neg,v] w (RetZ w (sgnd neg m)):=by
 obtain ⟨n,f,h,hm⟩:=h;have htr:=fun W (hW:New w W)=>y3q v n f W (h.new hW);rw[hm] at htr;obtain ⟨a,cap,⟨rfl, -⟩, -⟩:=h;clear hm;have HTR:=hid htr;clear htr;go_enter Tryz.func188,Tryz.ntmps188;go_wp2_with fail;obtain ⟨BP,HN⟩:=lay1 w 124 #[.bool false,.slice none 0 0];refine (HTR.out _ HN.out).mono ?_;rintro e w1 ⟨hw1,v1,n1,rfl, -,hd,hv⟩;rw[<-hw1];clear hw1;have hz:=hd.canon.zero_iff (by decide);have hdd:IsD _ v1 m:=⟨n1,f,hd,hv⟩;rw[hv] at hz;obtain ⟨⟨a1,cap1,⟨rfl, -⟩, -⟩, -⟩:=hd;clear hv;obtain ⟨w5,hw5⟩:∃ x,w.alloc (.cells #[.bool false,.slice none 0 0] 124)=x:=⟨_,rfl⟩;rw[hw5] at HN BP hdd⊢;clear hw5 HTR;have HDD:=hid hdd;clear hdd;by_cases h0:n1=0
 ·have hm0:=hz.2 h0;subst h0;subst hm0;clear hz
  have hs:decide (sgnd neg 0 < 0)=false:=by rw[yjg];cases neg <;> rfl
  have HS:=hid hs;clear hs
  cases neg with
  | true=>
   obtain ⟨p0,p1,p2,p3,p4⟩:=BP.out.two;go_wp2_with fail;refine bodyPost_ret (v:=.agg #[.bool false,.slice a1 0 cap1]) (by simp[results,Tryz.results188,go_sem,p0,p1]) rfl ?_;exact y8j HN.out BP.out (by omega) (IsZ.mk' HS.out.symm (y6b _ _) HDD.out)
  | false=>
   obtain ⟨p0,p1,p2,p3,p4⟩:=BP.out.two;go_wp2_with fail;refine bodyPost_ret (v:=.agg #[.bool false,.slice a1 0 cap1]) (by simp[results,Tryz.results188,go_sem,p0,p1]) rfl ?_;exact y8j HN.out BP.out (by omega) (IsZ.mk' HS.out.symm (y6b _ _) HDD.out)
 ·have h0i:(0:Int) < (n1:Int):=by omega
  have h0n:0 < n1:=by omega
  have hm0:0 < m:=by
   rcases Nat.eq_zero_or_pos m with h | h
   ·exact absurd (hz.1 h) h0
   ·exact h
  have hs:∀ b:Bool,decide (sgnd b m < 0)=b:=fun b=>by rw[yjg,decide_eq_true hm0,Bool.and_true]
  clear hz h0 hm0;have HS:=hid hs;clear hs
  cases neg with
  | true=>
   obtain ⟨p0,p1,p2,p3,p4⟩:=BP.out.two;go_wp2_with fail;refine bodyPost_ret (v:=.agg #[.bool true,.slice a1 n1 cap1]) (by simp[results,Tryz.results188,go_sem,p0,p1]) rfl ?_;exact y8j HN.out BP.out (by omega) (IsZ.mk' (HS.out true).symm (y6b _ _) HDD.out)
  | false=>
   obtain ⟨p0,p1,p2,p3,p4⟩:=BP.out.two;go_wp2_with fail;refine bodyPost_ret (v:=.agg #[.bool false,.slice a1 n1 cap1]) (by simp[results,Tryz.results188,go_sem,p0,p1]) rfl ?_;exact y8j HN.out BP.out (by omega) (IsZ.mk' (HS.out false).symm (y6b _ _) HDD.out)
structure GWay (B:Nat)(u v:Nat->Nat)(k t r:Nat):Prop where
 rest:t*v (k+1)+r=u (k+2)*B+u (k+1)
 hr:r < B
 ge:vf B u (k+3) < (t+1)*vf B v (k+2)
structure GFit (B:Nat)(u v:Nat->Nat)(k t:Nat):Prop where
 hh:t < B
 ge:vf B u (k+3) < (t+1)*vf B v (k+2)
 le:t*vf B v (k+2)<=vf B u (k+3)+vf B v (k+2)
section
variable {B:Nat} {u v:Nat->Nat} {k t r:Nat}
theorem yk2 (hv:∀ i,i < k+2->v i < B)(hlt:vf B (fun i=>u (1+i)) (k+2) < vf B v (k+2)):u (k+2)<=v (k+1):=by
 rcases Nat.lt_or_ge (v (k+1)) (u (k+2)) with h | h
 ·exfalso;rw[y03 _ v,y03,show 1+(k+1)=k+2 by omega] at hlt;have h1:vf B v (k+1) < B^(k+1):=y4t fun i hi=>hv i (by omega);have h2:(v (k+1)+1)*B^(k+1)<=u (k+2)*B^(k+1):=Nat.mul_le_mul_right _ h;rw[Nat.add_mul,Nat.one_mul] at h2;omega
 ·exact h
theorem yoo (hu:∀ i,i < k+3->u i < B)(hlt:vf B (fun i=>u (1+i)) (k+2) < vf B v (k+2)):vf B u (k+3) < B*vf B v (k+2):=by
 have e:vf B u (k+3)=u 0+B*vf B (fun i=>u (i+1)) (k+2):=y7x B u (k+2)
 have e2:(fun i=>u (i+1))=fun i=>u (1+i):=funext fun i=>by rw[Nat.add_comm]
 rw[e,e2];have h1:=hu 0 (by omega);have h2:B*(vf B (fun i=>u (1+i)) (k+2)+1)<=B*vf B v (k+2):=Nat.mul_le_mul_left _ hlt;rw[Nat.mul_add,Nat.mul_one] at h2;omega
theorem GWay.start (hB:0 < B)(hu:∀ i,i < k+3->u i < B)(hv:∀ i,i < k+2->v i < B)(hv0:v (k+1)≠0):
  GWay B u v k ((u (k+2)*B+u (k+1)) / v (k+1)) ((u (k+2)*B+u (k+1)) % v (k+1)):=by
 refine ⟨?_,?_,yg9 hB hu hv0⟩
 ·rw[Nat.mul_comm];exact Nat.div_add_mod _ _
 ·exact Nat.lt_trans (Nat.mod_lt _ (by omega)) (hv _ (by omega))
theorem GWay.bound (h:GWay B u v k t r)(hu:∀ i,i < k+3->u i < B)(hv:∀ i,i < k+2->v i < B)(hv0:v (k+1)≠0)(hlt:vf B (fun i=>u (1+i)) (k+2) < vf B v (k+2)):t < 2*B:=by
 have h1:=yk2 hv hlt;have h2:=hu (k+1) (by omega);have h3:=h.rest;generalize v (k+1)=a at *;generalize u (k+2)=b at *;generalize u (k+1)=c at *;rcases Nat.lt_or_ge t (2*B) with h4 | h4
 ·exact h4
 ·exfalso;have h5:2*B*a<=t*a:=Nat.mul_le_mul_right _ h4;have h6:b*B<=a*B:=Nat.mul_le_mul_right _ h1;have h7:1*B<=a*B:=Nat.mul_le_mul_right _ (by omega);rw[Nat.mul_assoc,Nat.mul_comm B a] at h5;omega
theorem GWay.pass (h:GWay B u v k t r)(hv:∀ i,i < k+2->v i < B)(hv0:v (k+1)≠0)(ht:t < B)(hok:t*v k<=r*B+u k):GFit B u v k t:=
 ⟨ht,h.ge,y69 hv hv0 ht ((y78 h.rest).1 hok)⟩
theorem GWay.less (h:GWay B u v k t r)(hB:0 < B)(hu:∀ i,i < k+3->u i < B)(hv:∀ i,i < k+2->v i < B)(hv0:v (k+1)≠0)(hlt:vf B (fun i=>u (1+i)) (k+2) < vf B v (k+2))(hbad:B<=t\/r*B+u k < t*v k):
  0 < t/\(r+v (k+1) < B->GWay B u v k (t - 1) (r+v (k+1)))/\(B<=r+v (k+1)->GFit B u v k (t - 1)):=by
 have h0:=h.rest
 have hg:0 < t/\vf B u (k+3) < (t - 1+1)*vf B v (k+2):=by
  rcases hbad with h1 | h1
  ·refine ⟨by omega,?_⟩;have h2:=yoo hu hlt;have h3:B*vf B v (k+2)<=(t - 1+1)*vf B v (k+2):=Nat.mul_le_mul_right _ (by omega);omega
  ·refine yai hB hu hv0 ?_;rcases Nat.lt_or_ge ((u (k+2)*B+u (k+1))*B+u k) (t*(v (k+1)*B+v k)) with h2 | h2
   ·exact h2
   ·exact absurd ((y78 h0).2 h2) (by omega)
 obtain ⟨hp,hge⟩:=hg;obtain ⟨n,rfl⟩:∃ n,t=n+1:=⟨t - 1,by omega⟩;rw[Nat.add_mul,Nat.one_mul] at h0;simp only[Nat.add_sub_cancel] at hge⊢
 have hrest:n*v (k+1)+(r+v (k+1))=u (k+2)*B+u (k+1):=by omega
 refine ⟨hp,fun h1=>⟨hrest,h1,hge⟩,fun h1=>?_⟩;have h2:=yk2 hv hlt;have h3:=hu (k+1) (by omega)
 have hn:n < B:=by
  rcases Nat.lt_or_ge n B with h4 | h4
  ·exact h4
  ·exfalso;have h5:B*v (k+1)<=n*v (k+1):=Nat.mul_le_mul_right _ h4;have h6:u (k+2)*B<=v (k+1)*B:=Nat.mul_le_mul_right _ h2;rw[Nat.mul_comm] at h5;omega
 exact ⟨hn,hge,y69 hv hv0 hn (yd6 hrest h1 hn (hv _ (by omega)))⟩
end
theorem y9g {B:Nat} {p u g:Nat->Nat} {j i t c d _lo c':Nat} (h:vf B (fun i=>p (j+i)) i+t*vf B g i=vf B u i+c*B^i)
  (hs:d+t*g i+c=u i+B*c'):
  vf B (fun x=>upd p (j+i) d (j+x)) (i+1)+t*vf B g (i+1)=vf B u (i+1)+c'*B^(i+1):=by
 have e:vf B (fun x=>upd p (j+i) d (j+x)) i=vf B (fun i=>p (j+i)) i:=y0s fun x hx=>y0a _ _ (by omega)
 have h2:(d+t*g i+c)*B^i=(u i+B*c')*B^i:=by rw[hs]
 rw[Nat.add_mul,Nat.add_mul,Nat.add_mul]at h2;rw[y03 _ u,y03 _ g,y03,e,upd_same,Nat.pow_succ,Nat.mul_comm (B^i) B,<-Nat.mul_assoc,Nat.mul_comm c',Nat.mul_add,<-Nat.mul_assoc];omega
theorem yhy {B:Nat}{p u:Nat->Nat}{j n c d b' t V:Nat}(h:vf B (fun i=>p (j+i)) n+t*V=vf B u n+c*B^n)(hs:d+c=u n+B*b'):
  vf B (fun x=>upd p (j+n) d (j+x)) (n+1)+t*V=vf B u (n+1)+b'*B^(n+1):=by
 have e:vf B (fun x=>upd p (j+n) d (j+x)) n=vf B (fun i=>p (j+i)) n:=y0s fun x hx=>y0a _ _ (by omega)
 have h2:(d+c)*B^n=(u n+B*b')*B^n:=by rw[hs]
 rw[Nat.add_mul,Nat.add_mul]at h2;rw[y03 _ u,y03,e,upd_same,Nat.pow_succ,Nat.mul_comm (B^n) B,<-Nat.mul_assoc,Nat.mul_comm b'];omega
theorem yf4 {B:Nat}{p q g:Nat->Nat}{j i cc d c':Nat}(h:vf B (fun i=>p (j+i)) i+cc*B^i=vf B (fun i=>q (j+i)) i+vf B g i)(hs:d+B*c'=q (j+i)+g i+cc):
  vf B (fun x=>upd p (j+i) d (j+x)) (i+1)+c'*B^(i+1)=vf B (fun i=>q (j+i)) (i+1)+vf B g (i+1):=by
 refine y8m (c:=cc) ?_ ?_
 ·rw[<-h];congr 1;exact y0s fun x hx=>y0a _ _ (by omega)
 ·simp only[upd_same];exact hs
end Go.Proofs.YtnjonlnemagomaaGreatDoor
namespace Go.Proofs.YtnjonlnemagomaaGreatDoor
open Big Go.Lib
set_option maxRecDepth 100000
set_option maxHeartbeats 8000000
theorem yju {P U V t e cc un c vo vp vp2:Nat} (h1:vp+t*V=vo+c*P) (hU:U=vo+un*P) (he:c=un+e) (h0:0 < e) (h2:vp2+cc*P=vp+V) (hvp:vp < P) (hvp2:vp2 < P) (_hV:V<=P) (hcc:cc<=1)
  (hle:t*V<=U+V):0 < t/\e=cc/\vp2+(t - 1)*V=U/\vp2 < V:=by
 have hP:U+e*P=vo+c*P:=by rw[hU,he,Nat.add_mul];omega
 have he1:1*P<=e*P:=Nat.mul_le_mul_right _ h0
 have ht:0 < t:=by
  rcases Nat.eq_zero_or_pos t with h | h
  ·subst h;omega
  ·exact h
 obtain ⟨s,rfl⟩:∃ s,t=s+1:=⟨t - 1,by omega⟩;rw[Nat.add_mul,Nat.one_mul] at h1 hle;simp only[Nat.add_sub_cancel];generalize s*V=S at *
 have hc1:cc=1:=by
  rcases Nat.eq_zero_or_pos cc with h | h
  ·subst h;omega
  ·omega
 subst hc1;rw[Nat.one_mul] at h2
 have he2:e=1:=by
  rcases Nat.lt_or_ge e 2 with h | h
  ·omega
  ·exfalso;have:=Nat.mul_le_mul_right P h;omega
 subst he2;omega
theorem yob {x y M r Q:Nat}(hM:0 < M)(h:r+y*M*Q=x*M)(hr:r < y*M):Q=x / y/\r / M=x % y:=by
 have hy:0 < y:=by
  rcases Nat.eq_zero_or_pos y with h0 | h0
  ·subst h0;omega
  ·exact h0
 have hd:M ∣ r:=by
  have h1:M ∣ r+y*M*Q:=by rw[h];exact Nat.dvd_mul_left _ _
  have h2:M ∣ y*M*Q:=⟨y*Q,by rw[Nat.mul_comm y M,Nat.mul_assoc]⟩;exact (Nat.dvd_add_left h2).1 h1
 obtain ⟨s,rfl⟩:=hd
 have h3:(s+y*Q)*M=x*M:=by
  rw[Nat.add_mul,<-h,Nat.mul_comm s M,Nat.mul_right_comm]
 have h4:s+y*Q=x:=Nat.eq_of_mul_eq_mul_right hM h3
 have h5:s < y:=by rw[Nat.mul_comm y M] at hr;exact Nat.lt_of_mul_lt_mul_left hr
 subst h4;rw[Nat.mul_div_cancel_left _ hM];refine ⟨?_,?_⟩
 ·rw[Nat.add_mul_div_left _ _ hy,Nat.div_eq_of_lt h5,Nat.zero_add]
 ·rw[Nat.add_mul_mod_self_left,Nat.mod_eq_of_lt h5]
theorem yi6 {B k n y M x:Nat}{g v:Nat->Nat}(hB:1 < B)(hgl:∀ i,i < k+2->g i < B)(hy:y=vf B g (k+2))(hx:g (k+1)=x)(hx0:0 < x)(hM:M=B / (x+1))(hv:Canon B v n)(hvv:vf B v n=y*M):
  0 < M/\n=k+2/\x*M*B^(k+1)<=y*M/\y*M<=B^(k+2):=by
 have hxB:x < B:=by rw[<-hx];exact hgl _ (by omega)
 have hM0:0 < M:=by rw[hM];exact Nat.div_pos hxB (by omega)
 have hMx:(x+1)*M<=B:=by rw[hM];exact Nat.mul_div_le _ _
 have h0:vf B g (k+1) < B^(k+1):=y4t fun i hi=>hgl i (by omega)
 have h1:y=vf B g (k+1)+x*B^(k+1):=by rw[hy,y03,hx]
 have hP2:B^(k+2)=B*B^(k+1):=by rw[Nat.pow_succ,Nat.mul_comm]
 have h3:(y+1)*M<=B^(k+2):=by
  have a:y+1<=(x+1)*B^(k+1):=by rw[Nat.add_mul,Nat.one_mul];omega
  have b:=Nat.mul_le_mul_right M a;rw[Nat.mul_right_comm] at b;rw[hP2];exact Nat.le_trans b (Nat.mul_le_mul_right _ hMx)
 have h4:x*M*B^(k+1)<=y*M:=by
  have a:x*B^(k+1)<=y:=by omega
  have b:=Nat.mul_le_mul_right M a
  rwa [Nat.mul_right_comm] at b
 rw[Nat.add_mul,Nat.one_mul]at h3;refine ⟨hM0,?_,h4,by omega⟩
 have h5:B^(k+1)<=y*M:=by
  have a:1<=x*M:=Nat.mul_pos hx0 hM0;have b:=Nat.mul_le_mul_right (B^(k+1)) a;omega
 have h6:=hv.lt_pow;rw[hvv] at h6;rcases Nat.lt_trichotomy n (k+2) with h | h | h
 ·exfalso;have:=Nat.pow_le_pow_right (n:=B) (by omega) (show n<=k+1 by omega);omega
 ·exact h
 ·exfalso;have h7:=hv.ge (by omega);rw[hvv] at h7;have:=Nat.pow_le_pow_right (n:=B) (by omega) (show k+2<=n - 1 by omega);omega
theorem ya7 (i n:Nat):y0g (i+1) n=UInt8.ofNat (48+n / 10^i % 10)::y0g i n:=by
 induction i generalizing n with
 | zero=>simp[y0g]
 | succ i ih=>
  rw[y0g,ih (n / 10),List.cons_append,Nat.div_div_eq_div_mul,Nat.pow_succ,Nat.mul_comm (10^i)];rfl
structure y6g (n0 least i n:Nat):Prop where
 now:n=n0 / 10^i
 few:i<=least\/10^(i - 1)<=n0
theorem y6g.start (n0 least:Nat):y6g n0 least 0 n0:=⟨by simp,.inl (Nat.zero_le _)⟩
theorem y6g.next {n0 least i n:Nat}(h:y6g n0 least i n)(hg:0 < n\/i < least):y6g n0 least (i+1) (n / 10):=by
 refine ⟨by rw[h.now,Nat.div_div_eq_div_mul,Nat.pow_succ],?_⟩;rcases hg with h1 | h1
 ·refine .inr ?_;rw[Nat.add_sub_cancel];rw[h.now] at h1;exact (Nat.div_pos_iff.1 h1).2
 ·exact .inl h1
theorem y6g.done {n0 least i n:Nat}(h:y6g n0 least i n)(hn:n=0)(hi:least<=i):n0 < 10^i/\(i=least\/10^(i - 1)<=n0):=by
 refine ⟨?_,?_⟩
 ·have h1:=h.now;rw[hn] at h1;exact (Nat.div_eq_zero_iff.1 h1.symm).resolve_left (Nat.ne_of_gt (Nat.pow_pos (by omega)))
 ·rcases h.few with h1 | h1
  ·exact .inl (by omega)
  ·exact .inr h1
theorem y6g.nine {n0 i n:Nat}(h:y6g n0 9 i n)(hn:n=0)(hi:9<=i)(h9:n0 < 1000000000):y0g i n0=y0g 9 n0:=by
 obtain ⟨h1,h2 | h2⟩:=h.done hn hi
 ·rw[h2]
 ·have:i - 1 < 9:=by
   rcases Nat.lt_or_ge (i - 1) 9 with h3 | h3
   ·exact h3
   ·have:=Nat.pow_le_pow_right (n:=10) (by omega) h3;omega
  rw[show i=9 by omega]
theorem y6g.one {n0 i n:Nat}(h:y6g n0 1 i n)(hn:n=0)(hi:1<=i):y0g i n0=decDigits n0:=by
 obtain ⟨h1,h2⟩:=h.done hn hi;have h3:=(y0w (u:=n0) (k:=i) (by omega)).2 h1;refine yae ?_;rcases h2 with h2 | h2
 ·have:=nDigits_pos n0;omega
 ·rcases Nat.lt_or_ge (nDigits n0) i with h4 | h4
  ·exfalso;by_cases h5:i=1
   ·have:=nDigits_pos n0;omega
   ·have:=(y0w (u:=n0) (k:=i - 1) (by omega)).1 (by omega);omega
  ·omega
theorem yef {f:Nat->Nat}{n k:Nat}(hk:0 < k)(hkn:k<=n)(hl:∀ i,i < n->f i < 1000000000)(h0:vf 1000000000 (fun i=>f (k+i)) (n - k)≠0):
  decDigits (vf 1000000000 (fun i=>f (k - 1+i)) (n - (k - 1)))=decDigits (vf 1000000000 (fun i=>f (k+i)) (n - k)) ++ y0g 9 (f (k - 1))/\vf 1000000000 (fun i=>f (k - 1+i)) (n - (k - 1))≠0:=by
 obtain ⟨j,rfl⟩:∃ j,k=j+1:=⟨k - 1,by omega⟩;rw[Nat.add_sub_cancel]
 have e:n - j=n - (j+1)+1:=by omega
 have e1:(fun i=>f (j+(i+1)))=fun i=>f (j+1+i):=funext fun i=>by rw[show j+(i+1)=j+1+i by omega]
 have h1:vf 1000000000 (fun i=>f (j+i)) (n - j)=vf 1000000000 (fun i=>f (j+1+i)) (n - (j+1))*10^9+f j:=by
  rw[e,y7x,e1,Nat.add_zero,Nat.mul_comm];omega
 rw[h1,y71 h0 9 (f j) (hl j (by omega))];exact ⟨rfl,by omega⟩
end Go.Proofs.YtnjonlnemagomaaGreatDoor
