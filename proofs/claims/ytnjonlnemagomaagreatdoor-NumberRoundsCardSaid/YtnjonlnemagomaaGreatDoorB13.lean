/- Part B13. -/
import Derived.Laws.AppendOwn
import Derived.Deep.LoopGhost
import Derived.Test.YtnjonlnemagomaaGreatDoorB12
namespace Go.Proofs.YtnjonlnemagomaaGreatDoor
open Go.RowKit Big Tryz
open Go.Lib (hid)
set_option maxRecDepth 100000
set_option maxHeartbeats 8000000
set_option linter.all false
def RGuessPost (w:World)(U g:Nat→Nat)(k:Nat)(e:Ending)(w':World):Prop:=New w w'∧∃ t:Nat,e=.returned (.int .i64 (t:Int))∧GFit B9 U g k t
theorem rguess_any (au av:Option Addr) (lu cu cv k j:Nat) (o g:Nat→Nat) (w:World) (hlu:lu≤1000000) (hj:j+(k+2) < lu) (hu:Rd w au .i64 lu o) (hv:Rd w av .i64 (k+2) g) (hol:∀ i,o i < B9) (hgl:∀ i,i < k+2→g i < B9)
  (hg0:g (k+1)≠0) (hlt:vf B9 (fun i=>o (j+1+i)) (k+2) < vf B9 g (k+2)):
  Calls prog 221 #[.slice au lu cu,.slice av (k+2) cv,.int .i64 (j:Int)] w (RGuessPost w (fun i=>o (j+i)) g k):=by
 obtain ⟨U,ac⟩:∃ U:Nat→Nat,U=fun i=>o (j+i):=⟨_,rfl⟩
 have hU:∀ i,i < k+3→U i < B9:=fun i _=>by rw[ac];exact hol (j+i)
 have ae:vf B9 (fun i=>U (1+i)) (k+2) < vf B9 g (k+2):=by rw[ac];simpa only[←Nat.add_assoc] using hlt
 obtain ⟨n,hn⟩:∃ n,k+2=n:=⟨_,rfl⟩;obtain ⟨b1,o1,rfl,c2⟩:=hu (j+n) (by omega);obtain ⟨bj,bt,e1,c1⟩:=hu (j+n - 1) (by omega);injection e1 with e1;injection e1 with e1 e2;subst e1 e2;obtain ⟨bj,bt,e1,c0⟩:=hu (j+n - 2) (by omega);injection e1 with e1;injection e1 with e1 e2;subst e1 e2;obtain ⟨b2,o2,rfl,d1⟩:=hv (n - 1) (by omega);obtain ⟨b4,b7,e1,d0⟩:=hv (n - 2) (by omega);injection e1 with e1;injection e1 with e1 e2;subst e1 e2;have hs:=GWay.start (B:=B9) (u:=U) (by decide) hU hgl hg0;have aq:=fun t r (h:GWay B9 U g k t r)=>h.bound hU hgl hg0 ae;have aj:=fun t r (h:GWay B9 U g k t r)=>h.pass hgl hg0;have ai:=fun t r (h:GWay B9 U g k t r)=>h.less (by decide) hU hgl hg0 ae
 have u2:U (k+2)=o (j+n):=by rw[ac,←hn]
 have u1:U (k+1)=o (j+n - 1):=by rw[ac];show o (j+(k+1))=_;rw[show j+(k+1)=j+n - 1 by omega]
 have u0:U k=o (j+n - 2):=by rw[ac];show o (j+k)=_;rw[show j+k=j+n - 2 by omega]
 have v1:g (k+1)=g (n - 1):=by rw[show k+1=n - 1 by omega]
 have v0:g k=g (n - 2):=by rw[show k=n - 2 by omega]
 have a8:=hol (j+n);have a0:=hol (j+n - 1);have ak:=hol (j+n - 2);have am:=hgl (n - 1) (by omega);have al:=hgl (n - 2) (by omega);rw[←ac,hn];rw[u2,u1,v1] at hs;simp only[u0,v1,v0] at ai aj;rw[v1] at hg0;have ad:∀ t r,GWay B9 U g k t r→r < B9:=fun t r h=>h.hr;obtain ⟨x2,e2⟩:∃ x,o (j+n)=x:=⟨_,rfl⟩;obtain ⟨x1,e1⟩:∃ x,o (j+n - 1)=x:=⟨_,rfl⟩;obtain ⟨x0,e0⟩:∃ x,o (j+n - 2)=x:=⟨_,rfl⟩;obtain ⟨y1,f1⟩:∃ x,g (n - 1)=x:=⟨_,rfl⟩;obtain ⟨y0,f0⟩:∃ x,g (n - 2)=x:=⟨_,rfl⟩;rw[e2] at c2 a8 hs;rw[e1] at c1 a0 hs;rw[e0] at c0 ak;rw[f1] at d1 am hs hg0;rw[f0] at d0 al;simp only[e0,f1,f0] at ai aj
 have b6:2≤n:=by omega
 have b5:j+n < lu:=by omega
 have hB:(0:Nat) < B9:=by decide
 clear hU ae hu hv hol hgl hlt hj hn ac u2 u1 u0 v1 v0 e2 e1 e0 f1 f0;obtain ⟨T,hT⟩:∃ T,x2*B9+x1=T:=⟨_,rfl⟩;obtain ⟨z2,ay⟩:∃ z,x2*B9=z:=⟨_,rfl⟩;rw[hT] at hs
 have i1:(x2:Int)*1000000000=(z2:Int):=by unfold B9 at ay;omega
 have i2:(z2:Int)+(x1:Int)=(T:Int):=by rw[ay] at hT;omega
 have i3:(T:Int) < 1000000000000000000:=by unfold B9 at *;omega
 have i4:(z2:Int) < 1000000000000000000:=by unfold B9 at *;omega
 obtain ⟨g1,g2,g3,g4⟩:=divd T y1;obtain ⟨t0,ax⟩:∃ z,T / y1=z:=⟨_,rfl⟩;obtain ⟨r0,ar⟩:∃ z,T % y1=z:=⟨_,rfl⟩;rw[ax,ar] at hs;rw[ax] at g1 g2;rw[ar] at g3 g4;have ht:=aq _ _ hs;have hr:=ad _ _ hs
 have bk:(x1:Int) < 1000000000:=by unfold B9 at a0;omega
 have bl:(x2:Int) < 1000000000:=by unfold B9 at a8;omega
 have b3:(x0:Int) < 1000000000:=by unfold B9 at ak;omega
 have b9:(y1:Int) < 1000000000:=by unfold B9 at am;omega
 have b8:(y0:Int) < 1000000000:=by unfold B9 at al;omega
 have be:(t0:Int) < 2000000000:=by unfold B9 at ht;omega
 have bc:(r0:Int) < 1000000000:=by unfold B9 at hr;omega
 have bv:((y1:Int)==0)=false:=by simp;omega
 have bu:(y1:Int)≠0:=by omega
 have bw:(0:Int) < (y1:Int):=by omega
 clear hT ay ax ar ht hr a8 a0 hg0;have ba:=d1;refine zh11 ?_ ba hs aq aj ai ad c0 d0 ak am al;clear ba hs aq aj ai ad c0 d0 ak am al;intro D1 HS bx bg a9 bh C0 D0 bz b0 bi;go_in;go_wp2_with fail
 go_quiet (fail)
 go_wp2_with fail
 go_quiet (fail)
 clear c2 c1 d1 i1 i2 i3 i4 g1 g2 g3 g4 bk bl bv bu bw;go_wp2_with fail;go_loopw [9,10] (fun st sr wr=>∃ t r:Nat,st=.int .i64 (t:Int)∧sr=.int .i64 (r:Int)∧(t:Int) < 2000000000∧(r:Int) < 1000000000∧Hid (GWay B9 U g k t r)∧Hid (New w wr)) (fun st _ _=>(intOf st).toNat)
 case atStart=>exact ⟨t0,r0,rfl,rfl,be,bc,HS,hid (by (repeat first | with_reducible exact New.refl _ | with_reducible refine New.drewN ?_ _))⟩
 case round=>
  clear be bc HS;obtain ⟨t,r,rfl,rfl,ti,ri,HG,HN⟩:=hrel;have bo:=HN.out.cell C0.out;have bp:=HN.out.cell D0.out;have bq:=HN.out.cell D1.out;by_cases h1:B9≤t
  ·have an:(1000000000:Int)≤(t:Int):=by unfold B9 at h1;omega
   have bm:decide ((1000000000:Int)≤(t:Int))=true:=decide_eq_true an;have hl:=a9.out t r HG.out (.inl h1);obtain ⟨l1,l2,l3⟩:=hl
   have aw:((t:Int) - 1)=((t - 1:Nat):Int):=by omega
   obtain ⟨t9,ah⟩:∃ x,t - 1=x:=⟨_,rfl⟩
   have aa:t9 < t:=by omega
   rw[ah]at aw l2 l3
   have az:(t9:Int) < 2000000000:=by omega
   obtain ⟨r9,af⟩:∃ x,r+y1=x:=⟨_,rfl⟩
   have br:(r:Int)+(y1:Int)=(r9:Int):=by omega
   have bb:(r9:Int) < 2000000000:=by omega
   rw[af]at l2 l3;clear af ah l1 h1;by_cases h3:B9≤r9
   ·have ab:(1000000000:Int)≤(r9:Int):=by unfold B9 at h3;omega
    have ap:decide ((1000000000:Int)≤(r9:Int))=true:=decide_eq_true ab;have hp:=l3 h3;clear h3 l2 l3;have HP:=hid hp;have bf:=hid aa;clear hp aa;go_wp2_with fail
    repeat (go_quiet (fail);go_wp2_with fail)
    go_ret;exact ⟨by (have hN:=HN.out;repeat first | with_reducible exact hN | with_reducible refine New.drewN ?_ _),_,rfl,HP.out⟩
   ·have ab:¬(1000000000:Int)≤(r9:Int):=by unfold B9 at h3;omega
    have ap:decide ((1000000000:Int)≤(r9:Int))=false:=decide_eq_false ab
    have ag:(r9:Int) < 1000000000:=by omega
    have hp:=l2 (by omega);clear h3 l2 l3;replace hp:=hid hp;replace aa:=hid aa;go_wp2_with fail
    repeat (go_quiet (fail);go_wp2_with fail)
    go_roundw
    case rel=>exact ⟨t9,r9,rfl,rfl,az,ag,hp,hid (by (have hN:=HN.out;repeat first | with_reducible exact hN | with_reducible refine New.drewN ?_ _))⟩
    case measure=>simp[intOf];exact aa.out
  ·have an:¬(1000000000:Int)≤(t:Int):=by unfold B9 at h1;omega
   have bm:decide ((1000000000:Int)≤(t:Int))=false:=decide_eq_false an;obtain ⟨a,ha⟩:∃ a,t*y0=a:=⟨_,rfl⟩;obtain ⟨b,hb⟩:∃ b,r*B9=b:=⟨_,rfl⟩;obtain ⟨c,hc⟩:∃ c,b+x0=c:=⟨_,rfl⟩
   have a1:(t:Int)*(y0:Int)=(a:Int):=by rw[←ha,Int.natCast_mul]
   have a2:(r:Int)*1000000000=(b:Int):=by unfold B9 at hb;omega
   have a3:(b:Int)+(x0:Int)=(c:Int):=by omega
   have a4:a≤B9*B9:=by rw[←ha];exact Nat.mul_le_mul (by omega) (Nat.le_of_lt bi.out)
   have a5:(a:Int)≤1000000000000000000:=by unfold B9 at a4;omega
   have a6:(b:Int) < 1000000000000000000:=by unfold B9 at hb;omega
   have a7:(c:Int) < 1000000001000000000:=by omega
   by_cases h2:c < a
   ·have ao:(c:Int) < (a:Int):=by omega
    have bn:decide ((c:Int) < (a:Int))=true:=decide_eq_true ao;have hl:=a9.out t r HG.out (.inr (by rw[ha,hb,hc];exact h2));clear ha hb hc a4;obtain ⟨l1,l2,l3⟩:=hl
    have aw:((t:Int) - 1)=((t - 1:Nat):Int):=by omega
    obtain ⟨t9,ah⟩:∃ x,t - 1=x:=⟨_,rfl⟩
    have aa:t9 < t:=by omega
    rw[ah]at aw l2 l3
    have az:(t9:Int) < 2000000000:=by omega
    obtain ⟨r9,af⟩:∃ x,r+y1=x:=⟨_,rfl⟩
    have br:(r:Int)+(y1:Int)=(r9:Int):=by omega
    have bb:(r9:Int) < 2000000000:=by omega
    rw[af]at l2 l3;clear af ah l1 h1;by_cases h3:B9≤r9
    ·have ab:(1000000000:Int)≤(r9:Int):=by unfold B9 at h3;omega
     have ap:decide ((1000000000:Int)≤(r9:Int))=true:=decide_eq_true ab;have hp:=l3 h3;clear h3 l2 l3;have HP:=hid hp;have bf:=hid aa;clear hp aa;go_wp2_with fail
     repeat (go_quiet (fail);go_wp2_with fail)
     go_ret;exact ⟨by (have hN:=HN.out;repeat first | with_reducible exact hN | with_reducible refine New.drewN ?_ _),_,rfl,HP.out⟩
    ·have ab:¬(1000000000:Int)≤(r9:Int):=by unfold B9 at h3;omega
     have ap:decide ((1000000000:Int)≤(r9:Int))=false:=decide_eq_false ab
     have ag:(r9:Int) < 1000000000:=by omega
     have hp:=l2 (by omega);clear h3 l2 l3;replace hp:=hid hp;replace aa:=hid aa;go_wp2_with fail
     repeat (go_quiet (fail);go_wp2_with fail)
     go_roundw
     case rel=>exact ⟨t9,r9,rfl,rfl,az,ag,hp,hid (by (have hN:=HN.out;repeat first | with_reducible exact hN | with_reducible refine New.drewN ?_ _))⟩
     case measure=>simp[intOf];exact aa.out
   ·have ao:¬(c:Int) < (a:Int):=by omega
    have bn:decide ((c:Int) < (a:Int))=false:=decide_eq_false ao;have hp:=bg.out t r HG.out (by omega) (by rw[ha,hb,hc];omega);clear ha hb hc a4 h1;replace hp:=hid hp;go_wp2_with fail
    go_quiet (fail)
    clear bo bp bq;go_wp2_with fail;go_ret;exact ⟨by (have hN:=HN.out;repeat first | with_reducible exact hN | with_reducible refine New.drewN ?_ _),_,rfl,hp.out⟩
def RDivsPost (w:World)(q r:Nat)(e:Ending)(w':World):Prop:=∃ vq vr,e=.returned (.tuple #[vq,vr])∧New w w'∧IsD w' vq q∧IsD w' vr r
theorem isD_nil (w:World):IsD w (.slice none 0 0) 0:=⟨0,fun _=>0,⟨⟨none,0,⟨rfl,Nat.le_refl _,Nat.zero_le _,fun _=>rfl⟩,Rd.zero _ _ _ _,fun i hi=>by omega⟩,fun h=>absurd rfl h⟩,rfl⟩
theorem dgn_one (w:World)(t:TypeId)(d:Nat)(hd:d < B9):DgN (w.alloc (.cells #[.int .i64 (d:Int)] t)) (.slice (some ⟨w.heap.size,0,none⟩) 1 1) 1 (fun _=>d):=
 ⟨_,1,⟨rfl,Nat.le_refl _,by unfold maxLen;omega,fun h=>by cases h⟩,fun i hi=>⟨w.heap.size,0,rfl,by
  obtain rfl:i=0:=by omega
  exact (Box.alloc w w.heap.size t _ rfl).cell 0⟩,fun i _=>hd⟩
theorem isD_one (w:World)(t:TypeId)(d:Nat)(hd:d < B9)(h0:d≠0):IsD (w.alloc (.cells #[.int .i64 (d:Int)] t)) (.slice (some ⟨w.heap.size,0,none⟩) 1 1) d:=
 ⟨1,fun _=>d,⟨dgn_one w t d hd,fun _=>h0⟩,by simp[vf]⟩
theorem rdivs_less (K:Nat)(va vb:Value)(x y:Nat)(w:World)(ha:IsD w va x)(hb:IsD w vb y)(hK:K≤90000)(hx:x < B9^K)(hy:y < B9^K)(hlt:x < y):
  Calls prog 171 #[va,vb] w (RDivsPost w 0 x):=by
 have hA:=ha;obtain ⟨n,f,hf,ab⟩:=ha;obtain ⟨m,g,hg,ac⟩:=hb;have hn:=len_le hf.canon ab hx;have hm:=len_le hg.canon ac hy;have aa:=rcompare_calls va vb n m f g w hf hg (by omega) (by omega)
 have hc:cmpNat x y= -1:=by unfold cmpNat;rw[if_pos hlt]
 rw[ab,ac,hc]at aa;obtain ⟨⟨a,ae,⟨rfl, -⟩, -⟩, -⟩:=hf;obtain ⟨⟨a',ad,⟨rfl, -⟩, -⟩, -⟩:=hg;clear ab ac hn hm hx hy hK hc hlt;replace aa:=hid aa;replace hA:=hid hA;go_in;go_wp2_with fail;refine aa.mono ?_;rintro e w1 ⟨hn,rfl⟩;replace hn:=hid hn;go_wp2_with fail;go_ret2;exact ⟨_,_,rfl,hn,isD_nil _,hA.new hn⟩
theorem rdivs_one (K:Nat)(va vb:Value)(x y:Nat)(w:World)(ha:IsD w va x)(hb:IsD w vb y)(hK:K≤90000)(hx:x < B9^K)(hy:y < B9)(hy0:0 < y)(hle:y≤x):
  Calls prog 171 #[va,vb] w (RDivsPost w (x / y) (x % y)):=by
 have ae:=fun W (hW:New w W)=>rdivd_calls K va x y W (ha.new hW) (by omega) hx hy0 hy;obtain ⟨n,f,hf,af⟩:=ha;obtain ⟨m,g,hg,ac⟩:=hb;have hn:=len_le hf.canon af hx;have hm:=len_le (K:=1) hg.canon ac (by rw[Nat.pow_one];exact hy)
 have ar:m=1:=by
  rcases Nat.eq_zero_or_pos m with h | h
  ·subst h;rw[vf_zero] at ac;omega
  ·omega
 have ab:=rcompare_calls va vb n m f g w hf hg (by omega) (by omega)
 have hc:0≤cmpNat x y:=by unfold cmpNat;rw[if_neg (by omega)];split <;> omega
 rw[af,ac]at ab;obtain ⟨c,aj⟩:∃ c,cmpNat x y=c:=⟨_,rfl⟩;rw[aj] at hc ab
 have aq:¬c < 0:=by omega
 have aw:decide (c < 0)=false:=decide_eq_false aq;clear hc;subst ar
 have ak:g 0=y:=by rw[←ac];simp[vf]
 obtain ⟨⟨a,av,⟨rfl, -⟩, -⟩, -⟩:=hf;obtain ⟨⟨a',au,⟨rfl, -⟩,hr, -⟩, -⟩:=hg;obtain ⟨b1,o1,rfl,aa⟩:=hr 0 (by omega);rw[ak,Nat.add_zero] at aa;have ag:x % y < B9:=Nat.lt_trans (Nat.mod_lt _ hy0) hy
 have ax:(y:Int) < 1000000000:=by unfold B9 at hy;omega
 clear af ac hn hm hx hK hle hr aj ak hy;obtain ⟨q,hq⟩:∃ q,x / y=q:=⟨_,rfl⟩;obtain ⟨r,hr⟩:∃ q,x % y=q:=⟨_,rfl⟩;rw[hr] at ag;simp only[hq,hr] at ae;rw[hq,hr];clear hq hr hy0;refine zh4 ?_ ab ae aa ag;clear ab ae aa ag;intro ah an HC ao;go_in;go_wp2_with fail;refine ah.mono ?_;rintro e w1 ⟨hn,rfl⟩;have aa:=hn.cell HC.out;have HN:=hid hn;clear hn;go_wp2_with fail;refine zN (an _ HN) fun w2 vq hn hq=>?_;obtain ⟨a3,n3,c3,rfl⟩:=hq.shape;have hN:=HN.out.trans hn;clear HN hn aa;have ai:=hN.alloc (.cells #[.int .i64 (r:Int)] 3);have al:=hq.new ((New.refl w2).alloc (.cells #[.int .i64 (r:Int)] 3));have am:=rtrim_calls _ 1 (fun _=>r) _ (dgn_one w2 3 r ao.out);refine zh3 ?_ am ai al;clear am ai al;intro ap HN HQ;clear hN hq;go_wp2_with fail;refine ap.mono ?_;rintro e w3 ⟨hw,v3,n3,rfl, -,hd,hv⟩;rw[←hw];have ad:IsD _ v3 r:=⟨n3,_,hd,by rw[hv];simp[vf]⟩;obtain ⟨a5,n5,c5,rfl⟩:=ad.shape;clear hw hd hv;replace ad:=hid ad;go_wp2_with fail;go_ret2;exact ⟨_,_,rfl,HN,HQ,ad⟩
def RowZ (w:World)(b:Nat)(t:TypeId)(n:Nat)(f:Nat→Int):Prop:=
 ∃ c:Array Value,w.heap[b]?=some (.cells c t (0,0))∧n≤c.size∧∀ i,i < n→c[i]?=some (.int .i64 (f i))
def updZ (f:Nat→Int)(k:Nat)(z:Int):Nat→Int:=fun i=>if i=k then z else f i
theorem updZ_same (f:Nat→Int)(k:Nat)(z:Int):updZ f k z k=z:=by simp[updZ]
theorem updZ_other (f:Nat→Int){k i:Nat}(z:Int)(h:i≠k):updZ f k z i=f i:=by simp[updZ,h]
section
variable {w w':World} {b:Nat} {t:TypeId} {n:Nat} {f:Nat→Int}
theorem RowZ.cell (h:RowZ w b t n f){i:Nat}(hi:i < n):w.cell? ⟨b,i,none⟩=some (.int .i64 (f i)):=by
 obtain ⟨c,hb,_,hc⟩:=h;simp[World.cell?,hb,hc i hi]
theorem RowZ.frozen (h:RowZ w b t n f)(i:Nat):w.frozen? ⟨b,i,none⟩=false:=by
 obtain ⟨c,hb,_⟩:=h;simp[World.frozen?,hb]
theorem RowZ.lt (h:RowZ w b t n f):b < w.heap.size:=by
 obtain ⟨c,hb,_⟩:=h;rcases Nat.lt_or_ge b w.heap.size with h1 | h1
 ·exact h1
 ·rw[Array.getElem?_eq_none h1] at hb;cases hb
theorem RowZ.of_block (h:RowZ w b t n f)(e:w'.heap[b]?=w.heap[b]?):RowZ w' b t n f:=by
 obtain ⟨c,hb,h1⟩:=h;exact ⟨c,by rw[e,hb],h1⟩
theorem RowZ.new (h:RowZ w b t n f)(hn:New w w'):RowZ w' b t n f:=h.of_block (Below.block hn b h.lt)
theorem RowZ.drewN (h:RowZ w b t n f)(m:Nat):RowZ (w.drewN m) b t n f:=h
theorem RowZ.drew (h:RowZ w b t n f):RowZ w.drew b t n f:=h
theorem RowZ.set (h:RowZ w b t n f)(i:Nat)(z:Int):RowZ (w.setCell ⟨b,i,none⟩ (.int .i64 z)) b t n (updZ f i z):=by
 obtain ⟨c,hb,hs,hc⟩:=h;refine ⟨c.setIfInBounds i (.int .i64 z),?_,by simpa using hs,fun j hj=>?_⟩
 ·simp[World.setCell,Array.getElem?_modify,hb]
 ·rw[Array.getElem?_setIfInBounds];unfold updZ;by_cases e:i=j
  ·subst e;rw[if_pos rfl,if_pos (by omega),if_pos rfl]
  ·rw[if_neg e,if_neg (fun h=>e h.symm)];exact hc j hj
theorem RowZ.other (h:RowZ w b t n f){p:Addr}(hp:b≠p.block)(u:Value):RowZ (w.setCell p u) b t n f:=by
 obtain ⟨c,hb,h1⟩:=h;refine ⟨c,?_,h1⟩;simp[World.setCell,Array.getElem?_modify,hb,Ne.symm hp]
theorem RowZ.congr (h:RowZ w b t n f){g:Nat→Int}(e:∀ i,i < n→f i=g i):RowZ w b t n g:=by
 obtain ⟨c,hb,hs,hc⟩:=h;exact ⟨c,hb,hs,fun i hi=>by rw[hc i hi,e i hi]⟩
theorem RowZ.le (h:RowZ w b t n f){m:Nat}(hm:m≤n):RowZ w b t m f:=by
 obtain ⟨c,hb,hs,hc⟩:=h;exact ⟨c,hb,by omega,fun i hi=>hc i (by omega)⟩
theorem RowZ.rd {o:Nat→Nat}(h:RowZ w b t n fun i=>(o i:Int)):Rd w (some ⟨b,0,none⟩) .i64 n o:=fun i hi=>⟨b,0,rfl,by
 have:=h.cell hi
 simpa using this⟩
theorem Row.z {o:Nat→Nat}(h:Row w b t .i64 n o):RowZ w b t n fun i=>(o i:Int):=by
 obtain ⟨c,hb,hs,hc⟩:=h;exact ⟨c,hb,by omega,hc⟩
theorem RowZ.of_own {base:Nat}{v:Value}{xs:List Value}{o:Nat→Nat}(h:w.ownsRow base t 1 v n xs)(h0:0 < n)(hx:∀ i,i < n→xs[i]?=some (.int .i64 (o i:Int))):
  ∃ g aa,v=.slice (some ⟨g,0,none⟩) n aa∧base≤g∧n≤aa∧aa≤maxLen∧RowZ w g t n fun i=>(o i:Int):=by
 rcases h.2 with ⟨_,h1⟩ | ⟨g,aa,ab,e,hb,hc,h2,h3,h4,h5⟩
 ·omega
 ·refine ⟨g,aa,e,hb,h2,h3,ab,hc,by omega,fun i hi=>?_⟩;have:=hx i hi;rw[←h5,Nat.mul_one,List.getElem?_take_of_lt hi] at this;simpa using this
end
theorem updZ_cast (o:Nat→Nat)(k v:Nat):updZ (fun i=>(o i:Int)) k (v:Int)=fun i=>((upd o k v i:Nat):Int):=by
 funext i;unfold updZ upd;split <;> rfl
section
variable {B m k mq j A V t c n2:Nat} {gv o p qf:Nat→Nat}
theorem step_fit (D:Dv B m k mq (j+1) A V gv o qf) (hn2:k+2=n2) (fit:GFit B (fun a=>o (j+a)) gv k t) (hV:vf B gv n2=V) (hVW:V≤B^(k+2)) (hm:m+1=mq+(k+2)) (hj:j < mq) (hp:∀ i,p i < B)
  (hout:∀ a,(a < j∨j+n2≤a)→p a=o a) (hval:vf B (fun a=>p (j+a)) n2+t*vf B gv n2=vf B (fun a=>o (j+a)) n2+c*B^n2) (hc:c≤o (j+n2)):
  Dv B m k mq j A V gv (upd p (j+n2) (o (j+n2) - c)) (upd qf j t):=by
 subst hn2;have h1:=msubB_last (B:=B) (p:=p) (u:=fun a=>o (j+a)) (j:=j) (n:=k+2) (c:=c) (d:=o (j+(k+2)) - c) (b':=0) (t:=t) (V:=V) (by rw[←hV];exact hval) (by show _=o (j+(k+2))+B*0;omega);rw[Nat.zero_mul,Nat.add_zero] at h1;have aa:=fit.ge;rw[hV] at aa;refine D.step hm hj hVW fit.hh (fun i=>?_) (fun i hi=>?_) h1 (msub_ok h1 aa)
 ·unfold upd;split
  ·exact Nat.lt_of_le_of_lt (Nat.sub_le _ _) (D.ol _)
  ·exact hp i
 ·rw[upd_other _ _ (by omega)];exact hout i (by omega)
theorem step_pos (hB:0 < B)(hp:∀ i,p i < B)(hval:vf B (fun a=>p (j+a)) n2+t*vf B gv n2=vf B (fun a=>o (j+a)) n2+c*B^n2)(hc:0 < c):0 < t:=by
 rcases Nat.eq_zero_or_pos t with h | h
 ·exfalso;subst h;have h1:vf B (fun a=>p (j+a)) n2 < B^n2:=vf_lt fun i _=>hp _;have h2:=Nat.mul_le_mul_right (B^n2) hc;rw[Nat.succ_eq_add_one,Nat.zero_add,Nat.one_mul] at h2;omega
 ·exact h
theorem rstep_back {p2:Nat→Nat} {cc:Nat} (D:Dv B m k mq (j+1) A V gv o qf) (hB:0 < B) (hn2:k+2=n2) (fit:GFit B (fun a=>o (j+a)) gv k t) (hV:vf B gv n2=V) (hVW:V≤B^(k+2)) (hm:m+1=mq+(k+2)) (hj:j < mq)
  (hp:∀ i,p i < B) (hp2:∀ i,p2 i < B) (hout:∀ a,(a < j∨j+n2≤a)→p a=o a) (hout2:∀ a,(a < j∨j+n2≤a)→p2 a=p a)
  (hval:vf B (fun a=>p (j+a)) n2+t*vf B gv n2=vf B (fun a=>o (j+a)) n2+c*B^n2) (hc:o (j+n2) < c)
  (hval2:vf B (fun a=>p2 (j+a)) n2+cc*B^n2=vf B (fun a=>p (j+a)) n2+vf B gv n2) (hcc:cc≤1):
  c=o (j+n2)+cc∧Dv B m k mq j A V gv (upd p2 (j+n2) 0) (upd qf j (t - 1)):=by
 subst hn2;have hP:=vf_lt (B:=B) (f:=fun a=>p (j+a)) (n:=k+2) fun i _=>hp _;have ab:=vf_lt (B:=B) (f:=fun a=>p2 (j+a)) (n:=k+2) fun i _=>hp2 _;have aa:=fit.le;rw[hV] at aa hval hval2;obtain ⟨h1,h2,h3,h4⟩:=back_done (P:=B^(k+2)) (U:=vf B (fun a=>o (j+a)) (k+3)) (e:=c - o (j+(k+2))) (un:=o (j+(k+2))) hval (vf_succ _ _ _) (by omega) (by omega) hval2 hP ab hVW hcc aa;refine ⟨by omega,?_⟩
 have e1:vf B (fun x=>upd p2 (j+(k+2)) 0 (j+x)) (k+3)=vf B (fun a=>p2 (j+a)) (k+2):=by
  rw[vf_succ,upd_same,Nat.zero_mul,Nat.add_zero];exact vf_congr fun x hx=>upd_other _ _ (by omega)
 refine D.step hm hj hVW (Nat.lt_of_le_of_lt (Nat.sub_le _ _) fit.hh) (fun i=>?_) (fun i hi=>?_) (by rw[e1];exact h3) (by rw[e1];exact h4)
 ·unfold upd;split
  ·exact hB
  ·exact hp2 i
 ·rw[upd_other _ _ (by omega),hout2 i (by omega)];exact hout i (by omega)
end
theorem digit_mul {t y c a s:Nat}(ht:t < B9)(hy:y < B9)(hc:c≤B9)(ha:t*y=a)(hs:a+c=s):a≤999999998000000001∧s < B9*B9:=by
 have h:=Nat.mul_le_mul (Nat.le_pred_of_lt ht) (Nat.le_pred_of_lt hy);unfold B9 at *;simp only[Nat.pred_eq_sub_one,Nat.reduceSub,Nat.reduceMul] at h;omega
theorem ds_congr {f g:Nat→Nat}{k:Nat}(h:∀ i,i < k→f i=g i):ds f k=ds g k:=by
 unfold ds;refine List.map_congr_left fun i hi=>?_;rw[h i (List.mem_range.1 hi)]
theorem rdivs_long (K k:Nat)(va vb:Value)(x y:Nat)(g:Nat→Nat)(w:World)(ha:IsD w va x)(hb:Dg w vb (k+2) g)(hgv:vf B9 g (k+2)=y)(hK:K≤90000)(hx:x < B9^K)(hy:y < B9^K)(hle:y≤x):
  Calls prog 171 #[va,vb] w (RDivsPost w (x / y) (x % y)):=by
 have g3:IsD w vb y:=⟨_,g,hb,hgv⟩;obtain ⟨m,f,hf,ao⟩:=ha;have gz:IsD w va x:=⟨m,f,hf,ao⟩;have hm:=len_le hf.canon ao hx;have hk:=len_le hb.canon hgv hy
 have h9:k+2≤m:=by
  rcases Nat.lt_or_ge m (k+2) with h | h
  ·have:=hf.canon.lt_of_len hb.canon (by decide) h;omega
  ·exact h
 have bb:=rcompare_calls va vb m (k+2) f g w hf hb (by omega) (by omega);rw[ao,hgv] at bb
 have hc:0≤cmpNat x y:=by unfold cmpNat;rw[if_neg (by omega)];split <;> omega
 obtain ⟨c,g6⟩:∃ c,cmpNat x y=c:=⟨_,rfl⟩;rw[g6] at hc bb
 have he:¬c < 0:=by omega
 have j1:decide (c < 0)=false:=decide_eq_false he;obtain ⟨xt,ce⟩:∃ t,g (k+1)=t:=⟨_,rfl⟩
 have b2:0 < xt:=by
  have:=hb.2 (by omega);rw[show k+2 - 1=k+1 by omega,ce] at this;omega
 have dm:=hb.1.lt;have hl:=hf.1.lt
 have er:xt < B9:=by rw[←ce];exact dm _ (by omega)
 obtain ⟨M,hM⟩:∃ M,B9 / (xt+1)=M:=⟨_,rfl⟩
 have gt:0 < M:=by rw[←hM];exact Nat.div_pos (by omega) (by omega)
 have cs:M < B9:=by rw[←hM];exact Nat.div_lt_self (by decide) (by omega)
 have gu:x*M < B9^(m+1):=by
  have h1:=hf.canon.lt_pow;rw[ao] at h1;rw[Nat.pow_succ];exact Nat.mul_lt_mul'' h1 cs
 have bt:M < B9^K:=Nat.lt_of_lt_of_le cs (by
  have:=Nat.pow_le_pow_right (n:=B9) (by decide) (show 1≤K by omega)
  rwa [Nat.pow_one] at this)
 have iv:=fun n v (hv:Canon B9 v n) (cd:vf B9 v n=y*M)=>scaled_len (B:=B9) (by decide) dm hgv.symm ce b2 hM.symm hv cd;have bn:=fun W (hW:New w W) fv (ao:IsD W fv M)=>rmul_calls K vb fv y M W (g3.new hW) ao (by omega) hy bt;have c3:=fun W (hW:New w W) fv (ao:IsD W fv M)=>rmul_calls K va fv x M W (gz.new hW) ao (by omega) hx bt;obtain ⟨x1,je⟩:∃ z,xt+1=z:=⟨_,rfl⟩;obtain ⟨d1,d2, -, -⟩:=divd 1000000000 x1
 have gs:1000000000 / x1=M:=by rw[←je];exact hM
 rw[gs]at d1 d2
 have dr:(xt:Int)+1=(x1:Int):=by omega
 have gp:(1000000000:Int) / (x1:Int)=(M:Int):=d1;have gq:Int.tdiv (1000000000:Int) (x1:Int)=(M:Int):=d2
 have dn:((x1:Int)==0)=false:=by simp;omega
 have di:(x1:Int)≠0:=by omega
 have dj:(0:Int) < (x1:Int):=by omega
 have du:(xt:Int) < 1000000000:=by unfold B9 at er;omega
 have dk:(M:Int) < 1000000000:=by unfold B9 at cs;omega
 obtain ⟨mq,ib⟩:∃ mq,m+1=mq+(k+2):=⟨m - (k+1),by omega⟩
 have hq:0 < g (k+1):=by rw[ce];exact b2
 obtain ⟨i0,hr,dt,jf,jg⟩:=info_parts info_int;obtain ⟨⟨aa,ca,⟨rfl, -⟩, -, -⟩, -⟩:=hf;obtain ⟨⟨ab,cb,⟨rfl, -⟩,ip, -⟩, -⟩:=hb;obtain ⟨b1,o1,rfl,ai⟩:=ip (k+1) (by omega);rw[ce] at ai;obtain ⟨n2,c4⟩:∃ n,k+2=n:=⟨_,rfl⟩
 have bw:w.cell? ⟨b1,o1+(n2 - 1),none⟩=some (.int .i64 (xt:Int)):=by rw[show n2 - 1=k+1 by omega];exact ai
 have ie:((n2:Int)==1)=false:=by simp;omega
 have bx:(1:Int) < (n2:Int):=by omega
 have h8:(m:Int)≤90000:=by omega
 have aw:(n2:Int)≤90000:=by omega
 rw[c4]at bb;simp only[c4] at bn;rw[c4];clear ai ip g6 hc d1 d2 gs hM je er g3 gz ce;refine zh12 ?_ hq bb iv bn c3 bw ib ao hl dm gu gt;intro fs dv gk f3 f2 HC ci fp fn ks f8 ch;refine zh12 ?_ cs bt hgv hle h9 hm hk c4 hx hy b2 hK;intro f1 f0 jm fz f4 HM HK ar HX HY cr fy;refine zh11 ?_ gp gq dn di dj dr du dk bx h8 aw;clear hq bb iv bn c3 bw ib ao hl dm gu gt cs bt hgv hle h9 hm hk c4 hx hy b2 hK gp gq dn di dj dr du dk bx h8 aw;intro D1 D2 DN jh ji jw jx jo ga dy cl;go_in;go_wp2_with fail;refine dv.mono ?_;rintro e w1 ⟨hn,rfl⟩;have ai:=hn.cell HC.out;have HN:=hid hn;clear hn;go_upto_region 6 with (fail);clear he j1 ie;have d1:=D1.out;have d2:=D2.out;have dn:=DN.out;have di:=jh.out;have dj:=ji.out;have dr:=jw.out;have du:=jx.out;have dk:=jo.out;have bx:=ga.out;have aw:=cl.out;go_wp2_with fail;clear d1 d2 dn di dj dr bx du dk ai aw;have b3:=HN;clear HN;obtain ⟨BF,HN⟩:=lay1 w1 3 #[.int .i64 (M:Int)];have au:=b3.out.trans HN.out;clear HN b3;have hj:=isD_one w1 3 M f1.out (by have:=ch.out;omega);have HN:=hid au;have df:=hid hj;clear au hj;refine zN (f3 _ HN _ df) fun w2 vv hn hv=>?_;obtain ⟨HN,BF,df⟩:=zn3 hn HN BF.new df.new;clear hn;obtain ⟨nv,gv,bh,cd⟩:=hv;obtain ⟨-,ij,gy,d6⟩:=gk.out nv gv bh.canon cd
 have il:nv=n2:=by rw[ij];exact ar.out
 rw[il]at bh cd;clear ij il;obtain ⟨⟨av,cv,⟨rfl,jy,jz,j0⟩,iu,ee⟩,ed⟩:=bh;clear jy jz j0 gk f3 dv HC;refine zh6 ?_ cd gy d6 iu ee ed;clear cd gy d6 iu ee ed;intro ev gn cq eu cg ft;go_wp2_with fail;have ih:=(New.refl w2).alloc (.cells #[] 3);have be:=own_noneS w2 3 1;have dg:=hid ih;have aq:=hid be;clear ih be;refine zN (f2 _ (HN.trans dg) _ (df.new dg)) fun w4 vm hn hm=>?_;have e0:=dg.out.trans hn;have be:=own_newS aq.out hn;obtain ⟨mu,fm,h7,dp⟩:=hm;have ic:=len_le h7.canon dp f8.out
 have c2:0 < mu:=by
  rcases Nat.eq_zero_or_pos mu with h | h
  ·exfalso;rw[h,vf_zero] at dp
   have h1:0 < y:=by
    have h2:=(show vf B9 g (k+2)=y from jm.out);rw[vf_succ] at h2;have h3:=cr.out;have h4:0 < g (k+1)*B9^(k+1):=Nat.mul_pos fs.out (Nat.pow_pos (by decide));omega
   have:=Nat.mul_pos (show 0 < x by have:=fz.out;omega) ch.out;omega
  ·exact h
 obtain ⟨⟨am,cm,⟨rfl,j5,j6,j7⟩,ir,ec⟩, -⟩:=h7;have iq:=rd_ds ir;obtain ⟨ad,rfl,en⟩:=iq.src (by rw[ds_len];exact c2)
 have eh:(ds fm mu).length=mu*1:=by rw[ds_len,Nat.mul_one]
 have ek:mu≤100000:=by have:=fy.out;have:=HM.out;omega
 have g8:=ds_cell fm mu;have e8:=fun j=>padded_lt (n:=mu) (g:=fm) (B:=B9) (by decide) ec j;have c8:=ds_congr (f:=fm) (g:=padded fm mu) (k:=mu) fun i hi=>(padded_in hi).symm
 have da:vf B9 (padded fm mu) mu=x*M:=by rw[←dp];exact vf_congr fun i hi=>padded_in hi
 obtain ⟨fo,ey⟩:∃ fo,padded fm mu=fo:=⟨_,rfl⟩;rw[ey] at c8 da;simp only[ey] at e8
 have g0:0+mu≤maxLen:=by unfold maxLen;omega
 have g1:(0+mu)*8≤140737488355328:=by omega
 have g2:w2.heap.size≤w4.heap.size:=e0.size;clear hn j5 j6 j7 ir ec iq dp ey aq dg f2;refine zh12 ?_ e0 be en eh g8 g0 g1 g2 ic c2 ek e8;intro gc aq d3 dx fj fe ff fg f6 dz f7 gg;replace c8:=hid c8;replace da:=hid da;clear e0 be en eh g8 g0 g1 g2 ic c2 ek e8;go_wp2_with (at_builtin;refine wpList_append_own _ rfl _ _ 24 rfl w2.heap.size 3 i0 (.int .i64 0) 1 8 underlying24 hr dt jf jg rfl (by decide) _ 0 [] rfl aq ad mu cm (ds fm mu) rfl dx d3 fj fe ff fg ?_);intro v' w5 af ak _;have gx:=grown_newS' gc.out aq.out ak;rw[c8.out] at af;clear ak gc aq d3 dx fj fe ff fg c8;have ae:=hid gx;have gd:=hid af;clear gx af;go_wp2_with fail;obtain ⟨N1,gw⟩:∃ z,m+1=z:=⟨_,rfl⟩;have kn:=dy.out
 have kf:(m:Int)+1=(N1:Int):=by omega
 have ej:mu≤N1:=by have:=f6.out;omega
 have d5:N1≤90001:=by have:=dy.out;omega
 refine zh3 ?_ gw ej d5;clear gw ej d5;intro b3 d0 cj;go_loopw [11] (fun v wr=>∃ (n:Nat) (o:Nat→Nat),0 < n∧n≤N1∧Hid (wr.ownsRow w2.heap.size 3 1 v n (ds o n))∧Hid (New w2 wr)∧Hid (∀ j,o j < B9)∧Hid (vf B9 o n=x*M)) (fun v _=>N1 - lenOf v)
 case atStart=>exact ⟨mu,fo,dz,d0,gd,ae,gg,da⟩
 case round=>
  clear d0 gd ae gg da f6 dz f7;obtain ⟨n,o,id,j8,HO,cn,HB,HV⟩:=hrel;obtain ⟨a5,c5,⟨rfl, -⟩, -⟩:=own_sl HO;by_cases hlt:n < N1
  ·have h6:(n:Int) < (N1:Int):=by omega
   have km:decide ((n:Int) < (N1:Int))=true:=decide_eq_true h6;have hg:=own_b9 (k:=n) HB.out (show 0 < B9 by decide)
   have jd:vf B9 (upd o n 0) (n+1)=x*M:=by rw[vf_succ,upd_same,vf_upd_above (Nat.le_refl _),Nat.zero_mul,Nat.add_zero];exact HV.out
   have eg:n+1≤maxLen:=by have:=cj.out;unfold maxLen;omega
   have ef:(n+1)*8≤140737488355328:=by have:=cj.out;omega
   refine zh4 ?_ hg jd eg ef;clear hg jd eg ef;intro es jv fx fw;go_wp2_with (at_builtin;refine wpList_append_own _ rfl _ _ 24 rfl w2.heap.size 3 i0 (.int .i64 0) 1 8 underlying24 hr dt jf jg rfl (by decide) _ _ _ rfl (HO.alloc _) ⟨wr.heap.size,0,none⟩ 1 1 [.int .i64 0] rfl rfl (one_c1 _ _ _) (one_c2 _) fx fw (by have:=cn.out.size;rw[←size_alloc];omega) ?_);intro v' w9 af ak _;have d4:=grown_new cn.out HO.out ak
   have af:w9.ownsRow w2.heap.size 3 1 v' (n+1) (ds (upd o n 0) (n+1)):=by rw[ds_snoc];exact af
   clear ak;have f9:=hid d4;replace af:=hid af;clear d4;go_wp2_with fail;go_roundw
   case rel=>exact ⟨n+1,upd o n 0,by omega,by omega,af,f9,es,jv⟩
   case measure=>
    obtain ⟨a6,c6,⟨e6, -⟩, -⟩:=own_sl af;simp[lenOf,e6];omega
  ·have ig:n=N1:=by omega
   subst ig
   have el:¬(n:Int) < (n:Int):=by omega
   have ik:decide ((n:Int) < (n:Int))=false:=decide_eq_false el
   have im:n=mq+n2:=by have:=b3.out;have:=ci.out;have:=ar.out;omega
   have ka:(n:Int) - (n2:Int)=(mq:Int):=by omega
   have ei:0 < mq:=by have:=f4.out;have:=b3.out;have:=ar.out;omega
   have j9:n≤90001:=cj.out;have aw:=cl.out
   have kq:(n:Int)≤90001:=by omega
   have ko:(mq:Int)≤90001:=by omega
   have ia:=fun W=>run_make_row' (P:=prog) 24 3 (.int .i64 0) 8 underlying24 info_int rfl .i64 .i64 mq (by omega) (by omega) W;obtain ⟨bu,cu,e5,g4,ac,g9,em⟩:=RowZ.of_own (o:=o) HO.out id (fun i hi=>by simp[ds,hi]);injection e5 with e5 e6 e7;subst e5 e7
   have hp:∀ (W:World) (o:Nat→Nat) (jj:Nat),New w2 W→RowZ W bu 3 n (fun i=>(o i:Int))→(∀ i,o i < B9)→jj+n2 < n→vf B9 (fun i=>o (jj+1+i)) n2 < vf B9 gv n2→
     Calls prog 221 #[.slice (some ⟨bu,0,none⟩) n c5,.slice av n2 cv,.int .i64 (jj:Int)] W (RGuessPost W (fun i=>o (jj+i)) gv k):=by
    intro W o jj h1 h2 h3 h4 h5;have e2:=ar.out;have a1:=cg.out;have a2:=ft.out;have a3:=eu.out.new h1;subst e2;exact rguess_any _ _ n c5 cv k jj o gv W (by omega) h4 h2.rd a3 h3 a1 (a2 (by omega)) h5
   have gr:=Dv.start (W:=B9) (m:=m) (k:=k) (mq:=mq) (A:=x) (V:=y*M) (M:=M) (K:=xt*M) (f:=f) (g:=gv) (o:=o) (by decide) (Nat.le_mul_of_pos_left M cr.out) ch.out ci.out fn.out fp.out.symm HB.out
    (by rw[b3.out];exact HV.out) gn.out
   refine zh8 ?_ hp gr em g4 ac g9 im ei;clear hp gr em g4 ac g9 im ei;intro jl HD co cf fl fk dh f5;clear id j8 j9 f8 fs gn cr fn fp fz f4 f0 HX HY;go_wp2_with fail;clear ia ka el ik aw;obtain ⟨bq,dl⟩:∃ B,B=wr.heap.size:=⟨_,rfl⟩;have dq:=Row.made wr .i64 mq 3;have br:=co.out.new ((New.refl wr).alloc (.cells (madeCells #[.int .i64 0] mq) 3));have bo:=cn.out.alloc (.cells (madeCells #[.int .i64 0] mq) 3)
   have ii:bq≠bu:=by have:=co.out.lt;omega
   have d8:w2.heap.size≤bq:=by rw[dl];exact cn.out.size
   rw[←dl]at dq⊢;generalize wr.alloc (.cells (madeCells #[.int .i64 0] mq) 3)=w7 at dq br bo⊢;clear co HO cn HB HV;refine zh6 ?_ dq br bo ii d8 dl;clear dq br bo ii d8 dl;intro gh cp ck bj fh fi;go_loopw [13] (fun sj wx=>∃ (jj:Nat) (o qf:Nat→Nat),jj≤mq∧sj=.int .i64 ((jj:Int) - 1)∧Hid (RowZ wx bu 3 n (fun i=>(o i:Int)))∧Hid (Row wx bq 3 .i64 mq qf)∧Hid (New w2 wx)∧Hid (Dv B9 m k mq jj (x*M) (y*M) gv o qf)) (fun sj _=>(intOf sj+1).toNat)
   case atStart=>exact ⟨mq,o,fun _=>0,Nat.le_refl _,rfl,cp,gh,ck,HD⟩
   case round=>
    clear cp gh ck HD fi;obtain ⟨jj,o,qf,ez,rfl,HR,HQ,ae,HD⟩:=hrel;rcases Nat.eq_zero_or_pos jj with h0 | h0
    ·subst h0;obtain ⟨dt,eb,cz⟩:=HD.out.finish ci.out f5.out;have az:=unscale ch.out eb cz;have ex:=Nat.lt_of_lt_of_le cz cq.out;have b9:=HD.out.ol;have io:=HD.out.ql;rw[ar.out] at az ex;have ja:DgN wr (.slice (some ⟨bu,0,none⟩) n2 c5) n2 o:=⟨_,_,⟨rfl,by have:=dh.out;have:=fl.out;omega,fk.out,fun h=>by cases h⟩,(HR.out.le (by have:=dh.out;omega)).rd,fun i _=>b9 i⟩;have bp:DgN wr (.slice (some ⟨bq,0,none⟩) mq mq) mq qf:=⟨_,_,⟨rfl,Nat.le_refl _,by unfold maxLen;omega,fun h=>by cases h⟩,HQ.out.rd,fun i _=>io i⟩;have ag:=(BF.out.new ae.out).cell 0;have ag:wr.cell? ⟨w1.heap.size,0,none⟩=some (.int .i64 (M:Int)):=ag;have i9:=fun W (h:New wr W)=>rtrim_calls _ n2 o W (ja.new h);have iz:=fun W (h:New wr W)=>rtrim_calls _ mq qf W (bp.new h);have aw:=cl.out
     have kp:(n2:Int)≤(c5:Int):=by have:=dh.out;have:=fl.out;omega
     have kj:(c5:Int)≤9223372036854775807:=by have:=fk.out;unfold maxLen at this;omega
     clear ja bp dt eb cz b9 io ez;refine zh4 ?_ az ex i9 iz;clear az ex i9 iz;intro gl jp ju jt;go_wp2_with fail;refine zR 12 13 (fun W=>W.cell? ⟨w1.heap.size,0,none⟩=some (.int .i64 (M:Int))) ?_;refine zTE 0 ag ?_;refine zTE 1 ag ?_;refine zTE 2 ag ?_;refine zTE 4 ag ?_;refine zTE 5 ag ?_;refine zTE 6 ag ?_;refine tk1 3 fun K hK=>?_
     try simp only[PE]
     go_simp;refine (ju _ ((New.refl wr).drew)).mono ?_;rintro e w9 ⟨de,v9,n9,rfl, -,aj,jc⟩;rw[←de];have bh:IsD wr.drew v9 (vf B9 o n2):=⟨n9,o,aj,jc⟩;obtain ⟨a9,l9,c9,rfl⟩:=bh.shape;clear de aj jc;replace bh:=hid bh;refine zKE hK ag ?_;clear hK K;refine tk1 7 fun K hK=>?_
     try simp only[PE]
     go_simp;refine zN (rdivd_calls (k+2) _ _ M _ bh (by have:=HK.out;have:=fy.out;omega) (by have h:=jp.out;have e:=ar.out;rw[e];exact h) ch f1) fun kd k3 hn b0=>?_;have bc:=hn.undr;have ag:=bc.cell ag;obtain ⟨ku,k1,kw,rfl⟩:=b0.shape;clear hn;replace bc:=hid bc;replace b0:=hid b0;refine zKE hK ag ?_;clear hK K;refine zTE 8 ag ?_;refine zTE 9 ag ?_;refine zTE 10 ag ?_;refine zTE 11 ag ?_;refine tlW ?_;clear ag;go_wp2_with fail;refine (jt _ bc).mono ?_;rintro e k4 ⟨ep,kc,kb,rfl, -,ea,eo⟩;rw[←ep];have bp:IsD kd kc (vf B9 qf mq):=⟨kb,qf,ea,eo⟩;obtain ⟨kv,k2,kx,rfl⟩:=bp.shape;have ew:=HN.out.trans (ae.out.trans bc.out);clear ep ea eo;replace ew:=hid ew;replace bp:=hid bp;go_wp2_with fail;go_ret2;exact ⟨_,_,rfl,ew,by rw[←gl.out.1];exact bp.out,by rw[←gl.out.2];exact b0.out⟩
    ·obtain ⟨j,rfl⟩:∃ j,jj=j+1:=⟨jj - 1,by omega⟩
     have j3:((j+1:Nat):Int) - 1=(j:Int):=by omega
     rw[j3]
     have hu:(0:Int)≤(j:Int):=by omega
     have j2:decide ((0:Int)≤(j:Int))=true:=decide_eq_true hu
     have c1:j+n2 < n:=by have:=dh.out;omega
     have kl:(j:Int)≤90001:=by omega
     have b9:=HD.out.ol
     have ho:=jl.out wr o j ae.out HR.out b9 c1 (by
      have:=HD.out.low;rw[ar.out] at this;have e:=ev.out;rw[e]
      exact this)
     refine zh4 ?_ ho b9 c1 ez;clear ho b9 c1 ez;intro fr et fu jn;go_wp2_with fail;refine fr.mono ?_;rintro e w8 ⟨hn,t,rfl,cy⟩;have a7:=HR.out.new hn;have b6:=HQ.out.new hn;have au:=ae.out.trans hn;have fd:=cy.hh
     have kz:(t:Int) < 1000000000:=by unfold B9 at fd;omega
     clear HR HQ ae fr hn j2 hu;refine zh5 ?_ a7 b6 au cy fd;clear a7 b6 au cy fd;intro gj gi gb dw js;go_wp2_with fail;go_loopw [15,16] (fun sb si wx=>∃ (i c:Nat) (p:Nat→Nat),i≤n2∧si=.int .i64 (i:Int)∧sb=.int .i64 (c:Int)∧(c:Int)≤1000000000∧Hid (RowZ wx bu 3 n (fun i=>(p i:Int)))∧Hid (Row wx bq 3 .i64 mq qf)∧Hid (New w2 wx)∧Hid (∀ j,p j < B9)∧Hid (∀ a,(a < j∨j+i≤a)→p a=o a)∧Hid (vf B9 (fun a=>p (j+a)) i+t*vf B9 gv i=vf B9 (fun a=>o (j+a)) i+c*B9^i)) (fun _ si _=>n2 - (intOf si).toNat)
     case atStart=>exact ⟨0,0,o,Nat.zero_le _,rfl,rfl,by omega,gj,gi,gb,et,hid (fun _ _=>rfl),hid (by simp[vf_zero])⟩
     case round=>
      clear gj gi gb;obtain ⟨i,c,p,hi,rfl,rfl,ky,HR,HQ,ae,HP,ap,HV⟩:=hrel;by_cases hin:i < n2
      ·obtain ⟨bv,ov,rfl,b8⟩:=(eu.out.new ae.out) i hin;have c1:=fu.out;have ac:=HR.out.cell (i:=i+j) (by omega);have an:=HR.out.frozen (i+j)
       have ax:p (i+j)=o (j+i):=by rw[Nat.add_comm];exact ap.out (j+i) (.inr (Nat.le_refl _))
       rw[ax]at ac;have a4:=cg.out i hin;have bg:=et.out (j+i);obtain ⟨y',a0⟩:∃ z,gv i=z:=⟨_,rfl⟩;obtain ⟨u',ay⟩:∃ z,o (j+i)=z:=⟨_,rfl⟩;rw[a0] at b8 a4;rw[ay] at ac bg;obtain ⟨a,ha⟩:∃ a,t*y'=a:=⟨_,rfl⟩;obtain ⟨s,hs⟩:∃ s,a+c=s:=⟨_,rfl⟩;obtain ⟨d7,dc⟩:=digit_mul js a4 (by unfold B9;omega) ha hs;obtain ⟨q',r',db,bf,e1,e2,e3,e4⟩:=div9 s
       have e9:q' < B9:=by
        rcases Nat.lt_or_ge q' B9 with h | h
        ·exact h
        ·have:=Nat.mul_le_mul_left B9 h;omega
       have i1:(t:Int)*(y':Int)=(a:Int):=by rw[←ha,Int.natCast_mul]
       have i2:(a:Int)+(c:Int)=(s:Int):=by omega
       have i3:(a:Int)≤999999998000000001:=by omega
       have i4:(s:Int) < 1000000000000000000:=by unfold B9 at dc;omega
       have i5:(y':Int) < 1000000000:=by unfold B9 at a4;omega
       have i6:(u':Int) < 1000000000:=by unfold B9 at bg;omega
       have i7:(r':Int) < 1000000000:=by unfold B9 at bf;omega
       have i8:(q':Int) < 1000000000:=by unfold B9 at e9;omega
       have c0:(i:Int) < (n2:Int):=by omega
       have ht:decide ((i:Int) < (n2:Int))=true:=decide_eq_true c0;have aw:=cl.out
       have hw:(i:Int)+(j:Int) < (n:Int):=by omega
       obtain ⟨z,hz⟩:∃ z:Int,(u':Int) - (r':Int)=z:=⟨_,rfl⟩;by_cases hneg:u' < r'
       ·obtain ⟨d,hd⟩:∃ d,u'+B9 - r'=d:=⟨_,rfl⟩
        have aj:d < B9:=by unfold B9 at *;omega
        have z0:z < 0:=by omega
        have z1:decide (z < 0)=true:=decide_eq_true z0
        have z2:z+1000000000=(d:Int):=by unfold B9 at hd;omega
        have z3: -1000000000 < z:=by omega
        have d9:(d:Int) < 1000000000:=by unfold B9 at aj;omega
        have al:d+t*gv i+c=o (j+i)+B9*(q'+1):=by rw[a0,ay,ha];unfold B9 at *;omega
        obtain ⟨c9,g5⟩:∃ z,q'+1=z:=⟨_,rfl⟩;rw[g5] at al
        have kh:(q':Int)+1=(c9:Int):=by omega
        have ki:(c9:Int)≤1000000000:=by omega
        clear g5;clear a4 bg a0 ay ha hs db bf e9 dc d7 hd ax hneg;have jq:=hid al;have jk:=hid aj;clear al aj;go_wp2_with fail;clear b8 ac an;go_roundw
        case rel=>
         refine ⟨i+1,c9,upd p (i+j) d,by omega,by go_num,by first | rfl | go_num,by omega,hid ?_,hid (HQ.out.other (p:=⟨bu,i+j,none⟩) bj.out _),hid (ae.out.setCell (p:=⟨bu,i+j,none⟩) cf.out _),hid (upd_lt HP.out jk.out),hid (fun a ha=>?_),hid ?_⟩
         ·have:=HR.out.set (i+j) (d:Int);rw[updZ_cast] at this;exact this
         ·rw[upd_other _ _ (by omega)];exact ap a (by omega)
         ·rw[Nat.add_comm i j];exact msubB_digit (B:=B9) (p:=p) (u:=fun a=>o (j+a)) (g:=gv) (j:=j) (i:=i) (t:=t) (c:=c) (d:=d) (lo:=0) (c':=c9) HV jq
        case measure=>simp[intOf];omega
       ·obtain ⟨d,hd⟩:∃ d,u' - r'=d:=⟨_,rfl⟩
        have aj:d < B9:=by unfold B9 at *;omega
        have z0:z=(d:Int):=by omega
        subst z0
        have z1:¬(d:Int) < 0:=by omega
        have z2:decide ((d:Int) < 0)=false:=decide_eq_false z1
        have d9:(d:Int) < 1000000000:=by unfold B9 at aj;omega
        have al:d+t*gv i+c=o (j+i)+B9*q':=by rw[a0,ay,ha];unfold B9 at *;omega
        clear a4 bg a0 ay ha hs db bf e9 dc d7 hd ax hneg;replace al:=hid al;replace aj:=hid aj;go_wp2_with fail;clear b8 ac an;go_roundw
        case rel=>
         refine ⟨i+1,q',upd p (i+j) d,by omega,by go_num,by first | rfl | go_num,by omega,hid ?_,hid (HQ.out.other (p:=⟨bu,i+j,none⟩) bj.out _),hid (ae.out.setCell (p:=⟨bu,i+j,none⟩) cf.out _),hid (upd_lt HP.out aj.out),hid (fun a ha=>?_),hid ?_⟩
         ·have:=HR.out.set (i+j) (d:Int);rw[updZ_cast] at this;exact this
         ·rw[upd_other _ _ (by omega)];exact ap a (by omega)
         ·rw[Nat.add_comm i j];exact msubB_digit (B:=B9) (p:=p) (u:=fun a=>o (j+a)) (g:=gv) (j:=j) (i:=i) (t:=t) (c:=c) (d:=d) (lo:=0) (c':=q') HV al
        case measure=>simp[intOf];omega
      ·obtain rfl:n2=i:=by omega
       have bz:¬(n2:Int) < (n2:Int):=by omega
       have c7:decide ((n2:Int) < (n2:Int))=false:=decide_eq_false bz;have c1:=fu.out;have ac:=HR.out.cell (i:=j+n2) (by omega);have an:=HR.out.frozen (j+n2);have ax:p (j+n2)=o (j+n2):=ap.out _ (.inr (Nat.le_refl _));rw[ax] at ac;have dd:=et.out (j+n2);obtain ⟨un,az⟩:∃ z,o (j+n2)=z:=⟨_,rfl⟩;rw[az] at ac dd
       have jb:(un:Int) < 1000000000:=by unfold B9 at dd;omega
       have aw:=cl.out
       have hw:(j:Int)+(n2:Int) < (n:Int):=by omega
       have ah:j < mq:=by have:=jn.out;omega
       have j4:(j:Int) < (mq:Int):=by omega
       obtain ⟨z,hz⟩:∃ z:Int,(un:Int) - (c:Int)=z:=⟨_,rfl⟩
       have z3: -1000000001 < z:=by omega
       have z4:z < 1000000000:=by omega
       clear ax dd;replace ah:=hid ah;go_upto_region 29 with (fail);obtain ⟨w9,de⟩:∃ x,wr.setCell ⟨bu,j+n2,none⟩ (.int .i64 z)=x:=⟨_,rfl⟩;have bm:=HR.out.set (j+n2) z;have bl:=HQ.out.other (p:=⟨bu,j+n2,none⟩) bj.out (.int .i64 z);have cw:=ae.out.setCell (p:=⟨bu,j+n2,none⟩) cf.out (.int .i64 z);rw[de] at bm bl cw⊢;clear de ac an HR HQ ae bz c7 jb;have ac:=bm.cell (i:=j+n2) (by omega);rw[updZ_same] at ac;by_cases hneg:un < c
       ·have z0:z < 0:=by omega
        have z1:decide (z < 0)=true:=decide_eq_true z0;have iw:=step_pos (B:=B9) (by decide) HP.out HV.out (by omega);obtain ⟨t1,ix⟩:∃ x,t - 1=x:=⟨_,rfl⟩
        have iy:(t:Int) - 1=(t1:Int):=by omega
        have kr:(t1:Int) < 1000000000:=by omega
        refine zh5 ?_ ix bm bl cw iw;clear ix bm bl cw iw;intro jr b7 b5 b4 kt;go_wp2_with fail;clear ac z1 iy;go_loopw [19,20] (fun sc si wx=>∃ (i cc:Nat) (p2:Nat→Nat),i≤n2∧si=.int .i64 (i:Int)∧sc=.int .i64 (cc:Int)∧(cc:Int)≤1∧Hid (RowZ wx bu 3 n (updZ (fun i=>(p2 i:Int)) (j+n2) z))∧Hid (Row wx bq 3 .i64 mq qf)∧Hid (New w2 wx)∧Hid (∀ j,p2 j < B9)∧Hid (∀ a,(a < j∨j+i≤a)→p2 a=p a)∧Hid (vf B9 (fun a=>p2 (j+a)) i+cc*B9^i=vf B9 (fun a=>p (j+a)) i+vf B9 gv i)) (fun _ si _=>n2 - (intOf si).toNat)
        case atStart=>exact ⟨0,0,p,Nat.zero_le _,rfl,rfl,by omega,b7,b5,b4,HP,hid (fun _ _=>rfl),hid (by simp[vf_zero])⟩
        case round=>
         clear b7 b5 b4;obtain ⟨i,cc,p2,hi,rfl,rfl,kg,HR,HQ,ae,gf,bk,gm⟩:=hrel;by_cases hin:i < n2
         ·obtain ⟨bv,ov,rfl,b8⟩:=(eu.out.new ae.out) i hin;have ac:=HR.out.cell (i:=i+j) (by omega);have an:=HR.out.frozen (i+j)
          have ax:p2 (i+j)=p (j+i):=by rw[Nat.add_comm];exact bk.out (j+i) (.inr (Nat.le_refl _))
          rw[updZ_other _ _ (by omega),ax]at ac;have a4:=cg.out i hin;have bg:=HP.out (j+i);obtain ⟨y',a0⟩:∃ z,gv i=z:=⟨_,rfl⟩;obtain ⟨u',ay⟩:∃ z,p (j+i)=z:=⟨_,rfl⟩;rw[a0] at b8 a4;rw[ay] at ac bg;obtain ⟨s,hs⟩:∃ s,u'+y'+cc=s:=⟨_,rfl⟩;obtain ⟨q',r',db,bf,e1,e2,e3,e4⟩:=div9 s
          have i2:(u':Int)+(y':Int)+(cc:Int)=(s:Int):=by omega
          have i5:(y':Int) < 1000000000:=by unfold B9 at a4;omega
          have i6:(u':Int) < 1000000000:=by unfold B9 at bg;omega
          have i4:(s:Int) < 3000000000:=by omega
          have i7:(r':Int) < 1000000000:=by unfold B9 at bf;omega
          have i8:(q':Int)≤1:=by unfold B9 at *;omega
          have c0:(i:Int) < (n2:Int):=by omega
          have ht:decide ((i:Int) < (n2:Int))=true:=decide_eq_true c0
          have kk:(i:Int)+(j:Int) < (n:Int):=by omega
          have al:r'+B9*q'=p (j+i)+gv i+cc:=by rw[a0,ay,hs];exact db
          clear a4 bg a0 ay hs db ax z0 z3 z4 hz;replace al:=hid al;replace bf:=hid bf;go_wp2_with fail
          go_quiet (fail)
          have a7:=HR.out.drewN nq;have b6:=HQ.out.drewN nq;have au:=ae.out.drewN nq;obtain ⟨ke,bi⟩:∃ x,wr.drewN nq=x:=⟨_,rfl⟩;rw[bi] at a7 b6 au⊢;clear bi ac b8 an HR HQ ae;have ac:=a7.cell (i:=i+j) (by omega);have an:=a7.frozen (i+j);refine zh3 ?_ a7 b6 au;clear a7 b6 au;intro HR HQ ae;go_wp2_with fail;clear ac an;go_roundw
          case rel=>
           refine ⟨i+1,q',upd p2 (i+j) r',by omega,by go_num,rfl,i8,hid ?_,hid (HQ.out.other (p:=⟨bu,i+j,none⟩) bj.out _),hid (ae.out.setCell (p:=⟨bu,i+j,none⟩) cf.out _),hid (upd_lt gf.out bf.out),hid (fun a ha=>?_),hid ?_⟩
           ·refine (HR.set (i+j) (r':Int)).congr fun a _=>?_;unfold updZ upd;dsimp only;by_cases e1:a=i+j
            ·rw[if_pos e1,if_neg (by omega),if_pos e1]
            ·rw[if_neg e1,if_neg e1]
           ·rw[upd_other _ _ (by omega)];exact bk a (by omega)
           ·rw[Nat.add_comm i j];exact backB_digit gm al
          case measure=>simp[intOf];omega
         ·obtain rfl:n2=i:=by omega
          have bz:¬(n2:Int) < (n2:Int):=by omega
          have c7:decide ((n2:Int) < (n2:Int))=false:=decide_eq_false bz;obtain ⟨g7,a8⟩:=rstep_back HD (by decide) ar dw ev cq ci ah HP gf ap bk HV (by rw[az];exact hneg) gm (by omega);rw[az] at g7;rw[jr.out] at a8
          have k0:z+(cc:Int)=0:=by omega
          have ac:=HR.out.cell (i:=j+n2) (by omega);rw[updZ_same] at ac;have an:=HR.out.frozen (j+n2);clear g7 hz hneg;replace a8:=hid a8;go_upto_region 39 with (fail);obtain ⟨ke,bi⟩:∃ x,wr.setCell ⟨bu,j+n2,none⟩ (.int .i64 0)=x:=⟨_,rfl⟩
          have cx:=(HR.out.set (j+n2) 0).congr (g:=fun i=>((upd p2 (j+n2) 0 i:Nat):Int)) fun a _=>by
           unfold updZ upd;by_cases e1:a=j+n2
           ·rw[if_pos e1,if_pos e1];rfl
           ·rw[if_neg e1,if_neg e1,if_neg e1]
          have ba:=HQ.out.other (p:=⟨bu,j+n2,none⟩) bj.out (.int .i64 0);have ct:=ae.out.setCell (p:=⟨bu,j+n2,none⟩) cf.out (.int .i64 0);rw[bi] at cx ba ct⊢;clear bi ac an HR HQ ae;have fc:=ba.frozen j;have fa:=ba.cell (i:=j) ah.out;refine zh3 ?_ cx ba ct;clear cx ba ct;intro b7 b5 b4;go_wp2_with fail;clear fc fa;go_roundw
          case rel=>exact ⟨j,_,upd qf j t1,by have:=ah.out;omega,rfl,hid (b7.out.other (p:=⟨bq,j,none⟩) (Ne.symm bj.out) _),hid (b5.out.set j t1),hid (b4.out.setCell (p:=⟨bq,j,none⟩) fh.out _),a8⟩
          case measure=>simp[intOf] <;> omega
       ·obtain ⟨d,hd⟩:∃ d:Nat,z=(d:Int):=⟨z.toNat,by omega⟩;subst hd
        have z0:¬(d:Int) < 0:=by omega
        have z1:decide ((d:Int) < 0)=false:=decide_eq_false z0;rw[updZ_cast] at bm;have fc:=bl.frozen j;have fa:=bl.cell (i:=j) ah.out;have a8:=step_fit HD.out ar.out dw.out ev.out cq.out ci.out ah.out HP.out ap.out HV.out (by rw[az];omega);rw[az,show un - c=d by omega] at a8;refine zh4 ?_ bm bl cw a8;clear bm bl cw a8;intro b7 b5 b4 es;go_wp2_with fail;clear ac fc fa;go_roundw
        case rel=>exact ⟨j,_,upd qf j t,by have:=ah.out;omega,rfl,hid (b7.out.other (p:=⟨bq,j,none⟩) (Ne.symm bj.out) _),hid (b5.out.set j t),hid (b4.out.setCell (p:=⟨bq,j,none⟩) fh.out _),es⟩
        case measure=>simp[intOf] <;> omega
theorem rdivs_calls (K:Nat)(va vb:Value)(x y:Nat)(w:World)(ha:IsD w va x)(hb:IsD w vb y)(hK:K≤90000)(hx:x < B9^K)(hy:y < B9^K)(hy0:0 < y):
  Calls prog 171 #[va,vb] w (RDivsPost w (x / y) (x % y)):=by
 rcases Nat.lt_or_ge x y with h | h
 ·have:=rdivs_less K va vb x y w ha hb hK hx hy h;rw[Nat.div_eq_of_lt h,Nat.mod_eq_of_lt h];exact this
 ·have ab:=hb;obtain ⟨n,g,hg,aa⟩:=ab;rcases Nat.lt_or_ge n 2 with h2 | h2
  ·have h3:=hg.canon.lt_pow;rw[aa] at h3;have h4:B9^n≤B9^1:=Nat.pow_le_pow_right (by decide) (by omega);rw[Nat.pow_one] at h4;exact rdivs_one K va vb x y w ha hb hK hx (by omega) hy0 h
  ·obtain ⟨k,rfl⟩:∃ k,n=k+2:=⟨n - 2,by omega⟩;exact rdivs_long K k va vb x y g w ha hg aa hK hx hy h
theorem rcommon_calls (K:Nat)(va vb:Value)(x y:Nat)(w:World)(ha:IsD w va x)(hb:IsD w vb y)(hK:K≤90000)(hx:x < B9^K)(hy:y < B9^K):
  Calls prog 99 #[va,vb] w (RetD w (Nat.gcd x y)):=by
 obtain ⟨G,hG⟩:∃ G,Nat.gcd x y=G:=⟨_,rfl⟩;rw[hG];obtain ⟨a1,l1,c1,rfl⟩:=ha.shape;obtain ⟨a2,l2,c2,rfl⟩:=hb.shape;have ab:∃ (x':Nat) (a1':Option Addr) (l1' c1':Nat) (a2':Option Addr) (l2' c2':Nat),Value.slice a1 l1 c1=.slice a1' l1' c1'∧Value.slice a2 l2 c2=.slice a2' l2' c2'∧IsD w (.slice a1 l1 c1) x'∧IsD w (.slice a2 l2 c2) y∧Nat.gcd x' y=G∧x' < B9^K∧y < B9^K∧New w w:=⟨x,_,_,_,_,_,_,rfl,rfl,ha,hb,hG,hx,hy,New.refl _⟩;clear ha hb hG hx hy;replace ab:=hid ab;replace hK:=hid hK;go_in;go_wp2_with fail
 go_loopg [0,1] y (fun g va vb wr=>∃ (x':Nat) (a1':Option Addr) (l1' c1':Nat) (a2':Option Addr) (l2' c2':Nat),va=.slice a1' l1' c1'∧vb=.slice a2' l2' c2'∧IsD wr va x'∧IsD wr vb g∧Nat.gcd x' g=G∧x' < B9^K∧g < B9^K∧New w wr)
 case atStart=>exact ab
 case round=>
  clear ab;obtain ⟨x',a3,l3,c3,a4,l4,c4,rfl,rfl,h1,h2,h3,h4,h5,h6⟩:=hrel;rcases Nat.eq_zero_or_pos l4 with h0 | h0
  ·have aa:gk=0:=by
    obtain ⟨n,f,⟨⟨a,c,⟨e, -⟩, -⟩, -⟩,hv⟩:=h2;injection e with e1 e2 e3;subst e2;subst h0;rw[←hv];rfl
   subst aa;rw[Nat.gcd_zero_right] at h3;rw[h3] at h1;subst h0;clear h2 h3 h4 h5;have H1:=hid h1;have H6:=hid h6;clear h1 h6;go_wp2_with fail;go_ret;exact ⟨_,rfl,H6,H1⟩
  ·have aa:0 < gk:=by
    obtain ⟨n,f,hd,hv⟩:=h2
    have:=hd.canon.pos (by decide) (by
     obtain ⟨⟨a,c,⟨e, -⟩, -⟩, -⟩:=hd;injection e with e1 e2 e3
     omega)
    rw[hv]at this;exact this
   have ad:=rdivs_calls K _ _ x' gk wr h1 h2 hK.out h4 h5 aa;have af:=Nat.mod_lt x' aa
   have ae:Nat.gcd gk (x' % gk)=G:=by rw[←h3,Nat.gcd_comm x' gk,Nat.gcd_rec gk x',Nat.gcd_comm]
   have ai:(0:Int) < (l4:Int):=by omega
   have aj:decide ((0:Int) < (l4:Int))=true:=decide_eq_true ai;clear h1 h3 h4 aa;refine zh6 ?_ ad af ae h2 h5 h6;clear ad af ae h2 h5 h6;intro ag ac ah H2 H5 H6;go_wp2_with fail;refine ag.mono ?_;rintro e w2 ⟨vq,vr,rfl,hn,hq,hr⟩;obtain ⟨a5,l5,c5,rfl⟩:=hq.shape;obtain ⟨a6,l6,c6,rfl⟩:=hr.shape;have h2:=H2.out.new hn;have h6:=H6.out.trans hn;clear hq H2 H6 hn;refine zh3 ?_ hr h2 h6;clear hr h2 h6;intro HR H2 H6;go_wp2_with fail
   go_roundg (x' % gk)
   case measure=>exact ac
   case rel=>exact ⟨gk,_,_,_,_,_,_,rfl,rfl,H2,HR,ah,H5,Nat.lt_trans ac H5,H6⟩
theorem rgcd_calls (x y:Nat)(w:World)(hx:x < 9223372036854775808)(hy:y < 9223372036854775808):
  Calls prog 150 #[.int .i64 (x:Int),.int .i64 (y:Int)] w fun e w'=>e=.returned (.int .i64 (Nat.gcd x y:Nat))∧New w w':=by
 obtain ⟨G,hG⟩:∃ G,Nat.gcd x y=G:=⟨_,rfl⟩;rw[hG];go_in;go_wp2_with fail;go_loopw [0,1] (fun sa sb wr=>∃ x' y':Nat,sa=.int .i64 (x':Int)∧sb=.int .i64 (y':Int)∧Hid (Nat.gcd x' y'=G)∧Hid (New w wr)) (fun _ sb _=>(intOf sb).toNat)
 case atStart=>exact ⟨x,y,rfl,rfl,hid hG,hid (New.refl _)⟩
 case round=>
  clear hx hy hG;obtain ⟨x',y',rfl,rfl,HG,HN⟩:=hrel;rcases Nat.eq_zero_or_pos y' with h0 | h0
  ·subst h0;have h:=HG.out;rw[Nat.gcd_zero_right] at h;subst h;go_wp2_with fail;go_ret;exact ⟨rfl,HN⟩
  ·obtain ⟨d1,d2,d3,d4⟩:=divd x' y';have ab:=Nat.mod_lt x' h0
   have aa:Nat.gcd y' (x' % y')=G:=by rw[←HG.out,Nat.gcd_comm x' y',Nat.gcd_rec y' x',Nat.gcd_comm]
   obtain ⟨r,hr⟩:∃ r,x' % y'=r:=⟨_,rfl⟩;rw[hr] at d3 d4 ab aa
   have ac:(0:Int) < (y':Int):=by omega
   have ad:decide ((0:Int) < (y':Int))=true:=decide_eq_true ac
   have ae:((y':Int)==0)=false:=by simp;omega
   have af:(y':Int)≠0:=by omega
   clear hr d1 d2 h0;replace ab:=hid ab;replace aa:=hid aa;go_wp2_with fail
   go_quiet (fail)
   go_wp2_with fail;go_roundw
   case rel=>exact ⟨y',r,rfl,rfl,aa,hid (HN.drewN _)⟩
   case measure=>simp[intOf];exact ab.out
end Go.Proofs.YtnjonlnemagomaaGreatDoor
namespace Go.Proofs.YtnjonlnemagomaaGreatDoor
open Go.RowKit Big Go.Lib Tryz
set_option maxRecDepth 100000
set_option maxHeartbeats 8000000
set_option linter.all false
theorem digits_few {f:Nat→Nat}{n k:Nat}(hk:k < n)(hl:∀ i,i < n→f i < B9):(decDigits (vf B9 (fun i=>f (k+i)) (n - k))).length≤9*(n - k):=by
 rw[decDigits_length,nDigits_le_iff (by omega)];have h1:vf B9 (fun i=>f (k+i)) (n - k) < B9^(n - k):=vf_lt fun i hi=>hl _ (by omega);rw[Nat.pow_mul];exact h1
theorem rtext_zero (b:Bool)(a:Option Addr)(c:Nat)(w:World):Calls prog 153 #[.agg #[.bool b,.slice a 0 c]] w fun e w'=>e=.returned (.string (bs [48]))∧New w w':=by
 go_in;go_wp2_with fail;obtain ⟨BA,HN⟩:=lay1 w 124 #[.bool b,.slice a 0 c];obtain ⟨p0,p1,p2,p3,p4⟩:=BA.out.two;go_wp2_with fail;go_ret;exact ⟨rfl,HN⟩
theorem rtext_pos (a:Option Addr)(n c:Nat)(f:Nat→Nat)(x:Nat)(w:World)(hn0:0 < n)(hn:n≤90000)(hr:Rd w a .i64 n f)(hl:∀ i,i < n→f i < B9)(h0:f (n - 1)≠0)(hx:vf B9 f n=x):
  Calls prog 153 #[.agg #[.bool false,.slice a n c]] w fun e w'=>e=.returned (.string (bs (decDigits x)))∧New w w':=by
 have ak:=fun k (hk:k < n)=>digits_few hk hl
 have bc:(n:Int)≤90000:=by omega
 have a8:(0:Int) < (n:Int):=by omega
 have a7:((n:Int)==0)=false:=by simp;omega
 obtain ⟨t,ht⟩:∃ t,f (n - 1)=t:=⟨_,rfl⟩;have ae:=hl (n - 1) (by omega)
 have ac:vf B9 (fun i=>f (n - 1+i)) (n - (n - 1))=t:=by
  rw[show n - (n - 1)=1 by omega];simp[vf,ht]
 have aa:=fun W=>rdecimal_one t W (by rw[←ht];unfold B9 at ae;omega)
 have ax:(t:Int) < 1000000000:=by rw[ht] at ae;unfold B9 at ae;omega
 obtain ⟨b1,o1,rfl,ad⟩:=hr (n - 1) (by omega);rw[ht] at ad h0;refine zh10 ?_ hr hl h0 hx ak aa ac ad ae ht;clear hr hl h0 hx ak aa ac ad ae ht;intro HR HL H0 HX aq ab al ao a9 HT;go_in;go_upto_region 1 with (fail);obtain ⟨BA,HN⟩:=lay1 w 124 #[.bool false,.slice (some ⟨b1,o1,none⟩) n c];have ad:=HN.out.cell ao.out;have p:=BA.out.two;go_wp2_with fail;refine zM (ab _) fun w1 hn=>?_;clear ad ax ao;clear p;obtain ⟨HN,BA⟩:=zn2 hn HN BA.new;clear hn;obtain ⟨p0,p1,p2,p3,p4⟩:=BA.out.two;go_wp2_with fail;clear p0 p1 p2 p3 p4;obtain ⟨w0,ay⟩:∃ x,x=w1:=⟨_,rfl⟩;rw[←ay] at BA HN⊢;clear ay;have az:=HN;have af:=BA;clear HN BA
 have au:(n:Int) - 2=((n - 1:Nat):Int) - 1:=by omega
 go_loopw [3,4] (fun ss si wr=>∃ k:Nat,k < n∧si=.int .i64 ((k:Int) - 1)∧ss=.string (bs (decDigits (vf B9 (fun i=>f (k+i)) (n - k))))∧Hid (vf B9 (fun i=>f (k+i)) (n - k)≠0)∧Hid (New w0 wr)) (fun _ si _=>(RowKit.intOf si+1).toNat)
 case atStart=>exact ⟨n - 1,by omega,by rw[au],by rw[al.out],hid (by rw[al.out];exact H0.out),hid (New.refl _)⟩
 case round=>
  clear au al ab;obtain ⟨k,hk,rfl,rfl,HZ,HN⟩:=hrel;obtain ⟨S,hS⟩:∃ S,bs (decDigits (vf B9 (fun i=>f (k+i)) (n - k)))=S:=⟨_,rfl⟩
  have a5:S.size≤810000:=by rw[←hS,bs_size];have:=aq.out k hk;omega
  rw[hS];have ag:=az.out.trans HN.out;rcases Nat.eq_zero_or_pos k with av | av
  ·subst av
   have e:(fun i=>f (0+i))=f:=funext fun i=>by rw[Nat.zero_add]
   rw[e,Nat.sub_zero,HX.out]at hS
   have hq:¬9223372036854775807 < 1+S.size:=by omega
   replace af:=hid (af.new HN);clear HN HZ e;have HS:=hid hS;have a0:=hid ag;clear hS ag;obtain ⟨p0,p1,p2,p3,p4⟩:=af.out.two;go_wp2_with fail;go_ret;exact ⟨by rw[HS.out];rfl,a0.out⟩
  ·obtain ⟨j,rfl⟩:∃ j,k=j+1:=⟨k - 1,by omega⟩;obtain ⟨ai,an⟩:=text_step (f:=f) (n:=n) (k:=j+1) (by omega) (by omega) HL HZ;rw[Nat.add_sub_cancel] at ai an
   have a4:((j+1:Nat):Int) - 1=(j:Int):=by omega
   have a3:(0:Int)≤(j:Int):=by omega
   have ba:decide ((0:Int)≤(j:Int))=true:=decide_eq_true a3
   have bb:(j:Int) < (n:Int):=by omega
   obtain ⟨b2,o2,e2,hc⟩:=HR.out j (by omega);injection e2 with e2;injection e2 with e2 e3;subst e2 e3;have hc:=ag.cell hc;have ah:=HL.out j (by omega);obtain ⟨t2,aw⟩:∃ t,f j=t:=⟨_,rfl⟩;rw[aw] at hc ah ai
   have a6:(t2:Int) < 1000000000:=by unfold B9 at ah;omega
   have aa:=fun W=>rdecimal_nine t2 W ah;obtain ⟨C,hC⟩:∃ C,bs (padDigits 9 t2)=C:=⟨_,rfl⟩;simp only[hC] at aa
   have a2:C.size=9:=by rw[←hC,bs_size,padDigits_length]
   have hq:¬9223372036854775807 < S.size+C.size:=by omega
   have aj:S ++ C=bs (decDigits (vf B9 (fun i=>f (j+i)) (n - j))):=by
    rw[←hS,←hC,bs_append];exact congrArg bs ai.symm
   have ar:=af.out.new HN.out;rw[a4];clear hC hS ai ah aw a2 ag a5 HZ;refine zh4 ?_ aa aj an ar;clear aa aj an ar;intro ab ap a1 BA;have p:=BA.out.two;go_wp2_with fail;refine zM (ab _) fun w2 hn=>?_;clear p;have am:=HN.out.trans hn;clear HN hn hc BA;replace am:=hid am;go_wp2_with fail;go_roundw
   case rel=>exact ⟨j,by omega,rfl,by rw[ap.out],a1,am⟩
   case measure=>simp[RowKit.intOf] <;> omega
theorem rtext_neg (a:Option Addr)(n c:Nat)(f:Nat→Nat)(x:Nat)(w:World)(hn0:0 < n)(hn:n≤90000)(hr:Rd w a .i64 n f)(hl:∀ i,i < n→f i < B9)(h0:f (n - 1)≠0)(hx:vf B9 f n=x):
  Calls prog 153 #[.agg #[.bool true,.slice a n c]] w fun e w'=>e=.returned (.string (bs (45::decDigits x)))∧New w w':=by
 have ak:=fun k (hk:k < n)=>digits_few hk hl
 have bc:(n:Int)≤90000:=by omega
 have a8:(0:Int) < (n:Int):=by omega
 have a7:((n:Int)==0)=false:=by simp;omega
 obtain ⟨t,ht⟩:∃ t,f (n - 1)=t:=⟨_,rfl⟩;have ae:=hl (n - 1) (by omega)
 have ac:vf B9 (fun i=>f (n - 1+i)) (n - (n - 1))=t:=by
  rw[show n - (n - 1)=1 by omega];simp[vf,ht]
 have aa:=fun W=>rdecimal_one t W (by rw[←ht];unfold B9 at ae;omega)
 have ax:(t:Int) < 1000000000:=by rw[ht] at ae;unfold B9 at ae;omega
 obtain ⟨b1,o1,rfl,ad⟩:=hr (n - 1) (by omega);rw[ht] at ad h0;refine zh10 ?_ hr hl h0 hx ak aa ac ad ae ht;clear hr hl h0 hx ak aa ac ad ae ht;intro HR HL H0 HX aq ab al ao a9 HT;go_in;go_upto_region 1 with (fail);obtain ⟨BA,HN⟩:=lay1 w 124 #[.bool true,.slice (some ⟨b1,o1,none⟩) n c];have ad:=HN.out.cell ao.out;have p:=BA.out.two;go_wp2_with fail;refine zM (ab _) fun w1 hn=>?_;clear ad ax ao;clear p;obtain ⟨HN,BA⟩:=zn2 hn HN BA.new;clear hn;obtain ⟨p0,p1,p2,p3,p4⟩:=BA.out.two;go_wp2_with fail;clear p0 p1 p2 p3 p4;obtain ⟨w0,ay⟩:∃ x,x=w1:=⟨_,rfl⟩;rw[←ay] at BA HN⊢;clear ay;have az:=HN;have af:=BA;clear HN BA
 have au:(n:Int) - 2=((n - 1:Nat):Int) - 1:=by omega
 go_loopw [3,4] (fun ss si wr=>∃ k:Nat,k < n∧si=.int .i64 ((k:Int) - 1)∧ss=.string (bs (decDigits (vf B9 (fun i=>f (k+i)) (n - k))))∧Hid (vf B9 (fun i=>f (k+i)) (n - k)≠0)∧Hid (New w0 wr)) (fun _ si _=>(RowKit.intOf si+1).toNat)
 case atStart=>exact ⟨n - 1,by omega,by rw[au],by rw[al.out],hid (by rw[al.out];exact H0.out),hid (New.refl _)⟩
 case round=>
  clear au al ab;obtain ⟨k,hk,rfl,rfl,HZ,HN⟩:=hrel;obtain ⟨S,hS⟩:∃ S,bs (decDigits (vf B9 (fun i=>f (k+i)) (n - k)))=S:=⟨_,rfl⟩
  have a5:S.size≤810000:=by rw[←hS,bs_size];have:=aq.out k hk;omega
  rw[hS];have ag:=az.out.trans HN.out;rcases Nat.eq_zero_or_pos k with av | av
  ·subst av
   have e:(fun i=>f (0+i))=f:=funext fun i=>by rw[Nat.zero_add]
   rw[e,Nat.sub_zero,HX.out]at hS
   have hq:¬9223372036854775807 < 1+S.size:=by omega
   replace af:=hid (af.new HN);clear HN HZ e;have HS:=hid hS;have a0:=hid ag;clear hS ag;obtain ⟨p0,p1,p2,p3,p4⟩:=af.out.two;go_wp2_with fail;go_ret;exact ⟨by have h:=bs_append [45] (decDigits x);rw[HS.out] at h;exact congrArg (fun s=>Ending.returned (.string s)) h,a0.out⟩
  ·obtain ⟨j,rfl⟩:∃ j,k=j+1:=⟨k - 1,by omega⟩;obtain ⟨ai,an⟩:=text_step (f:=f) (n:=n) (k:=j+1) (by omega) (by omega) HL HZ;rw[Nat.add_sub_cancel] at ai an
   have a4:((j+1:Nat):Int) - 1=(j:Int):=by omega
   have a3:(0:Int)≤(j:Int):=by omega
   have ba:decide ((0:Int)≤(j:Int))=true:=decide_eq_true a3
   have bb:(j:Int) < (n:Int):=by omega
   obtain ⟨b2,o2,e2,hc⟩:=HR.out j (by omega);injection e2 with e2;injection e2 with e2 e3;subst e2 e3;have hc:=ag.cell hc;have ah:=HL.out j (by omega);obtain ⟨t2,aw⟩:∃ t,f j=t:=⟨_,rfl⟩;rw[aw] at hc ah ai
   have a6:(t2:Int) < 1000000000:=by unfold B9 at ah;omega
   have aa:=fun W=>rdecimal_nine t2 W ah;obtain ⟨C,hC⟩:∃ C,bs (padDigits 9 t2)=C:=⟨_,rfl⟩;simp only[hC] at aa
   have a2:C.size=9:=by rw[←hC,bs_size,padDigits_length]
   have hq:¬9223372036854775807 < S.size+C.size:=by omega
   have aj:S ++ C=bs (decDigits (vf B9 (fun i=>f (j+i)) (n - j))):=by
    rw[←hS,←hC,bs_append];exact congrArg bs ai.symm
   have ar:=af.out.new HN.out;rw[a4];clear hC hS ai ah aw a2 ag a5 HZ;refine zh4 ?_ aa aj an ar;clear aa aj an ar;intro ab ap a1 BA;have p:=BA.out.two;go_wp2_with fail;refine zM (ab _) fun w2 hn=>?_;clear p;have am:=HN.out.trans hn;clear HN hn hc BA;replace am:=hid am;go_wp2_with fail;go_roundw
   case rel=>exact ⟨j,by omega,rfl,by rw[ap.out],a1,am⟩
   case measure=>simp[RowKit.intOf] <;> omega
theorem rtext_calls (K:Nat)(v:Value)(z:Int)(w:World)(h:IsZ w v z)(hK:K≤90000)(hz:z.natAbs < B9^K):Calls prog 153 #[v] w fun e w'=>e=.returned (.string (bs (itoa z)))∧New w w':=by
 obtain ⟨b,a,n,c,rfl⟩:=h.shape;obtain ⟨hb,hd⟩:=h.parts;obtain ⟨n',f,hd,hv⟩:=hd;have hn:=len_le hd.canon hv hz;have ab:=hd.canon.pos (by decide);obtain ⟨⟨a',ad,⟨e, -⟩,hr,hl⟩,h0⟩:=hd;injection e with e1 e2 e3;subst e1 e2 e3;rcases Nat.eq_zero_or_pos n with aa | aa
 ·subst aa
  have ac:z=0:=by
   rw[vf_zero]at hv;omega
  rw[ac,show itoa 0=[48] by rw[show (0:Int)=((0:Nat):Int) from rfl,Big.itoa_nonneg,decDigits_zero]];exact rtext_zero b a c w
 ·have ae:0 < z.natAbs:=by rw[←hv];exact ab (by omega)
  by_cases hneg:z < 0
  ·rw[hb,decide_eq_true hneg];have:=rtext_neg a n c f _ w aa (by omega) hr hl (h0 (by omega)) hv
   have e:itoa z=45::decDigits z.natAbs:=by
    have:=Big.itoa_neg (n:=z.natAbs) (by omega);rw[←this];congr 1;omega
   rw[e];exact this
  ·rw[hb,decide_eq_false hneg];have:=rtext_pos a n c f _ w aa (by omega) hr hl (h0 (by omega)) hv
   have e:itoa z=decDigits z.natAbs:=by
    rw[←Big.itoa_nonneg];congr 1;omega
   rw[e];exact this
end Go.Proofs.YtnjonlnemagomaaGreatDoor
