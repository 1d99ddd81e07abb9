/- Part B33. -/
import Derived.Laws.StructEq
import Derived.Test.YtnjonlnemagomaaGreatDoorB11
import Derived.Test.YtnjonlnemagomaaGreatDoorB18
import Derived.Test.YtnjonlnemagomaaGreatDoorB26
namespace Go.Proofs.YtnjonlnemagomaaGreatDoor
open Go.RowKit Big
open Go.Lib (hid)
set_option maxRecDepth 100000
set_option maxHeartbeats 8000000
theorem y3e (n lo hi:Int)(w:World):Calls Tryz.prog 105 #[.int .i64 n,.int .i64 lo,.int .i64 hi] w fun e w'=>e=.returned (.int .i64 (if outside n lo hi then 3 else 0))/\w=w':=by
 obtain ⟨r,hr⟩:∃ r,outside n lo hi=r:=⟨_,rfl⟩;rw[hr];unfold outside at hr;by_cases h1:n < lo
 ·have hb:r=true:=by rw[<-hr];simp[h1]
  subst hb;clear hr;go_enter Tryz.func105,Tryz.ntmps105;go_wp2_with fail;refine (y04 true 3 _).mono ?_;rintro e w' ⟨rfl,rfl⟩;go_wp2_with fail;go_ret;exact ⟨rfl,rfl⟩
 ·by_cases h2:hi < n
  ·have hb:r=true:=by rw[<-hr];simp[h2]
   subst hb;clear hr;go_enter Tryz.func105,Tryz.ntmps105;go_wp2_with fail;refine (y04 true 3 _).mono ?_;rintro e w' ⟨rfl,rfl⟩;go_wp2_with fail;go_ret;exact ⟨rfl,rfl⟩
  ·have hb:r=false:=by rw[<-hr];simp[h1,h2]
   subst hb;clear hr;go_enter Tryz.func105,Tryz.ntmps105;go_wp2_with fail;refine (y04 false 3 _).mono ?_;rintro e w' ⟨rfl,rfl⟩;go_wp2_with fail;go_ret;exact ⟨rfl,rfl⟩
def ygu (w:World)(n:Nat)(f:Nat->Int)(E:Int)(e:Ending)(w':World):Prop:=∃ (a:Option Addr) (cap:Nat),e=.returned (.tuple #[.slice a n cap,.int .i64 E])/\New w w'/\n<=cap/\RdL w' a (ints ((List.range n).map f))
theorem RowZ.rdl {w:World}{b:Nat}{t:TypeId}{n:Nat}{f:Nat->Int}(h:RowZ w b t n f):RdL w (some ⟨b,0,none⟩) (ints ((List.range n).map f)):=fun i hi=>by
 have hi':i < n:=by simpa[ints] using hi
 refine ⟨b,0,rfl,?_⟩;rw[Nat.zero_add,h.cell hi'];simp[ints]
theorem RowZ.of_ownZ {w:World}{base:Nat}{t:TypeId}{n:Nat}{v:Value}{xs:List Value}{f:Nat->Int}(h:w.ownsRow base t 1 v n xs)(h0:0 < n)(hx:∀ i,i < n->xs[i]?=some (.int .i64 (f i))):
  ∃ g cap,v=.slice (some ⟨g,0,none⟩) n cap/\base<=g/\n<=cap/\cap<=maxLen/\RowZ w g t n f:=by
 rcases h.2 with ⟨_,h1⟩ | ⟨g,cap,cur,e,hb,hc,h2,h3,h4,h5⟩
 ·omega
 ·refine ⟨g,cap,e,hb,h2,h3,cur,hc,by omega,fun i hi=>?_⟩;have:=hx i hi;rw[<-h5,Nat.mul_one,List.getElem?_take_of_lt hi] at this;simpa using this
def idxs (k:Nat):List Int:=(List.range k).map fun (i:Nat)=>(i:Int)
theorem y8k (k:Nat):(idxs k).length=k:=by simp[idxs]
theorem ydw (k:Nat):idxs (k+1)=idxs k ++ [(k:Int)]:=by simp[idxs,List.range_succ]
theorem ymd (f:Nat->Int)(k:Nat):(List.range (k+1)).map f=(List.range k).map f ++ [f k]:=by simp[List.range_succ]
theorem ints_at (f:Nat->Int){n i:Nat}(h:i < n):(ints ((List.range n).map f))[i]?=some (.int .i64 (f i)):=by simp[ints,h]
theorem ygz (f:Nat->Int)(a b:Nat):updZ (updZ f a (f b)) b (f a)=y5a f a b:=by
 funext i;unfold updZ y5a;by_cases h1:i=b
 ·by_cases h2:i=a
  ·rw[if_pos h1,if_pos h2,<-h1,h2]
  ·rw[if_pos h1,if_neg h2,if_pos h1]
 ·rw[if_neg h1];by_cases h2:i=a
  ·rw[if_pos h2,if_pos h2]
  ·rw[if_neg h2,if_neg h2,if_neg h1]
theorem yf7 {X:Nat}(h:X < 2147483399)(m:Nat):∃ x k:Nat,yhi X=x/\x < 2147483399/\x % (m+2)=k/\k < m+2/\Int.tmod (40692*(X:Int)) 2147483399=(x:Int)/\Int.tmod (x:Int) ((m:Int)+1+1)=(k:Int):=by
 refine ⟨_,_,rfl,Nat.mod_lt _ (by omega),rfl,Nat.mod_lt _ (by omega),?_,?_⟩
 ·rw[Int.tmod_eq_emod_of_nonneg (by omega)];unfold yhi;omega
 ·rw[Int.tmod_eq_emod_of_nonneg (by omega)]
  have e:((m:Int)+1+1)=((m+2:Nat):Int):=by omega
  rw[e,<-Int.natCast_emod]
theorem yg8 (key n:Nat)(h1:1<=key)(h2:key<=2147483398)(h3:n<=256)(w:World):Calls Tryz.prog 27 #[.int .i64 (key:Int),.int .i64 (n:Int)] w (ygu w n (yov key n) 0):=by
 obtain ⟨i0,hi,hz0,hz1,hz2⟩:=info_parts y3b;obtain ⟨e1,ho1⟩:∃ e,(if outside (key:Int) 1 2147483398=true then (3:Int) else 0)=e:=⟨_,rfl⟩;obtain ⟨e2,ho2⟩:∃ e,(if outside (n:Int) 0 256=true then (3:Int) else 0)=e:=⟨_,rfl⟩
 have he:(if e1=0 then e2 else e1)=0:=by
  have a1:outside (key:Int) 1 2147483398=false:=by unfold outside;simp;omega
  have a2:outside (n:Int) 0 256=false:=by unfold outside;simp;omega
  rw[<-ho1,<-ho2,a1,a2];rfl
 have hni:(n:Int)<=256:=by omega
 obtain ⟨F,hF⟩:∃ F,yov key n=F:=⟨_,rfl⟩;have hstart:0 < n->y8s (n - 1) key (fun i=>(i:Int))=F:=fun _=>hF;rw[hF];clear hF;have HO1:=hid ho1;have HO2:=hid ho2;have HE1:=hid he;have HST:=hid hstart;clear ho1 ho2 he hstart;go_enter Tryz.func27,Tryz.ntmps27;go_wp2_with fail;refine (y3e _ 1 2147483398 _).mono ?_;rintro e w' ⟨rfl,rfl⟩;rw[HO1.out];go_wp2_with fail;refine (y3e _ 0 256 _).mono ?_;rintro e w' ⟨rfl,rfl⟩;rw[HO2.out];go_wp2_with fail;refine (y57 e1 e2 _ _ 32 _ (Box.alloc _ _ _ _ rfl)).mono ?_;rintro e w1 ⟨rfl,hw⟩;rw[HE1.out];have HN:=hid (show New w w1 from ((New.refl w).alloc _).trans (.of_eq hw));clear hw;go_wp2_with fail;have HW:=HN;clear HN;go_loopw [7,22] (fun v i wr=>∃ k,k<=n/\i=.int .i64 (k:Int)/\Hid (wr.ownsRow w.heap.size 3 1 v (ints (idxs k)).length (ints (idxs k)))/\Hid (New w wr)) (fun _ i _=>n - (intOf i).toNat)
 case atStart=>exact ⟨0,Nat.zero_le _,rfl,hid (World.ownsRow_nil _ _ _ _),HW⟩
 case round=>
  obtain ⟨k,hk,rfl,HO,HN⟩:=hrel;by_cases hlt:k < n
  ·have hki:(k:Int) < n:=by omega
   have hle:(ints (idxs k)).length=k:=by unfold ints;rw[List.length_map,y8k]
   have hk9:k<=256:=by omega
   have HLE:=hid hle;have HK9:=hid hk9;clear hle hk9;go_wp2_with (at_builtin;refine wpList_append_own _ rfl _ _ 24 rfl w.heap.size 3 i0 (.int .i64 0) 1 8 Tryz.underlying24 hi hz0 hz1 hz2 rfl (by decide) _ _ _ rfl (HO.out.alloc _) ⟨wr.heap.size,0,none⟩ 1 1 [.int .i64 (k:Int)] rfl rfl (y3i _ _ _) (y4m _) (by have:=HLE.out;have:=HK9.out;unfold maxLen;omega) (by have:=HLE.out;have:=HK9.out;omega) (by have:=HN.out.size;rw[<-size_alloc];omega) ?_);intro v' w2 hown' hgrow _;have hN1:=y11 HN.out HO.out hgrow
   have hO1:w2.ownsRow w.heap.size 3 1 v' (ints (idxs (k+1))).length (ints (idxs (k+1))):=by
    have:ints (idxs (k+1))=ints (idxs k) ++ [.int .i64 (k:Int)]:=by rw[ydw];simp[ints]
    rw[this];simpa using hown'
   clear hown' hgrow;have HN1:=hid hN1;have HO1:=hid hO1;clear hN1 hO1;go_wp2_with fail;go_roundw
   case rel=>exact ⟨k+1,by omega,by go_num,HO1,HN1⟩
   case measure=>simp[intOf];omega
  ·obtain rfl:k=n:=by omega
   have hle:(ints (idxs k)).length=k:=by unfold ints;rw[List.length_map,y8k]
   rw[hle]at HO;rcases Nat.eq_zero_or_pos k with h0 | h0
   ·subst h0;obtain ⟨a,cap,rfl,hr, -⟩:=yde HO.out;clear HO;go_wp2_with fail;go_loopw [9,10] (fun x i wx=>i=.int .i64 (-1)/\Hid (wx=wr)) (fun _ _ _=>0)
    case atStart=>exact ⟨rfl,hid rfl⟩
    case round=>
     obtain ⟨rfl,HX⟩:=hrel;rw[HX.out];go_wp2_with fail;go_ret2;exact ⟨a,cap,rfl,HN.out,Nat.zero_le _,fun i hi=>by simp[ints] at hi⟩
   ·obtain ⟨g,cap,rfl,hg,hc1,hc2,hrow⟩:=RowZ.of_ownZ HO.out h0 (f:=fun i=>(i:Int)) (fun i hi=>ints_at _ hi);have hst:=HST.out h0;have HG:=hid hg;have HC:=hid hc1;clear HO hg hc1 HST;have HROW:=hid hrow;have HST:=hid hst;clear hrow hst;go_wp2_with fail;have HNW:=HN;clear HN;go_loopw [9,10] (fun x i wx=>∃ (m X:Nat) (f:Nat->Int),m < k/\X < 2147483399/\x=.int .i64 (X:Int)/\i=.int .i64 (m:Int)/\Hid (RowZ wx g 3 k f)/\Hid (y8s m X f=F)/\Hid (New w wx)) (fun _ i _=>(intOf i).toNat)
    case atStart=>exact ⟨k - 1,key,_,by omega,by omega,rfl,by go_num,HROW,HST,HNW⟩
    case round=>
     obtain ⟨m,X,f,hm,hX,rfl,rfl,HR,HF,HN⟩:=hrel;clear HROW HST HNW;by_cases hm0:m=0
     ·subst hm0;go_wp2_with fail;go_ret2;exact ⟨_,cap,rfl,HN.out,HC.out,by rw[<-HF.out];exact HR.out.rdl⟩
     ·obtain ⟨m',rfl⟩:∃ m',m=m'+1:=⟨m - 1,by omega⟩;obtain ⟨x,q,hx,hxl,hq,hql,ht1,ht2⟩:=yf7 hX m';have c1:=HR.out.cell (i:=m'+1) (by omega);have c2:=HR.out.cell (i:=q) (by omega);have z1:=HR.out.frozen (m'+1);have z2:=HR.out.frozen q
      have hF2:y8s m' x (y5a f (m'+1) q)=F:=by
       have h:=HF.out;have e:y8s (m'+1) X f=y8s m' (yhi X) (y5a f (m'+1) (yhi X % (m'+2))):=rfl;rw[e,hx,hq] at h;exact h
      have hqk:q < k:=by omega
      have HR2:=HR.out.set (m'+1) (f q);have c3:=HR2.cell hqk;have z3:=HR2.frozen q;obtain ⟨A,hA⟩:∃ A,f (m'+1)=A:=⟨_,rfl⟩;obtain ⟨B,hB⟩:∃ A,f q=A:=⟨_,rfl⟩;rw[hA] at c1;rw[hB] at c2 c3 z3;clear HR2;obtain ⟨D,hD⟩:∃ D,updZ f (m'+1) B q=D:=⟨_,rfl⟩;rw[hD] at c3;clear hD;have c4:((wr.setCell ⟨g,m'+1,none⟩ (.int .i64 B)).drew).cell? ⟨g,q,none⟩=some (.int .i64 D):=c3;have z4:((wr.setCell ⟨g,m'+1,none⟩ (.int .i64 B)).drew).frozen? ⟨g,q,none⟩=false:=z3
      have hXi:(X:Int) < 2147483399:=by omega
      have hxi:(x:Int) < 2147483399:=by omega
      have hqi:(q:Int) < (m':Int)+1+1:=by omega
      have hmk:m'+1 < k:=hm;rw[show (((m'+1:Nat):Int))=(m':Int)+1 by omega] at *;clear hx hq hxl hql hX hm;have HF2:=hid hF2;have HA:=hid hA;have HB:=hid hB;clear hF2 hA hB;go_upto_region 16 with (fail)
      go_region
      have hrw:=((HR.out.set (m'+1) B).set q A).drew
      have e:updZ (updZ f (m'+1) B) q A=y5a f (m'+1) q:=by
       rw[<-ygz,HA.out,HB.out]
      rw[e]at hrw;have hN:=((HN.out.setCell (p:=⟨g,m'+1,none⟩) HG.out (.int .i64 B)).setCell (p:=⟨g,q,none⟩) HG.out (.int .i64 A)).drew;clear e HR HN c1 c2 c3 c4 z1 z2 z3 z4;have HR:=hid hrw;have HN:=hid hN;clear hrw hN;go_wp2_with fail;go_roundw
      case rel=>exact ⟨m',x,_,by omega,by omega,by go_num,by go_num,HR,HF2,HN⟩
      case measure=>simp[intOf]
structure yn8 (r:Nat->Int)(n g p1 p2 p3:Nat)(Q:World->Prop):Prop where
 new:∀ W W',Q W->New W W'->Q W'
 set:∀ W i z,Q W->Q (W.setCell ⟨g,i,none⟩ (.int .i64 z))
 call:∀ (a b:Nat) (W:World),a < n->b < n->Q W->Calls Tryz.prog 108 #[.int .i64 (a:Int),.int .i64 (b:Int),.pointer (some ⟨p1,0,none⟩),.pointer (some ⟨p2,0,none⟩),.pointer (some ⟨p3,0,none⟩)] W fun e W'=>e=.returned (.int .i64 (r b - r a))/\New W W'
def y54 (r:Nat->Int)(n g:Nat)(Q:World->Prop)(w0:World)(e:Ending)(w':World):Prop:=e=.returned (.tuple #[])/\New w0 w'/\Q w'/\∃ f,Sorted r n f/\RowZ w' g 3 n (fun i=>((f i:Nat):Int))
theorem ykv (f:Nat->Nat)(a b:Nat):(fun i=>((y5a f a b i:Nat):Int))=y5a (fun i=>((f i:Nat):Int)) a b:=by
 funext i;unfold y5a;split
 ·rfl
 ·split <;> rfl
theorem y9h (n cap g p1 p2 p3:Nat)(r:Nat->Int)(Q:World->Prop)(HCmp:yn8 r n g p1 p2 p3 Q)(hn0:0 < n)(hn:n<=1000)(w0 w:World)(hN:New w0 w)(hg:w0.heap.size<=g)(hrow:RowZ w g 3 n fun i=>(i:Int))(hq:Q w):
  Calls Tryz.prog 222 #[.slice (some ⟨g,0,none⟩) n cap,.int .i64 0,.int .i64 (n:Int),.func (.func 108) #[] #[.pointer (some ⟨p1,0,none⟩),.pointer (some ⟨p2,0,none⟩),.pointer (some ⟨p3,0,none⟩)]] w (y54 r n g Q w0):=by
 have hni:(n:Int)<=1000:=by omega
 have hcall:=HCmp.call;unfold y54;have HCALL:=hid hcall;have HN0:=hid hN;have HG:=hid hg;have HROW:=hid hrow;have HQ0:=hid hq;clear hcall hN hg hrow hq;go_enter Tryz.func222,Tryz.ntmps222;go_wp2_with fail;go_loopw [8] (fun i wr=>∃ (k:Nat) (f:Nat->Nat),1<=k/\k<=n/\i=.int .i64 (k:Int)/\Hid (y43 r n k f)/\Hid (RowZ wr g 3 n fun i=>((f i:Nat):Int))/\Hid (New w0 wr)/\Hid (Q wr)) (fun i _=>n - (intOf i).toNat)
 case atStart=>exact ⟨1,_,Nat.le_refl _,hn0,rfl,hid (y43.start r n),HROW,HN0,HQ0⟩
 case round=>
  clear HROW HN0 HQ0;obtain ⟨k,f,hk1,hk,rfl,HS,HR,HN,HQ⟩:=hrel;by_cases hlt:k < n
  ·have hki:(k:Int) < n:=by omega
   have HC0:=hid (HS.out.carry hlt);clear HS;go_wp2_with fail;have HR0:=HR;have HN0:=HN;have HQ0:=HQ;clear HR HN HQ;go_loopw [9] (fun j wx=>∃ (m:Nat) (f:Nat->Nat),m<=k/\j=.int .i64 (m:Int)/\Hid (Carry r n k m f)/\Hid (RowZ wx g 3 n fun i=>((f i:Nat):Int))/\Hid (New w0 wx)/\Hid (Q wx)) (fun j _=>(intOf j).toNat)
   case atStart=>exact ⟨k,f,Nat.le_refl _,rfl,HC0,HR0,HN0,HQ0⟩
   case round=>
    clear HC0 HR0 HN0 HQ0;obtain ⟨m,f,hm,rfl,HC,HR,HN,HQ⟩:=hrel;by_cases hm0:m=0
    ·subst hm0;have hd:=HC.out.done hlt (fun k e=>by omega);have HD:=hid hd;clear hd;go_upto_region 4 with (fail)
     go_quiet (fail)
     have hQ:=HCmp.new _ _ HQ.out ((New.refl _).drewN nq);have hR:=HR.out.drewN nq;have hN:=HN.out.drewN nq;clear HQ HR HN;have HQ:=hid hQ;have HR:=hid hR;have HN:=hid hN;clear hQ hR hN;go_wp2_with fail;go_roundw
     case rel=>exact ⟨k+1,f,by omega,by omega,by go_num,HD,HR,HN,HQ⟩
     case measure=>simp[intOf];omega
    ·obtain ⟨j,rfl⟩:∃ j,m=j+1:=⟨m - 1,by omega⟩;have c1:=HR.out.cell (i:=j+1) (by omega);have c2:=HR.out.cell (i:=j) (by omega);have hh:=HC.out.here;have hl:=HC.out.low j (by omega);rw[hh] at c1;obtain ⟨v,hv⟩:∃ v,f j=v:=⟨_,rfl⟩;rw[hv] at c2 hl
     have hvn:v < n:=by omega
     have hgt:decide (((j+1:Nat):Int) > 0)=true:=decide_eq_true (by omega)
     have hjn:(j:Int)+1 < n:=by omega
     have hj1:(0:Int)<=(j:Int)+1:=by omega
     have hwj:IntKind.i64.wrap (j:Int)=j:=by rw[IntKind.wrap_i64];omega
     have hj2:(0:Int)<=(j:Int)/\(j:Int) < n:=by omega
     have hj3:(0:Int)<=(j:Int):=by omega
     have hj4:(j:Int) < n:=by omega
     rw[show (((j+1:Nat):Int))=(j:Int)+1 by omega]at *;clear hh hl;have HV:=hid hv;clear hv;go_upto_region 4 with (fail);refine y00 16 (fun W=>W.cell? ⟨g,j+1,none⟩=some (.int .i64 (k:Int))/\W.cell? ⟨g,j,none⟩=some (.int .i64 (v:Int))) 17 #[false,false,false,false,false,false,false,false,false,false,false,false,false,false,false,false,false] rfl (by kernel_rfl) (by kernel_rfl) ?_;refine tk 0 (by exact ⟨c1,c2⟩) ?_
     try simp only[PT]
     refine tk 1 (by exact ⟨c1,c2⟩) ?_
     try simp only[PT]
     refine tk 2 (by exact ⟨c1,c2⟩) ?_
     try simp only[PT]
     refine tk 3 (by exact ⟨c1,c2⟩) ?_
     try simp only[PT]
     refine tk 4 (by exact ⟨c1,c2⟩) ?_
     try simp only[PT]
     refine tk 5 (by exact ⟨c1,c2⟩) ?_
     try simp only[PT]
     refine tk 6 (by exact ⟨c1,c2⟩) ?_
     try simp only[PT]
     refine tk 7 (by exact ⟨c1,c2⟩) ?_
     try simp only[PT]
     refine tk 8 (by exact ⟨c1,c2⟩) ?_
     try simp only[PT]
     refine tk 9 (by exact ⟨c1,c2⟩) ?_
     try simp only[PT]
     refine tk 10 (by exact ⟨c1,c2⟩) ?_
     try simp only[PT]
     refine tk 11 (by exact ⟨c1,c2⟩) ?_
     try simp only[PT]
     refine tk 12 (by exact ⟨c1,c2⟩) ?_
     try simp only[PT]
     refine tk 13 (by exact ⟨c1,c2⟩) ?_
     try simp only[PT]
     refine tk1 14 fun K hK=>?_;go_simp;refine (HCALL.out _ _ _ hlt hvn (HCmp.new _ _ HQ.out (New.refl _).drew)).mono ?_;rintro e w5 ⟨rfl,hn⟩;have hn:=hn.undrew;replace c1:=hn.cell c1;replace c2:=hn.cell c2;have hQ:=HCmp.new _ _ HQ.out hn;have hR:=HR.out.new hn;clear HQ HR;have HQ:=hid hQ;have HR:=hid hR;clear hQ hR;replace HN:=tW HN hn;clear hn;refine hK.out _ _ (fun _=>⟨c1,c2⟩) ?_;clear hK K
     try simp only[PT]
     refine tk 15 (by exact ⟨c1,c2⟩) ?_
     try simp only[PT]
     refine tlW ?_;by_cases hr:r v < r k
     ·have ht:decide (r v - r k < 0)=true:=decide_eq_true (by omega);have hmv:=HC.out.move hlt (by rw[HV.out];exact hr);have hrw:=(HR.out.set (j+1) (v:Int)).set j (k:Int)
      have e:updZ (updZ (fun i=>((f i:Nat):Int)) (j+1) (v:Int)) j (k:Int)=fun i=>((y5a f (j+1) j i:Nat):Int):=by
       rw[ykv,<-ygz];have e1:=HC.out.here;have e2:=HV.out;rw[e1,e2]
      rw[e]at hrw;have hQ:=HCmp.set _ j (k:Int) (HCmp.set _ (j+1) (v:Int) HQ.out);have hN:=(HN.out.setCell (p:=⟨g,j+1,none⟩) HG.out (.int .i64 (v:Int))).setCell (p:=⟨g,j,none⟩) HG.out (.int .i64 (k:Int));have z1:=HR.out.frozen (j+1);have z2:=HR.out.frozen j;clear e HC HR HQ HN hr;have HC:=hid hmv;have HR:=hid hrw;have HQ:=hid hQ;have HN:=hid hN;clear hmv hrw hQ hN;go_upto_region 6 with (fail)
      go_region
      go_wp2_with fail;go_roundw
      case rel=>exact ⟨j,y5a f (j+1) j,by omega,by go_num,HC,hid HR.out.drew,hid HN.out.drew,hid (HCmp.new _ _ HQ.out (New.refl _).drew)⟩
      case measure=>simp[intOf]
     ·have ht:decide (r v - r k < 0)=false:=decide_eq_false (by omega)
      have hd:=HC.out.done hlt (fun k' e=>by
       have:k'=j:=by omega
       subst this;rw[HV.out]
       omega)
      clear hr HC;have HD:=hid hd;clear hd;go_wp2_with fail;go_roundw
      case rel=>exact ⟨k+1,f,by omega,by omega,by go_num,HD,HR,HN,HQ⟩
      case measure=>simp[intOf];omega
  ·obtain rfl:k=n:=by omega
   go_wp2_with fail
   go_end0
   exact ⟨rfl,HN.out,HQ.out,f,HS.out.all,HR.out⟩
structure yce (W:World)(p1 p2 p3:Nat)(T S:Int)(a:Option Addr)(n cap:Nat)(w:Nat->Int):Prop where
 c1:W.cell? ⟨p1,0,none⟩=some (.int .i64 T)
 c2:W.cell? ⟨p2,0,none⟩=some (.slice a n cap)
 c3:W.cell? ⟨p3,0,none⟩=some (.int .i64 S)
 row:RdL W a (ints ((List.range n).map w))
theorem yce.new {W W':World}{p1 p2 p3:Nat}{T S:Int}{a:Option Addr}{n cap:Nat}{w:Nat->Int}(h:yce W p1 p2 p3 T S a n cap w)(hn:New W W'):yce W' p1 p2 p3 T S a n cap w:=⟨hn.cell h.c1,hn.cell h.c2,hn.cell h.c3,h.row.new hn⟩
theorem y64 {W:World}{b g i j:Nat}{u v:Value}(h:W.cell? ⟨b,i,none⟩=some u)(hb:b≠g):(W.setCell ⟨g,j,none⟩ v).cell? ⟨b,i,none⟩=some u:=by
 simp[World.cell?,World.setCell,Array.getElem?_modify,Ne.symm hb]at h⊢;exact h
theorem yce.set {W:World}{p1 p2 p3:Nat}{T S:Int}{a:Option Addr}{n cap:Nat}{w:Nat->Int}(h:yce W p1 p2 p3 T S a n cap w){g:Nat}(h1:p1≠g)(h2:p2≠g)(h3:p3≠g)(ha:∀ b o,a=some ⟨b,o,none⟩->b≠g)(i:Nat)(v:Value):yce (W.setCell ⟨g,i,none⟩ v) p1 p2 p3 T S a n cap w:=
 ⟨y64 h.c1 h1,y64 h.c2 h2,y64 h.c3 h3,fun k hk=>by
  obtain ⟨b,o,e,hc⟩:=h.row k hk
  exact ⟨b,o,e,y64 hc (ha b o e)⟩⟩
theorem ybl {T w:Int}(t0:0<=T)(t1:T<=999999999)(w0:0<=w)(w1:w<=999999999):0<=T*w/\T*w<=999999998000000001:=by
 have h1:=Int.mul_nonneg t0 w0;have h2:=Int.mul_le_mul t1 w1 w0 (by omega:(0:Int)<=999999999);omega
theorem yft (i j n cap p1 p2 p3:Nat)(T S:Int)(a:Option Addr)(w:Nat->Int)(W:World)(h:yce W p1 p2 p3 T S a n cap w)(hi:i < n)(hj:j < n)(hT:0<=T/\T<=999999999)(hw:∀ k,k < n->0<=w k/\w k<=999999999)(hS:0 < S/\S<=1000000000000):
  Calls Tryz.prog 108 #[.int .i64 (i:Int),.int .i64 (j:Int),.pointer (some ⟨p1,0,none⟩),.pointer (some ⟨p2,0,none⟩),.pointer (some ⟨p3,0,none⟩)] W fun e W'=>e=.returned (.int .i64 (T*w j % S - T*w i % S))/\New W W':=by
 obtain ⟨c1,c2,c3,hr⟩:=h;obtain ⟨b,off,rfl,di⟩:=hr i (by simpa[ints] using hi);obtain ⟨b',off',e,dj⟩:=hr j (by simpa[ints] using hj);simp only[Option.some.injEq,Addr.mk.injEq,and_true] at e;obtain ⟨rfl,rfl⟩:=e;have wi:=hw i hi;have wj:=hw j hj;have bi:=ybl hT.1 hT.2 wi.1 wi.2;have bj:=ybl hT.1 hT.2 wj.1 wj.2
 have ei:(ints ((List.range n).map w))[i]'(by simpa[ints] using hi)=.int .i64 (w i):=by simp[ints]
 have ej:(ints ((List.range n).map w))[j]'(by simpa[ints] using hj)=.int .i64 (w j):=by simp[ints]
 rw[ei]at di;rw[ej] at dj;obtain ⟨A,hA⟩:∃ A,w i=A:=⟨_,rfl⟩;obtain ⟨B,hB⟩:∃ A,w j=A:=⟨_,rfl⟩;rw[hA] at di wi bi⊢;rw[hB] at dj wj bj⊢;obtain ⟨P,hP⟩:∃ P,T*A=P:=⟨_,rfl⟩;obtain ⟨R,hR⟩:∃ P,T*B=P:=⟨_,rfl⟩;rw[hP] at bi⊢;rw[hR] at bj⊢;have m1:Int.tmod P S=P % S:=Int.tmod_eq_emod_of_nonneg bi.1;have m2:Int.tmod R S=R % S:=Int.tmod_eq_emod_of_nonneg bj.1;have n1:=Int.emod_nonneg P (show S≠0 by omega);have n2:=Int.emod_nonneg R (show S≠0 by omega);have n3:=Int.emod_lt_of_pos P hS.1;have n4:=Int.emod_lt_of_pos R hS.1;obtain ⟨p,hp⟩:∃ p,P % S=p:=⟨_,rfl⟩;obtain ⟨r,hr'⟩:∃ p,R % S=p:=⟨_,rfl⟩;rw[hp] at m1 n1 n3⊢;rw[hr'] at m2 n2 n4⊢;obtain ⟨hS0,hS1⟩:=hS;obtain ⟨bi0,bi1⟩:=bi;obtain ⟨bj0,bj1⟩:=bj
 have hii:(i:Int) < n:=by omega
 have hji:(j:Int) < n:=by omega
 clear hr ei ej hA hB hp hr' wi wj hw hT;go_enter Tryz.func108,Tryz.ntmps108;go_wp2_with fail
 go_quiet (fail)
 go_wp2_with fail;go_ret;exact ⟨rfl,(New.refl _).drewN nq⟩
theorem y9y (n cap g p1 p2 p3:Nat)(r:Nat->Int)(Q:World->Prop)(HCmp:yn8 r n g p1 p2 p3 Q)(hn0:0 < n)(hn:n<=19)(w0 w:World)(hN:New w0 w)(hg:w0.heap.size<=g)(hrow:RowZ w g 3 n fun i=>(i:Int))(hq:Q w):
  Calls Tryz.prog 175 #[.slice (some ⟨g,0,none⟩) n cap,.int .i64 (n:Int),.func (.func 108) #[] #[.pointer (some ⟨p1,0,none⟩),.pointer (some ⟨p2,0,none⟩),.pointer (some ⟨p3,0,none⟩)]] w (y54 r n g Q w0):=by
 have hin:=y9h n cap g p1 p2 p3 r Q HCmp hn0 (by omega) w0 w hN hg hrow hq;unfold y54 at hin⊢
 have hni:(n:Int)<=19:=by omega
 clear HCmp hN hg hrow hq;have HIN:=hid hin;clear hin;go_enter Tryz.func175,Tryz.ntmps175;go_wp2_with fail;go_loopw [7,8] (fun a b wr=>a=.int .i64 0/\b=.int .i64 20/\Hid (wr=w)) (fun _ _ _=>0)
 case atStart=>exact ⟨rfl,rfl,hid rfl⟩
 case round=>
  obtain ⟨rfl,rfl,HW⟩:=hrel;rw[HW.out];clear HW;go_wp2_with fail;refine HIN.out.mono ?_;rintro e w1 ⟨rfl,h1⟩;have H1:=hid h1;clear h1;go_wp2_with fail;go_loopw [6,7,8] (fun c a b wr=>c=.int .i64 20/\a=.int .i64 0/\b=.int .i64 20/\Hid (wr=w1)) (fun _ _ _ _=>0)
  case atStart=>exact ⟨rfl,rfl,rfl,hid rfl⟩
  case round=>
   obtain ⟨rfl,rfl,rfl,HW⟩:=hrel;rw[HW.out];clear HW;go_wp2_with fail
   go_end0
   exact ⟨rfl,H1.out⟩
theorem ye8 (n cap g p1 p2 p3:Nat)(r:Nat->Int)(Q:World->Prop)(HCmp:yn8 r n g p1 p2 p3 Q)(hn0:0 < n)(hn:n<=19)(w0 w:World)(hN:New w0 w)(hg:w0.heap.size<=g)(hrow:RowZ w g 3 n fun i=>(i:Int))(hq:Q w):
  Calls Tryz.prog 107 #[.slice (some ⟨g,0,none⟩) n cap,.func (.func 108) #[] #[.pointer (some ⟨p1,0,none⟩),.pointer (some ⟨p2,0,none⟩),.pointer (some ⟨p3,0,none⟩)]] w (y54 r n g Q w0):=by
 have hin:=y9y n cap g p1 p2 p3 r Q HCmp hn0 hn w0 w hN hg hrow hq;unfold y54 at hin⊢;clear HCmp hN hg hrow hq;have HIN:=hid hin;clear hin;go_enter Tryz.func107,Tryz.ntmps107;go_wp2_with fail;refine HIN.out.mono ?_;rintro e w1 ⟨rfl,h1⟩;have H1:=hid h1;clear h1;go_wp2_with fail
 go_end0
 exact ⟨rfl,H1.out⟩
def okW (l:List Int):Bool:=l.all fun x=>!outside x 0 999999999
def maxL (x:Int):List Int->Int
 | []=>x
 | y::l=>maxL (if y > x then y else x) l
def y7z (l:List Int):Int:=if l.length=0 then 12 else if 256 < l.length then 5 else if okW l then (if maxL 0 l=0 then 6 else 0) else 3
theorem RdL.int {w:World}{a:Option Addr}{l:List Int}(h:RdL w a (ints l))(k:Nat)(hk:k < l.length):∃ b off,a=some ⟨b,off,none⟩/\w.cell? ⟨b,off+k,none⟩=some (.int .i64 l[k]):=by
 obtain ⟨b,off,e,hc⟩:=h k (by simpa[ints] using hk);exact ⟨b,off,e,by rw[hc];simp[ints]⟩
theorem yar (i x:Int)(w:World):Calls Tryz.prog 173 #[.int .i64 i,.int .i64 x] w fun e w'=>e=.returned (.int .i64 (if outside x 0 999999999 then 3 else 0))/\w=w':=by
 obtain ⟨r,hr⟩:∃ r:Int,(if outside x 0 999999999=true then 3 else 0)=r:=⟨_,rfl⟩;have hw:=fun W=>y3e x 0 999999999 W;rw[hr] at hw⊢;clear hr;have HW:=hid hw;clear hw;go_enter Tryz.func173,Tryz.ntmps173;go_wp2_with fail;refine (HW.out _).mono ?_;rintro e w' ⟨rfl,rfl⟩;go_wp2_with fail;go_ret;exact ⟨rfl,rfl⟩
theorem ylx {l:List Int}{k:Nat}(hk:k < l.length)(h:okW (l.take k)=true)(hx:outside l[k] 0 999999999=false):okW (l.take (k+1))=true:=by
 unfold okW at h⊢;rw[List.take_succ_eq_append_getElem hk,List.all_append,h];simp[hx]
theorem yj8 {l:List Int}{k:Nat}(hk:k < l.length)(hx:outside l[k] 0 999999999=true):okW l=false:=by
 unfold okW;rw[List.all_eq_false];exact ⟨l[k],List.getElem_mem hk,by simp[hx]⟩
theorem yfu (a:Option Addr)(cap:Nat)(l:List Int)(w:World)(hl:l.length<=100000)(hr:RdL w a (ints l)):
  Calls Tryz.prog 172 #[.slice a l.length cap,.func (.func 173) #[] #[]] w fun e w'=>e=.returned (.int .i64 (if okW l then 0 else 3))/\w'=w:=by
 obtain ⟨r,hres⟩:∃ r:Int,(if okW l=true then 0 else 3)=r:=⟨_,rfl⟩;rw[hres]
 have hli:(l.length:Int)<=100000:=by omega
 have HR:=hid hr;have HRES:=hid hres;have HL:=hid hl;clear hr hres hl;go_enter Tryz.func172,Tryz.ntmps172;go_wp2_with fail;go_loopw [10] (fun i wr=>∃ k:Nat,k<=l.length/\i=.int .i64 (k:Int)/\Hid (okW (l.take k)=true)/\wr=w) (fun i _=>l.length - (intOf i).toNat)
 case atStart=>exact ⟨0,Nat.zero_le _,rfl,hid rfl,rfl⟩
 case round=>
  obtain ⟨k,hk,rfl,HK,rfl⟩:=hrel;by_cases hlt:k < l.length
  ·obtain ⟨b,off,rfl,hcell⟩:=HR.out.int k hlt;obtain ⟨x,hx⟩:∃ x,l[k]=x:=⟨_,rfl⟩;rw[hx] at hcell
   cases hfx:outside x 0 999999999 with
   | false=>
    have hd:=ylx hlt HK.out (by rw[hx];exact hfx);have hc:=fun W=>yar k x W;rw[hfx] at hc;have HX:=hid hx;have HFX:=hid hfx;have HD:=hid hd;have HC:=hid hc;clear hx hfx hd hc;go_wp2_with fail;refine (HC.out _).mono ?_;rintro e w' ⟨rfl,rfl⟩;go_wp2_with fail;go_roundw
    case rel=>exact ⟨k+1,by omega,by go_num,HD,by first | trivial | rfl⟩
    case measure=>simp[intOf];omega
   | true=>
    have hd:=yj8 hlt (by rw[hx];exact hfx);have hc:=fun W=>yar k x W;rw[hfx] at hc;have HX:=hid hx;have HFX:=hid hfx;have HD:=hid hd;have HC:=hid hc;clear hx hfx hd hc;go_wp2_with fail;refine (HC.out _).mono ?_;rintro e w' ⟨rfl,rfl⟩;go_wp2_with fail;go_ret;exact ⟨y3k (by rw[<-HRES.out,HD.out];rfl),rfl⟩
  ·have hkk:k=l.length:=by omega
   have hz:r=0:=by rw[<-HRES.out,if_pos];have:=HK.out;rwa [hkk,List.take_length] at this
   have HKK:=hid hkk;have HZ:=hid hz;clear hkk hz;go_wp2_with fail;go_ret;exact ⟨y3k HZ.out.symm,rfl⟩
theorem yj5 (l:List Int):∀ (x y:Int),maxL x (l ++ [y])=if y > maxL x l then y else maxL x l:=by
 induction l with
 | nil=>intro x y;rfl
 | cons z l ih=>intro x y;exact ih _ y
theorem yl7 (a:Option Addr)(cap:Nat)(x:Int)(l:List Int)(w:World)(hl:l.length<=100000)(hr:RdL w a (ints (x::l))):
  Calls Tryz.prog 174 #[.slice a (x::l).length cap] w fun e w'=>e=.returned (.int .i64 (maxL x l))/\w'=w:=by
 obtain ⟨r,hres⟩:∃ r,maxL x l=r:=⟨_,rfl⟩;rw[hres];obtain ⟨n,hn⟩:∃ n,(x::l).length=n:=⟨_,rfl⟩
 have hnl:n=l.length+1:=by rw[<-hn];rfl
 rw[hn]
 have hli:(n:Int)<=100001:=by omega
 have hn1:(1:Int)<=n:=by omega
 obtain ⟨b,off,rfl,hc0⟩:=hr.int 0 (by simp);replace hc0:w.cell? ⟨b,off+0,none⟩=some (.int .i64 x):=hc0;simp only[Nat.add_zero] at hc0;have HR:=hid hr;have HRES:=hid hres;have HL:=hid hl;have HNN:=hid hn;have HNL:=hid hnl;clear hr hres hl hn hnl;go_enter Tryz.func174,Tryz.ntmps174;go_wp2_with fail;clear hc0;go_loopw [3,4] (fun m i wr=>∃ (k:Nat) (y:Int),k+1<=n/\m=.int .i64 y/\i=.int .i64 ((k:Int)+1)/\Hid (maxL x (l.take k)=y)/\wr=w) (fun _ i _=>n - (intOf i).toNat)
 case atStart=>exact ⟨0,x,by omega,rfl,rfl,hid rfl,rfl⟩
 case round=>
  obtain ⟨k,y,hk,rfl,rfl,HK,rfl⟩:=hrel;by_cases hlt:k+1 < n
  ·obtain ⟨b',off',e,hcell⟩:=HR.out.int (k+1) (by rw[HNN.out];exact hlt);injection e with e;injection e with e1 e2;subst e1 e2
   have hkl:k < l.length:=by have:=HNL.out;omega
   replace hcell:wr.cell? ⟨b,off+(k+1),none⟩=some (.int .i64 l[k]):=hcell;obtain ⟨z,hz⟩:∃ z,l[k]=z:=⟨_,rfl⟩;rw[hz] at hcell
   have hd:maxL x (l.take (k+1))=(if z > y then z else y):=by rw[List.take_succ_eq_append_getElem hkl,yj5,hz,HK.out]
   obtain ⟨u,hu⟩:∃ u,(if z > y then z else y)=u:=⟨_,rfl⟩;rw[hu] at hd
   have hmx:max y z=u:=by rw[<-hu,Int.max_def];split <;> split <;> omega
   have hki:(k:Int)+1 < n:=by omega
   have HD:=hid hd;have HZ:=hid hz;clear hd hz;by_cases hzy:z > y
   ·have hu2:u=z:=by rw[<-hu,if_pos hzy]
    subst hu2;clear hu;go_wp2_with fail;go_roundw
    case rel=>exact ⟨k+1,u,by omega,rfl,by go_num,HD,by first | trivial | rfl⟩
    case measure=>simp[intOf];omega
   ·have hu2:u=y:=by rw[<-hu,if_neg hzy]
    subst hu2;clear hu;go_wp2_with fail;go_roundw
    case rel=>exact ⟨k+1,u,by omega,rfl,by go_num,HD,by first | trivial | rfl⟩
    case measure=>simp[intOf];omega
  ·have hkk:k=l.length:=by have:=HNL.out;omega
   have hz:y=r:=by rw[<-HRES.out,<-HK.out,hkk,List.take_length]
   have hkn:(k:Int)+1=n:=by have:=HNL.out;omega
   have HKK:=hid hkk;have HZ:=hid hz;clear hkk hz;go_wp2_with fail;go_ret;exact ⟨y3k HZ.out,rfl⟩
theorem yd2 (a b:Option Addr)(cap cap':Nat)(xs ys:List Int)(w:World)(hl:xs.length<=1000000)(hlen:ys.length=xs.length)(hr1:RdL w a (ints xs))(hr2:RdL w b (ints ys))(hs:∀ (k:Nat) (h:k < xs.length) (h':k < ys.length),(fun x y:Int=>x != y) xs[k] ys[k]=false):
  Calls Tryz.prog 84 #[.slice a xs.length cap,.slice b ys.length cap'] w fun e w'=>e=.returned (.bool true)/\New w w':=by
 obtain ⟨n,hn⟩:∃ n,xs.length=n:=⟨_,rfl⟩;rw[hlen];rw[hn] at hl hlen⊢
 have hni:(n:Int)<=1000000:=by omega
 have hnn:((n:Int) != (n:Int))=false:=by simp
 have HR1:=hid hr1;have HR2:=hid hr2;have HS:=hid hs;have HN0:=hid hn;have HLEN:=hid hlen;clear hr1 hr2 hs hn hlen;go_enter Tryz.func84,Tryz.ntmps84;go_wp2_with fail;go_loopw [5] (fun i wr=>∃ (k:Nat),k<=n/\i=.int .i64 (k:Int)/\Hid (New w wr)) (fun i _=>n - (intOf i).toNat)
 case atStart=>exact ⟨0,Nat.zero_le _,rfl,hid (New.refl _)⟩
 case round=>
  obtain ⟨k,hk,rfl,HN⟩:=hrel;by_cases hlt:k < n
  ·have h1:k < xs.length:=by rw[HN0.out];exact hlt
   have h2:k < ys.length:=by rw[HLEN.out];exact hlt
   obtain ⟨b1,off1,rfl,hc1⟩:=HR1.out.int k h1;obtain ⟨b2,off2,rfl,hc2⟩:=HR2.out.int k h2;have hsame:=HS.out k h1 h2;obtain ⟨x,hx⟩:∃ x,xs[k]=x:=⟨_,rfl⟩;obtain ⟨y,hy⟩:∃ y,ys[k]=y:=⟨_,rfl⟩;rw[hx] at hc1;rw[hy] at hc2;rw[hx,hy] at hsame;replace hc1:=HN.out.cell hc1;replace hc2:=HN.out.cell hc2;have HX:=hid hx;have HY:=hid hy;clear hx hy;go_wp2_with fail
   go_quiet (fail)
   go_wp2_with fail;go_roundw
   case rel=>exact ⟨k+1,by omega,by go_num,hid (HN.out.drewN nq)⟩
   case measure=>simp[intOf];omega
  ·have hkk:k=n:=by omega
   have HKK:=hid hkk;clear hkk;go_wp2_with fail;go_ret;exact ⟨rfl,HN.out⟩
end Go.Proofs.YtnjonlnemagomaaGreatDoor
