/- Part B23. -/
import Derived.Laws.StructEq
import Derived.Test.YtnjonlnemagomaaGreatDoorB07
import Derived.Test.YtnjonlnemagomaaGreatDoorB13
import Derived.Test.YtnjonlnemagomaaGreatDoorB19
namespace Go.Proofs.YtnjonlnemagomaaGreatDoor
open Go.RowKit Big Tryz
open Go.Lib (hid)
set_option maxRecDepth 100000
set_option maxHeartbeats 8000000
set_option linter.all false
theorem nwithin_calls (n lo hi:Int)(w:World):Calls prog 105 #[.int .i64 n,.int .i64 lo,.int .i64 hi] w fun e w'=>e=.returned (.int .i64 (if outside n lo hi then 3 else 0))∧w=w':=by
 obtain ⟨r,hr⟩:∃ r,outside n lo hi=r:=⟨_,rfl⟩;rw[hr];unfold outside at hr;by_cases h1:n < lo
 ·have hb:r=true:=by rw[←hr];simp[h1]
  subst hb;clear hr;go_in;go_wp2_with fail;refine (nwhen_calls true 3 _).mono ?_;rintro e w' ⟨rfl,rfl⟩;go_wp2_with fail;go_ret;exact ⟨rfl,rfl⟩
 ·by_cases h2:hi < n
  ·have hb:r=true:=by rw[←hr];simp[h2]
   subst hb;clear hr;go_in;go_wp2_with fail;refine (nwhen_calls true 3 _).mono ?_;rintro e w' ⟨rfl,rfl⟩;go_wp2_with fail;go_ret;exact ⟨rfl,rfl⟩
  ·have hb:r=false:=by rw[←hr];simp[h1,h2]
   subst hb;clear hr;go_in;go_wp2_with fail;refine (nwhen_calls false 3 _).mono ?_;rintro e w' ⟨rfl,rfl⟩;go_wp2_with fail;go_ret;exact ⟨rfl,rfl⟩
def ListPost (w:World)(n:Nat)(f:Nat→Int)(E:Int)(e:Ending)(w':World):Prop:=∃ (a:Option Addr) (cap:Nat),e=.returned (.tuple #[.slice a n cap,.int .i64 E])∧New w w'∧n≤cap∧RdL w' a (ints ((List.range n).map f))
theorem RowZ.rdl {w:World}{b:Nat}{t:TypeId}{n:Nat}{f:Nat→Int}(h:RowZ w b t n f):RdL w (some ⟨b,0,none⟩) (ints ((List.range n).map f)):=fun i hi=>by
 have aa:i < n:=by simpa[ints] using hi
 refine ⟨b,0,rfl,?_⟩;rw[Nat.zero_add,h.cell aa];simp[ints]
theorem RowZ.of_ownZ {w:World}{base:Nat}{t:TypeId}{n:Nat}{v:Value}{xs:List Value}{f:Nat→Int}(h:w.ownsRow base t 1 v n xs)(h0:0 < n)(hx:∀ i,i < n→xs[i]?=some (.int .i64 (f i))):
  ∃ g aa,v=.slice (some ⟨g,0,none⟩) n aa∧base≤g∧n≤aa∧aa≤maxLen∧RowZ w g t n f:=by
 rcases h.2 with ⟨_,h1⟩ | ⟨g,aa,ab,e,hb,hc,h2,h3,h4,h5⟩
 ·omega
 ·refine ⟨g,aa,e,hb,h2,h3,ab,hc,by omega,fun i hi=>?_⟩;have:=hx i hi;rw[←h5,Nat.mul_one,List.getElem?_take_of_lt hi] at this;simpa using this
def idxs (k:Nat):List Int:=(List.range k).map fun (i:Nat)=>(i:Int)
theorem idxs_len (k:Nat):(idxs k).length=k:=by simp[idxs]
theorem idxs_succ (k:Nat):idxs (k+1)=idxs k ++ [(k:Int)]:=by simp[idxs,List.range_succ]
theorem map_succ (f:Nat→Int)(k:Nat):(List.range (k+1)).map f=(List.range k).map f ++ [f k]:=by simp[List.range_succ]
theorem ints_at (f:Nat→Int){n i:Nat}(h:i < n):(ints ((List.range n).map f))[i]?=some (.int .i64 (f i)):=by simp[ints,h]
theorem swap_upd (f:Nat→Int)(a b:Nat):updZ (updZ f a (f b)) b (f a)=swapF f a b:=by
 funext i;unfold updZ swapF;by_cases h1:i=b
 ·by_cases h2:i=a
  ·rw[if_pos h1,if_pos h2,←h1,h2]
  ·rw[if_pos h1,if_neg h2,if_pos h1]
 ·rw[if_neg h1];by_cases h2:i=a
  ·rw[if_pos h2,if_pos h2]
  ·rw[if_neg h2,if_neg h2,if_neg h1]
theorem drawX_facts {X:Nat}(h:X < 2147483399)(m:Nat):∃ x k:Nat,drawX X=x∧x < 2147483399∧x % (m+2)=k∧k < m+2∧Int.tmod (40692*(X:Int)) 2147483399=(x:Int)∧Int.tmod (x:Int) ((m:Int)+1+1)=(k:Int):=by
 refine ⟨_,_,rfl,Nat.mod_lt _ (by omega),rfl,Nat.mod_lt _ (by omega),?_,?_⟩
 ·rw[Int.tmod_eq_emod_of_nonneg (by omega)];unfold drawX;omega
 ·rw[Int.tmod_eq_emod_of_nonneg (by omega)]
  have e:((m:Int)+1+1)=((m+2:Nat):Int):=by omega
  rw[e,←Int.natCast_emod]
theorem ndraw_calls (key n:Nat)(h1:1≤key)(h2:key≤2147483398)(h3:n≤256)(w:World):Calls prog 27 #[.int .i64 (key:Int),.int .i64 (n:Int)] w (ListPost w n (drawF key n) 0):=by
 obtain ⟨i0,hi,a4,a5,a6⟩:=info_parts info_int;obtain ⟨e1,an⟩:∃ e,(if outside (key:Int) 1 2147483398=true then (3:Int) else 0)=e:=⟨_,rfl⟩;obtain ⟨e2,ao⟩:∃ e,(if outside (n:Int) 0 256=true then (3:Int) else 0)=e:=⟨_,rfl⟩
 have he:(if e1=0 then e2 else e1)=0:=by
  have a1:outside (key:Int) 1 2147483398=false:=by unfold outside;simp;omega
  have a2:outside (n:Int) 0 256=false:=by unfold outside;simp;omega
  rw[←an,←ao,a1,a2];rfl
 have bb:(n:Int)≤256:=by omega
 obtain ⟨F,hF⟩:∃ F,drawF key n=F:=⟨_,rfl⟩;have ab:0 < n→drawGo (n - 1) key (fun i=>(i:Int))=F:=fun _=>hF;rw[hF];clear hF;refine zh4 ?_ an ao he ab;clear an ao he ab;intro ax ay av ar;go_in;go_wp2_with fail;refine (nwithin_calls _ 1 2147483398 _).mono ?_;rintro e w' ⟨rfl,rfl⟩;rw[ax.out];go_wp2_with fail;refine (nwithin_calls _ 0 256 _).mono ?_;rintro e w' ⟨rfl,rfl⟩;rw[ay.out];go_wp2_with fail;refine (nfirst2 e1 e2 _ _ 32 _ (Box.alloc _ _ _ _ rfl)).mono ?_;rintro e w1 ⟨rfl,hw⟩;rw[av.out];have HN:=hid (show New w w1 from ((New.refl w).alloc _).trans (.of_eq hw));clear hw;go_wp2_with fail;have HW:=HN;clear HN;go_loopw [7,22] (fun v i wr=>∃ k,k≤n∧i=.int .i64 (k:Int)∧Hid (wr.ownsRow w.heap.size 3 1 v (ints (idxs k)).length (ints (idxs k)))∧Hid (New w wr)) (fun _ i _=>n - (intOf i).toNat)
 case atStart=>exact ⟨0,Nat.zero_le _,rfl,hid (World.ownsRow_nil _ _ _ _),HW⟩
 case round=>
  obtain ⟨k,hk,rfl,HO,HN⟩:=hrel;by_cases hlt:k < n
  ·have a9:(k:Int) < n:=by omega
   have af:(ints (idxs k)).length=k:=by unfold ints;rw[List.length_map,idxs_len]
   have ae:k≤256:=by omega
   have ap:=hid af;replace ae:=hid ae;clear af;go_wp2_with (at_builtin;refine wpList_append_own _ rfl _ _ 24 rfl w.heap.size 3 i0 (.int .i64 0) 1 8 underlying24 hi a4 a5 a6 rfl (by decide) _ _ _ rfl (HO.alloc _) ⟨wr.heap.size,0,none⟩ 1 1 [.int .i64 (k:Int)] rfl rfl (one_c1 _ _ _) (one_c2 _) (by have:=ap.out;have:=ae.out;unfold maxLen;omega) (by have:=ap.out;have:=ae.out;omega) (by have:=HN.out.size;rw[←size_alloc];omega) ?_);intro v' w2 ad ac _;have ak:=grown_new HN.out HO.out ac
   have al:w2.ownsRow w.heap.size 3 1 v' (ints (idxs (k+1))).length (ints (idxs (k+1))):=by
    have:ints (idxs (k+1))=ints (idxs k) ++ [.int .i64 (k:Int)]:=by rw[idxs_succ];simp[ints]
    rw[this];simpa using ad
   clear ad ac;replace ak:=hid ak;replace al:=hid al;go_wp2_with fail;go_roundw
   case rel=>exact ⟨k+1,by omega,by go_num,al,ak⟩
   case measure=>simp[intOf];omega
  ·obtain rfl:k=n:=by omega
   have af:(ints (idxs k)).length=k:=by unfold ints;rw[List.length_map,idxs_len]
   rw[af]at HO;rcases Nat.eq_zero_or_pos k with h0 | h0
   ·subst h0;obtain ⟨a,aj,rfl,hr, -⟩:=own_rd HO;clear HO;go_wp2_with fail;go_loopw [9,10] (fun x i wx=>i=.int .i64 (-1)∧Hid (wx=wr)) (fun _ _ _=>0)
    case atStart=>exact ⟨rfl,hid rfl⟩
    case round=>
     obtain ⟨rfl,HX⟩:=hrel;rw[HX.out];go_wp2_with fail;go_ret2;exact ⟨a,aj,rfl,HN,Nat.zero_le _,fun i hi=>by simp[ints] at hi⟩
   ·obtain ⟨g,aj,rfl,hg,am,a8,aa⟩:=RowZ.of_ownZ HO.out h0 (f:=fun i=>(i:Int)) (fun i hi=>ints_at _ hi);have ah:=ar.out h0;replace hg:=hid hg;replace am:=hid am;clear HO ar;replace aa:=hid aa;replace ah:=hid ah;go_wp2_with fail;have aq:=HN;clear HN;go_loopw [9,10] (fun x i wx=>∃ (m X:Nat) (f:Nat→Int),m < k∧X < 2147483399∧x=.int .i64 (X:Int)∧i=.int .i64 (m:Int)∧Hid (RowZ wx g 3 k f)∧Hid (drawGo m X f=F)∧Hid (New w wx)) (fun _ i _=>(intOf i).toNat)
    case atStart=>exact ⟨k - 1,key,_,by omega,by omega,rfl,by go_num,aa,ah,aq⟩
    case round=>
     obtain ⟨m,X,f,hm,hX,rfl,rfl,HR,HF,HN⟩:=hrel;clear aa ah aq;by_cases hm0:m=0
     ·subst hm0;go_wp2_with fail;go_ret2;exact ⟨_,aj,rfl,HN,am,by rw[←HF.out];exact HR.out.rdl⟩
     ·obtain ⟨m',rfl⟩:∃ m',m=m'+1:=⟨m - 1,by omega⟩;obtain ⟨x,q,hx,a3,hq,a0,be,bf⟩:=drawX_facts hX m';have c1:=HR.out.cell (i:=m'+1) (by omega);have c2:=HR.out.cell (i:=q) (by omega);have z1:=HR.out.frozen (m'+1);have z2:=HR.out.frozen q
      have au:drawGo m' x (swapF f (m'+1) q)=F:=by
       have h:=HF.out;have e:drawGo (m'+1) X f=drawGo m' (drawX X) (swapF f (m'+1) (drawX X % (m'+2))):=rfl;rw[e,hx,hq] at h;exact h
      have az:q < k:=by omega
      have ai:=HR.out.set (m'+1) (f q);have c3:=ai.cell az;have z3:=ai.frozen q;obtain ⟨A,hA⟩:∃ A,f (m'+1)=A:=⟨_,rfl⟩;obtain ⟨B,hB⟩:∃ A,f q=A:=⟨_,rfl⟩;rw[hA] at c1;rw[hB] at c2 c3 z3;clear ai;obtain ⟨D,hD⟩:∃ D,updZ f (m'+1) B q=D:=⟨_,rfl⟩;rw[hD] at c3;clear hD;have c4:((wr.setCell ⟨g,m'+1,none⟩ (.int .i64 B)).drew).cell? ⟨g,q,none⟩=some (.int .i64 D):=c3;have z4:((wr.setCell ⟨g,m'+1,none⟩ (.int .i64 B)).drew).frozen? ⟨g,q,none⟩=false:=z3
      have a7:(X:Int) < 2147483399:=by omega
      have bg:(x:Int) < 2147483399:=by omega
      have bc:(q:Int) < (m':Int)+1+1:=by omega
      have ba:m'+1 < k:=hm;rw[show (((m'+1:Nat):Int))=(m':Int)+1 by omega] at *;clear hx hq a3 a0 hX hm;refine zh3 ?_ au hA hB;clear au hA hB;intro aw HA HB;go_upto_region 16 with (fail)
      go_region
      have ag:=((HR.out.set (m'+1) B).set q A).drew
      have e:updZ (updZ f (m'+1) B) q A=swapF f (m'+1) q:=by
       rw[←swap_upd,HA.out,HB.out]
      rw[e]at ag;have hN:=((HN.out.setCell (p:=⟨g,m'+1,none⟩) hg.out (.int .i64 B)).setCell (p:=⟨g,q,none⟩) hg.out (.int .i64 A)).drew;clear e HR HN c1 c2 c3 c4 z1 z2 z3 z4;replace ag:=hid ag;replace hN:=hid hN;go_wp2_with fail;go_roundw
      case rel=>exact ⟨m',x,_,by omega,by omega,by go_num,by go_num,ag,aw,hN⟩
      case measure=>simp[intOf]
structure CmpOk (r:Nat→Int)(n g p1 p2 p3:Nat)(Q:World→Prop):Prop where
 new:∀ W W',Q W→New W W'→Q W'
 set:∀ W i z,Q W→Q (W.setCell ⟨g,i,none⟩ (.int .i64 z))
 call:∀ (a b:Nat) (W:World),a < n→b < n→Q W→Calls prog 108 #[.int .i64 (a:Int),.int .i64 (b:Int),.pointer (some ⟨p1,0,none⟩),.pointer (some ⟨p2,0,none⟩),.pointer (some ⟨p3,0,none⟩)] W fun e W'=>e=.returned (.int .i64 (r b - r a))∧New W W'
def SortPost (r:Nat→Int)(n g:Nat)(Q:World→Prop)(w0:World)(e:Ending)(w':World):Prop:=e=.returned (.tuple #[])∧New w0 w'∧Q w'∧∃ f,Sorted r n f∧RowZ w' g 3 n (fun i=>((f i:Nat):Int))
theorem cast_swap (f:Nat→Nat)(a b:Nat):(fun i=>((swapF f a b i:Nat):Int))=swapF (fun i=>((f i:Nat):Int)) a b:=by
 funext i;unfold swapF;split
 ·rfl
 ·split <;> rfl
theorem insertion_calls (n cap g p1 p2 p3:Nat)(r:Nat→Int)(Q:World→Prop)(HCmp:CmpOk r n g p1 p2 p3 Q)(hn0:0 < n)(hn:n≤1000)(w0 w:World)(hN:New w0 w)(hg:w0.heap.size≤g)(hrow:RowZ w g 3 n fun i=>(i:Int))(hq:Q w):
  Calls prog 222 #[.slice (some ⟨g,0,none⟩) n cap,.int .i64 0,.int .i64 (n:Int),.func (.func 108) #[] #[.pointer (some ⟨p1,0,none⟩),.pointer (some ⟨p2,0,none⟩),.pointer (some ⟨p3,0,none⟩)]] w (SortPost r n g Q w0):=by
 have au:(n:Int)≤1000:=by omega
 have ac:=HCmp.call;unfold SortPost;refine zh5 ?_ ac hN hg hrow hq;clear ac hN hg hrow hq;intro ae aa HG ad ab;go_in;go_wp2_with fail;go_loopw [8] (fun i wr=>∃ (k:Nat) (f:Nat→Nat),1≤k∧k≤n∧i=.int .i64 (k:Int)∧Hid (SortedTo r n k f)∧Hid (RowZ wr g 3 n fun i=>((f i:Nat):Int))∧Hid (New w0 wr)∧Hid (Q wr)) (fun i _=>n - (intOf i).toNat)
 case atStart=>exact ⟨1,_,Nat.le_refl _,hn0,rfl,hid (SortedTo.start r n),ad,aa,ab⟩
 case round=>
  clear ad aa ab;obtain ⟨k,f,aq,hk,rfl,HS,HR,HN,HQ⟩:=hrel;by_cases hlt:k < n
  ·have ar:(k:Int) < n:=by omega
   have ag:=hid (HS.carry hlt);clear HS;go_wp2_with fail;have ah:=HR;have aa:=HN;have ab:=HQ;clear HR HN HQ;go_loopw [9] (fun j wx=>∃ (m:Nat) (f:Nat→Nat),m≤k∧j=.int .i64 (m:Int)∧Hid (Carry r n k m f)∧Hid (RowZ wx g 3 n fun i=>((f i:Nat):Int))∧Hid (New w0 wx)∧Hid (Q wx)) (fun j _=>(intOf j).toNat)
   case atStart=>exact ⟨k,f,Nat.le_refl _,rfl,ag,ah,aa,ab⟩
   case round=>
    clear ag ah aa ab;obtain ⟨m,f,hm,rfl,HC,HR,HN,HQ⟩:=hrel;by_cases hm0:m=0
    ·subst hm0;have hd:=HC.out.done hlt (fun k e=>by omega);have HD:=hid hd;clear hd;go_upto_region 4 with (fail)
     go_quiet (fail)
     have hQ:=HCmp.new _ _ HQ.out ((New.refl _).drewN nq);have hR:=HR.out.drewN nq;have hN:=HN.out.drewN nq;clear HQ HR HN;refine zh3 ?_ hQ hR hN;clear hQ hR hN;intro HQ HR HN;go_wp2_with fail;go_roundw
     case rel=>exact ⟨k+1,f,by omega,by omega,by go_num,HD,HR,HN,HQ⟩
     case measure=>simp[intOf];omega
    ·obtain ⟨j,rfl⟩:∃ j,m=j+1:=⟨m - 1,by omega⟩;have c1:=HR.out.cell (i:=j+1) (by omega);have c2:=HR.out.cell (i:=j) (by omega);have hh:=HC.out.here;have hl:=HC.out.low j (by omega);rw[hh] at c1;obtain ⟨v,hv⟩:∃ v,f j=v:=⟨_,rfl⟩;rw[hv] at c2 hl
     have aj:v < n:=by omega
     have ak:decide (((j+1:Nat):Int) > 0)=true:=decide_eq_true (by omega)
     have ap:(j:Int)+1 < n:=by omega
     have al:(0:Int)≤(j:Int)+1:=by omega
     have av:IntKind.i64.wrap (j:Int)=j:=by rw[IntKind.wrap_i64];omega
     have am:(0:Int)≤(j:Int)∧(j:Int) < n:=by omega
     have an:(0:Int)≤(j:Int):=by omega
     have ao:(j:Int) < n:=by omega
     rw[show (((j+1:Nat):Int))=(j:Int)+1 by omega]at *;clear hh hl;replace hv:=hid hv;go_upto_region 4 with (fail);refine zR 16 17 (fun W=>W.cell? ⟨g,j+1,none⟩=some (.int .i64 (k:Int))∧W.cell? ⟨g,j,none⟩=some (.int .i64 (v:Int))) ?_;refine zT 0 ⟨c1,c2⟩ ?_;refine zT 1 ⟨c1,c2⟩ ?_;refine zT 2 ⟨c1,c2⟩ ?_;refine zT 3 ⟨c1,c2⟩ ?_;refine zT 4 ⟨c1,c2⟩ ?_;refine zT 5 ⟨c1,c2⟩ ?_;refine zT 6 ⟨c1,c2⟩ ?_;refine zT 7 ⟨c1,c2⟩ ?_;refine zT 8 ⟨c1,c2⟩ ?_;refine zT 9 ⟨c1,c2⟩ ?_;refine zT 10 ⟨c1,c2⟩ ?_;refine zT 11 ⟨c1,c2⟩ ?_;refine zT 12 ⟨c1,c2⟩ ?_;refine zT 13 ⟨c1,c2⟩ ?_;refine tk1 14 fun K hK=>?_;go_simp;refine zM (ae _ _ _ hlt aj (HCmp.new _ _ HQ (New.refl _).drew)) fun w5 hn=>?_;have hn:=hn.undrew;replace c1:=hn.cell c1;replace c2:=hn.cell c2;have hQ:=HCmp.new _ _ HQ.out hn;have hR:=HR.out.new hn;clear HQ HR;have HQ:=hid hQ;have HR:=hid hR;clear hQ hR;replace HN:=tW HN hn;clear hn;refine zK hK ⟨c1,c2⟩ ?_;clear hK K;refine zT 15 ⟨c1,c2⟩ ?_;refine tlW ?_;by_cases hr:r v < r k
     ·have ht:decide (r v - r k < 0)=true:=decide_eq_true (by omega);have ai:=HC.out.move hlt (by rw[hv.out];exact hr);have af:=(HR.out.set (j+1) (v:Int)).set j (k:Int)
      have e:updZ (updZ (fun i=>((f i:Nat):Int)) (j+1) (v:Int)) j (k:Int)=fun i=>((swapF f (j+1) j i:Nat):Int):=by
       rw[cast_swap,←swap_upd];have e1:=HC.out.here;have e2:=hv.out;rw[e1,e2]
      rw[e]at af;have hQ:=HCmp.set _ j (k:Int) (HCmp.set _ (j+1) (v:Int) HQ.out);have hN:=(HN.out.setCell (p:=⟨g,j+1,none⟩) HG.out (.int .i64 (v:Int))).setCell (p:=⟨g,j,none⟩) HG.out (.int .i64 (k:Int));have z1:=HR.out.frozen (j+1);have z2:=HR.out.frozen j;clear e HC HR HQ HN hr;refine zh4 ?_ ai af hQ hN;clear ai af hQ hN;intro HC HR HQ HN;go_upto_region 6 with (fail)
      go_region
      go_wp2_with fail;go_roundw
      case rel=>exact ⟨j,swapF f (j+1) j,by omega,by go_num,HC,hid HR.out.drew,hid HN.out.drew,hid (HCmp.new _ _ HQ.out (New.refl _).drew)⟩
      case measure=>simp[intOf]
     ·have ht:decide (r v - r k < 0)=false:=decide_eq_false (by omega)
      have hd:=HC.out.done hlt (fun k' e=>by
       have:k'=j:=by omega
       subst this;rw[hv.out]
       omega)
      clear hr HC;replace hd:=hid hd;go_wp2_with fail;go_roundw
      case rel=>exact ⟨k+1,f,by omega,by omega,by go_num,hd,HR,HN,HQ⟩
      case measure=>simp[intOf];omega
  ·obtain rfl:k=n:=by omega
   go_wp2_with fail
   go_end0
   exact ⟨rfl,HN,HQ,f,HS.all,HR⟩
structure CapIs (W:World)(p1 p2 p3:Nat)(T S:Int)(a:Option Addr)(n cap:Nat)(w:Nat→Int):Prop where
 c1:W.cell? ⟨p1,0,none⟩=some (.int .i64 T)
 c2:W.cell? ⟨p2,0,none⟩=some (.slice a n cap)
 c3:W.cell? ⟨p3,0,none⟩=some (.int .i64 S)
 row:RdL W a (ints ((List.range n).map w))
theorem CapIs.new {W W':World}{p1 p2 p3:Nat}{T S:Int}{a:Option Addr}{n cap:Nat}{w:Nat→Int}(h:CapIs W p1 p2 p3 T S a n cap w)(hn:New W W'):CapIs W' p1 p2 p3 T S a n cap w:=⟨hn.cell h.c1,hn.cell h.c2,hn.cell h.c3,h.row.new hn⟩
theorem cell_other {W:World}{b g i j:Nat}{u v:Value}(h:W.cell? ⟨b,i,none⟩=some u)(hb:b≠g):(W.setCell ⟨g,j,none⟩ v).cell? ⟨b,i,none⟩=some u:=by
 simp[World.cell?,World.setCell,Array.getElem?_modify,Ne.symm hb]at h⊢;exact h
theorem CapIs.set {W:World}{p1 p2 p3:Nat}{T S:Int}{a:Option Addr}{n cap:Nat}{w:Nat→Int}(h:CapIs W p1 p2 p3 T S a n cap w){g:Nat}(h1:p1≠g)(h2:p2≠g)(h3:p3≠g)(ha:∀ b o,a=some ⟨b,o,none⟩→b≠g)(i:Nat)(v:Value):CapIs (W.setCell ⟨g,i,none⟩ v) p1 p2 p3 T S a n cap w:=
 ⟨cell_other h.c1 h1,cell_other h.c2 h2,cell_other h.c3 h3,fun k hk=>by
  obtain ⟨b,o,e,hc⟩:=h.row k hk
  exact ⟨b,o,e,cell_other hc (ha b o e)⟩⟩
theorem prod_bd {T w:Int}(t0:0≤T)(t1:T≤999999999)(w0:0≤w)(w1:w≤999999999):0≤T*w∧T*w≤999999998000000001:=by
 have h1:=Int.mul_nonneg t0 w0;have h2:=Int.mul_le_mul t1 w1 w0 (by omega:(0:Int)≤999999999);omega
theorem shcmp_calls (i j n cap p1 p2 p3:Nat)(T S:Int)(a:Option Addr)(w:Nat→Int)(W:World)(h:CapIs W p1 p2 p3 T S a n cap w)(hi:i < n)(hj:j < n)(hT:0≤T∧T≤999999999)(hw:∀ k,k < n→0≤w k∧w k≤999999999)(hS:0 < S∧S≤1000000000000):
  Calls prog 108 #[.int .i64 (i:Int),.int .i64 (j:Int),.pointer (some ⟨p1,0,none⟩),.pointer (some ⟨p2,0,none⟩),.pointer (some ⟨p3,0,none⟩)] W fun e W'=>e=.returned (.int .i64 (T*w j % S - T*w i % S))∧New W W':=by
 obtain ⟨c1,c2,c3,hr⟩:=h;obtain ⟨b,ak,rfl,di⟩:=hr i (by simpa[ints] using hi);obtain ⟨b',ab,e,dj⟩:=hr j (by simpa[ints] using hj);simp only[Option.some.injEq,Addr.mk.injEq,and_true] at e;obtain ⟨rfl,rfl⟩:=e;have wi:=hw i hi;have wj:=hw j hj;have bi:=prod_bd hT.1 hT.2 wi.1 wi.2;have bj:=prod_bd hT.1 hT.2 wj.1 wj.2
 have ei:(ints ((List.range n).map w))[i]'(by simpa[ints] using hi)=.int .i64 (w i):=by simp[ints]
 have ej:(ints ((List.range n).map w))[j]'(by simpa[ints] using hj)=.int .i64 (w j):=by simp[ints]
 rw[ei]at di;rw[ej] at dj;obtain ⟨A,hA⟩:∃ A,w i=A:=⟨_,rfl⟩;obtain ⟨B,hB⟩:∃ A,w j=A:=⟨_,rfl⟩;rw[hA] at di wi bi⊢;rw[hB] at dj wj bj⊢;obtain ⟨P,hP⟩:∃ P,T*A=P:=⟨_,rfl⟩;obtain ⟨R,hR⟩:∃ P,T*B=P:=⟨_,rfl⟩;rw[hP] at bi⊢;rw[hR] at bj⊢;have m1:Int.tmod P S=P % S:=Int.tmod_eq_emod_of_nonneg bi.1;have m2:Int.tmod R S=R % S:=Int.tmod_eq_emod_of_nonneg bj.1;have n1:=Int.emod_nonneg P (show S≠0 by omega);have n2:=Int.emod_nonneg R (show S≠0 by omega);have n3:=Int.emod_lt_of_pos P hS.1;have n4:=Int.emod_lt_of_pos R hS.1;obtain ⟨p,hp⟩:∃ p,P % S=p:=⟨_,rfl⟩;obtain ⟨r,aa⟩:∃ p,R % S=p:=⟨_,rfl⟩;rw[hp] at m1 n1 n3⊢;rw[aa] at m2 n2 n4⊢;obtain ⟨ag,ah⟩:=hS;obtain ⟨ac,ad⟩:=bi;obtain ⟨ae,af⟩:=bj
 have ai:(i:Int) < n:=by omega
 have aj:(j:Int) < n:=by omega
 clear hr ei ej hA hB hp aa wi wj hw hT;go_in;go_wp2_with fail
 go_quiet (fail)
 go_wp2_with fail;go_ret;exact ⟨rfl,(New.refl _).drewN nq⟩
theorem stableCmp_calls (n cap g p1 p2 p3:Nat)(r:Nat→Int)(Q:World→Prop)(HCmp:CmpOk r n g p1 p2 p3 Q)(hn0:0 < n)(hn:n≤19)(w0 w:World)(hN:New w0 w)(hg:w0.heap.size≤g)(hrow:RowZ w g 3 n fun i=>(i:Int))(hq:Q w):
  Calls prog 175 #[.slice (some ⟨g,0,none⟩) n cap,.int .i64 (n:Int),.func (.func 108) #[] #[.pointer (some ⟨p1,0,none⟩),.pointer (some ⟨p2,0,none⟩),.pointer (some ⟨p3,0,none⟩)]] w (SortPost r n g Q w0):=by
 have aa:=insertion_calls n cap g p1 p2 p3 r Q HCmp hn0 (by omega) w0 w hN hg hrow hq;unfold SortPost at aa⊢
 have ab:(n:Int)≤19:=by omega
 clear HCmp hN hg hrow hq;replace aa:=hid aa;go_in;go_wp2_with fail;go_loopw [7,8] (fun a b wr=>a=.int .i64 0∧b=.int .i64 20∧Hid (wr=w)) (fun _ _ _=>0)
 case atStart=>exact ⟨rfl,rfl,hid rfl⟩
 case round=>
  obtain ⟨rfl,rfl,HW⟩:=hrel;rw[HW.out];clear HW;go_wp2_with fail;refine aa.mono ?_;rintro e w1 ⟨rfl,h1⟩;replace h1:=hid h1;go_wp2_with fail;go_loopw [6,7,8] (fun c a b wr=>c=.int .i64 20∧a=.int .i64 0∧b=.int .i64 20∧Hid (wr=w1)) (fun _ _ _ _=>0)
  case atStart=>exact ⟨rfl,rfl,rfl,hid rfl⟩
  case round=>
   obtain ⟨rfl,rfl,rfl,HW⟩:=hrel;rw[HW.out];clear HW;go_wp2_with fail
   go_end0
   exact ⟨rfl,h1⟩
theorem stable_calls (n cap g p1 p2 p3:Nat)(r:Nat→Int)(Q:World→Prop)(HCmp:CmpOk r n g p1 p2 p3 Q)(hn0:0 < n)(hn:n≤19)(w0 w:World)(hN:New w0 w)(hg:w0.heap.size≤g)(hrow:RowZ w g 3 n fun i=>(i:Int))(hq:Q w):
  Calls prog 107 #[.slice (some ⟨g,0,none⟩) n cap,.func (.func 108) #[] #[.pointer (some ⟨p1,0,none⟩),.pointer (some ⟨p2,0,none⟩),.pointer (some ⟨p3,0,none⟩)]] w (SortPost r n g Q w0):=by
 have aa:=stableCmp_calls n cap g p1 p2 p3 r Q HCmp hn0 hn w0 w hN hg hrow hq;unfold SortPost at aa⊢;clear HCmp hN hg hrow hq;replace aa:=hid aa;go_in;go_wp2_with fail;refine aa.mono ?_;rintro e w1 ⟨rfl,h1⟩;replace h1:=hid h1;go_wp2_with fail
 go_end0
 exact ⟨rfl,h1⟩
def okW (l:List Int):Bool:=l.all fun x=>!outside x 0 999999999
def maxL (x:Int):List Int→Int
 | []=>x
 | y::l=>maxL (if y > x then y else x) l
def weightsErr (l:List Int):Int:=if l.length=0 then 12 else if 256 < l.length then 5 else if okW l then (if maxL 0 l=0 then 6 else 0) else 3
theorem RdL.int {w:World}{a:Option Addr}{l:List Int}(h:RdL w a (ints l))(k:Nat)(hk:k < l.length):∃ b aa,a=some ⟨b,aa,none⟩∧w.cell? ⟨b,aa+k,none⟩=some (.int .i64 l[k]):=by
 obtain ⟨b,aa,e,hc⟩:=h k (by simpa[ints] using hk);exact ⟨b,aa,e,by rw[hc];simp[ints]⟩
theorem wchk_calls (i x:Int)(w:World):Calls prog 173 #[.int .i64 i,.int .i64 x] w fun e w'=>e=.returned (.int .i64 (if outside x 0 999999999 then 3 else 0))∧w=w':=by
 obtain ⟨r,hr⟩:∃ r:Int,(if outside x 0 999999999=true then 3 else 0)=r:=⟨_,rfl⟩;have hw:=fun W=>nwithin_calls x 0 999999999 W;rw[hr] at hw⊢;clear hr;replace hw:=hid hw;go_in;go_wp2_with fail;refine (hw _).mono ?_;rintro e w' ⟨rfl,rfl⟩;go_wp2_with fail;go_ret;exact ⟨rfl,rfl⟩
theorem okW_take {l:List Int}{k:Nat}(hk:k < l.length)(h:okW (l.take k)=true)(hx:outside l[k] 0 999999999=false):okW (l.take (k+1))=true:=by
 unfold okW at h⊢;rw[List.take_succ_eq_append_getElem hk,List.all_append,h];simp[hx]
theorem okW_false {l:List Int}{k:Nat}(hk:k < l.length)(hx:outside l[k] 0 999999999=true):okW l=false:=by
 unfold okW;rw[List.all_eq_false];exact ⟨l[k],List.getElem_mem hk,by simp[hx]⟩
theorem eachw_calls (a:Option Addr)(cap:Nat)(l:List Int)(w:World)(hl:l.length≤100000)(hr:RdL w a (ints l)):
  Calls prog 172 #[.slice a l.length cap,.func (.func 173) #[] #[]] w fun e w'=>e=.returned (.int .i64 (if okW l then 0 else 3))∧w'=w:=by
 obtain ⟨r,aa⟩:∃ r:Int,(if okW l=true then 0 else 3)=r:=⟨_,rfl⟩;rw[aa]
 have af:(l.length:Int)≤100000:=by omega
 refine zh3 ?_ hr aa hl;clear hr aa hl;intro HR ab HL;go_in;go_wp2_with fail;go_loopw [10] (fun i wr=>∃ k:Nat,k≤l.length∧i=.int .i64 (k:Int)∧Hid (okW (l.take k)=true)∧wr=w) (fun i _=>l.length - (intOf i).toNat)
 case atStart=>exact ⟨0,Nat.zero_le _,rfl,hid rfl,rfl⟩
 case round=>
  obtain ⟨k,hk,rfl,HK,rfl⟩:=hrel;by_cases hlt:k < l.length
  ·obtain ⟨b,ag,rfl,ac⟩:=HR.out.int k hlt;obtain ⟨x,hx⟩:∃ x,l[k]=x:=⟨_,rfl⟩;rw[hx] at ac
   cases hfx:outside x 0 999999999 with
   | false=>
    have hd:=okW_take hlt HK.out (by rw[hx];exact hfx);have hc:=fun W=>wchk_calls k x W;rw[hfx] at hc;refine zh4 ?_ hx hfx hd hc;clear hx hfx hd hc;intro HX ae HD HC;go_wp2_with fail;refine (HC _).mono ?_;rintro e w' ⟨rfl,rfl⟩;go_wp2_with fail;go_roundw
    case rel=>exact ⟨k+1,by omega,by go_num,HD,by first | trivial | rfl⟩
    case measure=>simp[intOf];omega
   | true=>
    have hd:=okW_false hlt (by rw[hx];exact hfx);have hc:=fun W=>wchk_calls k x W;rw[hfx] at hc;refine zh4 ?_ hx hfx hd hc;clear hx hfx hd hc;intro HX ae HD HC;go_wp2_with fail;refine (HC _).mono ?_;rintro e w' ⟨rfl,rfl⟩;go_wp2_with fail;go_ret;exact ⟨ret_i64 (by rw[←ab.out,HD.out];rfl),rfl⟩
  ·have ad:k=l.length:=by omega
   have hz:r=0:=by rw[←ab.out,if_pos];have:=HK.out;rwa [ad,List.take_length] at this
   replace ad:=hid ad;replace hz:=hid hz;go_wp2_with fail;go_ret;exact ⟨ret_i64 hz.symm,rfl⟩
theorem maxL_snoc (l:List Int):∀ (x y:Int),maxL x (l ++ [y])=if y > maxL x l then y else maxL x l:=by
 induction l with
 | nil=>intro x y;rfl
 | cons z l ih=>intro x y;exact ih _ y
theorem max_calls (a:Option Addr)(cap:Nat)(x:Int)(l:List Int)(w:World)(hl:l.length≤100000)(hr:RdL w a (ints (x::l))):
  Calls prog 174 #[.slice a (x::l).length cap] w fun e w'=>e=.returned (.int .i64 (maxL x l))∧w'=w:=by
 obtain ⟨r,ab⟩:∃ r,maxL x l=r:=⟨_,rfl⟩;rw[ab];obtain ⟨n,hn⟩:∃ n,(x::l).length=n:=⟨_,rfl⟩
 have ah:n=l.length+1:=by rw[←hn];rfl
 rw[hn]
 have ao:(n:Int)≤100001:=by omega
 have aq:(1:Int)≤n:=by omega
 obtain ⟨b,ai,rfl,ac⟩:=hr.int 0 (by simp);replace ac:w.cell? ⟨b,ai+0,none⟩=some (.int .i64 x):=ac;simp only[Nat.add_zero] at ac;refine zh5 ?_ hr ab hl hn ah;clear hr ab hl hn ah;intro HR ag HL aj ad;go_in;go_wp2_with fail;clear ac;go_loopw [3,4] (fun m i wr=>∃ (k:Nat) (y:Int),k+1≤n∧m=.int .i64 y∧i=.int .i64 ((k:Int)+1)∧Hid (maxL x (l.take k)=y)∧wr=w) (fun _ i _=>n - (intOf i).toNat)
 case atStart=>exact ⟨0,x,by omega,rfl,rfl,hid rfl,rfl⟩
 case round=>
  obtain ⟨k,y,hk,rfl,rfl,HK,rfl⟩:=hrel;by_cases hlt:k+1 < n
  ·obtain ⟨b',al,e,aa⟩:=HR.out.int (k+1) (by rw[aj.out];exact hlt);injection e with e;injection e with e1 e2;subst e1 e2
   have ak:k < l.length:=by have:=ad.out;omega
   replace aa:wr.cell? ⟨b,ai+(k+1),none⟩=some (.int .i64 l[k]):=aa;obtain ⟨z,hz⟩:∃ z,l[k]=z:=⟨_,rfl⟩;rw[hz] at aa
   have hd:maxL x (l.take (k+1))=(if z > y then z else y):=by rw[List.take_succ_eq_append_getElem ak,maxL_snoc,hz,HK.out]
   obtain ⟨u,hu⟩:∃ u,(if z > y then z else y)=u:=⟨_,rfl⟩;rw[hu] at hd
   have ap:max y z=u:=by rw[←hu,Int.max_def];split <;> split <;> omega
   have am:(k:Int)+1 < n:=by omega
   have HD:=hid hd;have HZ:=hid hz;clear hd hz;by_cases hzy:z > y
   ·have af:u=z:=by rw[←hu,if_pos hzy]
    subst af;clear hu;go_wp2_with fail;go_roundw
    case rel=>exact ⟨k+1,u,by omega,rfl,by go_num,HD,by first | trivial | rfl⟩
    case measure=>simp[intOf];omega
   ·have af:u=y:=by rw[←hu,if_neg hzy]
    subst af;clear hu;go_wp2_with fail;go_roundw
    case rel=>exact ⟨k+1,u,by omega,rfl,by go_num,HD,by first | trivial | rfl⟩
    case measure=>simp[intOf];omega
  ·have ae:k=l.length:=by have:=ad.out;omega
   have hz:y=r:=by rw[←ag.out,←HK.out,ae,List.take_length]
   have an:(k:Int)+1=n:=by have:=ad.out;omega
   replace ae:=hid ae;replace hz:=hid hz;go_wp2_with fail;go_ret;exact ⟨ret_i64 hz,rfl⟩
theorem same_ints (a b:Option Addr)(cap cap':Nat)(xs ys:List Int)(w:World)(hl:xs.length≤1000000)(hlen:ys.length=xs.length)(hr1:RdL w a (ints xs))(hr2:RdL w b (ints ys))(hs:∀ (k:Nat) (h:k < xs.length) (h':k < ys.length),(fun x y:Int=>x != y) xs[k] ys[k]=false):
  Calls prog 84 #[.slice a xs.length cap,.slice b ys.length cap'] w fun e w'=>e=.returned (.bool true)∧New w w':=by
 obtain ⟨n,hn⟩:∃ n,xs.length=n:=⟨_,rfl⟩;rw[hlen];rw[hn] at hl hlen⊢
 have ak:(n:Int)≤1000000:=by omega
 have al:((n:Int) != (n:Int))=false:=by simp
 refine zh5 ?_ hr1 hr2 hs hn hlen;clear hr1 hr2 hs hn hlen;intro ag ah HS af ad;go_in;go_wp2_with fail;go_loopw [5] (fun i wr=>∃ (k:Nat),k≤n∧i=.int .i64 (k:Int)∧Hid (New w wr)) (fun i _=>n - (intOf i).toNat)
 case atStart=>exact ⟨0,Nat.zero_le _,rfl,hid (New.refl _)⟩
 case round=>
  obtain ⟨k,hk,rfl,HN⟩:=hrel;by_cases hlt:k < n
  ·have h1:k < xs.length:=by rw[af.out];exact hlt
   have h2:k < ys.length:=by rw[ad.out];exact hlt
   obtain ⟨b1,ai,rfl,aa⟩:=ag.out.int k h1;obtain ⟨b2,aj,rfl,ab⟩:=ah.out.int k h2;have ac:=HS.out k h1 h2;obtain ⟨x,hx⟩:∃ x,xs[k]=x:=⟨_,rfl⟩;obtain ⟨y,hy⟩:∃ y,ys[k]=y:=⟨_,rfl⟩;rw[hx] at aa;rw[hy] at ab;rw[hx,hy] at ac;replace aa:=HN.cell aa;replace ab:=HN.cell ab;replace hx:=hid hx;replace hy:=hid hy;go_wp2_with fail
   go_quiet (fail)
   go_wp2_with fail;go_roundw
   case rel=>exact ⟨k+1,by omega,by go_num,hid (HN.out.drewN nq)⟩
   case measure=>simp[intOf];omega
  ·have ae:k=n:=by omega
   replace ae:=hid ae;go_wp2_with fail;go_ret;exact ⟨rfl,HN⟩
end Go.Proofs.YtnjonlnemagomaaGreatDoor
