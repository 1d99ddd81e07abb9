/- Part B22. -/
import Derived.WalkMore
import Derived.Deep.DeepCutAuto
import Derived.RangeFuncNested
import Derived.RangeFuncBound
import Derived.RangeFuncCalls
import Derived.RangeFuncLeaves
import Derived.Shelf.Abstract
import Derived.Shelf.RegionOpen
import Derived.OwnWalkIn
import Derived.TacticsInMore
import Derived.LoopNIn
import Derived.LoopIn
import Derived.RangeFuncBox
import Derived.Test.YtbkcjmojgglbkaaGreatDoorB21
namespace Go.Proofs.YtbkcjmojgglbkaaGreatDoor
open Go.RowKit Big Go.Shelf
open Go.Lib (hid)
set_option maxRecDepth 100000
set_option maxHeartbeats 8000000
def runTo (p:Nat→Bool)(n:Nat):Nat→Nat→Nat
 | 0,i=>i
 | f+1,i=>if i < n∧p i=true then runTo p n f (i+1) else i
def clipR (p:Nat→Bool)(n:Nat):Nat→Nat→List (Nat × Nat)
 | 0,_=>[]
 | f+1,i=>if i < n then (if i < runTo p n n i then [(i,runTo p n n i)] else []) ++ clipR p n f (runTo p n n i+1) else []
theorem runTo_eq {p:Nat→Bool}{n t:Nat}:∀ (f i:Nat),n - i≤f→i≤t→t≤n→(∀ j,i≤j→j < t→p j=true)→(t=n∨p t=false)→runTo p n f i=t:=by
 intro f
 induction f with
 | zero=>
  intro i h1 h2 h3 _ _;show i=t;omega
 | succ f ih=>
  intro i h1 h2 h3 h4 h5;show (if i < n∧p i=true then runTo p n f (i+1) else i)=t;by_cases h:i < t
  ·rw[if_pos ⟨by omega,h4 i (Nat.le_refl _) h⟩];exact ih (i+1) (by omega) (by omega) h3 (fun j hj hj'=>h4 j (by omega) hj') h5
  ·have:i=t:=by omega
   subst this;rw[if_neg];rintro ⟨h6,h7⟩;rcases h5 with h5 | h5
   ·omega
   ·rw[h5] at h7;cases h7
theorem runTo_ge {p:Nat→Bool}{n:Nat}:∀ (f i:Nat),i≤runTo p n f i:=by
 intro f
 induction f with
 | zero=>intro i;exact Nat.le_refl _
 | succ f ih=>
  intro i;show i≤(if i < n∧p i=true then runTo p n f (i+1) else i);split
  ·have:=ih (i+1);omega
  ·exact Nat.le_refl _
theorem clipR_fuel {p:Nat→Bool}{n:Nat}:∀ (f g i:Nat),n - i < f→n - i < g→clipR p n f i=clipR p n g i:=by
 intro f
 induction f with
 | zero=>intro g i h;omega
 | succ f ih=>
  intro g i h1 h2
  cases g with
  | zero=>omega
  | succ g=>
   show (if i < n then _ ++ clipR p n f _ else [])=(if i < n then _ ++ clipR p n g _ else []);by_cases h:i < n
   ·rw[if_pos h,if_pos h];have:=runTo_ge (p:=p) (n:=n) n i;rw[ih g _ (by omega) (by omega)]
   ·rw[if_neg h,if_neg h]
def pairs (l:List (Nat × Nat)):List Value:=l.flatMap fun p=>[.int .i64 (p.1:Int),.int .i64 (p.2:Int)]
theorem pairs_snoc (l:List (Nat × Nat))(a b:Nat):pairs (l ++ [(a,b)])=pairs l ++ [.int .i64 (a:Int),.int .i64 (b:Int)]:=by simp[pairs]
theorem clip_next {p:Nat→Bool}{n i t:Nat}{ys total:List (Nat × Nat)}(h:ys ++ clipR p n (n+2 - i) i=total)(hi:i < n)(ht:i≤t)(htn:t≤n)(hp:∀ j,i≤j→j < t→p j=true)(hs:t=n∨p t=false):
  (ys ++ (if i < t then [(i,t)] else [])) ++ clipR p n (n+2 - (t+1)) (t+1)=total:=by
 rw[←h]
 have e:n+2 - i=(n+1 - i)+1:=by omega
 rw[e];show _=ys ++ (if i < n then (if i < runTo p n n i then [(i,runTo p n n i)] else []) ++ clipR p n (n+1 - i) (runTo p n n i+1) else []);rw[if_pos hi,runTo_eq (t:=t) n i (by omega) ht htn hp hs,List.append_assoc,clipR_fuel (n+2 - (t+1)) (n+1 - i) (t+1) (by omega) (by omega)]
def isEnd (cl:List Int)(tp:Int)(j:Nat):Bool:=match cl[j]? with | some c=>c==0 || c==tp | none=>false
def clipped (cl:List Int)(tp:Int):List (Nat × Nat):=clipR (isEnd cl tp) cl.length (cl.length+2) 0
theorem RdL.int {w:World}{a:Option Addr}{l:List Int}(h:RdL w a (ints l))(i:Nat)(hi:i < l.length):∃ b off,a=some ⟨b,off,none⟩∧w.cell? ⟨b,off+i,none⟩=some (.int .i64 l[i]):=by
 obtain ⟨b,off,e,hc⟩:=h i (by simpa[ints] using hi);exact ⟨b,off,e,by rw[hc];simp[ints]⟩
theorem Clipped_ok (b s z:Int) (g o:ByteArray) (a:Option Addr) (n cap:Nat) (cl:List Int) (tp:Int) (w:World) (hn:cl.length=n) (hl:n≤4096)
  (hcodes:∀ W,New w W→Calls Tryz.prog 29 #[.agg #[.int .i64 b,.int .i64 s,.int .i64 z,.string g,.string o],.slice a n cap] W (RowPost W 3 (ints cl) 0))
  (htop:∀ W,Calls Tryz.prog 66 #[.agg #[.int .i64 b,.int .i64 s,.int .i64 z,.string g,.string o]] W fun e w'=>e=.returned (.int .i64 tp)∧New W w'):
  Calls Tryz.prog 31 #[.agg #[.int .i64 b,.int .i64 s,.int .i64 z,.string g,.string o],.slice a n cap] w (RowPostS w 95 2 (clipped cl tp).length (pairs (clipped cl tp)) 0):=by
 obtain ⟨i0,hi,hz0,hz1,hz2⟩:=info_parts info_arr2;obtain ⟨p,hp⟩:∃ p,isEnd cl tp=p:=⟨_,rfl⟩;obtain ⟨total,htot⟩:∃ l,clipped cl tp=l:=⟨_,rfl⟩;have htot2:=htot;unfold clipped at htot2;rw[hp,hn] at htot2;rw[htot]
 have hli:(n:Int)≤4096:=by omega
 clear htot;have HCODES:=hid hcodes;have HTOP:=hid htop;have HPP:=hid hp;have HTOT:=hid htot2;have HNL:=hid hn;have HLL:=hid hl;clear hcodes htop hp htot2 hn hl;go_enter Tryz.func31,Tryz.ntmps31;go_wp2_with fail;obtain ⟨BA,HN⟩:=lay1 w 32 #[.int .i64 b,.int .i64 s,.int .i64 z,.string g,.string o];refine (HCODES.out _ HN.out).mono ?_;rintro e w1 ⟨v,rfl,hn,ho⟩;obtain ⟨a2,cap2,rfl,hrd,hlen⟩:=own_rd ho
 have hlen2:(ints cl).length=n:=by rw[←HNL.out];simp[ints]
 rw[hlen2];clear ho hlen;have HRD:=hid hrd;have HL2:=hid hlen2;clear hrd hlen2;replace BA:=bW BA hn;replace HN:=tW HN hn;clear hn;go_wp2_with fail;have HNW:=HN;clear HN;go_loopw [8,9] (fun v i wr=>∃ (f:Nat) (ys:List (Nat × Nat)),f≤n+1∧i=.int .i64 (f:Int)∧Hid (ys ++ clipR p n (n+2 - f) f=total)∧Hid (ys.length≤f)∧Hid (wr.ownsRow w1.heap.size 95 2 v ys.length (pairs ys))∧Hid (New w1 wr)) (fun _ i _=>n+1 - (intOf i).toNat)
 case atStart=>exact ⟨0,[],Nat.zero_le _,rfl,HTOT,hid (Nat.le_refl _),hid (World.ownsRow_nil _ _ _ _),hid (New.refl _)⟩
 case round=>
  obtain ⟨f,ys,hf,rfl,HS,HL,HO,HN⟩:=hrel;by_cases hlt:f < n
  ·have HFN:=hid hlt;obtain ⟨w5,hw5⟩:∃ x,x=wr:=⟨_,rfl⟩;rw[←hw5] at HO HN⊢;clear hw5;go_wp2_with fail
   go_step3
   go_wp2_with fail
   go_step3
   go_wp2_with fail;go_loopw [10] (fun x wi=>∃ (t:Nat),f≤t∧t≤n∧x=.int .i64 (t:Int)∧Hid (∀ j,f≤j→j < t→p j=true)∧Hid (New w5 wi)) (fun x _=>n - (intOf x).toNat)
   case atStart=>exact ⟨f,Nat.le_refl _,by omega,rfl,hid (fun j h1 h2=>by omega),hid (New.refl _)⟩
   case round=>
    obtain ⟨t,hft,htn,rfl,HP,HNI⟩:=hrel;have HFT:=hid hft;have HTN:=hid htn;by_cases hlt2:t < n
    ·obtain ⟨b1,off,rfl,hcell⟩:=HRD.out.int t (by rw[HNL.out];exact hlt2);have hcell:=(HN.out.trans HNI.out).cell hcell
     have htc:t < cl.length:=by rw[HNL.out];exact hlt2
     obtain ⟨c,hc⟩:∃ c,cl[t]=c:=⟨_,rfl⟩;rw[hc] at hcell
     have hpt:p t=(c==0 || c==tp):=by
      rw[←HPP.out];unfold isEnd;rw[List.getElem?_eq_getElem htc,hc]
     have BI_:=BA.out.new (HN.out.trans HNI.out);have BI:=hid BI_;have HC:=hid hc;clear BI_ hc;by_cases hc0:c=0
     ·have hc1:(c==0)=true:=by simpa using hc0
      have hpn:∀ j,f≤j→j < t+1→p j=true:=fun j h1 h2=>by
       by_cases h3:j=t
       ·rw[h3,hpt,hc1];rfl
       ·exact HP.out j h1 (by omega)
      have HC0:=hid hc0;have HPN:=hid hpn;have HPT:=hid hpt;clear hc0 hpn hpt;go_wp2_with fail;go_roundw
      case rel=>exact ⟨t+1,by omega,by omega,by go_num,HPN,HNI⟩
      case measure=>simp[intOf];omega
     ·have hc1:(c==0)=false:=beq_eq_false_iff_ne.2 hc0;obtain ⟨⟨pi0,pi1,pi2,pi3,pi4⟩,pi5⟩:=BI.out.five;go_wp2_with fail;refine (HTOP.out _).mono ?_;rintro e wj ⟨rfl,hn⟩;clear pi0 pi1 pi2 pi3 pi4 pi5;have HNJ:=hid (HNI.out.trans hn);clear HNI hcell BI hn;by_cases hc2:c=tp
      ·have hc3:(c==tp)=true:=by simpa using hc2
       have hpn:∀ j,f≤j→j < t+1→p j=true:=fun j h1 h2=>by
        by_cases h3:j=t
        ·rw[h3,hpt,hc3];simp
        ·exact HP.out j h1 (by omega)
       have HC0:=hid hc0;have HPN:=hid hpn;have HPT:=hid hpt;have HC2:=hid hc2;clear hc0 hpn hpt hc2;go_wp2_with fail;go_roundw
       case rel=>exact ⟨t+1,by omega,by omega,by go_num,HPN,HNJ⟩
       case measure=>simp[intOf];omega
      ·have hc3:(c==tp)=false:=beq_eq_false_iff_ne.2 hc2;have HST:=hid (Or.inr (by rw[hpt,hc1,hc3];rfl):t=n∨p t=false);have HNI:=HNJ;clear HNJ;obtain ⟨wi,hwi⟩:∃ x,x=wj:=⟨_,rfl⟩;rw[←hwi] at HNI⊢;clear hwi;have HC0:=hid hc0;have HPT:=hid hpt;have HC2:=hid hc2;clear hc0 hpt hc2;have hnx:=clip_next HS.out HFN.out HFT.out HTN.out HP.out HST.out;have hO2:=own_newS HO.out HNI.out;have hN2:=HN.out.trans HNI.out;clear HO HN HS;have HO:=hid hO2;have HN:=hid hN2;clear hO2 hN2;by_cases hgt:f < t
       ·rw[if_pos hgt] at hnx;have hlen:=HL.out
        have hli2:(ys.length:Int)≤4096:=by omega
        have hcell2:=alloc_cells wi #[.int .i64 (f:Int),.int .i64 (t:Int)] 61
        have hc2:∀ u∈[Value.int .i64 (f:Int),.int .i64 (t:Int)],u.oneCell'=true:=by intro u hu;simp at hu;rcases hu with rfl | rfl <;> rfl
        have hti:(f:Int) < (t:Int):=by omega
        have HNX:=hid hnx;have HLEN:=hid hlen;have HCELL2:=hid hcell2;have HC2:=hid hc2;clear hnx hlen hcell2 hc2;go_wp2_with (at_builtin;refine wpList_append_own _ rfl _ _ 61 rfl w1.heap.size 95 i0 (.agg #[.int .i64 0,.int .i64 0]) 2 16 Tryz.underlying61 hi hz0 hz1 hz2 rfl (by decide) _ _ _ rfl (HO.out.alloc _) ⟨wi.heap.size,0,none⟩ 1 1 [.int .i64 (f:Int),.int .i64 (t:Int)] rfl rfl (alloc_cells _ #[.int .i64 (f:Int),.int .i64 (t:Int)] _) HC2.out (by have:=HLEN.out;unfold maxLen;omega) (by have:=HLEN.out;omega) (by have:=HN.out.size;rw[←size_alloc];omega) ?_);intro v' w9 hown' hgrow _;have hN1:=grown_newS HN.out HO.out hgrow
        have hO1:w9.ownsRow w1.heap.size 95 2 v' (ys ++ [(f,t)]).length (pairs (ys ++ [(f,t)])):=by
         rw[pairs_snoc];simpa using hown'
        clear hown' hgrow;have HN1:=hid hN1;have HO1:=hid hO1;clear hN1 hO1;go_wp2_with fail;go_roundw
        case rel=>exact ⟨_,_,_,_,_,_,_,_,_,_,_,_,_,_,_,_,_,_,_,_,_,_,_,_,_,_,_,_,_,_,_,_,_,_,⟨t+1,_,by have:=HTN.out;omega,by go_num,HNX,hid (by have:=HLEN.out;simp;omega),HO1,HN1⟩,rfl⟩
        case measure=>simp[intOf];omega
       ·rw[if_neg hgt,List.append_nil] at hnx
        have hft2:f=t:=by omega
        subst hft2;have HNX:=hid hnx;clear hnx;go_wp2_with fail;go_roundw
        case rel=>exact ⟨_,_,_,_,_,_,_,_,_,_,_,_,_,_,_,_,_,_,_,_,_,_,_,_,_,_,_,_,_,_,_,_,_,_,⟨f+1,ys,by omega,by go_num,HNX,hid (by have:=HL.out;omega),HO,HN⟩,rfl⟩
        case measure=>simp[intOf];omega
    ·have htn2:t=n:=by omega
     obtain ⟨wi,hwi⟩:∃ x,x=wr:=⟨_,rfl⟩;rw[←hwi] at HNI⊢;clear hwi;have HST:=hid (Or.inl htn2:t=n∨p t=false);have hnx:=clip_next HS.out HFN.out HFT.out HTN.out HP.out HST.out;have hO2:=own_newS HO.out HNI.out;have hN2:=HN.out.trans HNI.out;clear HO HN HS;have HO:=hid hO2;have HN:=hid hN2;clear hO2 hN2
     have hgt:f < t:=by omega
     clear htn2;rw[if_pos hgt] at hnx;have hlen:=HL.out
     have hli2:(ys.length:Int)≤4096:=by omega
     have hcell2:=alloc_cells wi #[.int .i64 (f:Int),.int .i64 (t:Int)] 61
     have hc2:∀ u∈[Value.int .i64 (f:Int),.int .i64 (t:Int)],u.oneCell'=true:=by intro u hu;simp at hu;rcases hu with rfl | rfl <;> rfl
     have hti:(f:Int) < (t:Int):=by omega
     have HNX:=hid hnx;have HLEN:=hid hlen;have HCELL2:=hid hcell2;have HC2:=hid hc2;clear hnx hlen hcell2 hc2;go_wp2_with (at_builtin;refine wpList_append_own _ rfl _ _ 61 rfl w1.heap.size 95 i0 (.agg #[.int .i64 0,.int .i64 0]) 2 16 Tryz.underlying61 hi hz0 hz1 hz2 rfl (by decide) _ _ _ rfl (HO.out.alloc _) ⟨wi.heap.size,0,none⟩ 1 1 [.int .i64 (f:Int),.int .i64 (t:Int)] rfl rfl (alloc_cells _ #[.int .i64 (f:Int),.int .i64 (t:Int)] _) HC2.out (by have:=HLEN.out;unfold maxLen;omega) (by have:=HLEN.out;omega) (by have:=HN.out.size;rw[←size_alloc];omega) ?_);intro v' w9 hown' hgrow _;have hN1:=grown_newS HN.out HO.out hgrow
     have hO1:w9.ownsRow w1.heap.size 95 2 v' (ys ++ [(f,t)]).length (pairs (ys ++ [(f,t)])):=by
      rw[pairs_snoc];simpa using hown'
     clear hown' hgrow;have HN1:=hid hN1;have HO1:=hid hO1;clear hN1 hO1;go_wp2_with fail;go_roundw
     case rel=>exact ⟨_,_,_,_,_,_,_,_,_,_,_,_,_,_,_,_,_,_,_,_,_,_,_,_,_,_,_,_,_,_,_,_,_,_,⟨t+1,_,by have:=HTN.out;omega,by go_num,HNX,hid (by have:=HLEN.out;simp;omega),HO1,HN1⟩,rfl⟩
     case measure=>simp[intOf];omega
  ·have hft:n≤f:=by omega
   have hs:=HS.out;obtain ⟨k,hk⟩:∃ k,n+2 - f=k:=⟨_,rfl⟩
   have he:clipR p n k f=[]:=by
    cases k with
    | zero=>rfl
    | succ k=>show (if f < n then _ else [])=_;rw[if_neg hlt]
   rw[hk,he,List.append_nil]at hs;clear hk he;have HSS:=hid hs;have HFT:=hid hft;clear hs hft;go_wp2_with fail;go_ret2;exact ⟨_,rfl,HNW.out.trans HN.out,by rw[←HSS.out];exact World.ownsRow.mono HO.out HNW.out.size⟩
def addz (x:Nat):Nat:=if Flo.rung Ieee.single x=0 then 0 else Ieee.single.word (Flo.sgn Ieee.single x) (Flo.rung Ieee.single x)
def alFrom (f:Int):List Int→Int:=List.foldl (fun f s=>max f (-s)) f
def alTo (t:Int):List (Nat × Int)→Int:=List.foldl (fun t p=>min t ((p.1:Int) - p.2)) t
def alPairs (rs:List (List Nat))(ss:List Int):List (Nat × Int):=(rs.map List.length).zip ss
def alF (ss:List Int):Int:=alFrom (-(ss.headD 0)) ss
def alT (rs:List (List Nat))(ss:List Int):Int:=alTo (((rs.headD []).length:Int) - ss.headD 0) (alPairs rs ss)
def alPiece (f t:Int)(l:List Nat)(s:Int):List Nat:=((l.drop (f+s).toNat).take (t - f).toNat).map addz
def alPieces (f t:Int)(rs:List (List Nat))(ss:List Int):List (List Nat):=List.zipWith (alPiece f t) rs ss
theorem al_next {f0 t0:Int}{rs:List (List Nat)}{ss:List Int}{k:Nat}(hk:k < rs.length)(hs:k < ss.length):alFrom f0 (ss.take (k+1))=max (alFrom f0 (ss.take k)) (-ss[k])∧alTo t0 ((alPairs rs ss).take (k+1))=min (alTo t0 ((alPairs rs ss).take k)) ((rs[k].length:Int) - ss[k]):=by
 constructor
 ·rw[List.take_succ_eq_append_getElem hs];unfold alFrom;rw[List.foldl_append];rfl
 ·have hz:k < (alPairs rs ss).length:=by unfold alPairs;simp;omega
  rw[List.take_succ_eq_append_getElem hz];unfold alTo;rw[List.foldl_append]
  have:(alPairs rs ss)[k]=(rs[k].length,ss[k]):=by simp[alPairs]
  rw[this];rfl
theorem alFrom_le (ss:List Int):∀ f,f≤alFrom f ss∧∀ (k:Nat) (h:k < ss.length), -ss[k]≤alFrom f ss:=by
 induction ss with
 | nil=>intro f;exact ⟨Int.le_refl _,fun k h=>by simp at h⟩
 | cons s ss ih=>
  intro f;have h:=ih (max f (-s));refine ⟨Int.le_trans (by omega) h.1,fun k hk=>?_⟩
  cases k with
  | zero=>exact Int.le_trans (show -s≤max f (-s) by omega) h.1
  | succ k=>exact h.2 k (by simpa using hk)
theorem alTo_ge (ps:List (Nat × Int)):∀ t,alTo t ps≤t∧∀ (k:Nat) (h:k < ps.length),alTo t ps≤(ps[k].1:Int) - ps[k].2:=by
 induction ps with
 | nil=>intro f;exact ⟨Int.le_refl _,fun k h=>by simp at h⟩
 | cons p ps ih=>
  intro t;have h:=ih (min t ((p.1:Int) - p.2));refine ⟨Int.le_trans h.1 (by omega),fun k hk=>?_⟩
  cases k with
  | zero=>exact Int.le_trans h.1 (show min t ((p.1:Int) - p.2)≤(p.1:Int) - p.2 by omega)
  | succ k=>exact h.2 k (by simpa using hk)
theorem isFin_fin {x:Nat}(h:isFin x=true):Flo.Fin Ieee.single x:=by
 unfold isFin at h;unfold Flo.Fin;rcases Nat.lt_trichotomy (Flo.rung Ieee.single x) Ieee.single.infRung with h1 | h1 | h1
 ·exact h1
 ·rw[Flo.read_inf Ieee.single (by decide) h1] at h;cases h
 ·obtain ⟨n,hn⟩:=Flo.read_nan Ieee.single (by decide) h1;rw[hn] at h;cases h
theorem addz_add {x:Nat}(h:isFin x=true):floatBits .add .f32 x 0=some (addz x):=Flo.add_zero' Ieee.single (isFin_fin h)
theorem fins_of {l:List Nat}(h:samplesErr l=0):∀ x∈l,isFin x=true:=by
 unfold samplesErr at h;by_cases h1:4096 < l.length
 ·rw[if_pos h1] at h;omega
 ·rw[if_neg h1] at h;by_cases h2:l.all isFin=true
  ·simpa using h2
  ·rw[if_neg h2] at h;omega
theorem alPieces_get {f t:Int}{rs:List (List Nat)}{ss:List Int}{k:Nat}(hk:k < rs.length)(hs:k < ss.length):((alPieces f t rs ss).take (k+1)).map flts=((alPieces f t rs ss).take k).map flts ++ [flts (alPiece f t rs[k] ss[k])]:=by
 have hz:k < (alPieces f t rs ss).length:=by unfold alPieces;simp;omega
 rw[List.take_succ_eq_append_getElem hz,List.map_append]
 have:(alPieces f t rs ss)[k]=alPiece f t rs[k] ss[k]:=by simp[alPieces]
 rw[this];rfl
theorem Aligned_ok (a b:Option Addr) (cap cap':Nat) (rv:List Value) (rs:List (List Nat)) (ss:List Int) (w:World) (hr:RdLL w a rv (rs.map flts)) (hs:RdL w b (ints ss)) (h1:1≤rs.length) (h8:rs.length≤8) (hl:ss.length=rs.length)
  (hv:∀ (k:Nat) (h:k < rs.length),samplesErr rs[k]=0∧rs[k].length≤4096) (hw:∀ (k:Nat) (h:k < ss.length), -1000≤ss[k]∧ss[k]≤1000) (hft:alF ss < alT rs ss):
  Calls Tryz.prog 61 #[.slice a rs.length cap,.slice b rs.length cap'] w fun e w'=>∃ v,e=.returned (.tuple #[v,.int .i64 0])∧New w w'∧RowsOf w' w.heap.size 52 35 v ((alPieces (alF ss) (alT rs ss) rs ss).map flts):=by
 obtain ⟨n,hn⟩:∃ n,rs.length=n:=⟨_,rfl⟩;rw[hn] at h1 h8 hl⊢
 have hn1:(1:Int)≤(n:Int):=by omega
 have hn8:(n:Int)≤8:=by omega
 have hd1:((n:Int)==0)=false:=by rw[beq_eq_false_iff_ne];omega
 have hd2:decide ((8:Int) < (n:Int))=false:=by rw[decide_eq_false_iff_not];omega
 have HR:=hid hr;have HS:=hid hs;have HL:=hid hl;have HV:=hid hv;have HW:=hid hw;have HFT:=hid hft;have HN0:=hid hn;clear hr hs hl hv hw hft hn;go_enter Tryz.func61,Tryz.ntmps61;go_wp2_with fail;refine (pwhen_new false 12 _).mono ?_;rintro e w1 ⟨rfl,hn⟩;have HN:=hid hn;clear hn;go_wp2_with fail;refine (pwhen_new false 5 _).mono ?_;rintro e w2 ⟨rfl,hn⟩;replace HN:=tW HN hn;clear hn;go_wp2_with fail;have HN0:=HN;clear HN;obtain ⟨BG,HN⟩:=lay1 w2 29 #[.int .i64 0,.int .i64 0];have HN_:=HN0.out.trans HN.out;clear HN HN0;have HN:=hid HN_;clear HN_;refine (pfirst2_new 0 0 _ _ 29 _ BG.out).mono ?_;rintro e w3 ⟨rfl,hn⟩;replace HN:=tW HN hn;clear hn;clear BG;go_wp2_with fail;go_loopw [35] (fun i wr=>∃ (k:Nat),k≤n∧i=.int .i64 (k:Int)∧Hid (New w wr)) (fun i _=>n - (intOf i).toNat)
 case atStart=>exact ⟨0,Nat.zero_le _,rfl,HN⟩
 case round=>
  clear HN;obtain ⟨k,hk,rfl,HN⟩:=hrel;by_cases hlt:k < n
  ·have hkr:k < rs.length:=by rw[HN0.out];exact hlt
   obtain ⟨b1,off,a1,c1,rfl,hcell,hr1,hrc1⟩:=HR.out.at k (by simpa using hkr);obtain ⟨x,hx⟩:∃ x,rs[k]=x:=⟨_,rfl⟩
   have hxm:(rs.map flts)[k]'(by simpa using hkr)=flts x:=by simp[hx]
   have hxl:(flts x).length=x.length:=by simp[flts]
   rw[hxm,hxl]at hcell;rw[hxm] at hr1;clear hrc1;have hxv:=HV.out k hkr;rw[hx] at hxv;have hcall:=samples_new a1 c1 x wr (by omega) (hr1.new HN.out);rw[hxv.1] at hcall;have hcell:=HN.out.cell hcell;have HX:=hid hx;have HXM:=hid hxm;have HXL:=hid hxl;have HCALL:=hid hcall;have HXV:=hid hxv;have HR1:=hid hr1;clear hx hxm hxl hcall hxv hr1;go_wp2_with fail;refine HCALL.out.mono ?_;rintro e w4 ⟨rfl,hn⟩;clear hcell;replace HN:=tW HN hn;clear hn;go_wp2_with fail;go_roundw
   case rel=>exact ⟨k+1,by omega,by go_num,HN⟩
   case measure=>simp[intOf];omega
  ·have hkk:k=n:=by omega
   have HKK:=hid hkk;clear hkk;go_wp2_with fail;go_loopw [52] (fun i wr=>∃ (k:Nat),k≤n∧i=.int .i64 (k:Int)∧Hid (New w wr)) (fun i _=>n - (intOf i).toNat)
   case atStart=>exact ⟨0,Nat.zero_le _,rfl,HN⟩
   case round=>
    clear HN;obtain ⟨j,hj,rfl,HN⟩:=hrel;by_cases hlt2:j < n
    ·have hjs:j < ss.length:=by rw[HL.out];exact hlt2
     obtain ⟨b1,off,rfl,hcell⟩:=HS.out.int j hjs;obtain ⟨x,hx⟩:∃ x,ss[j]=x:=⟨_,rfl⟩;have hxv:=HW.out j hjs;rw[hx] at hcell hxv
     have hout:outside x (-1000) 1000=false:=by simp[outside];omega
     have hcall:=fun W=>pwithin_new x (-1000) 1000 W;simp only[hout] at hcall;have hcell:=HN.out.cell hcell;have HX:=hid hx;have HCALL:=hid hcall;have HXV:=hid hxv;have HOUT:=hid hout;clear hx hcall hxv hout;go_wp2_with fail;refine (HCALL.out _).mono ?_;rintro e w4 ⟨rfl,hn⟩;clear hcell;replace HN:=tW HN hn;clear hn;go_wp2_with fail;go_roundw
     case rel=>exact ⟨j+1,by omega,by go_num,HN⟩
     case measure=>simp[intOf];omega
    ·have hjj:j=n:=by omega
     have hr0:0 < rs.length:=by rw[HN0.out];omega
     have hs0:0 < ss.length:=by rw[HL.out];omega
     obtain ⟨b1,off,a1,c1,rfl,hcell,hr1,hrc1⟩:=HR.out.at 0 (by simpa using hr0);obtain ⟨b2,off2,rfl,hcell2⟩:=HS.out.int 0 hs0;clear hr1 hrc1;have hcell:=HN.out.cell hcell;have hcell2:=HN.out.cell hcell2;obtain ⟨s0,hs0'⟩:∃ x,ss[0]=x:=⟨_,rfl⟩;obtain ⟨l0,hl0⟩:∃ x,rs[0].length=x:=⟨_,rfl⟩
     have hxm:(flts rs[0]).length=l0:=by simp[flts,hl0]
     simp only[List.getElem_map,hxm,Nat.add_zero]at hcell;rw[hs0',Nat.add_zero] at hcell2;have hsb:=HW.out 0 hs0;rw[hs0'] at hsb;have hlb:=(HV.out 0 hr0).2;rw[hl0] at hlb;have hwa:wrap64 (-s0)= -s0:=ld_in (by omega) (by omega)
     have hwb:IntKind.i64.wrap (-s0)= -s0:=by rw[IntKind.wrap_i64];omega
     have hwc:wrap64 ((l0:Int) - s0)=(l0:Int) - s0:=ld_in (by omega) (by omega)
     have hwd:IntKind.i64.wrap ((l0:Int) - s0)=(l0:Int) - s0:=by rw[IntKind.wrap_i64];omega
     have HJJ:=hid hjj;have HS0:=hid hs0';have HL0:=hid hl0;have HXM:=hid hxm;have HSB:=hid hsb;have HLB:=hid hlb;clear hjj hs0' hl0 hxm hsb hlb;go_wp2_with fail
     go_quiet (fail)
     go_wp2_with fail;clear hcell hcell2 hwa hwb hwc hwd;go_loopw [13,14,76] (fun fx tx i wr=>∃ (k:Nat) (f t:Int),k≤n∧fx=.int .i64 f∧tx=.int .i64 t∧i=.int .i64 (k:Int)∧Hid (alFrom (-s0) (ss.take k)=f)∧Hid (alTo ((l0:Int) - s0) ((alPairs rs ss).take k)=t)∧Hid (-1000≤f∧f≤1000∧ -1000≤t∧t≤6000)∧Hid (New w wr)) (fun _ _ i _=>n - (intOf i).toNat)
     case atStart=>
      have hsb:=HSB.out;have hlb:=HLB.out;exact ⟨0,_,_,Nat.zero_le _,rfl,rfl,rfl,hid rfl,hid rfl,hid ⟨by omega,by omega,by omega,by omega⟩,hid (HN.out.drewN nq)⟩
     case round=>
      clear HN;obtain ⟨k,f,t,hk,rfl,rfl,rfl,HF,HT,HB,HN⟩:=hrel;by_cases hlt3:k < n
      ·have hkr:k < rs.length:=by rw[HN0.out];exact hlt3
       have hks:k < ss.length:=by rw[HL.out];exact hlt3
       obtain ⟨b1',off',a1,c1,hab1,hcell,hr1,hrc1⟩:=HR.out.at k (by simpa using hkr);obtain ⟨b2',off2',hab2,hcell2⟩:=HS.out.int k hks;injection hab1 with hab1;injection hab1 with hab1 hab1';injection hab2 with hab2;injection hab2 with hab2 hab2';subst hab1 hab1' hab2 hab2';clear hr1 hrc1;obtain ⟨s,hs0'⟩:∃ x,ss[k]=x:=⟨_,rfl⟩;obtain ⟨l,hl0⟩:∃ x,rs[k].length=x:=⟨_,rfl⟩
       have hxm:(flts rs[k]).length=l:=by simp[flts,hl0]
       simp only[List.getElem_map,hxm]at hcell;rw[hs0'] at hcell2;have hcell:=HN.out.cell hcell;have hcell2:=HN.out.cell hcell2;have hsb:=HW.out k hks;rw[hs0'] at hsb;have hlb:=(HV.out k hkr).2;rw[hl0] at hlb;have hwa:wrap64 (-s)= -s:=ld_in (by omega) (by omega)
       have hwb:IntKind.i64.wrap (-s)= -s:=by rw[IntKind.wrap_i64];omega
       have hwc:wrap64 ((l:Int) - s)=(l:Int) - s:=ld_in (by omega) (by omega)
       have hwd:IntKind.i64.wrap ((l:Int) - s)=(l:Int) - s:=by rw[IntKind.wrap_i64];omega
       have hnx:=al_next (f0:= -s0) (t0:=(l0:Int) - s0) hkr hks;rw[hs0',HF.out,HT.out,hl0] at hnx;have hbb:=HB.out;have HS1:=hid hs0';have HL1:=hid hl0;have HXM1:=hid hxm;have HNX:=hid hnx;have HBB:=hid hbb;have HSB1:=hid hsb;have HLB1:=hid hlb;clear hs0' hl0 hxm hnx hbb hsb hlb;go_wp2_with fail
       go_quiet (fail)
       go_wp2_with fail;go_roundw
       case rel=>
        have hsb:=HSB1.out;have hlb:=HLB1.out;have hbb:=HBB.out;exact ⟨k+1,_,_,by omega,rfl,rfl,by go_num,hid HNX.out.1,hid HNX.out.2,hid ⟨by omega,by omega,by omega,by omega⟩,hid (HN.out.drewN nq)⟩
       case measure=>simp[intOf];omega
      ·have hkk3:k=n:=by omega
       have hnr:rs.length=n:=HN0.out
       have hff:f=alF ss:=by
        rw[←HF.out,hkk3,←HL.out,List.take_length];unfold alF;congr 2;rw[←HS0.out,List.headD_eq_head?_getD,List.head?_eq_getElem?,List.getElem?_eq_getElem hs0];rfl
       have htt:t=alT rs ss:=by
        rw[←HT.out,List.take_of_length_le (by unfold alPairs;simp;omega)];unfold alT;congr 2
        ·rw[←HL0.out,List.headD_eq_head?_getD,List.head?_eq_getElem?,List.getElem?_eq_getElem hr0];rfl
        ·rw[←HS0.out,List.headD_eq_head?_getD,List.head?_eq_getElem?,List.getElem?_eq_getElem hs0];rfl
       have hlt4:f < t:=by rw[hff,htt];exact HFT.out
       have hge:¬t≤f:=by omega
       have hal:∀ (j:Nat) (h:j < ss.length), -ss[j]≤f:=by
        rw[hff];exact (alFrom_le ss _).2
       have htl:∀ (j:Nat) (h:j < rs.length) (h':j < ss.length),t≤(rs[j].length:Int) - ss[j]:=by
        intro j h h';rw[htt];have:=(alTo_ge (alPairs rs ss) (((rs.headD []).length:Int) - ss.headD 0)).2 j (by unfold alPairs;simp;omega)
        have e:(alPairs rs ss)[j]'(by unfold alPairs;simp;omega)=(rs[j].length,ss[j]):=by simp[alPairs]
        rw[e]at this;exact this
       have hbb:=HB.out;obtain ⟨i0,hi,hz0,hz1,hz2⟩:=info_parts info_fsl;clear HF HT HB hkk3 HFT;have HFF:=hid hff;have HTT:=hid htt;have HAL:=hid hal;have HTL:=hid htl;have HBB:=hid hbb;have HNR:=hid hnr;clear hff htt hal htl hbb hnr;go_wp2_with fail;obtain ⟨w8,hw8⟩:∃ x,x=wr:=⟨_,rfl⟩;rw[←hw8] at HN⊢;clear hw8;go_loopw [17,100] (fun v i wr=>∃ (k:Nat),k≤n∧i=.int .i64 (k:Int)∧Hid (RowsOf wr w8.heap.size 52 35 v (((alPieces f t rs ss).take k).map flts))∧Hid (New w8 wr)) (fun _ i _=>n - (intOf i).toNat)
       case atStart=>exact ⟨0,Nat.zero_le _,rfl,hid (RowsOf.nil _ _ _ _),hid (New.refl _)⟩
       case round=>
        obtain ⟨k,hk,rfl,HO,HM⟩:=hrel;by_cases hlt5:k < n
        ·have hkr:k < rs.length:=by rw[HN0.out];exact hlt5
         have hks:k < ss.length:=by rw[HL.out];exact hlt5
         obtain ⟨b1',off',a1,c1,hab1,hcell,hr1,hrc1⟩:=HR.out.at k (by simpa using hkr);obtain ⟨b2',off2',hab2,hcell2⟩:=HS.out.int k hks;injection hab1 with hab1;injection hab1 with hab1 hab1';injection hab2 with hab2;injection hab2 with hab2 hab2';subst hab1 hab1' hab2 hab2';obtain ⟨s,hs0'⟩:∃ x,ss[k]=x:=⟨_,rfl⟩;obtain ⟨rk,hrk⟩:∃ x,rs[k]=x:=⟨_,rfl⟩;obtain ⟨l,hl0⟩:∃ x,rk.length=x:=⟨_,rfl⟩
         have hxm:(flts rk).length=l:=by simp[flts,hl0]
         simp only[List.getElem_map,hrk,hxm]at hcell hr1 hrc1;rw[hs0'] at hcell2;have hcell:=(HN.out.trans HM.out).cell hcell;have hcell2:=(HN.out.trans HM.out).cell hcell2;have hsb:=HW.out k hks;rw[hs0'] at hsb;have hvv:=HV.out k hkr;rw[hrk] at hvv;have h1:=HAL.out k hks;rw[hs0'] at h1;have h2:=HTL.out k hkr hks;rw[hs0',hrk,hl0] at h2;have hbb:=HBB.out;obtain ⟨lo,hlo⟩:∃ lo:Nat,(lo:Int)=f+s:=⟨(f+s).toNat,by omega⟩;obtain ⟨up,hhi⟩:∃ hi:Nat,(hi:Int)=t+s:=⟨(t+s).toNat,by omega⟩;obtain ⟨b3,off3,rfl, -⟩:=hr1 0 (by rw[hxm];omega)
         have hla:wrap64 (f+s)=(lo:Int):=by rw[ld_in (by omega) (by omega)];omega
         have hlb:IntKind.i64.wrap (f+s)=(lo:Int):=by rw[IntKind.wrap_i64];omega
         have hha:wrap64 (t+s)=(up:Int):=by rw[ld_in (by omega) (by omega)];omega
         have hhb:IntKind.i64.wrap (t+s)=(up:Int):=by rw[IntKind.wrap_i64];omega
         have hlh:lo < up:=by omega
         have hhl:up≤l:=by omega
         have hhc:up≤c1:=by omega
         have hl4:up≤4096:=by omega
         obtain ⟨pc,hpc⟩:∃ pc,alPiece f t rk s=pc:=⟨_,rfl⟩
         have hpc2:((rk.drop lo).take (up - lo)).map addz=pc:=by
          rw[←hpc];unfold alPiece
          have e1:(f+s).toNat=lo:=by omega
          have e2:(t - f).toNat=up - lo:=by omega
          rw[e1,e2]
         have hplen:((rk.drop lo).take (up - lo)).length=up - lo:=by rw[List.length_take,List.length_drop];omega
         have hcall:∀ W,New w W→Calls Tryz.prog 122 #[.slice (some ⟨b3,off3+lo,none⟩) (up - lo) (c1 - lo),.func (.func 123) #[] #[]] W (RowRet W 35 (flts pc)):=by
          intro W hW
          have hfl:(flts ((rk.drop lo).take (up - lo))).length=up - lo:=by simp only[flts,List.length_map];exact hplen
          have:=mapped_align (some ⟨b3,off3+lo,none⟩) (c1 - lo) (flts ((rk.drop lo).take (up - lo))) pc W (by rw[←hpc2];simp[flts]) (by rw[hfl];omega)
           (fun i hi=>by
            rw[hfl]at hi;obtain ⟨b4,off4,e4,hc4⟩:=hr1 (lo+i) (by rw[hxm];omega);injection e4 with e4;injection e4 with e4 e5;subst e4 e5;refine ⟨_,_,rfl,?_⟩;rw[Nat.add_assoc,hW.cell hc4]
            simp[flts])
           (fun i h1 h2 W' _=>by
            have hx:i < ((rk.drop lo).take (up - lo)).length:=by simpa[flts] using h1
            have e5:(flts ((rk.drop lo).take (up - lo)))[i]=.float .f32 (((rk.drop lo).take (up - lo))[i]):=by simp[flts]
            have e6:pc[i]=addz (((rk.drop lo).take (up - lo))[i]):=by simp[←hpc2]
            rw[e5,e6]
            exact aligned1_calls _ _ W' (addz_add (fins_of hvv.1 _ (List.mem_of_mem_drop (List.mem_of_mem_take (List.getElem_mem hx))))))
          rw[hfl]at this;exact this
         clear hr1;have hnx:=alPieces_get (f:=f) (t:=t) hkr hks;rw[hrk,hs0',hpc] at hnx;have HCALL:=hid hcall;have HNX:=hid hnx;have HS1:=hid hs0';have HRK:=hid hrk;have HL1:=hid hl0;have HXM1:=hid hxm;have HPC:=hid hpc;have HPC2:=hid hpc2;have HPL:=hid hplen;have HVV:=hid hvv;have H1:=hid h1;have H2:=hid h2;have HSB1:=hid hsb;have HRC1:=hid hrc1;have HLO:=hid hlo;have HHI:=hid hhi;have HBB1:=hid hbb;clear hcall hnx hs0' hrk hl0 hxm hpc hpc2 hplen hvv h1 h2 hsb hrc1 hlo hhi hbb;go_wp2_with fail;refine (HCALL.out _ (HN.out.trans HM.out)).mono ?_;rintro e w9 ⟨v9,rfl,hn,hrow⟩;have hO2:=HO.out;obtain ⟨vs,r1,r2,r3⟩:=hO2;have r1':=own_newS r1 hn
         have hvl:vs.length=k:=by rw[r2];simp[alPieces];omega
         have hrow':w9.ownsRow wr.heap.size 35 1 v9 (flts pc).length (flts pc):=hrow
         have hv9:∃ (a9:Option Addr) (c9:Nat),v9=.slice a9 (flts pc).length c9:=by
          obtain ⟨a9,c9,e9,_,_⟩:=own_rd hrow';exact ⟨a9,c9,e9⟩
         obtain ⟨a9,c9,rfl⟩:=hv9
         have h1c:∀ u∈[Value.slice a9 (flts pc).length c9],u.oneCell'=true:=by intro u hu;simp at hu;rw[hu];rfl
         have hM2:=HM.out.trans hn;have hms:=HM.out.size;clear hcell hcell2 hrow;have R1:=hid r1;have R1N:=hid r1';have R2:=hid r2;have R3:=hid r3;have HVL:=hid hvl;have HROW:=hid hrow';have H1C:=hid h1c;have HM2:=hid hM2;have HN9:=hid hn;have HMS:=hid hms;clear r1 r1' r2 r3 hvl hrow' h1c hM2 hn hms;go_wp2_with (at_builtin;refine wpList_append_own_at _ rfl _ _ 109 rfl w8.heap.size 52 i0 (.slice none 0 0) 1 24 Tryz.underlying109 hi hz0 hz1 hz2 rfl (by decide) _ _ _ rfl (World.ownsRow.alloc R1N.out _) ⟨w9.heap.size,0,none⟩ 1 1 [.slice a9 (flts pc).length c9] rfl rfl (one_c1 _ _ _) H1C.out (by have:=HVL.out;unfold maxLen;omega) (by have:=HVL.out;omega) (by have:=HM2.out.size;rw[←size_alloc];omega) ?_);intro v' w10 hown' hgrow _ hat;have hN1:=grown_newS HM2.out R1N.out hgrow;have hO1:=RowsOf.snoc R1.out R2.out R3.out HN9.out HROW.out HMS.out hown' hgrow hat;rw[←HNX.out] at hO1;clear hown' hgrow hat;have HN1:=hid hN1;have HO1:=hid hO1;clear hN1 hO1;go_wp2_with fail;go_roundw
         case rel=>exact ⟨k+1,by omega,by go_num,HO1,HN1⟩
         case measure=>simp[intOf];omega
        ·have hkk5:k=n:=by omega
         have hO:=HO.out;rw[List.take_of_length_le (by unfold alPieces;have:=HNR.out;have:=HL.out;simp;omega)] at hO;clear HO;have HO:=hid hO;have HKK5:=hid hkk5;clear hO hkk5;go_wp2_with fail;go_ret2;exact ⟨_,rfl,HN.out.trans HM.out,by rw[←HFF.out,←HTT.out];exact HO.out.mono HN.out.size⟩
attribute [local go_sem] Oper.semAt_some
def wordAt (ls:List (List Bool))(t:Nat):Nat:=ls.zipIdx.foldl (fun (acc:Nat) (p:List Bool × Nat)=>if p.1.getD t false then acc ||| 2^p.2 else acc) 0
def wordsOf (ls:List (List Bool))(n:Nat):List Nat:=(List.range n).map (wordAt ls)
theorem wordAt_snoc (ls:List (List Bool))(x:List Bool)(t:Nat):wordAt (ls ++ [x]) t=if x.getD t false then wordAt ls t ||| 2^ls.length else wordAt ls t:=by
 unfold wordAt;rw[List.zipIdx_append,List.foldl_append];simp
theorem fold_lt (t:Nat):∀ (ls:List (List Bool)) (k acc:Nat),acc < 2^k→(ls.zipIdx k).foldl (fun (acc:Nat) (p:List Bool × Nat)=>if p.1.getD t false then acc ||| 2^p.2 else acc) acc < 2^(k+ls.length):=by
 intro ls
 induction ls with
 | nil=>intro k acc h;simpa using h
 | cons x ls ih=>
  intro k acc h;rw[List.zipIdx_cons,List.foldl_cons]
  have e:k+(x::ls).length=k+1+ls.length:=by simp;omega
  rw[e];refine ih (k+1) _ ?_;have h1:2^k < 2^(k+1):=Nat.pow_lt_pow_right (by decide) (by omega);dsimp only;split
  ·exact Nat.or_lt_two_pow (by omega) h1
  ·omega
theorem wordAt_lt (t:Nat)(ls:List (List Bool)):wordAt ls t < 2^ls.length:=by
 have:=fold_lt t ls 0 0 (by decide);rw[Nat.zero_add] at this;exact this
def KeepW (n₀ Bn:Nat)(W W':World):Prop:=Below n₀ W W'∧W'.heap[Bn]?=W.heap[Bn]?
theorem KeepW.t {n₀ Bn:Nat}{A C D:World}(h:KeepW n₀ Bn A C)(k:KeepW n₀ Bn C D):KeepW n₀ Bn A D:=⟨h.1.trans k.1,k.2.trans h.2⟩
theorem KeepW.b {n₀ Bn:Nat}{w:World}(hn:n₀≤w.heap.size)(hB:Bn < w.heap.size)(W:World)(l:Nat)(o o':Obj)(hl:w.heap.size≤l)(h:W.heap[l]?=some o)(h1:o.isCells=false)(h2:o.isWalk=false):KeepW n₀ Bn W (W.putObj l o'):=by
 refine ⟨belowK_b hn W l o o' hl h h1 h2,(grownBy_putObj' W l o').block Bn ?_ (by intro e;injection e with e;omega)⟩;have:=(Array.getElem?_eq_some_iff.1 h).1;omega
theorem wrap16_in {p:Nat}(h:p < 65536):IntKind.u16.wrap (p:Int)=(p:Int):=by rw[IntKind.wrap_u16];omega
theorem bits_or16' (x p:Nat)(hx:x < 65536)(hp:p < 65536):bits .or .u16 (x:Int) (p:Int)=((x ||| p:Nat):Int):=by
 have h1:(BitVec.ofInt 16 (x:Int)).toNat=x:=by rw[BitVec.ofInt_natCast,BitVec.toNat_ofNat];exact Nat.mod_eq_of_lt hx
 have h2:(BitVec.ofInt 16 (p:Int)).toNat=p:=by rw[BitVec.ofInt_natCast,BitVec.toNat_ofNat];exact Nat.mod_eq_of_lt hp
 show IntKind.u16.wrap ((BitVec.ofInt 16 (x:Int) ||| BitVec.ofInt 16 (p:Int)).toNat:Int)=_;rw[BitVec.toNat_or,h1,h2];exact wrap16_in (Nat.or_lt_two_pow (n:=16) hx hp)
theorem bits_or16 (x j:Nat)(hx:x < 65536)(hj:j < 16):bits .or .u16 (x:Int) (IntKind.u16.wrap (2^j))=((x ||| 2^j:Nat):Int):=by
 have h0:(2:Nat)^j < 65536:=Nat.pow_lt_pow_right (n:=16) (by decide) hj
 have e:(2:Int)^j=((2^j:Nat):Int):=by simp
 rw[e,wrap16_in h0];exact bits_or16' x _ hx h0
theorem columns1_in (F:Fence) (n:Nat) (hF:F.fn 174) (hro:F.round=none) (hn:1≤n) (l Bn:Nat) (a:Option Addr) (cap m:Nat) (rv:List Value) (ls:List (List Bool)) (w:World) (hr:RdLL w a rv (ls.map bools)) (hm:∀ x∈ls,x.length=m) (h1:1≤ls.length) (h16:ls.length≤16) (hm4:m≤4096)
  (J Jx:List Nat→World→Prop)
  (hY:∀ pre x W,J pre W→pre.length < m→YieldAt F (n - 1) Tryz.prog l #[.int .u16 ((x:Nat):Int)] W fun e W'=>
   (e=.returned (.bool true)∧J (pre ++ [x]) W'∧KeepW w.heap.size Bn W W')∨(e=.returned (.bool false)∧Jx (pre ++ [x]) W'))
  (W:World) (hW:New w W) (hBn:W.cell? ⟨Bn,0,none⟩=some (.slice a ls.length cap)) (h0:J [] W):
  CallsIn F n Tryz.prog 174 #[.func (.yield l) #[] #[],.pointer (some ⟨Bn,0,none⟩)] W fun e W'=>(∃ v,e=.returned v)∧
   ((∃ ys,ys=wordsOf ls m∧J ys W')∨(∃ pre,pre <+:wordsOf ls m∧Jx pre W')):=by
 obtain ⟨N,hN⟩:∃ N,ls.length=N:=⟨_,rfl⟩;rw[hN] at h1 h16 hBn
 have h1i:(1:Int)≤(N:Int):=by omega
 have h16i:(N:Int)≤16:=by omega
 have hm4i:(m:Int)≤4096:=by omega
 obtain ⟨b,off,a0,c0,rfl,hcell0,hr0,hrc0⟩:=hr.at 0 (by simp;omega)
 have hl0:((ls.map bools)[0]'(by simp;omega)).length=m:=by
  simp only[List.getElem_map,bools,List.length_map];exact hm _ (List.getElem_mem _)
 rw[hl0,Nat.add_zero]at hcell0;have hc0:=hW.cell hcell0;clear hl0 hr0 hrc0 hcell0;have HR:=hid hr;have HM:=hid hm;have HY:=hid hY;have HW:=hid hW;have HN:=hid hN;have H0:=hid h0;clear hr hm hY hW hN h0;refine callsIn_of_wp Tryz.func174 rfl hF ?_ hro;simp only[Tryz.ntmps174,List.size_toArray,List.length_cons,List.length_nil,Nat.reduceAdd,Nat.reduceSub,Array.replicate_succ,Array.replicate_zero,List.push_toArray,List.append_toArray,List.nil_append,List.cons_append]
 gi_wp2
 clear hc0
 gi_loopw [11] (fun i wr=>∃ (k:Nat),k≤m∧i=.int .i64 (k:Int)∧Hid (J ((List.range k).map (wordAt ls)) wr)∧Hid (New w wr)∧Hid (wr.cell? ⟨Bn,0,none⟩=some (.slice (some ⟨b,off,none⟩) N cap))) (fun i _=>m - (intOf i).toNat)
 case atStart=>exact ⟨0,Nat.zero_le _,rfl,H0,HW,hid hBn⟩
 case round=>
  clear hBn;obtain ⟨k,hk,rfl,HJ,HNW,HBN⟩:=hrel;have hBn:=HBN.out;by_cases hlt:k < m
  ·gi_wp2
   obtain ⟨w1,hw1⟩:∃ x,x=wr:=⟨_,rfl⟩;rw[←hw1] at HJ HNW HBN hBn⊢;clear hw1
   gi_loopw [4,16] (fun wd i wx=>∃ (j:Nat),j≤N∧i=.int .i64 (j:Int)∧wd=.int .u16 ((wordAt (ls.take j) k:Nat):Int)∧wx=w1) (fun _ i _=>N - (intOf i).toNat)
   case atStart=>exact ⟨0,Nat.zero_le _,rfl,rfl,rfl⟩
   case round=>
    obtain ⟨j,hj,rfl,rfl,rfl⟩:=hrel;by_cases hlt2:j < N
    ·have hjl:j < ls.length:=by rw[HN.out];exact hlt2
     obtain ⟨b',off',a1,c1,hab,hcell,hr1, -⟩:=HR.out.at j (by simpa using hjl);injection hab with hab;injection hab with hab hab';subst hab hab';obtain ⟨x,hx⟩:∃ x,ls[j]=x:=⟨_,rfl⟩;have hxl:x.length=m:=HM.out x (by rw[←hx];exact List.getElem_mem hjl)
     have hxb:(ls.map bools)[j]'(by simpa using hjl)=bools x:=by simp[hx]
     have hxbl:(bools x).length=m:=by simp[bools,hxl]
     rw[hxb,hxbl]at hcell;rw[hxb] at hr1
     obtain ⟨b2,off2,rfl,hcell2⟩:∃ b2 off2,a1=some ⟨b2,off2,none⟩∧w.cell? ⟨b2,off2+k,none⟩=some (.bool (x.getD k false)):=by
      obtain ⟨b2,off2,e1,e2⟩:=hr1.bool k (by rw[hxl];exact hlt);refine ⟨b2,off2,e1,?_⟩;rw[e2,List.getD_eq_getElem?_getD,List.getElem?_eq_getElem (by rw[hxl];exact hlt)];rfl
     replace hcell:=HNW.out.cell hcell;replace hcell2:=HNW.out.cell hcell2;obtain ⟨y,hgd⟩:∃ y,x.getD k false=y:=⟨_,rfl⟩;rw[hgd] at hcell2;have hnx:=wordAt_snoc (ls.take j) x k;rw[←hx,←List.take_succ_eq_append_getElem hjl,hx,hgd,List.length_take,Nat.min_eq_left (by omega)] at hnx;have hwl:=wordAt_lt k (ls.take j);rw[List.length_take,Nat.min_eq_left (by omega)] at hwl;clear hr1;clear hxb hxbl;have HX:=hid hx;have HXL:=hid hxl;have HGD:=hid hgd;have HWL:=hid hwl;clear hx hxl hgd hwl
     cases y with
     | true=>
      rw[if_pos rfl]at hnx;have HNX:=hid hnx;clear hnx;have hb16:=bits_or16 (wordAt (ls.take j) k) j (Nat.lt_of_lt_of_le HWL.out (Nat.pow_le_pow_right (n:=2) (by decide) (show j≤16 by omega))) (by omega);have HB16:=hid hb16;clear hb16
      gi_wp2
      go_roundw
      case rel=>exact ⟨j+1,by omega,by go_num,by rw[HNX.out,HB16.out],trivial⟩
      case measure=>simp[intOf];omega
     | false=>
      rw[if_neg (by decide)]at hnx;have HNX:=hid hnx;clear hnx
      gi_wp2
      go_roundw
      case rel=>exact ⟨j+1,by omega,by go_num,by rw[HNX.out],trivial⟩
      case measure=>simp[intOf];omega
    ·have hjn:j=N:=by omega
     have hwk:wordAt (ls.take j) k=wordAt ls k:=by rw[hjn,List.take_of_length_le (by rw[HN.out];exact Nat.le_refl _)]
     obtain ⟨x,hx⟩:∃ x,wordAt ls k=x:=⟨_,rfl⟩;rw[hwk,hx];clear hwk;obtain ⟨fn,tmps,assign,body,hy,hR⟩:=HY.out _ x wr HJ.out (by simpa using hlt)
     have hpre:(List.range k).map (wordAt ls) ++ [x]=(List.range (k+1)).map (wordAt ls):=by rw[List.range_succ,List.map_append,List.map_singleton,hx]
     rw[hpre]at hR;have hBn:=HBN.out
     gi_wp2
     refine hR.mono ?_;rintro e W3 (⟨rfl,hJ3,hk3⟩ | ⟨rfl,hJx3⟩)
     ·have hB3:W3.cell? ⟨Bn,0,none⟩=some (.slice (some ⟨b,off,none⟩) N cap):=by
       rw[World.cell?_of_block (a:=⟨Bn,0,none⟩) hk3.2];exact HBN.out
      have hN3:New w W3:=Below.trans HNW.out hk3.1;clear hk3;have HB3:=hid hB3;have HN3:=hid hN3;have HJ3:=hid hJ3;clear hB3 hN3 hJ3
      gi_wp2
      go_roundw
      case rel=>exact ⟨k+1,by omega,by go_num,HJ3,HN3,HB3⟩
      case measure=>simp[intOf];omega
     ·gi_wp2
      refine bodyPost_ret (results_none rfl _ _ _) rfl ?_;refine ⟨⟨_,rfl⟩,.inr ⟨_,?_,hJx3⟩⟩
      have ht:(List.range (k+1)).map (wordAt ls)=(wordsOf ls m).take (k+1):=by
       unfold wordsOf;rw[←List.map_take,List.take_range,Nat.min_eq_left (by omega)]
      rw[ht];exact List.take_prefix _ _
  ·have hkm:k=m:=by omega
   have hJ:=HJ.out;rw[hkm] at hJ;have HJJ:=hid hJ;have HKM:=hid hkm;clear hJ hkm
   gi_wp2
   go_end0
   exact ⟨⟨_,rfl⟩,.inl ⟨_,rfl,HJJ.out⟩⟩
end Go.Proofs.YtbkcjmojgglbkaaGreatDoor
