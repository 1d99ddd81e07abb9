/- Part CardQz03. -/
import Derived.Deep.DeepCutAuto
import Derived.Laws.AppendOwnNone
import Derived.Laws.FloatArith
import Derived.Lib.SmallJoins
import Derived.Maps.AppendAt
import Derived.Test.YtbkcjmojgglbkaaGreatDoorCardQz02
namespace Go.Proofs.YtbkcjmojgglbkaaGreatDoor
open Go.RowKit Big Go.Lib Go.ChangeShapes Go.WideShapes Go.Deep
set_option maxRecDepth 100000
set_option maxHeartbeats 8000000
theorem own_read {w:World}{base:Nat}{e:TypeId}{v:Value}{n:Nat}{xs:List Value}(h:w.ownsRow base e 1 v n xs)(_hn:xs.length=n){m:Nat}(hm:n=m):∃ a c,v=.slice a m c∧RdL w a xs:=by
 subst hm;obtain ⟨a,c,e,hr, -⟩:=own_rd h;exact ⟨a,c,e,hr⟩
theorem flts_len (l:List Nat):(flts l).length=l.length:=by simp[flts]
theorem ints_len (l:List Int):(ints l).length=l.length:=by simp[ints]
theorem strs_cell (l:List ByteArray):∀ u∈strs l,u.oneCell'=true:=by intro u hu;simp[strs] at hu;obtain ⟨x, -,rfl⟩:=hu;rfl
theorem rats_of:∀ (l:List ByteArray),rowErr l=0→∃ qs:List Rat,qs.length=l.length∧∀ (k:Nat) (h1:k < l.length) (h2:k < qs.length),(l[k]).data.toList=ratText qs[k]∧Fits qs[k]:=by
 intro l
 induction l with
 | nil=>intro _;exact ⟨[],rfl,fun k h1=>by cases h1⟩
 | cons v l ih=>
  intro h;unfold rowErr at h;by_cases h0:ratErr v.data.toList=0
  ·rw[if_pos h0] at h;obtain ⟨qs,hl,hq⟩:=ih h;obtain ⟨q,hf,hv⟩:=ratText_of_err h0;refine ⟨q::qs,by simp[hl],fun k h1 h2=>?_⟩
   cases k with
   | zero=>exact ⟨hv,hf⟩
   | succ k=>exact hq k (by simpa using h1) (by simpa using h2)
  ·rw[if_neg h0] at h;exact absurd h h0
section
variable {H:Type} {enc:TypeId × Value→H} {P:Program} {w:World} {base:Nat} {sp:Nat→Bool} {held:Bool}
theorem in_rats {t e:TypeId}{r:Reach}{b0:Nat}{v:Value}{d:DataW H}{p:List MemPlace}(ht:P.underlying t=some (.slice e))(he:P.underlying e=some .string)(hc:P.cellsOf e=1)(hval:Value.okWide P w r b0 t v)(h:DataW.Trod enc P w base sp held t v d p):
  ∃ (a:Option Addr) (cap:Nat) (vs:List ByteArray),v=.slice a vs.length cap∧RdL w a (strs vs)∧(a=none→cap=0)∧vs.length≤cap∧cap≤maxLen∧∀ (k:Nat) (h:k < vs.length),(vs[k].size:Int)≤9223372036854775807:=by
 obtain ⟨fuel,hf⟩:=h;rw[slice_cells ht hval] at hf;obtain ⟨a,cap,us,h1,h2,h3,h4,h5,h6⟩:=in_slice1 ht hc hf
 have h7:∀ u∈us,∃ x:ByteArray,u=.string x∧x.size≤9223372036854775807:=fun u hu=>by
  obtain ⟨n,y,hy⟩:=h6 u hu;exact trod_str' he hy
 obtain ⟨vs,rfl⟩:∃ vs,us=strs vs:=exists_map fun u hu=>by
  obtain ⟨x,hx,_⟩:=h7 u hu;exact ⟨x,hx⟩
 have hl:(strs vs).length=vs.length:=by simp[strs]
 rw[hl]at h1 h4;refine ⟨a,cap,vs,by simpa using h1,h2,h3,h4,h5,fun k hk=>?_⟩;obtain ⟨x',e1,e2⟩:=h7 (.string vs[k]) (by simp only[strs,List.mem_map];exact ⟨_,List.getElem_mem hk,rfl⟩);injection e1 with e1;rw[←e1] at e2;omega
end
def absQ (q:Rat):Rat:=if q.num < 0 then -q else q
theorem rabs_calls (q:Rat)(w:World)(_hl:(rs q).size≤1000000):Calls Tryz.prog 51 #[.string (rs q)] w (RetS w (absQ q)):=by
 have hsg:=fun W=>rsign_calls q W;by_cases h:q.num < 0
 ·have hq:absQ q= -q:=by unfold absQ;rw[if_pos h]
  rw[Int.sign_eq_neg_one_of_neg h]at hsg;obtain ⟨s,hs, -,hl2,h0, -⟩:=rs_facts_neg h
  have hr:rs (-q)=s.extract 1 s.size:=by
   apply ByteArray.ext;apply Array.toList_inj.1;rw[rs_list,Lib.extract_to_end,hl2];rfl
  have h1:(1:Int)≤(s.size:Int):=by omega
  rw[hq];rw[hs] at hsg⊢;clear hs h hl2 _hl h0 hq;have HSG:=hid hsg;have HR:=hid hr;clear hsg hr;go_enter Tryz.func51,Tryz.ntmps51;go_wp2_with fail;refine (HSG.out _).mono ?_;rintro e w1 ⟨rfl,hw1⟩;rw[hw1];clear hw1;go_wp2_with fail;go_ret;exact ⟨by rw[HR.out];rfl,New.refl _⟩
 ·have hq:absQ q=q:=by unfold absQ;rw[if_neg h]
  rw[hq];have hs0:¬q.num.sign < 0:=fun h2=>h (Int.sign_neg_iff.1 h2);obtain ⟨sg,hsgn⟩:∃ sg,q.num.sign=sg:=⟨_,rfl⟩;simp only[hsgn] at hsg;rw[hsgn] at hs0;have hsd:decide (sg < 0)=false:=decide_eq_false hs0;obtain ⟨s,hs⟩:∃ s,rs q=s:=⟨_,rfl⟩;have hr:rs q=s:=hs;rw[hs] at hsg;have hs2:=hs;unfold RetS;rw[hs];clear hs hs2 h hq hsgn _hl hr;have HSG:=hid hsg;clear hsg;go_enter Tryz.func51,Tryz.ntmps51;go_wp2_with fail;refine (HSG.out _).mono ?_;rintro e w1 ⟨rfl,hw1⟩;rw[hw1];clear hw1;go_wp2_with fail;go_ret;exact ⟨rfl,New.refl _⟩
theorem rnum_calls (k:Nat)(q:Rat)(w:World)(hq:RFB k q)(hk:k≤40000):Calls Tryz.prog 106 #[.string (rs q)] w (RetS w (q.num:Rat)):=by
 have hsz:=hq.len;have hsl:=fun W=>rslash_calls (rs q) W (by omega)
 have e1:upTo (rs q).data.toList=itoa q.num:=by
  rw[rs_list];unfold ratText;split
  ·exact (split_plain (slashed_itoa' _)).1
  ·exact (parts_itoa' _ _).1
 have h1:=itoa_len2 hq.num
 have hle:(itoa q.num).length≤(rs q).size:=by
  have:=sl_len (rs q).data.toList;rw[e1] at this;simpa using this
 simp only[e1]at hsl
 have hr:rs (q.num:Rat)=(rs q).extract 0 (itoa q.num).length:=by
  apply ByteArray.ext;apply Array.toList_inj.1;rw[rs_list,ratText_int,Lib.extract_data];show _=((rs q).data.toList.take _);rw[rs_list];unfold ratText;split
  ·rw[Nat.sub_zero,List.take_length]
  ·rw[Nat.sub_zero,List.take_left]
 obtain ⟨m,hm⟩:∃ m,(itoa q.num).length=m:=⟨_,rfl⟩;obtain ⟨s,hs⟩:∃ s,rs q=s:=⟨_,rfl⟩;unfold RetS;rw[hm,hs] at hr;rw[hm,hs] at hle;simp only[hm,hs] at hsl;rw[hs,hr]
 have hmi:(m:Int)≤(s.size:Int):=by omega
 clear hs hm e1 h1 hr hq hk hsz hle;have HSL:=hid hsl;clear hsl;go_enter Tryz.func106,Tryz.ntmps106;go_wp2_with fail;refine (HSL.out _).mono ?_;rintro e w1 ⟨rfl,hw1⟩;rw[hw1];clear hw1;go_wp2_with fail;go_ret;exact ⟨rfl,New.refl _⟩
theorem rden_calls (s:ByteArray)(w:World)(hl:s.size≤1000000):Calls Tryz.prog 107 #[.string s] w fun e w'=>(∃ d:ByteArray,d.size≤1000000∧e=.returned (.string d))∧New w w':=by
 have hsl:=fun W=>rslash_calls s W hl;have hle:=sl_len s.data.toList
 have hlen:s.data.toList.length=s.size:=by simp
 rw[hlen]at hle;obtain ⟨m,hm⟩:∃ m,(upTo s.data.toList).length=m:=⟨_,rfl⟩;rw[hm] at hle;simp only[hm] at hsl;clear hm hlen;by_cases h:m=s.size
 ·have hb:((m:Int)==(s.size:Int))=true:=by rw[h];exact beq_self_eq_true _
  clear hle;have HSL:=hid hsl;have H:=hid h;clear hsl h;go_enter Tryz.func107,Tryz.ntmps107;go_wp2_with fail;refine (HSL.out _).mono ?_;rintro e w1 ⟨rfl,hw1⟩;rw[hw1];clear hw1;go_wp2_with fail;go_ret;exact ⟨⟨_,by decide,rfl⟩,New.refl _⟩
 ·have hb:((m:Int)==(s.size:Int))=false:=beq_false_of_ne (by omega);obtain ⟨m1,hm1⟩:∃ z,m+1=z:=⟨_,rfl⟩
  have hm1e:(m:Int)+1=(m1:Int):=by omega
  have hm1i:(m1:Int)≤(s.size:Int):=by omega
  have hsi:(s.size:Int)≤1000000:=by omega
  have hwr:IntKind.i64.wrap (m1:Int)=(m1:Int):=by rw[IntKind.wrap_i64];omega
  have hds:(s.extract m1 s.size).size≤1000000:=by simp;omega
  clear hle h hm1;have HSL:=hid hsl;have HDS:=hid hds;clear hsl hds;go_enter Tryz.func107,Tryz.ntmps107;go_wp2_with fail;refine (HSL.out _).mono ?_;rintro e w1 ⟨rfl,hw1⟩;rw[hw1];clear hw1;go_wp2_with fail;go_ret;exact ⟨⟨_,HDS.out,rfl⟩,New.refl _⟩
def FewPost (v:ByteArray)(w:World)(e:Ending)(w':World):Prop:=(∃ t:Bool,e=.returned (.bool t)∧(t=true→v.size≤26∧ratErr v.data.toList=0))∧New w w'
theorem rfew_calls (v:ByteArray)(w:World)(hl:(v.size:Int)≤9223372036854775807):Calls Tryz.prog 53 #[.string v,.int .i64 12] w (FewPost v w):=by
 by_cases h1:v.size≤26
 ·have h1i:(v.size:Int)≤26:=by omega
  have h1b:decide ((v.size:Int)≤26)=true:=decide_eq_true h1i;have hck:=fun W=>rcheck_calls v W (by omega);have HS:=hid h1;obtain ⟨r,hr⟩:∃ r,ratErr v.data.toList=r:=⟨_,rfl⟩;simp only[hr] at hck;by_cases h0:r=0
  ·subst h0;obtain ⟨q,hf,hv⟩:=ratText_of_err hr
   have hvq:v=rs q:=by
    apply ByteArray.ext;apply Array.toList_inj.1;rw[hv,rs_list]
   have hb:RFB 2000 q:=RFB.of (Fits.fb hf);have hb1:RFB 2000 ((q.num:Int):Rat):=rfb_int hb.num (by omega);have hnm:=fun W=>(rnum_calls 2000 q W hb (by omega)).mono fun e w' h=>RetS.to rfl h;have hab:=fun W=>(rabs_calls ((q.num:Int):Rat) W (by have:=hb1.len;omega)).mono fun e w' h=>RetS.to rfl h;have hdn:=fun W=>rden_calls v W (by omega);obtain ⟨B,hB⟩:∃ B,rs ((q.num:Int):Rat)=B:=⟨_,rfl⟩;obtain ⟨D,hD⟩:∃ B,rs (absQ ((q.num:Int):Rat))=B:=⟨_,rfl⟩
   have hDs:D.size≤10000:=by
    rw[←hD]
    have:RFB 2000 (absQ ((q.num:Int):Rat)):=by
     unfold absQ;split
     ·exact hb1.neg
     ·exact hb1
    have:=this.len;omega
   have hDi:(D.size:Int)≤10000:=by omega
   simp only[←hvq,hB]at hnm;simp only[hB,hD] at hab;clear hB hD hb hb1 hvq hf hv hDs h1;have HN:=hid (New.refl w);have HCK:=hid hck;have HNM:=hid hnm;have HAB:=hid hab;have HDN:=hid hdn;have HR:=hid hr;clear hck hnm hab hdn hr;go_enter Tryz.func53,Tryz.ntmps53;go_wp2_with fail;refine (HCK.out _).mono ?_;rintro e w1 ⟨rfl,hn⟩;replace HN:=tW HN hn;clear hn;go_wp2_with fail;refine (HNM.out _).mono ?_;rintro e w2 ⟨rfl,hn⟩;replace HN:=tW HN hn;clear hn;go_wp2_with fail;refine (HAB.out _).mono ?_;rintro e w3 ⟨rfl,hn⟩;replace HN:=tW HN hn;clear hn;by_cases h2:(D.size:Int)≤12
   ·have h2b:decide ((D.size:Int)≤12)=true:=decide_eq_true h2;go_wp2_with fail;refine (HDN.out _).mono ?_;rintro e w4 ⟨⟨d,hd,rfl⟩,hn⟩
    have hdi:(d.size:Int)≤1000000:=by omega
    clear hd;replace HN:=tW HN hn;clear hn;go_wp2_with fail;go_ret;exact ⟨⟨_,rfl,fun _=>⟨HS.out,HR.out⟩⟩,HN.out⟩
   ·have h2b:decide ((D.size:Int)≤12)=false:=decide_eq_false h2;go_wp2_with fail;go_ret;exact ⟨⟨_,rfl,fun h=>by cases h⟩,HN.out⟩
  ·have h0b:(r==0)=false:=beq_false_of_ne h0;have HN:=hid (New.refl w);clear hr h0 h1;have HCK:=hid hck;clear hck;go_enter Tryz.func53,Tryz.ntmps53;go_wp2_with fail;refine (HCK.out _).mono ?_;rintro e w1 ⟨rfl,hn⟩;replace HN:=tW HN hn;clear hn;go_wp2_with fail;go_ret;exact ⟨⟨_,rfl,fun h=>by cases h⟩,HN.out⟩
 ·have h1i:¬(v.size:Int)≤26:=by omega
  have h1b:decide ((v.size:Int)≤26)=false:=decide_eq_false h1i;clear h1;go_enter Tryz.func53,Tryz.ntmps53;go_wp2_with fail;go_ret;exact ⟨⟨_,rfl,fun h=>by cases h⟩,New.refl _⟩
theorem rfewList_calls (a:Option Addr)(cap n d:Nat)(vs:List ByteArray)(w:World)(hn0:vs.length=n)(hnl:(n:Int)≤9223372036854775807)(hd:(d:Int)≤1000)(hr:RdL w a (strs vs))(hvs:∀ (k:Nat) (h:k < vs.length),(vs[k].size:Int)≤9223372036854775807):
  Calls Tryz.prog 43 #[.slice a n cap,.int .i64 (d:Int),.int .i64 12] w fun e w'=>(∃ t:Bool,e=.returned (.bool t)∧(t=true→n≤d∧∀ (k:Nat) (h:k < vs.length),vs[k].size≤26∧ratErr vs[k].data.toList=0))∧New w w':=by
 by_cases h1:n≤d
 ·have h1i:¬(d:Int) < (n:Int):=by omega
  have h1b:decide ((d:Int) < (n:Int))=false:=decide_eq_false h1i
  have hni:(n:Int)≤1000:=by omega
  have hfw:∀ (k:Nat) (h:k < vs.length) (W:World),Calls Tryz.prog 53 #[.string vs[k],.int .i64 12] W (FewPost vs[k] W):=fun k h W=>rfew_calls vs[k] W (hvs k h);have HND:=hid h1;clear hvs hnl h1;have HFW:=hid hfw;have HR:=hid hr;have HNN:=hid hn0;clear hfw hr hn0;go_enter Tryz.func43,Tryz.ntmps43;go_wp2_with fail;go_loopw [7] (fun i wr=>∃ (k:Nat),k≤n∧i=.int .i64 (k:Int)∧Hid (∀ (j:Nat) (h:j < vs.length),j < k→vs[j].size≤26∧ratErr vs[j].data.toList=0)∧Hid (New w wr)) (fun i _=>n - (RowKit.intOf i).toNat)
  case atStart=>exact ⟨0,Nat.zero_le _,rfl,hid (fun j h h2=>by omega),hid (New.refl _)⟩
  case round=>
   obtain ⟨k,hk,rfl,HP,HN⟩:=hrel;by_cases hlt:k < n
   ·have hlt3:k < vs.length:=by rw[HNN.out];exact hlt
    obtain ⟨b1,off,rfl,hcell⟩:=HR.out.str k hlt3;have hcell:=HN.out.cell hcell;have hcall:=HFW.out k hlt3
    have hnx:(vs[k].size≤26∧ratErr vs[k].data.toList=0)→∀ (j:Nat) (h:j < vs.length),j < k+1→vs[j].size≤26∧ratErr vs[j].data.toList=0:=fun h0 j h h2=>by
     by_cases e:j=k
     ·subst e;exact h0
     ·exact HP.out j h (by omega)
    obtain ⟨x,hx⟩:∃ x,vs[k]=x:=⟨_,rfl⟩;rw[hx] at hcell hnx;simp only[hx] at hcall;have HCALL:=hid hcall;have HX:=hid hx;have HNX:=hid hnx;clear hcall hx hnx;go_wp2_with fail;refine (HCALL.out _).mono ?_;rintro e w4 ⟨⟨t,rfl,ht⟩,hn⟩;clear hcell;replace HN:=tW HN hn;clear hn
    cases t with
    | true=>
     have hp:=HNX.out (ht rfl);clear ht;have HP2:=hid hp;clear hp;go_wp2_with fail;go_roundw
     case rel=>exact ⟨k+1,by omega,by go_num,HP2,HN⟩
     case measure=>simp[RowKit.intOf];omega
    | false=>
     clear ht;go_wp2_with fail;go_ret;exact ⟨⟨_,rfl,fun h=>by cases h⟩,HN.out⟩
   ·have hkk:k=n:=by omega
    have HKK:=hid hkk;clear hkk;go_wp2_with fail;go_ret;exact ⟨⟨_,rfl,fun _=>⟨HND.out,fun j h=>HP.out j h (by rw[HKK.out,←HNN.out];exact h)⟩⟩,HN.out⟩
 ·have h1i:(d:Int) < (n:Int):=by omega
  have h1b:decide ((d:Int) < (n:Int))=true:=decide_eq_true h1i;clear h1 hr hvs hn0;go_enter Tryz.func43,Tryz.ntmps43;go_wp2_with fail;go_ret;exact ⟨⟨_,rfl,fun h=>by cases h⟩,New.refl _⟩
theorem sign_le {x y:Rat}:(x - y).num.sign≤0 ↔ x≤y:=by
 have h1:(x - y).num.sign≤0 ↔ (x - y).num≤0:=by
  rcases Int.lt_trichotomy (x - y).num 0 with h | h | h
  ·rw[Int.sign_eq_neg_one_of_neg h];omega
  ·rw[h];decide
  ·rw[Int.sign_eq_one_of_pos h];omega
 rw[h1]
 have h2:(x - y).num≤0 ↔ 0≤(y - x).num:=by
  rw[←Rat.neg_sub,Rat.neg_num];omega
 rw[h2,Rat.num_nonneg,←Rat.le_iff_sub_nonneg]
theorem box_strs {w:World}{B:Nat}{t:TypeId}{x y:ByteArray}(h:Box w B t #[.string x,.string y]):RdL w (some ⟨B,0,none⟩) (strs [x,y]):=fun i hi=>by
 refine ⟨B,0,rfl,?_⟩;rw[h.cell]
 match i,hi with
 | 0,_=>rfl
 | 1,_=>rfl
theorem rspan_calls (x y:Rat)(w:World)(hx:Fits x)(hy:Fits y)(hxy:x≤y)(hsx:(rs x).size≤100000)(hsy:(rs y).size≤100000):Calls Tryz.prog 44 #[.agg #[.string (rs x),.string (rs y)]] w (RetNew w 0):=by
 have hcm:=fun W=>rcmpQ_calls 2000 2000 x y W (RFB.of (Fits.fb hx)) (RFB.of (Fits.fb hy)) (by omega);have hs:=sign_le.2 hxy;obtain ⟨r,hr⟩:∃ r,(x - y).num.sign=r:=⟨_,rfl⟩;simp only[hr] at hcm;rw[hr] at hs;have hrb:decide (0 < r)=false:=decide_eq_false (by omega)
 have hrow:=fun (W:World) (B cap:Nat) (t:TypeId) (hB:Box W B t #[.string (rs x),.string (rs y)])=>rrow_calls (some ⟨B,0,none⟩) cap 2 [rs x,rs y] 0 W rfl (by omega) (box_strs hB) (by
  show (if ratErr (rs x).data.toList=0 then (if ratErr (rs y).data.toList=0 then 0 else ratErr (rs y).data.toList) else ratErr (rs x).data.toList)=0
  rw[rs_list,rs_list,ratErr_ratText hx,ratErr_ratText hy];rfl) (fun k h1=>by
   match k,h1 with
   | 0,_=>exact hsx
   | 1,_=>exact hsy)
 obtain ⟨X,hX⟩:∃ X,rs x=X:=⟨_,rfl⟩;obtain ⟨Y,hY⟩:∃ X,rs y=X:=⟨_,rfl⟩;rw[hX,hY] at hrow⊢;simp only[hX,hY] at hcm;clear hX hY hx hy hxy hsx hsy hr;have HCM:=hid hcm;have HROW:=hid hrow;clear hcm hrow;go_enter Tryz.func44,Tryz.ntmps44;go_upto_region 1 with (fail);obtain ⟨BA,HN⟩:=lay1 w 28 #[.string X,.string Y];obtain ⟨w8,hw8⟩:∃ x,w.alloc (.cells #[.string X,.string Y] 28)=x:=⟨_,rfl⟩;rw[hw8] at BA HN⊢;clear hw8;obtain ⟨pa0,pa1,pa2,pa3,pa4⟩:=BA.out.two;go_wp2_with fail;clear pa0 pa1 pa2 pa3 pa4;have HN0:=HN;clear HN;obtain ⟨BG,HN⟩:=lay1 w8 22 #[.string X,.string Y];replace BA:=hid (BA.out.new HN.out);have HN_:=HN0.out.trans HN.out;clear HN HN0;have HN:=hid HN_;clear HN_;refine (HROW.out _ _ _ _ BG.out).mono ?_;rintro e w2 ⟨rfl,hn⟩;clear BG;replace BA:=bW BA hn;replace HN:=tW HN hn;clear hn;obtain ⟨pa0,pa1,pa2,pa3,pa4⟩:=BA.out.two;go_wp2_with fail;refine (HCM.out _).mono ?_;rintro e w3 ⟨rfl,hn⟩;clear pa0 pa1 pa2 pa3 pa4;replace HN:=tW HN hn;clear hn;go_wp2_with fail;go_ret;exact ⟨rfl,HN.out⟩
theorem rhas_calls (x y q:Rat)(w:World)(k:Nat)(hk:k≤10000)(hx:RFB k x)(hy:RFB k y)(hq:RFB k q)(h1:x≤q)(h2:q≤y):Calls Tryz.prog 49 #[.agg #[.string (rs x),.string (rs y)],.string (rs q)] w fun e w'=>e=.returned (.bool true)∧New w w':=by
 have hc1:=fun W=>rcmpQ_calls k k x q W hx hq (by omega);have hc2:=fun W=>rcmpQ_calls k k q y W hq hy (by omega);have hs1:=sign_le.2 h1;have hs2:=sign_le.2 h2;obtain ⟨r1,hr1⟩:∃ r,(x - q).num.sign=r:=⟨_,rfl⟩;obtain ⟨r2,hr2⟩:∃ r,(q - y).num.sign=r:=⟨_,rfl⟩;simp only[hr1] at hc1;simp only[hr2] at hc2;rw[hr1] at hs1;rw[hr2] at hs2;have hb1:decide (r1≤0)=true:=decide_eq_true hs1;have hb2:decide (r2≤0)=true:=decide_eq_true hs2;obtain ⟨X,hX⟩:∃ X,rs x=X:=⟨_,rfl⟩;obtain ⟨Y,hY⟩:∃ X,rs y=X:=⟨_,rfl⟩;obtain ⟨Q,hQ⟩:∃ X,rs q=X:=⟨_,rfl⟩;rw[hX,hY,hQ];simp only[hX,hQ] at hc1;simp only[hY,hQ] at hc2;clear hX hY hQ hx hy hq h1 h2 hr1 hr2;have HC1:=hid hc1;have HC2:=hid hc2;clear hc1 hc2;go_enter Tryz.func49,Tryz.ntmps49;go_upto_region 1 with (fail);obtain ⟨BA,HN⟩:=lay1 w 28 #[.string X,.string Y];obtain ⟨pa0,pa1,pa2,pa3,pa4⟩:=BA.out.two;go_wp2_with fail;refine (HC1.out _).mono ?_;rintro e w2 ⟨rfl,hn⟩;clear pa0 pa1 pa2 pa3 pa4;replace BA:=bW BA hn;replace HN:=tW HN hn;clear hn;obtain ⟨pa0,pa1,pa2,pa3,pa4⟩:=BA.out.two;go_wp2_with fail;refine (HC2.out _).mono ?_;rintro e w3 ⟨rfl,hn⟩;clear pa0 pa1 pa2 pa3 pa4;replace HN:=tW HN hn;clear hn;go_wp2_with fail;go_ret;exact ⟨rfl,HN.out⟩
end Go.Proofs.YtbkcjmojgglbkaaGreatDoor
