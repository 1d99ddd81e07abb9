/- Part CardRc05. -/
import Derived.Laws.AppendOwnNone
import Derived.Test.YtbkcjmojgglbkaaGreatDoorCardRc04
namespace Go.Proofs.YtbkcjmojgglbkaaGreatDoor
open Go.RowKit Big
open Go.Lib (hid)
set_option maxRecDepth 100000
set_option maxHeartbeats 8000000
def RdPost (w:World)(n:Nat)(xs:List Value)(en:Ending)(w':World):Prop:=∃ (a:Option Addr) (cap:Nat),en=.returned (.slice a n cap)∧New w w'∧RdL w' a xs∧n≤cap∧(a=none→cap=0)
theorem own_rd' {w:World}{base:Nat}{e:TypeId}{v:Value}{n:Nat}{xs:List Value}(h:w.ownsRow base e 1 v n xs):∃ (a:Option Addr) (cap:Nat),v=.slice a n cap∧RdL w a xs∧n≤cap∧(a=none→cap=0):=by
 have h1:=own_rd h;rcases h.2 with ⟨rfl,rfl⟩ | ⟨g,cap,cur,rfl,hb,hc,h2,h3,h4,h5⟩
 ·obtain ⟨a,cap,e,hr, -⟩:=h1;injection e with e1 e2 e3;subst e1;subst e3;exact ⟨none,0,rfl,hr,Nat.le_refl _,fun _=>rfl⟩
 ·obtain ⟨a,cap',e,hr, -⟩:=h1;injection e with e1 e2 e3;subst e1;subst e3;exact ⟨_,_,rfl,hr,h2,fun h=>by cases h⟩
theorem own_none {w:World}{base:Nat}{e:TypeId}(hb:base≤w.heap.size):(w.alloc (.cells #[] e)).ownsRow base e 1 (.slice (some ⟨w.heap.size,0,none⟩) 0 0) 0 []:=by
 refine ⟨rfl,.inr ⟨w.heap.size,0,#[],rfl,hb,?_,Nat.le_refl _,Nat.zero_le _,rfl,rfl⟩⟩;exact Box.alloc w _ e #[] rfl
theorem info_rat:(Tryz.prog.info? 22).map (fun i=>(i.zero,i.size,i.bytes))=some (some (.string ⟨#[]⟩),1,16):=by kernel_rfl
theorem floats_calls (a:Option Addr)(cap:Nat)(vs:List Value)(w:World)(hl:vs.length≤5000)(hr:RdL w a vs)(hz:a=none→cap=0)(h1:∀ u∈vs,u.oneCell'=true):
  Calls Tryz.prog 30 #[.slice a vs.length cap] w (RdPost w vs.length vs):=by
 obtain ⟨i0,hi,hz0,hz1,hz2⟩:=info_parts info_f32;have hO:(w.alloc (.cells #[] 35)).ownsRow w.heap.size 35 1 (.slice (some ⟨w.heap.size,0,none⟩) 0 0) 0 []:=own_none (e:=35) (Nat.le_refl _);obtain ⟨n,hn⟩:∃ n,vs.length=n:=⟨_,rfl⟩;rw[hn] at hl⊢
 cases a with
 | none=>
  have h0:n=0:=by
   cases vs with
   | nil=>exact hn.symm
   | cons v vs=>obtain ⟨b,off,e, -⟩:=hr 0 (by simp);cases e
  have hv:vs=[]:=by
   cases vs with
   | nil=>rfl
   | cons v vs=>rw[h0] at hn;simp at hn
  subst h0;subst hv;rw[hz rfl];clear hr h1 hl hz hn;have HO:=hid hO;clear hO;go_enter Tryz.func30,Tryz.ntmps30;go_wp2_with (at_builtin;refine wpList_append_own_none rfl _ _ 52 rfl w.heap.size 35 i0 1 Tryz.underlying52 hi _ 0 [] rfl HO.out rfl ?_);go_wp2_with fail;go_ret;exact ⟨_,0,rfl,(New.refl _).alloc _,fun i hi=>by simp at hi,Nat.le_refl _,fun h=>by cases h⟩
 | some ad=>
  have hsrc:∀ (j:Nat) (v:Value),vs[j]?=some v→w.cell? (ad.add j)=some v:=by
   intro j v hj
   have h0:0 < vs.length:=by have:=(List.getElem?_eq_some_iff.1 hj).1;omega
   obtain ⟨ad',e,hs⟩:=hr.src h0;injection e with e;rw[e];exact hs j v hj
  clear hr hz;have HO:=hid hO;have HSRC:=hid hsrc;have H1:=hid h1;have HN:=hid hn;have HL:=hid hl;clear hO hsrc h1 hn hl;go_enter Tryz.func30,Tryz.ntmps30;go_wp2_with (at_builtin;refine wpList_append_own _ rfl _ _ 52 rfl w.heap.size 35 i0 (.float .f32 0) 1 4 Tryz.underlying52 hi hz0 hz1 hz2 rfl (by decide) _ 0 [] rfl HO.out ad n cap vs rfl (by rw[HN.out,Nat.mul_one]) (fun j u hj=>by exact ((New.refl w).alloc _).cell (HSRC.out j u hj)) H1.out (by have:=HL.out;unfold maxLen;omega) (by have:=HL.out;omega) (by rw[←size_alloc];omega) ?_);intro v' w9 hown' hgrow _;have hN1:New w w9:=grown_newS' ((New.refl w).alloc _) HO.out hgrow
  have hO1:w9.ownsRow w.heap.size 35 1 v' n vs:=by simpa using hown'
  clear hown' hgrow;obtain ⟨a',cap',rfl,hrd,hc,hnn⟩:=own_rd' hO1;clear hO1;have HN1:=hid hN1;have HRD:=hid hrd;have HC:=hid hc;have HNN:=hid hnn;clear hN1 hrd hc hnn;go_wp2_with fail;go_ret;exact ⟨a',cap',rfl,HN1.out,HRD.out,HC.out,HNN.out⟩
theorem rats_calls (a:Option Addr)(cap:Nat)(vs:List Value)(w:World)(hl:vs.length≤5000)(hr:RdL w a vs)(hz:a=none→cap=0)(h1:∀ u∈vs,u.oneCell'=true):
  Calls Tryz.prog 28 #[.slice a vs.length cap] w (RdPost w vs.length vs):=by
 obtain ⟨i0,hi,hz0,hz1,hz2⟩:=info_parts info_rat;have hO:(w.alloc (.cells #[] 22)).ownsRow w.heap.size 22 1 (.slice (some ⟨w.heap.size,0,none⟩) 0 0) 0 []:=own_none (e:=22) (Nat.le_refl _);obtain ⟨n,hn⟩:∃ n,vs.length=n:=⟨_,rfl⟩;rw[hn] at hl⊢
 cases a with
 | none=>
  have h0:n=0:=by
   cases vs with
   | nil=>exact hn.symm
   | cons v vs=>obtain ⟨b,off,e, -⟩:=hr 0 (by simp);cases e
  have hv:vs=[]:=by
   cases vs with
   | nil=>rfl
   | cons v vs=>rw[h0] at hn;simp at hn
  subst h0;subst hv;rw[hz rfl];clear hr h1 hl hz hn;have HO:=hid hO;clear hO;go_enter Tryz.func28,Tryz.ntmps28;go_wp2_with (at_builtin;refine wpList_append_own_none rfl _ _ 51 rfl w.heap.size 22 i0 1 Tryz.underlying51 hi _ 0 [] rfl HO.out rfl ?_);go_wp2_with fail;go_ret;exact ⟨_,0,rfl,(New.refl _).alloc _,fun i hi=>by simp at hi,Nat.le_refl _,fun h=>by cases h⟩
 | some ad=>
  have hsrc:∀ (j:Nat) (v:Value),vs[j]?=some v→w.cell? (ad.add j)=some v:=by
   intro j v hj
   have h0:0 < vs.length:=by have:=(List.getElem?_eq_some_iff.1 hj).1;omega
   obtain ⟨ad',e,hs⟩:=hr.src h0;injection e with e;rw[e];exact hs j v hj
  clear hr hz;have HO:=hid hO;have HSRC:=hid hsrc;have H1:=hid h1;have HN:=hid hn;have HL:=hid hl;clear hO hsrc h1 hn hl;go_enter Tryz.func28,Tryz.ntmps28;go_wp2_with (at_builtin;refine wpList_append_own _ rfl _ _ 51 rfl w.heap.size 22 i0 (.string ⟨#[]⟩) 1 16 Tryz.underlying51 hi hz0 hz1 hz2 rfl (by decide) _ 0 [] rfl HO.out ad n cap vs rfl (by rw[HN.out,Nat.mul_one]) (fun j u hj=>by exact ((New.refl w).alloc _).cell (HSRC.out j u hj)) H1.out (by have:=HL.out;unfold maxLen;omega) (by have:=HL.out;omega) (by rw[←size_alloc];omega) ?_);intro v' w9 hown' hgrow _;have hN1:New w w9:=grown_newS' ((New.refl w).alloc _) HO.out hgrow
  have hO1:w9.ownsRow w.heap.size 22 1 v' n vs:=by simpa using hown'
  clear hown' hgrow;obtain ⟨a',cap',rfl,hrd,hc,hnn⟩:=own_rd' hO1;clear hO1;have HN1:=hid hN1;have HRD:=hid hrd;have HC:=hid hc;have HNN:=hid hnn;clear hN1 hrd hc hnn;go_wp2_with fail;go_ret;exact ⟨a',cap',rfl,HN1.out,HRD.out,HC.out,HNN.out⟩
theorem rfin_calls (b:Nat)(w:World):Calls Tryz.prog 47 #[.float .f32 b] w (FinPost w (isFin b)):=by
 cases h:isFin b with
 | true=>
  have hrun:=fun W=>run_float_arith (P:=Tryz.prog) W .sub 35 .f32 b b 0 (sub_self_fin h)
  have ho:(FloatKind.f32.format.order 0 0==some .eq)=true:=by decide
  have H:=hid h;clear h;go_enter Tryz.func47,Tryz.ntmps47;go_wp2_with fail;go_ret;exact ⟨rfl,0,rfl⟩
 | false=>
  have hrun:=fun W=>nan_run (P:=Tryz.prog) 35 b h W;have ho:=fun W=>nan_order W b 0;have H:=hid h;clear h;go_enter Tryz.func47,Tryz.ntmps47;go_wp2_with fail;go_ret;exact ⟨rfl,1,rfl⟩
theorem rfin_new (b:Nat)(w:World):Calls Tryz.prog 47 #[.float .f32 b] w fun e w'=>e=.returned (.bool (isFin b))∧New w w':=
 (rfin_calls b w).mono fun e w' h=>by
  obtain ⟨rfl,n,rfl⟩:=h;exact ⟨rfl,(New.refl _).drewN n⟩
theorem rsamples_calls (a:Option Addr)(cap:Nat)(l:List Nat)(w:World)(hl:l.length≤9223372036854775807)(hr:RdL w a (flts l)):
  Calls Tryz.prog 34 #[.slice a l.length cap] w (RetNew w (samplesErr l)):=by
 obtain ⟨n,hn⟩:∃ n,l.length=n:=⟨_,rfl⟩;by_cases hm:4096 < n
 ·have hs:samplesErr l=5:=by unfold samplesErr;rw[hn,if_pos hm]
  have hmi:(4096:Int) < n:=by omega
  rw[hs,hn];clear hs hr hl hn;go_enter Tryz.func34,Tryz.ntmps34;go_wp2_with fail;go_ret;exact ⟨rfl,New.refl _⟩
 have hmi:¬(4096:Int) < n:=by omega
 have hs:samplesErr l=if l.all isFin then 0 else 1:=by unfold samplesErr;rw[hn,if_neg hm]
 obtain ⟨r,hres⟩:∃ r:Int,(if l.all isFin=true then 0 else 1)=r:=⟨_,rfl⟩;rw[hs,hres,hn];rw[hn] at hl;clear hs hm;have HR:=hid hr;have HRES:=hid hres;have HL:=hid hl;have HN0:=hid hn;clear hr hres hl hn;go_enter Tryz.func34,Tryz.ntmps34;go_wp2_with fail;go_loopw [3] (fun i wr=>∃ k:Nat,k≤n∧i=.int .i64 (k:Int)∧Hid ((l.take k).all isFin=true)∧Hid (New w wr)) (fun i _=>n - (intOf i).toNat)
 case atStart=>exact ⟨0,Nat.zero_le _,rfl,hid rfl,hid (New.refl _)⟩
 case round=>
  obtain ⟨k,hk,rfl,HK,HN⟩:=hrel;by_cases hlt:k < n
  ·have hlt':k < l.length:=by rw[HN0.out];exact hlt
   obtain ⟨b,off,rfl,hcell⟩:=HR.out.flt k hlt';obtain ⟨x,hx⟩:∃ x,l[k]=x:=⟨_,rfl⟩;rw[hx] at hcell;replace hcell:=HN.out.cell hcell
   cases hfx:isFin x with
   | true=>
    have hd:=all_take_succ hlt' HK.out (by rw[hx];exact hfx);have hc:=fun W=>rfin_new x W;rw[hfx] at hc;have HX:=hid hx;have HFX:=hid hfx;have HD:=hid hd;have HC:=hid hc;clear hx hfx hd hc;go_wp2_with fail;refine (HC.out _).mono ?_;rintro e w' ⟨rfl,hn⟩;have hn2:=HN.out.trans hn;clear hn HN;have HN:=hid hn2;clear hn2;go_wp2_with fail;go_roundw
    case rel=>exact ⟨k+1,by omega,by go_num,HD,HN⟩
    case measure=>simp[intOf];omega
   | false=>
    have hd:=all_false_at hlt' (by rw[hx];exact hfx);have hc:=fun W=>rfin_new x W;rw[hfx] at hc;have HX:=hid hx;have HFX:=hid hfx;have HD:=hid hd;have HC:=hid hc;clear hx hfx hd hc;go_wp2_with fail;refine (HC.out _).mono ?_;rintro e w' ⟨rfl,hn⟩;have hn2:=HN.out.trans hn;clear hn HN;have HN:=hid hn2;clear hn2;go_wp2_with fail;go_ret;exact ⟨ret_i64 (by rw[←HRES.out,HD.out];rfl),HN.out⟩
  ·have hkk:k=n:=by omega
   have hz:r=0:=by rw[←HRES.out,if_pos];have:=HK.out;rwa [hkk,←HN0.out,List.take_length] at this
   have HKK:=hid hkk;have HZ:=hid hz;clear hkk hz;go_wp2_with fail;go_ret;exact ⟨ret_i64 HZ.out.symm,HN.out⟩
end Go.Proofs.YtbkcjmojgglbkaaGreatDoor
