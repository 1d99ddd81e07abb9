/- Part A34. -/
import Derived.Test.YtnjonlnemagomaaGreatDoorA33
namespace Go.Proofs.YtnjonlnemagomaaGreatDoor
open Go.RowKit Big Go.Lib Go
set_option maxRecDepth 100000
set_option maxHeartbeats 8000000
theorem float1_aw (w:World)(he:Env w):Calls Tryz.prog 41 #[.string ⟨#[49,47,51]⟩] w (FltPost w 1051372203 0):=by
 have h:=nfloat_calls ⟨#[49,47,51]⟩ (Rat.divInt 1 3) 1051372203 (by decide +kernel) (by rw[Fits.iff];decide +kernel) (by decide) (by decide +kernel) ⟨124,⟨by decide +kernel,by decide +kernel⟩,by decide +kernel⟩ w he;rw[show fltBits (decide ((Rat.divInt 1 3).num < 0)) 1051372203=1051372203 by decide +kernel,show fltErr 1051372203=0 by decide +kernel] at h;exact h
theorem float2_aw (w:World)(he:Env w):Calls Tryz.prog 41 #[.string ⟨#[49,54,55,55,55,50,49,55]⟩] w (FltPost w 1266679808 0):=by
 have h:=nfloat_calls ⟨#[49,54,55,55,55,50,49,55]⟩ (Rat.divInt 16777217 1) 1266679808 (by decide +kernel) (by rw[Fits.iff];decide +kernel) (by decide) (by decide +kernel) ⟨150,⟨by decide +kernel,by decide +kernel⟩,by decide +kernel⟩ w he;rw[show fltBits (decide ((Rat.divInt 16777217 1).num < 0)) 1266679808=1266679808 by decide +kernel,show fltErr 1266679808=0 by decide +kernel] at h;exact h
theorem float3_aw (w:World)(he:Env w):Calls Tryz.prog 41 #[.string ⟨#[49,54,55,55,55,50,49,57]⟩] w (FltPost w 1266679810 0):=by
 have h:=nfloat_calls ⟨#[49,54,55,55,55,50,49,57]⟩ (Rat.divInt 16777219 1) 1266679810 (by decide +kernel) (by rw[Fits.iff];decide +kernel) (by decide) (by decide +kernel) ⟨150,⟨by decide +kernel,by decide +kernel⟩,by decide +kernel⟩ w he;rw[show fltBits (decide ((Rat.divInt 16777219 1).num < 0)) 1266679810=1266679810 by decide +kernel,show fltErr 1266679810=0 by decide +kernel] at h;exact h
theorem exact_aw (w:World)(he:Env w):Calls Tryz.prog 40 #[.float .f32 1051372203] w (TxtPost w ⟨#[49,49,49,56,52,56,49,49,47,51,51,53,53,52,52,51,50]⟩ 0):=by
 have h:=nexact_calls 1051372203 (by decide) (by decide +kernel) w he;rw[show rs (fq 1051372203)=⟨#[49,49,49,56,52,56,49,49,47,51,51,53,53,52,52,51,50]⟩ by decide +kernel] at h;exact h
def awPts:List (ByteArray × ByteArray):=[(⟨#[48]⟩,⟨#[49,48]⟩),(⟨#[53]⟩,⟨#[50,48]⟩)]
def awXs:Nat→Rat:=fun k=>if k=0 then Rat.divInt 0 1 else Rat.divInt 5 1
def awYs:Nat→Rat:=fun k=>if k=0 then Rat.divInt 10 1 else Rat.divInt 20 1
theorem aw_tab:TabOk awPts awXs awYs:=by
 refine ⟨fun k h=>?_,fun k h=>?_,fun k h=>?_⟩
 ·match k,h with
  | 0,_=>show TxtIs (awPts[0]'(by decide)).1 (awXs 0);exact ⟨by decide +kernel,by rw[Fits.iff];decide +kernel,by decide⟩
  | 1,_=>show TxtIs (awPts[1]'(by decide)).1 (awXs 1);exact ⟨by decide +kernel,by rw[Fits.iff];decide +kernel,by decide⟩
 ·match k,h with
  | 0,_=>show TxtIs (awPts[0]'(by decide)).2 (awYs 0);exact ⟨by decide +kernel,by rw[Fits.iff];decide +kernel,by decide⟩
  | 1,_=>show TxtIs (awPts[1]'(by decide)).2 (awYs 1);exact ⟨by decide +kernel,by rw[Fits.iff];decide +kernel,by decide⟩
 ·match k,h with
  | 0,_=>decide +kernel
theorem blend_aw (a:Option Addr)(cap:Nat)(w:World)(he:Env w)(hr:RdP w a awPts):Calls Tryz.prog 16 #[.slice a 2 cap,.string ⟨#[50]⟩] w (TxtPost w ⟨#[49,52]⟩ 0):=by
 have h:=blend_mid awPts awXs awYs aw_tab (by decide) 0 (by decide) ⟨#[50]⟩ (Rat.divInt 2 1) ⟨by decide +kernel,by rw[Fits.iff];decide +kernel,by decide⟩ (fun j hj=>by
  have:j=0:=by omega
  subst this
  decide +kernel) (by decide +kernel) a cap w he hr
 rw[show resS (blendQ (awYs 0) (awYs (0+1)) (Rat.divInt 2 1) (awXs 0) (awXs (0+1)))=⟨#[49,52]⟩ by decide +kernel,show resE (blendQ (awYs 0) (awYs (0+1)) (Rat.divInt 2 1) (awXs 0) (awXs (0+1)))=0 by decide +kernel] at h;exact h
def awW:Nat→Int:=fun i=>if i=0 then 1 else if i=1 then 2 else 4
theorem shares_aw (a:Option Addr)(cap:Nat)(w:World)(hr:RdL w a (ints [1,2,4])):Calls Tryz.prog 22 #[.int .i64 50,.slice a 3 cap] w fun e w'=>∃ (b:Option Addr) (c:Nat),e=.returned (.tuple #[.slice b 3 c,.int .i64 0])∧New w w'∧3≤c∧RdL w' b (ints [7,14,29]):=by
 have h:=nshares_calls 50 3 cap awW a w (by decide) (by decide) (by decide) (fun i hi=>by
  match i,hi with
  | 0,_=>decide
  | 1,_=>decide
  | 2,_=>decide) (by decide +kernel) (by decide +kernel) hr
 refine h.mono fun e w' h=>?_;obtain ⟨b,c,h1,h2,h3,h4⟩:=h
 have e:(List.range 3).map (share ((50:Nat):Int) awW 3)=[7,14,29]:=by decide +kernel
 rw[e]at h4;exact ⟨b,c,h1,h2,h3,h4⟩
theorem draw_aw (w:World):Calls Tryz.prog 27 #[.int .i64 1,.int .i64 3] w fun e w'=>∃ (b:Option Addr) (c:Nat),e=.returned (.tuple #[.slice b 3 c,.int .i64 0])∧New w w'∧3≤c∧RdL w' b (ints [1,2,0]):=by
 have h:=ndraw_calls 1 3 (by decide) (by decide) (by decide) w;refine h.mono fun e w' h=>?_;obtain ⟨b,c,h1,h2,h3,h4⟩:=h
 have e:(List.range 3).map (drawF 1 3)=[1,2,0]:=by decide +kernel
 rw[e]at h4;exact ⟨b,c,h1,h2,h3,h4⟩
theorem span_aw (x y:ByteArray)(w:World):Calls Tryz.prog 33 #[.string x,.string y] w fun e w'=>e=.returned (.agg #[.string x,.string y])∧New w w':=by
 go_enter Tryz.func33,Tryz.ntmps33;go_upto_region 1 with (fail);obtain ⟨BP,HN⟩:=lay1 w 53 #[.string ⟨#[]⟩,.string ⟨#[]⟩];obtain ⟨p0,p1,p2,p3,p4⟩:=BP.out.two;go_wp2_with fail;refine bodyPost_ret (v:=.agg #[.string x,.string y]) (by simp[results,Tryz.results33,go_sem]) rfl ?_;exact ⟨rfl,(New.refl w).alloc _⟩
def HasL (T:Array Value):List (Nat × Value)→Prop
 | []=>True
 | p::l=>T[p.1]?=some p.2∧HasL T l
def Has (N:Nat)(a:Act)(l:List (Nat × Value)):Prop:=a.tmps.size=N∧a.defers=[]∧HasL a.tmps l
theorem HasL.put {T:Array Value}{d:Nat}{v:Value}:∀ {l:List (Nat × Value)},HasL T l→(l.all fun p=>d != p.1)=true→HasL (T.setIfInBounds d v) l
 | [],_,_=>trivial
 | p::l,h,hf=>by
  simp only[List.all_cons,Bool.and_eq_true,bne_iff_ne,ne_eq]at hf;refine ⟨?_,HasL.put h.2 hf.2⟩;rw[Array.getElem?_setIfInBounds_ne hf.1];exact h.1
theorem Has.put {N:Nat}{a:Act}{l:List (Nat × Value)}{d:Nat}{v:Value}(h:Has N a l)(hd:d < N)(hf:(l.all fun p=>d != p.1)=true):Has N (a.put (some d) v) ((d,v)::l):=by
 refine ⟨by show (a.tmps.setIfInBounds d v).size=N;rw[Array.size_setIfInBounds];exact h.1,h.2.1,?_,HasL.put h.2.2 hf⟩;show (a.tmps.setIfInBounds d v)[d]?=some v;rw[Array.getElem?_setIfInBounds_self_of_lt (by rw[h.1];exact hd)]
theorem HasL.get {T:Array Value}:∀ {l:List (Nat × Value)} {k s:Nat} {v:Value},HasL T l→l[k]?=some (s,v)→T[s]?=some v
 | [],_,_,_,_,h=>by simp at h
 | p::l,0,_,_,h,e=>by simp at e;subst e;exact h.1
 | p::l,k+1,_,_,h,e=>HasL.get h.2 (by simpa using e)
theorem Has.get {N:Nat}{a:Act}{l:List (Nat × Value)}(h:Has N a l)(k:Nat){s:Nat}{v:Value}(e:l[k]?=some (s,v)):a.tmps[s]?=some v:=HasL.get h.2.2 e
theorem getD_of {T:Array Value}{s:Nat}{v:Value}(h:T[s]?=some v):T.getD s undef=v:=by
 rw[Array.getD_eq_getD_getElem?,h];rfl
section
variable {P:Program} {ops:Array Oper} {Q:Exit→Act→World→Prop} {md:Region.Mode} {S:World→Prop}
theorem wanted_plain {o:Oper}{f:Nat→Option Bool}(h:o.guard=none):Region.wanted o f=true:=by
 unfold Region.wanted;rw[h]
theorem wanted_by {o:Oper}{T:Array Value}{j dj:Nat}{b:Bool}(h:o.guard=some (j,b))(hj:(ops[j]?).bind (·.dst)=some dj)(e:T[dj]?=some (.bool b)):Region.wanted o (yielded ops T)=true:=by
 unfold Region.wanted yielded;rw[h];simp[hj,e]
theorem stepT {N d n:Nat} (i:Nat) {oi:Oper} {v:Value} {fuel:Nat} {listed:Array Bool} {a:Act} {w:World} {l:List (Nat × Value)} (hi:ops[i]?=some oi) (hB:takeB md ops n listed i=true)
  (hQ:∀ c a w,Q (.panic c) (a.put oi.dst v) w→Q (.panic c) a w) (hS:S w) (HA:Has N a l) (hd:oi.dst=some d) (hN:d < N) (hf:(l.all fun p=>d != p.1)=true)
  (hw:Region.wanted oi (yielded ops a.tmps)=true) (hy:∀ W,S W→(execOp a.eval oi).run P W=.ok (.value v) W)
  (h:∀ A,Has N A ((d,v)::l)→wpT P md ops Q S n fuel (listed.setIfInBounds i true) A w):wpT P md ops Q S n (fuel+1) listed a w:=
 wpT_take i hi hB hQ hS (Or.inl ⟨hw,hy⟩) (h _ (by rw[hd];exact HA.put hN hf))
theorem loudT {n:Nat} (i:Nat) {oi:Oper} {fuel:Nat} {listed:Array Bool} {a:Act} {w:World} (hi:ops[i]?=some oi) (hr:Region.ready md ops listed=[i]) (hw:Region.wanted oi (yielded ops a.tmps)=true)
  (h:∀ K':Act→World→Prop,Shut (∀ a w,(i < n→S w)→wpT P md ops Q S n fuel (listed.setIfInBounds i true) a w→K' a w)→Oper.wp P oi a w K' Q):
  wpT P md ops Q S n (fuel+1) listed a w:=
 wpT_one i hi hr fun K' hK=>by rw[if_pos hw];exact h K' hK
theorem putT {N d n fuel:Nat} {v:Value} {listed:Array Bool} {a:Act} {w:World} {l:List (Nat × Value)} (HA:Has N a l) (hN:d < N) (hf:(l.all fun p=>d != p.1)=true)
  (h:∀ A,Has N A ((d,v)::l)→wpT P md ops Q S n fuel listed A w):wpT P md ops Q S n fuel listed (a.put (some d) v) w:=h _ (HA.put hN hf)
end
end Go.Proofs.YtnjonlnemagomaaGreatDoor
