/- Part B01. -/
import Derived.Lib.Hide
import Derived.Tactics
import Derived.OrdersHeld
import Derived.StillTail
import Derived.Deep.RegionHeld3
import Derived.Deep.RegionWith
import Derived.WalkKit
import Derived.WalkSpells
import Derived.WalkLawsBesides
import Derived.Deep.QuietTactic
import Derived.BigQuiet
import Derived.Deep.OwnRows
import Derived.Deep.Draws
import Derived.OwnWalk
import Derived.Laws.AppendOwn
import Derived.Laws.AppendOwnNone
import Derived.Maps.AppendAt
import Derived.Test.YtnjonlnemagomaaGreatDoorProg
namespace Go.Proofs.YtnjonlnemagomaaGreatDoor
open Go.RowKit Go Tryz
set_option maxRecDepth 100000
set_option maxHeartbeats 8000000
set_option linter.all false
theorem zh3 {G a b c:Prop}(q:Hid a→Hid b→Hid c→G)(a':a)(b':b)(c':c):G:=q a' b' c'
theorem zh4 {G a b c d:Prop}(q:Hid a→Hid b→Hid c→Hid d→G)(a':a)(b':b)(c':c)(d':d):G:=q a' b' c' d'
theorem zh5 {G a b c d e:Prop}(q:Hid a→Hid b→Hid c→Hid d→Hid e→G)(a':a)(b':b)(c':c)(d':d)(e':e):G:=q a' b' c' d' e'
theorem zh6 {G a b c d e f:Prop}(q:Hid a→Hid b→Hid c→Hid d→Hid e→Hid f→G)(a':a)(b':b)(c':c)(d':d)(e':e)(f':f):G:=q a' b' c' d' e' f'
theorem zh7 {G a b c d e f g:Prop}(q:Hid a→Hid b→Hid c→Hid d→Hid e→Hid f→Hid g→G)(a':a)(b':b)(c':c)(d':d)(e':e)(f':f)(g':g):G:=q a' b' c' d' e' f' g'
theorem zh8 {G a b c d e f g h:Prop}(q:Hid a→Hid b→Hid c→Hid d→Hid e→Hid f→Hid g→Hid h→G)(a':a)(b':b)(c':c)(d':d)(e':e)(f':f)(g':g)(h':h):G:=q a' b' c' d' e' f' g' h'
theorem zh9 {G a b c d e f g h i:Prop}(q:Hid a→Hid b→Hid c→Hid d→Hid e→Hid f→Hid g→Hid h→Hid i→G)(a':a)(b':b)(c':c)(d':d)(e':e)(f':f)(g':g)(h':h)(i':i):G:=q a' b' c' d' e' f' g' h' i'
theorem zh10 {G a b c d e f g h i j:Prop}(q:Hid a→Hid b→Hid c→Hid d→Hid e→Hid f→Hid g→Hid h→Hid i→Hid j→G)(a':a)(b':b)(c':c)(d':d)(e':e)(f':f)(g':g)(h':h)(i':i)(j':j):G:=q a' b' c' d' e' f' g' h' i' j'
theorem zh11 {G a b c d e f g h i j k:Prop}(q:Hid a→Hid b→Hid c→Hid d→Hid e→Hid f→Hid g→Hid h→Hid i→Hid j→Hid k→G)(a':a)(b':b)(c':c)(d':d)(e':e)(f':f)(g':g)(h':h)(i':i)(j':j)(k':k):G:=q a' b' c' d' e' f' g' h' i' j' k'
theorem zh12 {G a b c d e f g h i j k l:Prop}(q:Hid a→Hid b→Hid c→Hid d→Hid e→Hid f→Hid g→Hid h→Hid i→Hid j→Hid k→Hid l→G)(a':a)(b':b)(c':c)(d':d)(e':e)(f':f)(g':g)(h':h)(i':i)(j':j)(k':k)(l':l):G:=q a' b' c' d' e' f' g' h' i' j' k' l'
theorem zD {α:Type}{o:Option α}{x y:α}(h:o=some x)(e:x=y:=by kernel_rfl):o=some y:=h.trans (congrArg some e)
section
variable {P:Program} {ops:Array Oper} {Q:Exit→Act→World→Prop} {md:Region.Mode} {S:World→Prop}
def wpT (P:Program)(md:Region.Mode)(ops:Array Oper)(Q:Exit→Act→World→Prop)(S:World→Prop)(n:Nat):Nat→Array Bool→Act→World→Prop
 | 0,listed,a,w=>Region.ready md ops listed=[]∧Q .normal a w
 | fuel+1,listed,a,w=>
  (Region.ready md ops listed=[]→Q .normal a w)∧
  ∀ i∈Region.ready md ops listed,wpOp P ops Q i (fun a' w'=>(i < n→S w')∧wpT P md ops Q S n fuel (listed.setIfInBounds i true) a' w') a w
theorem wpAny_of_T {n:Nat}:∀ (fuel:Nat) (listed:Array Bool) (a:Act) (w:World),wpT P md ops Q S n fuel listed a w→wpAny P md ops Q fuel listed a w
 | 0,_,_,_,h=>h
 | fuel+1,_,_,_,h=>⟨h.1,fun i hi=>wpOp_mono (fun a' w' h'=>wpAny_of_T fuel _ a' w' h'.2) (h.2 i hi)⟩
theorem wpT_first {n i:Nat} {oi:Oper} {v:Value} (hi:ops[i]?=some oi) (hsel:∀ (j:Nat) (o:Oper) cs b,ops[j]?=some o→o.op≠.select cs b)
  (hs:Region.sinkB md ops n=true) (hc:Region.chainB md ops n=true) (hn:n < ops.size) (hin:i < n)
  (hQ:∀ c a w,Q (.panic c) (a.put oi.dst v) w→Q (.panic c) a w):
  ∀ (ab:Nat) (aa:Array Bool) (a:Act) (w:World),HeadInv md ops n aa→
   (∀ j oj,ops[j]?=some oj→j≠i→aa.getD j true=false→(∀ e∈oj.after,Region.binds md e=true→e.on≠i)→oi.apart ops oj=true)→
   i∈Region.ready md ops aa→YieldsIf P ops S oi v a→S w→
   wpT P md ops Q S n ab (aa.setIfInBounds i true) (a.put oi.dst v) w→wpT P md ops Q S n (ab+1) aa a w:=by
 intro ab
 induction ab with
 | zero=>
  intro aa a w _ _ hr hy hS H;refine ⟨fun h=>(by rw[h] at hr;cases hr),fun j hj=>?_⟩;by_cases hji:j=i
  ·subst hji;exact hy.wpOp hi hS ⟨fun _=>hS,H⟩
  ·have:=ready_mono hj hji;rw[H.1] at this
   cases this
 | succ ab ih=>
  intro aa a w inv ac hr hy hS H;have ad:=(mem_ready.1 hr).1;refine ⟨fun h=>(by rw[h] at hr;cases hr),fun j hj=>?_⟩
  have ai:j < n:=by
   rcases Nat.lt_or_ge j n with h | h
   ·exact h
   ·exact absurd hj (tail_waits hs hc hn inv _ i rfl hin ad j h)
  by_cases hji:j=i
  ·subst hji;exact hy.wpOp hi hS ⟨fun _=>hS,H⟩
  ·have h1:=H.2 j (ready_mono hj hji);obtain ⟨af,oj,ag,ah⟩:=mem_ready.1 hj
   have aj:∀ e∈oj.after,Region.binds md e=true→e.on≠i:=fun e he hb ak=>by
    have h1:=ah e he hb;rw[ak,getD_both ad] at h1
    cases h1
   have h2:=wpOp_putIf ag (ac j oj ag hji af aj) (fun cs b=>hsel i oi cs b hi) (fun cs b=>hsel j oj cs b ag) hQ hy h1
   have ae:∀ k ok,ops[k]?=some ok→k≠i→(aa.setIfInBounds j true).getD k true=false→
     (∀ e∈ok.after,Region.binds md e=true→e.on≠i)→oi.apart ops ok=true:=fun k ok hk al ad am=>by
    refine ac k ok hk al ?_ am;by_cases hjk:j=k
    ·subst hjk;exact af
    ·rw[getD_set_ne true hjk] at ad;exact ad
   refine wpOp_mono (fun a' w' h3=>⟨h3.2.1,ih (aa.setIfInBounds j true) a' w' (inv.set hj ai) ae (ready_mono hr (Ne.symm hji)) h3.1 (h3.2.1 ai) ?_⟩) h2;rw[Array.setIfInBounds_comm _ _ hji];exact h3.2.2
def headB (md:Region.Mode)(ops:Array Oper)(n:Nat)(listed:Array Bool):Bool:=
 listed.size==ops.size &&
 ((List.range ops.size).all fun j=>!listed.getD j false || (match ops[j]? with | some oj=>oj.after.all fun e=>!Region.binds md e || listed.getD e.on false | none=>true)) &&
 (List.range ops.size).all fun t=>t < n || !listed.getD t true
theorem headB_spec {n:Nat}{listed:Array Bool}(h:headB md ops n listed=true):HeadInv md ops n listed:=by
 simp only[headB,Bool.and_eq_true,beq_iff_eq]at h;obtain ⟨⟨h1,h2⟩,h3⟩:=h;refine ⟨h1,fun j oj hj hl e he hb=>?_,fun t ht ab=>?_⟩
 ·have aa:j < ops.size:=(Array.getElem?_eq_some_iff.1 hj).1;have:=List.all_eq_true.1 h2 j (List.mem_range.2 aa);rw[hl,hj] at this;simp only[Bool.not_true,Bool.false_or] at this;have:=Array.all_eq_true'.1 this e he;rw[hb] at this;simpa using this
 ·have:=List.all_eq_true.1 h3 t (List.mem_range.2 ab)
  have h4:decide (t < n)=false:=by simp;omega
  rw[h4]at this;simpa using this
def takeB (md:Region.Mode)(ops:Array Oper)(n:Nat)(listed:Array Bool)(i:Nat):Bool:=
 Region.noSelect ops && Region.sinkB md ops n && Region.chainB md ops n && decide (n < ops.size) && decide (i < n) && Region.free md ops listed i && (Region.ready md ops listed).contains i && headB md ops n listed
theorem wpT_take {n:Nat} (i:Nat) {oi:Oper} {v:Value} {fuel:Nat} {listed:Array Bool} {a:Act} {w:World} (hi:ops[i]?=some oi) (hB:takeB md ops n listed i=true)
  (hQ:∀ c a w,Q (.panic c) (a.put oi.dst v) w→Q (.panic c) a w) (hS:S w) (hy:YieldsIf P ops S oi v a)
  (h:wpT P md ops Q S n fuel (listed.setIfInBounds i true) (a.put oi.dst v) w):wpT P md ops Q S n (fuel+1) listed a w:=by
 simp only[takeB,Bool.and_eq_true,decide_eq_true_eq]at hB;obtain ⟨⟨⟨⟨⟨⟨⟨h1,h2⟩,h3⟩,h4⟩,h5⟩,h6⟩,h7⟩,h8⟩:=hB;exact wpT_first hi (Region.noSelect_spec h1) h2 h3 h4 h5 hQ fuel listed a w (headB_spec h8) (Region.free_spec hi h6) (by simpa using h7) hy hS h
theorem tk {n:Nat} (i:Nat) {oi:Oper} {v:Value} {fuel:Nat} {listed:Array Bool} {a:Act} {w:World} (hS:S w) (h:wpT P md ops Q S n fuel (listed.setIfInBounds i true) (a.put oi.dst v) w)
  (hi:ops[i]?=some oi:=by rfl) (hB:takeB md ops n listed i=true:=by kernel_rfl) (hw:Region.wanted oi (yielded ops a.tmps)=true:=by first | kernel_rfl | rfl)
  (hy:∀ W,S W→(execOp a.eval oi).run P W=.ok (.value v) W:=by (intro W hW;(try dsimp only at hW);go_simp;try with_reducible rfl))
  (hQ:∀ c a w,Q (.panic c) (a.put oi.dst v) w→Q (.panic c) a w:=by exact fun _ _ _ h=>h):wpT P md ops Q S n (fuel+1) listed a w:=
 wpT_take i hi hB hQ hS (Or.inl ⟨hw,hy⟩) h
theorem wpT_one {n:Nat} (i:Nat) {oi:Oper} {fuel:Nat} {listed:Array Bool} {a:Act} {w:World} (hi:ops[i]?=some oi) (hr:Region.ready md ops listed=[i])
  (h:∀ K':Act→World→Prop,Shut (∀ a w,(i < n→S w)→wpT P md ops Q S n fuel (listed.setIfInBounds i true) a w→K' a w)→if Region.wanted oi (yielded ops a.tmps)=true then Oper.wp P oi a w K' Q else K' (a.put oi.dst undef) w):
  wpT P md ops Q S n (fuel+1) listed a w:=by
 refine ⟨fun h0=>(by rw[hr] at h0;cases h0),fun j hj=>?_⟩;rw[hr] at hj
 obtain rfl:j=i:=by simpa using hj
 exact wpOp_step hi fun K' hK=>h K' fun a w hS hW=>hK a w ⟨hS,hW⟩
theorem wpT_two {n:Nat} (i j:Nat) {oi oj:Oper} {fuel:Nat} {listed:Array Bool} {a:Act} {w:World} (hi:ops[i]?=some oi) (hj:ops[j]?=some oj) (hr:Region.ready md ops listed=[i,j])
  (h1:∀ K':Act→World→Prop,Shut (∀ a w,(i < n→S w)→wpT P md ops Q S n fuel (listed.setIfInBounds i true) a w→K' a w)→if Region.wanted oi (yielded ops a.tmps)=true then Oper.wp P oi a w K' Q else K' (a.put oi.dst undef) w)
  (h2:∀ K':Act→World→Prop,Shut (∀ a w,(j < n→S w)→wpT P md ops Q S n fuel (listed.setIfInBounds j true) a w→K' a w)→if Region.wanted oj (yielded ops a.tmps)=true then Oper.wp P oj a w K' Q else K' (a.put oj.dst undef) w):
  wpT P md ops Q S n (fuel+1) listed a w:=by
 refine ⟨fun h0=>(by rw[h0] at hr;cases hr),fun k hk=>?_⟩;rw[hr] at hk
 have:k=i∨k=j:=by simpa using hk
 rcases this with rfl | rfl
 ·exact wpOp_step hi fun K' hK=>h1 K' fun a w hS hW=>hK a w ⟨hS,hW⟩
 ·exact wpOp_step hj fun K' hK=>h2 K' fun a w hS hW=>hK a w ⟨hS,hW⟩
theorem wpT_three {n:Nat} (i j k:Nat) {oi oj ok:Oper} {fuel:Nat} {listed:Array Bool} {a:Act} {w:World} (hi:ops[i]?=some oi) (hj:ops[j]?=some oj) (hk:ops[k]?=some ok) (hr:Region.ready md ops listed=[i,j,k])
  (h1:∀ K':Act→World→Prop,Shut (∀ a w,(i < n→S w)→wpT P md ops Q S n fuel (listed.setIfInBounds i true) a w→K' a w)→if Region.wanted oi (yielded ops a.tmps)=true then Oper.wp P oi a w K' Q else K' (a.put oi.dst undef) w)
  (h2:∀ K':Act→World→Prop,Shut (∀ a w,(j < n→S w)→wpT P md ops Q S n fuel (listed.setIfInBounds j true) a w→K' a w)→if Region.wanted oj (yielded ops a.tmps)=true then Oper.wp P oj a w K' Q else K' (a.put oj.dst undef) w)
  (h3:∀ K':Act→World→Prop,Shut (∀ a w,(k < n→S w)→wpT P md ops Q S n fuel (listed.setIfInBounds k true) a w→K' a w)→if Region.wanted ok (yielded ops a.tmps)=true then Oper.wp P ok a w K' Q else K' (a.put ok.dst undef) w):
  wpT P md ops Q S n (fuel+1) listed a w:=by
 refine ⟨fun h0=>(by rw[h0] at hr;cases hr),fun m hm=>?_⟩;rw[hr] at hm
 have:m=i∨m=j∨m=k:=by simpa using hm
 rcases this with rfl | rfl | rfl
 ·exact wpOp_step hi fun K' hK=>h1 K' fun a w hS hW=>hK a w ⟨hS,hW⟩
 ·exact wpOp_step hj fun K' hK=>h2 K' fun a w hS hW=>hK a w ⟨hS,hW⟩
 ·exact wpOp_step hk fun K' hK=>h3 K' fun a w hS hW=>hK a w ⟨hS,hW⟩
theorem wpT_seq {n:Nat}:∀ (l:List Oper) (k:Nat) (listed:Array Bool) (a:Act) (w:World),n≤k→(∀ j,l[j]?=ops[k+j]?)→
  Region.seqB md ops l.length k listed=true→wpList P ops Q l a w→wpT P md ops Q S n l.length listed a w
 | [],_,_,_,_,_,_,hB,h=>⟨by simpa[Region.seqB] using hB,h⟩
 | o::l,k,listed,a,w,hk,hl,hB,h=>by
  have h0:ops[k]?=some o:=by simpa using (hl 0).symm
  simp only[List.length_cons,Region.seqB,Bool.and_eq_true,decide_eq_true_eq]at hB;refine ⟨fun h1=>(by rw[hB.1] at h1;cases h1),fun i hi=>?_⟩;rw[hB.1] at hi
  obtain rfl:i=k:=by simpa using hi
  have hw:wpOp P ops Q i (wpList P ops Q l) a w:=by unfold wpOp;simp only[h0];exact h
  exact wpOp_mono (fun a' w' h'=>⟨fun h=>by omega,wpT_seq l (i+1) _ a' w' (by omega) (fun j=>by have:=hl (j+1);simpa[Nat.add_assoc,Nat.add_comm 1 j] using this) hB.2 h'⟩) hw
theorem wpT_tail {n fuel:Nat}{listed:Array Bool}{a:Act}{w:World}(hf:(ops.toList.drop n).length=fuel)(hB:Region.seqB md ops (ops.toList.drop n).length n listed=true)(h:wpList P ops Q (ops.toList.drop n) a w):wpT P md ops Q S n fuel listed a w:=by
 subst hf;exact wpT_seq _ n listed a w (Nat.le_refl _) (fun j=>by simp[List.getElem?_drop]) hB h
theorem wp_region_T {id:Nat}{a:Act}{w:World}(n:Nat)(S:World→Prop)(N:Nat)(L:Array Bool)(hN:ops.size=N)(hL:Array.replicate N false=L)(hm:P.follows .mixedOrders=true)(h:wpT P .any ops Q S n N L a w.drew):(Code.region id ops true).wp P Q a w:=by
 subst hN hL;exact wp_region_any hm (wpAny_of_T _ _ _ _ h)
end
def HasL (T:Array Value):List (Nat × Value)→Prop
 | []=>True
 | p::l=>T[p.1]?=some p.2∧HasL T l
def Has (N:Nat)(a:Act)(l:List (Nat × Value)):Prop:=a.tmps.size=N∧a.defers=[]∧HasL a.tmps l
theorem HasL.put {T:Array Value}{d:Nat}{v:Value}:∀ {l:List (Nat × Value)},HasL T l→(l.all fun p=>d != p.1)=true→HasL (T.setIfInBounds d v) l
 | [],_,_=>trivial
 | p::l,h,hf=>by
  simp only[List.all_cons,Bool.and_eq_true,bne_iff_ne,ne_eq]at hf;refine ⟨?_,HasL.put h.2 hf.2⟩;rw[Array.getElem?_setIfInBounds_ne hf.1];exact h.1
theorem Has.put {N:Nat}{a:Act}{l:List (Nat × Value)}{d:Nat}{v:Value}(h:Has N a l)(hd:d < N)(hf:(l.all fun p=>d != p.1)=true):Has N (a.put (some d) v) ((d,v)::l):=by
 refine ⟨by show (a.tmps.setIfInBounds d v).size=N;rw[Array.size_setIfInBounds];exact h.1,h.2.1,?_,HasL.put h.2.2 hf⟩;show (a.tmps.setIfInBounds d v)[d]?=some v;rw[Array.getElem?_setIfInBounds_self_of_lt (by rw[h.1];exact hd)]
theorem HasL.get {T:Array Value}:∀ {l:List (Nat × Value)} {k s:Nat} {v:Value},HasL T l→l[k]?=some (s,v)→T[s]?=some v
 | [],_,_,_,_,h=>by simp at h
 | p::l,0,_,_,h,e=>by simp at e;subst e;exact h.1
 | p::l,k+1,_,_,h,e=>HasL.get h.2 (by simpa using e)
theorem Has.get {N:Nat}{a:Act}{l:List (Nat × Value)}(h:Has N a l)(k:Nat){s:Nat}{v:Value}(e:l[k]?=some (s,v)):a.tmps[s]?=some v:=HasL.get h.2.2 e
theorem getD_of {T:Array Value}{s:Nat}{v:Value}(h:T[s]?=some v):T.getD s undef=v:=by
 rw[Array.getD_eq_getD_getElem?,h];rfl
section
variable {P:Program} {ops:Array Oper} {Q:Exit→Act→World→Prop} {md:Region.Mode} {S:World→Prop}
theorem wanted_plain {o:Oper}{f:Nat→Option Bool}(h:o.guard=none):Region.wanted o f=true:=by
 unfold Region.wanted;rw[h]
theorem wanted_by {o:Oper}{T:Array Value}{j dj:Nat}{b:Bool}(h:o.guard=some (j,b))(hj:(ops[j]?).bind (·.dst)=some dj)(e:T[dj]?=some (.bool b)):Region.wanted o (yielded ops T)=true:=by
 unfold Region.wanted yielded;rw[h];simp[hj,e]
theorem stepT {N d n:Nat} (i:Nat) {oi:Oper} {v:Value} {fuel:Nat} {listed:Array Bool} {a:Act} {w:World} {l:List (Nat × Value)} (hi:ops[i]?=some oi) (hB:takeB md ops n listed i=true)
  (hQ:∀ c a w,Q (.panic c) (a.put oi.dst v) w→Q (.panic c) a w) (hS:S w) (HA:Has N a l) (hd:oi.dst=some d) (hN:d < N) (hf:(l.all fun p=>d != p.1)=true)
  (hw:Region.wanted oi (yielded ops a.tmps)=true) (hy:∀ W,S W→(execOp a.eval oi).run P W=.ok (.value v) W)
  (h:∀ A,Has N A ((d,v)::l)→wpT P md ops Q S n fuel (listed.setIfInBounds i true) A w):wpT P md ops Q S n (fuel+1) listed a w:=
 wpT_take i hi hB hQ hS (Or.inl ⟨hw,hy⟩) (h _ (by rw[hd];exact HA.put hN hf))
theorem loudT {n:Nat} (i:Nat) {oi:Oper} {fuel:Nat} {listed:Array Bool} {a:Act} {w:World} (hi:ops[i]?=some oi) (hr:Region.ready md ops listed=[i]) (hw:Region.wanted oi (yielded ops a.tmps)=true)
  (h:∀ K':Act→World→Prop,Shut (∀ a w,(i < n→S w)→wpT P md ops Q S n fuel (listed.setIfInBounds i true) a w→K' a w)→Oper.wp P oi a w K' Q):
  wpT P md ops Q S n (fuel+1) listed a w:=
 wpT_one i hi hr fun K' hK=>by rw[if_pos hw];exact h K' hK
theorem putT {N d n fuel:Nat} {v:Value} {listed:Array Bool} {a:Act} {w:World} {l:List (Nat × Value)} (HA:Has N a l) (hN:d < N) (hf:(l.all fun p=>d != p.1)=true)
  (h:∀ A,Has N A ((d,v)::l)→wpT P md ops Q S n fuel listed A w):wpT P md ops Q S n fuel listed (a.put (some d) v) w:=h _ (HA.put hN hf)
end
end Go.Proofs.YtnjonlnemagomaaGreatDoor
namespace Go.Proofs.YtnjonlnemagomaaGreatDoor.Big
set_option maxRecDepth 100000
set_option maxHeartbeats 8000000
set_option linter.all false
def vf (B:Nat)(f:Nat→Nat):Nat→Nat
 | 0=>0
 | n+1=>vf B f n+f n*B^n
theorem vf_zero (B:Nat)(f:Nat→Nat):vf B f 0=0:=rfl
theorem vf_succ (B:Nat)(f:Nat→Nat)(n:Nat):vf B f (n+1)=vf B f n+f n*B^n:=rfl
theorem vf_congr {B:Nat}{f g:Nat→Nat}{n:Nat}(h:∀ i,i < n→f i=g i):vf B f n=vf B g n:=by
 induction n with
 | zero=>rfl
 | succ n ih=>rw[vf_succ,vf_succ,ih (fun i hi=>h i (by omega)),h n (by omega)]
theorem vf_lt {B:Nat}{f:Nat→Nat}{n:Nat}(h:∀ i,i < n→f i < B):vf B f n < B^n:=by
 induction n with
 | zero=>simp[vf]
 | succ n ih=>
  have h1:=ih (fun i hi=>h i (by omega));have h2:=h n (by omega);rw[vf_succ,Nat.pow_succ];have h3:(f n+1)*B^n≤B*B^n:=Nat.mul_le_mul_right _ h2;rw[Nat.add_mul,Nat.one_mul,Nat.mul_comm B] at h3;omega
theorem vf_add (B:Nat)(f:Nat→Nat)(m n:Nat):vf B f (m+n)=vf B f m+B^m*vf B (fun i=>f (m+i)) n:=by
 induction n with
 | zero=>simp[vf]
 | succ n ih=>
  rw[←Nat.add_assoc,vf_succ,ih,vf_succ,Nat.mul_add,Nat.pow_add]
  have:f (m+n)*(B^m*B^n)=B^m*(f (m+n)*B^n):=by
   rw[Nat.mul_left_comm]
  omega
theorem vf_head (B:Nat)(f:Nat→Nat)(n:Nat):vf B f (n+1)=f 0+B*vf B (fun i=>f (i+1)) n:=by
 have:=vf_add B f 1 n;rw[Nat.add_comm 1 n] at this;rw[this];simp[vf,Nat.add_comm]
theorem vf_zeros {B:Nat}{f:Nat→Nat}{n:Nat}(h:∀ i,i < n→f i=0):vf B f n=0:=by
 rw[vf_congr (g:=fun _=>0) h]
 induction n with
 | zero=>rfl
 | succ n ih=>rw[vf_succ,ih (fun i hi=>h i (by omega))];simp
theorem vf_pad {B:Nat}{f:Nat→Nat}{m n:Nat}(hmn:m≤n)(h:∀ i,m≤i→i < n→f i=0):vf B f n=vf B f m:=by
 obtain ⟨k,rfl⟩:=Nat.exists_eq_add_of_le hmn;rw[vf_add,vf_zeros (fun i hi=>h (m+i) (by omega) (by omega))];simp
theorem vf_ge_top {B:Nat}{f:Nat→Nat}{n:Nat}(h:f n≠0):B^n≤vf B f (n+1):=by
 rw[vf_succ];have:1*B^n≤f n*B^n:=Nat.mul_le_mul_right _ (by omega);omega
structure Canon (B:Nat)(f:Nat→Nat)(n:Nat):Prop where
 lt:∀ i,i < n→f i < B
 top:n≠0→f (n - 1)≠0
theorem Canon.ge {B:Nat}{f:Nat→Nat}{n:Nat}(h:Canon B f n)(hn:n≠0):B^(n - 1)≤vf B f n:=by
 obtain ⟨m,rfl⟩:=Nat.exists_eq_succ_of_ne_zero hn;exact vf_ge_top (by simpa using h.top hn)
theorem Canon.lt_pow {B:Nat}{f:Nat→Nat}{n:Nat}(h:Canon B f n):vf B f n < B^n:=vf_lt h.lt
theorem Canon.pos {B:Nat}{f:Nat→Nat}{n:Nat}(h:Canon B f n)(hB:0 < B)(hn:n≠0):0 < vf B f n:=
 Nat.lt_of_lt_of_le (Nat.pow_pos hB) (h.ge hn)
theorem Canon.zero_iff {B:Nat}{f:Nat→Nat}{n:Nat}(h:Canon B f n)(hB:0 < B):vf B f n=0 ↔ n=0:=by
 constructor
 ·intro e;by_cases hn:n=0
  ·exact hn
  ·have:=h.pos hB hn;omega
 ·rintro rfl;rfl
theorem Canon.lt_of_len {B:Nat}{f g:Nat→Nat}{m n:Nat}(hf:Canon B f m)(hg:Canon B g n)(hB:1 < B)(h:m < n):vf B f m < vf B g n:=by
 have h1:=hf.lt_pow;have h2:=hg.ge (by omega);have h3:B^m≤B^(n - 1):=Nat.pow_le_pow_right (by omega) (by omega);omega
theorem vf_lt_of_digit {B:Nat} {f g:Nat→Nat} {n i:Nat} (hf:∀ j,j < n→f j < B) (hg:∀ j,j < n→g j < B) (hi:i < n)
  (heq:∀ j,i < j→j < n→f j=g j) (hlt:f i < g i):vf B f n < vf B g n:=by
 obtain ⟨k,rfl⟩:=Nat.exists_eq_add_of_lt hi;have e1:=vf_add B f (i+1) k;have e2:=vf_add B g (i+1) k;have e3:vf B (fun j=>f (i+1+j)) k=vf B (fun j=>g (i+1+j)) k:=vf_congr (fun j hj=>heq _ (by omega) (by omega))
 have e4:i+1+k=i+k+1:=by omega
 rw[e4]at e1 e2;rw[e1,e2,e3,vf_succ,vf_succ];have h1:vf B f i < B^i:=vf_lt (fun j hj=>hf j (by omega));have h2:(f i+1)*B^i≤g i*B^i:=Nat.mul_le_mul_right _ hlt;rw[Nat.add_mul,Nat.one_mul] at h2;omega
theorem guess_ge {U V T t q lo:Nat}(hU:U < (T+1)*lo)(hV:t*lo≤V)(hq:q*V≤U)(ht:0 < t):q≤T / t:=by
 rw[Nat.le_div_iff_mul_le ht]
 have h1:q*t*lo≤q*V:=by rw[Nat.mul_assoc];exact Nat.mul_le_mul_left _ hV
 have h2:q*t*lo < (T+1)*lo:=by omega
 have:=Nat.lt_of_mul_lt_mul_right h2;omega
theorem guess_down {U V T t q h lo:Nat}(hU:U < (T+1)*lo)(hV:t*lo≤V)(hq:q*V≤U)(hbad:T < h*t):q < h:=by
 have h1:q*t*lo≤q*V:=by rw[Nat.mul_assoc];exact Nat.mul_le_mul_left _ hV
 have h2:q*t*lo < (T+1)*lo:=by omega
 have h3:=Nat.lt_of_mul_lt_mul_right h2
 have h4:q*t < h*t:=by omega
 exact Nat.lt_of_mul_lt_mul_right h4
theorem guess_le {U V T t h lo:Nat}(hU:T*lo≤U)(hV:V < (t+1)*lo)(hok:h*t≤T)(hlo:h*lo≤V):h*V≤U+V:=by
 have h1:h*V≤h*((t+1)*lo):=Nat.mul_le_mul_left _ (Nat.le_of_lt hV)
 have h2:h*((t+1)*lo)=h*t*lo+h*lo:=by rw[←Nat.mul_assoc,Nat.mul_add,Nat.add_mul,Nat.mul_one]
 have h3:h*t*lo≤T*lo:=Nat.mul_le_mul_right _ hok;omega
def upd (f:Nat→Nat)(k v:Nat):Nat→Nat:=fun i=>if i=k then v else f i
theorem upd_same (f:Nat→Nat)(k v:Nat):upd f k v k=v:=by simp[upd]
theorem upd_other (f:Nat→Nat){k i:Nat}(v:Nat)(h:i≠k):upd f k v i=f i:=by simp[upd,h]
theorem vf_upd_above {B:Nat}{f:Nat→Nat}{k v n:Nat}(h:n≤k):vf B (upd f k v) n=vf B f n:=
 vf_congr fun i hi=>upd_other f v (by omega)
theorem vf_upd {B:Nat}{f:Nat→Nat}{k v n:Nat}(h:k < n):vf B (upd f k v) n+f k*B^k=vf B f n+v*B^k:=by
 induction n with
 | zero=>omega
 | succ n ih=>
  rw[vf_succ,vf_succ];by_cases hk:k=n
  ·subst hk;rw[vf_upd_above (Nat.le_refl _),upd_same];omega
  ·rw[upd_other f v (by omega)];have:=ih (by omega);omega
theorem carry_step {B p s o c:Nat}(h:o+B*c=s):o*p+c*(p*B)=s*p:=by
 subst h;rw[Nat.add_mul,Nat.mul_comm p B,←Nat.mul_assoc,Nat.mul_comm c B]
theorem add_step {B i:Nat}{o x y:Nat→Nat}{c c':Nat}(h:vf B o i+c*B^i=vf B x i+vf B y i)(hs:o i+B*c'=x i+y i+c):
  vf B o (i+1)+c'*B^(i+1)=vf B x (i+1)+vf B y (i+1):=by
 have:=carry_step (p:=B^i) hs;rw[vf_succ,vf_succ,vf_succ,Nat.pow_succ];rw[Nat.add_mul,Nat.add_mul] at this;omega
theorem sub_step {B i:Nat}{o x y:Nat→Nat}{c c':Nat}(h:vf B o i+vf B y i=vf B x i+c*B^i)(hs:o i+y i+c=x i+B*c'):
  vf B o (i+1)+vf B y (i+1)=vf B x (i+1)+c'*B^(i+1):=by
 have e:(o i+y i+c)*B^i=(x i+B*c')*B^i:=by rw[hs]
 rw[Nat.add_mul,Nat.add_mul,Nat.add_mul]at e;rw[vf_succ,vf_succ,vf_succ,Nat.pow_succ,Nat.mul_comm (B^i) B,←Nat.mul_assoc,Nat.mul_comm c' B];omega
theorem mul_step {B i j n:Nat} {o y:Nat→Nat} {x c lo c' T:Nat} (hj:i+j < n) (h:vf B o n+c*B^(i+j)=T+x*vf B y j*B^i)
  (hs:lo+B*c'=o (i+j)+x*y j+c):vf B (upd o (i+j) lo) n+c'*B^(i+(j+1))=T+x*vf B y (j+1)*B^i:=by
 have h1:=vf_upd (B:=B) (f:=o) (v:=lo) hj;have h2:=carry_step (p:=B^(i+j)) hs
 have e:B^(i+(j+1))=B^(i+j)*B:=by rw[←Nat.add_assoc,Nat.pow_succ]
 have h3:x*vf B y (j+1)*B^i=x*vf B y j*B^i+x*y j*B^(i+j):=by
  rw[vf_succ,Nat.mul_add,Nat.add_mul,Nat.pow_add,Nat.mul_assoc x (y j*B^j) (B^i),Nat.mul_assoc (y j),Nat.mul_comm (B^j) (B^i),←Nat.mul_assoc x]
 rw[e,h3];rw[Nat.add_mul,Nat.add_mul] at h2;omega
theorem div1_step {B i n:Nat} {q a:Nat→Nat} {d r r':Nat} (hi:i < n)
  (h:vf B (fun k=>q (i+1+k)) (n - (i+1))*d+r=vf B (fun k=>a (i+1+k)) (n - (i+1))) (hs:q i*d+r'=r*B+a i):
  vf B (fun k=>q (i+k)) (n - i)*d+r'=vf B (fun k=>a (i+k)) (n - i):=by
 have e:n - i=n - (i+1)+1:=by omega
 rw[e,vf_head,vf_head]
 have e1:(fun k=>q (i+(k+1)))=fun k=>q (i+1+k):=funext fun k=>by rw[show i+(k+1)=i+1+k by omega]
 have e2:(fun k=>a (i+(k+1)))=fun k=>a (i+1+k):=funext fun k=>by rw[show i+(k+1)=i+1+k by omega]
 rw[e1,e2,←h];simp only[Nat.add_zero];generalize vf B (fun k=>q (i+1+k)) (n - (i+1))=Q at *;rw[Nat.add_mul,Nat.mul_add,Nat.mul_assoc B Q d,Nat.mul_comm B r];omega
theorem msub_step {B i:Nat} {o u v:Nat→Nat} {t b c lo b' c':Nat} (h:vf B o i+t*vf B v i=vf B u i+(b+c)*B^i)
  (hp:lo+B*c'=t*v i+c) (hs:o i+lo+b=u i+B*b'):
  vf B o (i+1)+t*vf B v (i+1)=vf B u (i+1)+(b'+c')*B^(i+1):=by
 have h1:=carry_step (p:=B^i) hp
 have h2:(o i+lo+b)*B^i=(u i+B*b')*B^i:=by rw[hs]
 rw[Nat.add_mul,Nat.add_mul,Nat.add_mul]at h2;rw[Nat.add_mul] at h1 h
 have h3:t*vf B v (i+1)=t*vf B v i+t*v i*B^i:=by rw[vf_succ,Nat.mul_add,Nat.mul_assoc]
 have h4:(b'+c')*B^(i+1)=B*b'*B^i+c'*(B^i*B):=by
  rw[Nat.add_mul,Nat.pow_succ,Nat.mul_comm (B^i) B,←Nat.mul_assoc b',Nat.mul_comm b' B]
 rw[vf_succ B o,vf_succ B u,h3,h4];omega
theorem shl_step {B i m:Nat}{o w:Nat→Nat}{c c':Nat}(h:vf B o i+c*B^i=vf B w i*m)(hs:o i+B*c'=w i*m+c):
  vf B o (i+1)+c'*B^(i+1)=vf B w (i+1)*m:=by
 have h1:=carry_step (p:=B^i) hs;rw[Nat.add_mul] at h1
 have h2:w i*m*B^i=w i*B^i*m:=by rw[Nat.mul_assoc,Nat.mul_comm m,←Nat.mul_assoc]
 rw[vf_succ,vf_succ,Nat.add_mul,Nat.pow_succ];omega
theorem canon_trim {B:Nat}{f:Nat→Nat}{m n:Nat}(hlt:∀ i,i < m→f i < B)(hn:n≤m)(h0:∀ i,n≤i→i < m→f i=0)(hstop:n=0∨f (n - 1)≠0):
  Canon B f n∧vf B f n=vf B f m:=by
 refine ⟨⟨fun i hi=>hlt i (by omega),fun h=>?_⟩,(vf_pad hn h0).symm⟩;rcases hstop with h1 | h1
 ·exact absurd h1 h
 ·exact h1
theorem test_iff {B T2 vt v2 u2 h r:Nat}(hr:h*vt+r=T2):h*v2≤r*B+u2 ↔ h*(vt*B+v2)≤T2*B+u2:=by
 subst hr;rw[Nat.mul_add,Nat.add_mul,←Nat.mul_assoc];omega
theorem test_over {B T2 vt v2 u2 h r:Nat}(hr:h*vt+r=T2)(hB:B≤r)(hh:h < B)(hv:v2 < B):h*(vt*B+v2)≤T2*B+u2:=by
 rw[←test_iff hr];have h1:h*v2≤B*B:=Nat.mul_le_mul (Nat.le_of_lt hh) (Nat.le_of_lt hv);have h2:B*B≤r*B:=Nat.mul_le_mul_right _ hB;omega
theorem top3 (B:Nat)(u:Nat→Nat)(n:Nat):vf B u (n+3)=vf B u n+((u (n+2)*B+u (n+1))*B+u n)*B^n:=by
 rw[vf_succ,vf_succ,vf_succ,Nat.pow_succ,Nat.pow_succ]
 grind
theorem top2 (B:Nat)(v:Nat→Nat)(n:Nat):vf B v (n+2)=vf B v n+(v (n+1)*B+v n)*B^n:=by
 rw[vf_succ,vf_succ,Nat.pow_succ]
 grind
theorem top2' (B:Nat)(u:Nat→Nat)(n:Nat):vf B u (n+3)=vf B u (n+1)+(u (n+2)*B+u (n+1))*B^(n+1):=by
 rw[vf_succ,vf_succ,Nat.pow_succ,Nat.pow_succ]
 grind
theorem exists_quo {U V:Nat}(h:0 < V):∃ q,q*V≤U∧U < (q+1)*V:=
 ⟨U / V,Nat.div_mul_le_self _ _,by rw[Nat.add_mul,Nat.one_mul];exact Nat.lt_div_mul_add h⟩
section
variable {B:Nat} {u v:Nat→Nat} {n h r:Nat}
variable (hB:0 < B) (hu:∀ i,i < n+3→u i < B) (hv:∀ i,i < n+2→v i < B) (hv0:v (n+1)≠0)
include hB hu hv0 in
theorem first_ge:vf B u (n+3) < ((u (n+2)*B+u (n+1)) / v (n+1)+1)*vf B v (n+2):=by
 have hV:v (n+1)*B^(n+1)≤vf B v (n+2):=by rw[vf_succ];omega
 have hU:vf B u (n+3) < (u (n+2)*B+u (n+1)+1)*B^(n+1):=by
  rw[top2',Nat.add_mul _ 1,Nat.one_mul];have:vf B u (n+1) < B^(n+1):=vf_lt fun i hi=>hu i (by omega);omega
 have aa:0 < vf B v (n+2):=Nat.lt_of_lt_of_le (Nat.mul_pos (Nat.pos_of_ne_zero hv0) (Nat.pow_pos hB)) hV;obtain ⟨q,ab,ac⟩:=exists_quo (U:=vf B u (n+3)) aa;have h1:=guess_ge hU hV ab (Nat.pos_of_ne_zero hv0);exact Nat.lt_of_lt_of_le ac (Nat.mul_le_mul_right _ (Nat.succ_le_succ h1))
include hB hu hv0 in
theorem guess_fail (hg:h*(v (n+1)*B+v n) > (u (n+2)*B+u (n+1))*B+u n):0 < h∧vf B u (n+3) < (h - 1+1)*vf B v (n+2):=by
 have hV:(v (n+1)*B+v n)*B^n≤vf B v (n+2):=by rw[top2];omega
 have hU:vf B u (n+3) < ((u (n+2)*B+u (n+1))*B+u n+1)*B^n:=by
  rw[top3,Nat.add_mul _ 1,Nat.one_mul];have:vf B u n < B^n:=vf_lt fun i hi=>hu i (by omega);omega
 have ad:0 < v (n+1)*B^(n+1):=Nat.mul_pos (Nat.pos_of_ne_zero hv0) (Nat.pow_pos hB)
 have aa:0 < vf B v (n+2):=by rw[vf_succ];omega
 obtain ⟨q,ab,ac⟩:=exists_quo (U:=vf B u (n+3)) aa;have h1:=guess_down hU hV ab hg;exact ⟨Nat.lt_of_le_of_lt (Nat.zero_le _) h1,Nat.lt_of_lt_of_le ac (Nat.mul_le_mul_right _ (by omega))⟩
include hv hv0 in
theorem guess_pass (hh:h < B)(hg:h*(v (n+1)*B+v n)≤(u (n+2)*B+u (n+1))*B+u n):h*vf B v (n+2)≤vf B u (n+3)+vf B v (n+2):=by
 have aa:B^(n+1)≤v (n+1)*B^(n+1):=by
  have:=Nat.mul_le_mul_right (B^(n+1)) (Nat.pos_of_ne_zero hv0);omega
 refine guess_le (T:=(u (n+2)*B+u (n+1))*B+u n) (t:=v (n+1)*B+v n) (lo:=B^n) ?_ ?_ hg ?_
 ·rw[top3];omega
 ·rw[top2,Nat.add_mul _ 1,Nat.one_mul];have:vf B v n < B^n:=vf_lt fun i hi=>hv i (by omega);omega
 ·have h1:h*B^n≤B*B^n:=Nat.mul_le_mul_right _ (Nat.le_of_lt hh)
  have h2:B*B^n=B^(n+1):=by rw[Nat.pow_succ,Nat.mul_comm]
  have h3:vf B v (n+2)=vf B v (n+1)+v (n+1)*B^(n+1):=vf_succ _ _ _;omega
end
theorem msub_ok {U V o t:Nat}(hs:o+t*V=U)(hge:U < (t+1)*V):o < V:=by
 rw[Nat.add_mul,Nat.one_mul]at hge;omega
theorem msub_back {U V o t P:Nat}(hs:o+t*V=U+P)(ho:o < P)(hle:t*V≤U+V):0 < t∧P≤o+V∧(o+V - P)+(t - 1)*V=U∧o+V - P < V:=by
 have ht:0 < t:=by
  rcases Nat.eq_zero_or_pos t with h | h
  ·subst h;omega
  ·exact h
 obtain ⟨k,rfl⟩:∃ k,t=k+1:=⟨t - 1,by omega⟩;rw[Nat.add_mul,Nat.one_mul] at hs hle;simp only[Nat.add_sub_cancel];omega
theorem upd_lt {o:Nat→Nat}{B k v:Nat}(ho:∀ j,o j < B)(hv:v < B)(j:Nat):upd o k v j < B:=by
 unfold upd;split
 ·exact hv
 ·exact ho j
def cmpNat (x y:Nat):Int:=if x < y then -1 else if y < x then 1 else 0
def padded (g:Nat→Nat)(n:Nat):Nat→Nat:=fun i=>if i < n then g i else 0
theorem padded_lt {g:Nat→Nat}{n B:Nat}(hB:0 < B)(h:∀ i,i < n→g i < B)(i:Nat):padded g n i < B:=by
 unfold padded;split
 ·exact h i (by assumption)
 ·exact hB
theorem padded_in {g:Nat→Nat}{n k:Nat}(h:k < n):padded g n k=g k:=by simp[padded,h]
theorem padded_out {g:Nat→Nat}{n k:Nat}(h:¬k < n):padded g n k=0:=by simp[padded,h]
end Go.Proofs.YtnjonlnemagomaaGreatDoor.Big
namespace Go.Proofs.YtnjonlnemagomaaGreatDoor
open Go.RowKit Big Tryz
open Go.Lib (hid)
set_option maxRecDepth 100000
set_option maxHeartbeats 8000000
set_option linter.all false
theorem lt_of_cell {w:World}{p:Addr}{v:Value}(h:w.cell? p=some v):p.block < w.heap.size:=by
 by_cases hb:p.block < w.heap.size
 ·exact hb
 ·exfalso;simp[World.cell?,hb] at h
theorem below_drewN {B:Nat}{a w:World}(h:Below B a w)(n:Nat):Below B a (w.drewN n):=⟨h.os,h.tape,h.output,h.size,h.block⟩
def New (w w':World):Prop:=Below w.heap.size w w'
theorem New.refl (w:World):New w w:=Below.refl _ _
theorem New.trans {a b c:World}(h:New a b)(k:New b c):New a c:=Below.trans h (Below.mono k h.size)
theorem New.size {a b:World}(h:New a b):a.heap.size≤b.heap.size:=Below.size h
theorem New.drewN {a b:World}(h:New a b)(n:Nat):New a (b.drewN n):=below_drewN h n
theorem New.drew {a b:World}(h:New a b):New a b.drew:=Below.drew h
theorem New.alloc {a b:World}(h:New a b)(o:Obj):New a (b.alloc o):=Below.alloc h h.size o
theorem New.setCell {a b:World}(h:New a b){p:Addr}(hp:a.heap.size≤p.block)(u:Value):New a (b.setCell p u):=Below.setCell h hp u
theorem New.cell {a b:World}(h:New a b){p:Addr}{v:Value}(hc:a.cell? p=some v):b.cell? p=some v:=(Below.cell h (lt_of_cell hc)).trans hc
theorem New.cells {a b:World}(h:New a b):∀ k o,k < a.heap.size→b.cell? ⟨k,o,none⟩=a.cell? ⟨k,o,none⟩:=fun k o hk=>Below.cell h (p:=⟨k,o,none⟩) hk
theorem New.row {a b:World}(h:New a b){k:Nat}{t:TypeId}{n:Nat}{f:Nat→Value}(hr:a.rowIs k t n f):b.rowIs k t n f:=hr.of_block (Below.block h k hr.lt)
def Rd (w:World)(a:Option Addr)(k:IntKind)(n:Nat)(f:Nat→Nat):Prop:=∀ i,i < n→∃ b off,a=some ⟨b,off,none⟩∧w.cell? ⟨b,off+i,none⟩=some (.int k (f i))
theorem Rd.new {w w':World}{a:Option Addr}{k:IntKind}{n:Nat}{f:Nat→Nat}(h:Rd w a k n f)(hb:New w w'):Rd w' a k n f:=fun i hi=>by
 obtain ⟨b,off,e,hc⟩:=h i hi;exact ⟨b,off,e,hb.cell hc⟩
theorem Rd.le {w:World}{a:Option Addr}{k:IntKind}{n m:Nat}{f:Nat→Nat}(h:Rd w a k n f)(hm:m≤n):Rd w a k m f:=fun i hi=>h i (by omega)
theorem Rd.zero (w:World)(a:Option Addr)(k:IntKind)(f:Nat→Nat):Rd w a k 0 f:=fun i hi=>by omega
theorem Rd.of_row {w:World}{b:Nat}{t:TypeId}{n:Nat}{k:IntKind}{f:Nat→Nat}(h:w.rowIs b t n fun i=>.int k (f i)):Rd w (some ⟨b,0,none⟩) k n f:=fun i hi=>⟨b,0,rfl,by
 have:=h.cell hi
 simpa using this⟩
def Row (w:World)(b:Nat)(t:TypeId)(k:IntKind)(n:Nat)(f:Nat→Nat):Prop:=w.rowIs b t n fun i=>.int k (f i)
theorem Row.rd {w:World}{b:Nat}{t:TypeId}{k:IntKind}{n:Nat}{f:Nat→Nat}(h:Row w b t k n f):Rd w (some ⟨b,0,none⟩) k n f:=Rd.of_row h
theorem Row.new {w w':World}{b:Nat}{t:TypeId}{k:IntKind}{n:Nat}{f:Nat→Nat}(h:Row w b t k n f)(hn:New w w'):Row w' b t k n f:=hn.row h
theorem Row.drewN {w:World}{b:Nat}{t:TypeId}{k:IntKind}{n:Nat}{f:Nat→Nat}(h:Row w b t k n f)(m:Nat):Row (w.drewN m) b t k n f:=h
theorem Row.drew {w:World}{b:Nat}{t:TypeId}{k:IntKind}{n:Nat}{f:Nat→Nat}(h:Row w b t k n f):Row w.drew b t k n f:=h
theorem Row.alloc {w:World}{b:Nat}{t:TypeId}{k:IntKind}{n:Nat}{f:Nat→Nat}(h:Row w b t k n f)(o:Obj):Row (w.alloc o) b t k n f:=World.rowIs.alloc h o
theorem Row.cell {w:World}{b:Nat}{t:TypeId}{k:IntKind}{n:Nat}{f:Nat→Nat}(h:Row w b t k n f){i:Nat}(hi:i < n):w.cell? ⟨b,i,none⟩=some (.int k (f i)):=World.rowIs.cell h hi
theorem Row.frozen {w:World}{b:Nat}{t:TypeId}{k:IntKind}{n:Nat}{f:Nat→Nat}(h:Row w b t k n f)(i:Nat):w.frozen? ⟨b,i,none⟩=false:=World.rowIs.frozen h i
theorem Row.lt {w:World}{b:Nat}{t:TypeId}{k:IntKind}{n:Nat}{f:Nat→Nat}(h:Row w b t k n f):b < w.heap.size:=World.rowIs.lt h
theorem Row.other {w:World}{b:Nat}{t:TypeId}{k:IntKind}{n:Nat}{f:Nat→Nat}(h:Row w b t k n f){p:Addr}(hp:b≠p.block)(u:Value):Row (w.setCell p u) b t k n f:=World.rowIs.setOther h hp u
theorem Row.set {w:World}{b:Nat}{t:TypeId}{k:IntKind}{n:Nat}{f:Nat→Nat}(h:Row w b t k n f)(i v:Nat):Row (w.setCell ⟨b,i,none⟩ (.int k v)) b t k n (Big.upd f i v):=by
 have:=World.rowIs.set h i (.int k v);refine World.rowIs.congr this fun j _=>?_;unfold Big.upd;split <;> rfl
theorem Row.made (w:World)(k:IntKind)(n:Nat)(t:TypeId):Row (w.alloc (.cells (madeCells #[.int k 0] n) t)) w.heap.size t k n fun _=>0:=World.rowIs_made w (.int k 0) n t
theorem size_alloc (w:World)(o:Obj):w.heap.size+1=(w.alloc o).heap.size:=by
 show _=(w.heap.push _).size;rw[Array.size_push]
def Box (w:World)(B:Nat)(t:TypeId)(cs:Array Value):Prop:=w.heap[B]?=some (.cells cs t (0,0))
theorem Box.lt {w:World}{B:Nat}{t:TypeId}{cs:Array Value}(h:Box w B t cs):B < w.heap.size:=by
 unfold Box at h;rcases Nat.lt_or_ge B w.heap.size with h1 | h1
 ·exact h1
 ·rw[Array.getElem?_eq_none h1] at h;cases h
theorem Box.new {a b:World}{B:Nat}{t:TypeId}{cs:Array Value}(h:Box a B t cs)(hn:New a b):Box b B t cs:=by
 have:=Below.block hn B h.lt;unfold Box at h⊢;rw[this,h]
theorem Box.alloc (w:World)(B:Nat)(t:TypeId)(cs:Array Value)(hB:B=w.heap.size):Box (w.alloc (.cells cs t)) B t cs:=by
 subst hB;show (w.heap.push _)[w.heap.size]?=_;simp
theorem lay1 (w:World)(t:TypeId)(cs:Array Value):Hid (Box (w.alloc (.cells cs t)) w.heap.size t cs)∧Hid (New w (w.alloc (.cells cs t))):=
 ⟨Box.alloc w _ t cs rfl,(New.refl w).alloc _⟩
theorem lay2 (w:World)(t:TypeId)(cs:Array Value)(t':TypeId)(cs':Array Value):Hid (Box ((w.alloc (.cells cs t)).alloc (.cells cs' t')) w.heap.size t cs)∧Hid (Box ((w.alloc (.cells cs t)).alloc (.cells cs' t')) (w.heap.size+1) t' cs')∧Hid (New w ((w.alloc (.cells cs t)).alloc (.cells cs' t'))):=
 ⟨(Box.alloc w _ t cs rfl).new ((New.refl _).alloc _),Box.alloc _ _ t' cs' (by simp),((New.refl w).alloc _).alloc _⟩
theorem lay3 (w:World)(t:TypeId)(cs:Array Value)(t':TypeId)(cs':Array Value)(t'':TypeId)(cs'':Array Value):Hid (Box (((w.alloc (.cells cs t)).alloc (.cells cs' t')).alloc (.cells cs'' t'')) w.heap.size t cs)∧Hid (Box (((w.alloc (.cells cs t)).alloc (.cells cs' t')).alloc (.cells cs'' t'')) (w.heap.size+1) t' cs')∧
  Hid (Box (((w.alloc (.cells cs t)).alloc (.cells cs' t')).alloc (.cells cs'' t'')) (w.heap.size+1+1) t'' cs'')∧Hid (New w (((w.alloc (.cells cs t)).alloc (.cells cs' t')).alloc (.cells cs'' t''))):=
 ⟨(Box.alloc w _ t cs rfl).new (((New.refl _).alloc _).alloc _),(Box.alloc _ _ t' cs' (by simp)).new ((New.refl _).alloc _),Box.alloc _ _ t'' cs'' (by simp),(((New.refl w).alloc _).alloc _).alloc _⟩
theorem Box.cell {w:World}{B:Nat}{t:TypeId}{cs:Array Value}(h:Box w B t cs)(i:Nat):w.cell? ⟨B,i,none⟩=cs[i]?:=by
 unfold Box at h;simp[World.cell?,h]
theorem Box.frozen {w:World}{B:Nat}{t:TypeId}{cs:Array Value}(h:Box w B t cs)(i:Nat):w.frozen? ⟨B,i,none⟩=false:=by
 unfold Box at h;simp[World.frozen?,h]
theorem Box.one {w:World}{B:Nat}{t:TypeId}{x:Value}(h:Box w B t #[x]):w.cell? ⟨B,0,none⟩=some x∧w.frozen? ⟨B,0,none⟩=false∧B < w.heap.size:=⟨h.cell 0,h.frozen 0,h.lt⟩
theorem Box.two {w:World}{B:Nat}{t:TypeId}{x y:Value}(h:Box w B t #[x,y]):
  w.cell? ⟨B,0,none⟩=some x∧w.cell? ⟨B,1,none⟩=some y∧w.frozen? ⟨B,0,none⟩=false∧w.frozen? ⟨B,1,none⟩=false∧B < w.heap.size:=⟨h.cell 0,h.cell 1,h.frozen 0,h.frozen 1,h.lt⟩
theorem Box.four {w:World}{B:Nat}{t:TypeId}{x y x' y':Value}(h:Box w B t #[x,y,x',y']):
  (w.cell? ⟨B,0,none⟩=some x∧w.cell? ⟨B,1,none⟩=some y∧w.cell? ⟨B,2,none⟩=some x'∧w.cell? ⟨B,3,none⟩=some y')∧w.frozen? ⟨B,0,none⟩=false∧w.frozen? ⟨B,1,none⟩=false∧w.frozen? ⟨B,2,none⟩=false∧w.frozen? ⟨B,3,none⟩=false∧B < w.heap.size:=
 ⟨⟨h.cell 0,h.cell 1,h.cell 2,h.cell 3⟩,h.frozen 0,h.frozen 1,h.frozen 2,h.frozen 3,h.lt⟩
theorem Box.set {w:World}{B:Nat}{t:TypeId}{cs:Array Value}(h:Box w B t cs)(i:Nat)(u:Value):Box (w.setCell ⟨B,i,none⟩ u) B t (cs.setIfInBounds i u):=by
 unfold Box at h⊢;simp[World.setCell,Array.getElem?_modify,h]
theorem Box.other {w:World}{B:Nat}{t:TypeId}{cs:Array Value}(h:Box w B t cs){p:Addr}(hp:p.block≠B)(u:Value):Box (w.setCell p u) B t cs:=by
 unfold Box at h⊢;simp[World.setCell,Array.getElem?_modify,h,hp]
theorem Box.put2 {w:World}{B:Nat}{t:TypeId}{x y:Value}(h:Box w B t #[x,y])(u u':Value):Box ((w.setCell ⟨B,0,none⟩ u).setCell ⟨B,1,none⟩ u') B t #[u,u']:=(h.set 0 u).set 1 u'
theorem Box.put4 {w:World}{B:Nat}{t:TypeId}{x y x' y':Value}(h:Box w B t #[x,y,x',y'])(u u' v v':Value):Box ((((w.setCell ⟨B,0,none⟩ u).setCell ⟨B,1,none⟩ u').setCell ⟨B,2,none⟩ v).setCell ⟨B,3,none⟩ v') B t #[u,u',v,v']:=(((h.set 0 u).set 1 u').set 2 v).set 3 v'
def RdL (w:World)(a:Option Addr)(vs:List Value):Prop:=∀ i (h:i < vs.length),∃ b off,a=some ⟨b,off,none⟩∧w.cell? ⟨b,off+i,none⟩=some vs[i]
theorem RdL.new {w w':World}{a:Option Addr}{vs:List Value}(h:RdL w a vs)(hn:New w w'):RdL w' a vs:=fun i hi=>by
 obtain ⟨b,off,e,hc⟩:=h i hi;exact ⟨b,off,e,hn.cell hc⟩
theorem info_int:(prog.info? 3).map (fun i=>(i.zero,i.size,i.bytes))=some (some (.int .i64 0),1,8):=by kernel_rfl
theorem grown_new {w wr w1:World}{o:Obj}{v:Value}{e:TypeId}{n:Nat}{xs:List Value}(hn:New w wr)(h:wr.ownsRow w.heap.size e 1 v n xs)(hg:(wr.alloc o).grownBy w1 v.ownBlock):New w w1:=by
 have h2:=hn.alloc o;obtain ⟨a1,a2,a3,a4,a5⟩:=h2;refine ⟨hg.os.trans a1,?_,?_,Nat.le_trans a4 hg.size,fun j hj=>?_⟩
 ·first | exact hg.tape.trans a2 | exact hg.output.trans a2
 ·first | exact hg.output.trans a3 | exact hg.tape.trans a3
 ·refine (hg.block j (Nat.lt_of_lt_of_le hj a4) ?_).trans (a5 j hj);rcases h.2 with ⟨rfl,_⟩ | ⟨g,aa,ab,rfl,hb,_⟩
  ·intro h;cases h
  ·intro h;injection h with h;simp only at h;omega
theorem one_c1 (wr:World)(x:Value)(t:TypeId):∀ (j:Nat) (u:Value),([x]:List Value)[j]?=some u→(wr.alloc (.cells #[x] t)).cell? ((⟨wr.heap.size,0,none⟩:Addr).add j)=some u:=by
 intro j u h
 match j,h with
 | 0,h=>
  simp at h;subst h;have:(wr.alloc (.cells #[x] t)).cell? ⟨wr.heap.size,0,none⟩=(#[x]:Array Value)[0]?:=World.cell?_alloc_new wr #[x] t 0;rw[show (⟨wr.heap.size,0,none⟩:Addr).add 0=⟨wr.heap.size,0,none⟩ from rfl,this];rfl
 | j+1,h=>simp at h
theorem one_c2 (z:Int):∀ u∈[Value.int .i64 z],u.oneCell'=true:=by
 intro u h;simp at h;subst h;rfl
def bools (l:List Bool):List Value:=l.map Value.bool
def ints (l:List Int):List Value:=l.map (Value.int .i64)
theorem RdL.bool {w:World}{a:Option Addr}{l:List Bool}(h:RdL w a (bools l))(i:Nat)(hi:i < l.length):∃ b aa,a=some ⟨b,aa,none⟩∧w.cell? ⟨b,aa+i,none⟩=some (.bool l[i]):=by
 obtain ⟨b,aa,e,hc⟩:=h i (by simpa[bools] using hi);exact ⟨b,aa,e,by rw[hc];simp[bools]⟩
theorem own_new {w w':World}{base:Nat}{e:TypeId}{v:Value}{n:Nat}{xs:List Value}(h:w.ownsRow base e 1 v n xs)(hn:New w w'):w'.ownsRow base e 1 v n xs:=by
 refine ⟨h.1,?_⟩;rcases h.2 with h2 | ⟨g,aa,ab,h1,h2,h3,h4⟩
 ·exact .inl h2
 ·refine .inr ⟨g,aa,ab,h1,h2,?_,h4⟩
  have ac:g < w.heap.size:=by
   rcases Nat.lt_or_ge g w.heap.size with h | h
   ·exact h
   ·rw[Array.getElem?_eq_none h] at h3;cases h3
  rw[Below.block hn g ac,h3]
theorem own_neS {w:World}{base j:Nat}{e:TypeId}{S:Nat}{v:Value}{n:Nat}{xs:List Value}(h:w.ownsRow base e S v n xs)(hj:j < base):some j≠v.ownBlock:=by
 rcases h.2 with ⟨rfl,_⟩ | ⟨g,aa,ab,rfl,hb,_⟩
 ·intro h;cases h
 ·intro h;injection h with h;simp only at h;omega
theorem grown_newS' {w wr w1:World}{v:Value}{e:TypeId}{S:Nat}{n:Nat}{xs:List Value}(hn:New w wr)(h:wr.ownsRow w.heap.size e S v n xs)(hg:wr.grownBy w1 v.ownBlock):New w w1:=by
 obtain ⟨a1,a2,a3,a4,a5⟩:=hn;refine ⟨hg.os.trans a1,?_,?_,Nat.le_trans a4 hg.size,fun j hj=>?_⟩
 ·first | exact hg.tape.trans a2 | exact hg.output.trans a2
 ·first | exact hg.output.trans a3 | exact hg.tape.trans a3
 ·exact (hg.block j (Nat.lt_of_lt_of_le hj a4) (own_neS h hj)).trans (a5 j hj)
theorem own_newS {w w':World}{base:Nat}{e:TypeId}{S:Nat}{v:Value}{n:Nat}{xs:List Value}(h:w.ownsRow base e S v n xs)(hn:New w w'):w'.ownsRow base e S v n xs:=by
 refine ⟨h.1,?_⟩;rcases h.2 with h2 | ⟨g,aa,ab,h1,h2,h3,h4⟩
 ·exact .inl h2
 ·refine .inr ⟨g,aa,ab,h1,h2,?_,h4⟩
  have ac:g < w.heap.size:=by
   rcases Nat.lt_or_ge g w.heap.size with h | h
   ·exact h
   ·rw[Array.getElem?_eq_none h] at h3;cases h3
  rw[Below.block hn g ac,h3]
theorem own_rd {w:World}{base:Nat}{e:TypeId}{v:Value}{n:Nat}{xs:List Value}(h:w.ownsRow base e 1 v n xs):∃ (a:Option Addr) (aa:Nat),v=.slice a n aa∧RdL w a xs∧xs.length=n:=by
 have hl:=h.1;rw[Nat.mul_one] at hl;rcases h.2 with ⟨rfl,rfl⟩ | ⟨g,aa,ab,rfl,hb,hc,h1,h2,h3,h4⟩
 ·exact ⟨none,0,rfl,fun i hi=>by omega,hl⟩
 ·refine ⟨_,_,rfl,fun i hi=>⟨g,0,rfl,?_⟩,hl⟩
  have:w.cell? ⟨g,0+i,none⟩=ab[0+i]?:=by simp[World.cell?,hc]
  rw[this,Nat.zero_add];rw[Nat.mul_one] at h4;subst h4
  have ac:i < ab.size:=by simp at hi;omega
  rw[Array.getElem?_eq_getElem ac];simp
theorem RdL.src {w:World}{a:Option Addr}{vs:List Value}(h:RdL w a vs)(h0:0 < vs.length):∃ ad:Addr,a=some ad∧∀ (j:Nat) (v:Value),vs[j]?=some v→w.cell? (ad.add j)=some v:=by
 obtain ⟨b,aa,e,_⟩:=h 0 h0;refine ⟨⟨b,aa,none⟩,e,fun j v hj=>?_⟩;obtain ⟨hl,hv⟩:=List.getElem?_eq_some_iff.1 hj;obtain ⟨b2,ab,e2,hc⟩:=h j hl;rw[e] at e2;injection e2 with e2;injection e2 with e2 e3;subst e2 e3
 have ea:(⟨b,aa,none⟩:Addr).add j=⟨b,aa+j,none⟩:=by
  unfold Addr.add;split
  ·rename_i h0;simp_all
  ·simp
 rw[ea,hc,hv]
theorem own_noneS (w:World)(t:TypeId)(S:Nat):(w.alloc (.cells #[] t)).ownsRow w.heap.size t S (.slice (some ⟨w.heap.size,0,none⟩) 0 0) 0 []:=by
 refine ⟨by simp,.inr ⟨w.heap.size,0,#[],rfl,Nat.le_refl _,?_,Nat.le_refl _,Nat.zero_le _,by simp,by simp⟩⟩;exact Box.alloc w _ t #[] rfl
theorem PE:(∀ (l:List Oper) (i:Nat) (h:i < l.toArray.size),l.toArray[i]'h=l[i]'(by simpa using h))∧(∀ (x:Oper) (l:List Oper) (h:0 < (x::l).length),(x::l)[0]'h=x)∧(∀ (x:Oper) (l:List Oper) (i:Nat) (h:i+1 < (x::l).length),(x::l)[i+1]'h=l[i]'(Nat.lt_of_succ_lt_succ h)):=
 ⟨fun _ _ _=>by simp,fun _ _ _=>rfl,fun _ _ _ _=>rfl⟩
theorem tW {a b c:World}(H:Hid (New a b))(h:New b c):Hid (New a c):=hid (H.out.trans h)
theorem bW {w w':World}{B:Nat}{t:TypeId}{cs:Array Value}(H:Hid (Box w B t cs))(h:New w w'):Hid (Box w' B t cs):=hid (H.out.new h)
section
variable {P:Program} {ops:Array Oper} {Q:Exit→Act→World→Prop} {md:Region.Mode} {S:World→Prop}
theorem tk1 {n:Nat} (i:Nat) {oi:Oper} {fuel:Nat} {listed:Array Bool} {a:Act} {w:World}
  (h:∀ K':Act→World→Prop,Shut (∀ a w,(i < n→S w)→wpT P md ops Q S n fuel (listed.setIfInBounds i true) a w→K' a w)→if Region.wanted oi (yielded ops a.tmps)=true then Oper.wp P oi a w K' Q else K' (a.put oi.dst undef) w)
  (hi:ops[i]?=some oi:=by rfl) (hr:Region.ready md ops listed=[i]:=by kernel_rfl):wpT P md ops Q S n (fuel+1) listed a w:=wpT_one i hi hr h
theorem sT {N d n:Nat} (i:Nat) {oi:Oper} {v:Value} {fuel:Nat} {listed:Array Bool} {a:Act} {w:World} {l:List (Nat × Value)} (HS:Hid (S w)) (HA:Hid (Has N a l)) (hy:∀ W,S W→(execOp a.eval oi).run P W=.ok (.value v) W)
  (h:∀ A,Has N A ((d,v)::l)→wpT P md ops Q S n fuel (listed.setIfInBounds i true) A w) (hi:ops[i]?=some oi:=by rfl) (hB:takeB md ops n listed i=true:=by kernel_rfl) (hQ:∀ c a w,Q (.panic c) (a.put oi.dst v) w→Q (.panic c) a w:=by exact fun _ _ _ h=>h) (hd:oi.dst=some d:=by rfl) (hN:d < N:=by decide) (hf:(l.all fun p=>d != p.1)=true:=by kernel_rfl)
  (hw:Region.wanted oi (yielded ops a.tmps)=true:=by exact wanted_plain rfl):wpT P md ops Q S n (fuel+1) listed a w:=stepT i hi hB hQ HS.out HA.out hd hN hf hw hy h
theorem tlW {n fuel:Nat} {listed:Array Bool} {a:Act} {w:World} {l:List Oper} (h:wpList P ops Q l a w) (hl:ops.toList.drop n=l:=by first | (simp only[List.drop_succ_cons,List.drop_zero];rfl) | rfl) (hf:(ops.toList.drop n).length=fuel:=by rfl)
  (hB:Region.seqB md ops (ops.toList.drop n).length n listed=true:=by kernel_rfl):wpT P md ops Q S n fuel listed a w:=wpT_tail hf hB (hl ▸ h)
end
section
variable {w:World} {B:Nat} {t:TypeId} {x y x' y' z:Value}
theorem cW1 (H:Hid (Box w B t #[x])):w.cell? ⟨B,0,none⟩=some x:=H.out.one.1
theorem cW2 (H:Hid (Box w B t #[x,y])):w.cell? ⟨B,0,none⟩=some x∧w.cell? ⟨B,1,none⟩=some y:=⟨H.out.two.1,H.out.two.2.1⟩
theorem cW4 (H:Hid (Box w B t #[x,y,x',y'])):w.cell? ⟨B,0,none⟩=some x∧w.cell? ⟨B,1,none⟩=some y∧w.cell? ⟨B,2,none⟩=some x'∧w.cell? ⟨B,3,none⟩=some y':=H.out.four.1
end
abbrev zC (W:World)(B:Nat)(x y:Value):Prop:=W.cell? ⟨B,0,none⟩=some x∧W.cell? ⟨B,1,none⟩=some y
abbrev zQ (W:World)(B:Nat)(x y x' y':Value):Prop:=W.cell? ⟨B,0,none⟩=some x∧W.cell? ⟨B,1,none⟩=some y∧W.cell? ⟨B,2,none⟩=some x'∧W.cell? ⟨B,3,none⟩=some y'
abbrev zI (W:World)(B:Nat)(s:Int)(a:Option Addr)(l c:Nat):Prop:=zC W B (.int .i64 s) (.slice a l c)
abbrev zF (W:World)(B:Nat)(s:Int)(a:Option Addr)(l c:Nat)(s':Int)(a':Option Addr)(l' c':Nat):Prop:=zQ W B (.int .i64 s) (.slice a l c) (.int .i64 s') (.slice a' l' c')
section
variable {P:Program} {f:FuncId} {args:Array Value} {w:World} {R:Ending→World→Prop}
theorem zM {v:Ending}(h:Calls P f args w fun e x=>e=v∧New w x)(k:∀ x,New w x→R v x):Calls P f args w R:=h.mono fun e x q=>by obtain ⟨rfl,n⟩:=q;exact k x n
theorem zN {β:Type}{F:β→Ending}{T:World→β→Prop}(h:Calls P f args w fun e x=>∃ v,e=F v∧New w x∧T x v)(k:∀ x v,New w x→T x v→R (F v) x):Calls P f args w R:=h.mono fun e x q=>by obtain ⟨v,rfl,n,t⟩:=q;exact k x v n t
theorem zO {T:World→Value→Prop}{A0 A1 A2 A3:Type}{F:A0→A1→A2→A3→Value}(h:Calls P f args w fun e x=>∃ v,e=.returned v∧New w x∧T x v)(k:∀ x s0 s1 s2 s3,New w x→T x (F s0 s1 s2 s3)→R (.returned (F s0 s1 s2 s3)) x)(sh:∀ x v,T x v→∃ s0 s1 s2 s3,v=F s0 s1 s2 s3:=by (intro _ _ h;exact h.shape)):Calls P f args w R:=h.mono fun e x q=>by obtain ⟨v,rfl,n,t⟩:=q;obtain ⟨s0,s1,s2,s3,rfl⟩:=sh x v t;exact k x _ _ _ _ n t
theorem zS {T:World→Value→Prop}{A0 A1 A2 A3 A4 A5 A6 A7:Type}{F:A0→A1→A2→A3→A4→A5→A6→A7→Value}(h:Calls P f args w fun e x=>∃ v,e=.returned v∧New w x∧T x v)(k:∀ x s0 s1 s2 s3 s4 s5 s6 s7,New w x→T x (F s0 s1 s2 s3 s4 s5 s6 s7)→R (.returned (F s0 s1 s2 s3 s4 s5 s6 s7)) x)(sh:∀ x v,T x v→∃ s0 s1 s2 s3 s4 s5 s6 s7,v=F s0 s1 s2 s3 s4 s5 s6 s7:=by (intro _ _ h;exact h.shape)):Calls P f args w R:=h.mono fun e x q=>by obtain ⟨v,rfl,n,t⟩:=q;obtain ⟨s0,s1,s2,s3,s4,s5,s6,s7,rfl⟩:=sh x v t;exact k x _ _ _ _ _ _ _ _ n t
end
section
variable {u w x:World}
theorem zn2 {a:Prop}(n:New w x)(H:Hid (New u w))(a':New w x→a):Hid (New u x)∧Hid a:=⟨H.out.trans n,a' n⟩
theorem zn3 {a b:Prop}(n:New w x)(H:Hid (New u w))(a':New w x→a)(b':New w x→b):Hid (New u x)∧Hid a∧Hid b:=⟨H.out.trans n,a' n,b' n⟩
theorem zn4 {a b c:Prop}(n:New w x)(H:Hid (New u w))(a':New w x→a)(b':New w x→b)(c':New w x→c):Hid (New u x)∧Hid a∧Hid b∧Hid c:=⟨H.out.trans n,a' n,b' n,c' n⟩
theorem zn5 {a b c d:Prop}(n:New w x)(H:Hid (New u w))(a':New w x→a)(b':New w x→b)(c':New w x→c)(d':New w x→d):Hid (New u x)∧Hid a∧Hid b∧Hid c∧Hid d:=⟨H.out.trans n,a' n,b' n,c' n,d' n⟩
theorem zn6 {a b c d e:Prop}(n:New w x)(H:Hid (New u w))(a':New w x→a)(b':New w x→b)(c':New w x→c)(d':New w x→d)(e':New w x→e):Hid (New u x)∧Hid a∧Hid b∧Hid c∧Hid d∧Hid e:=⟨H.out.trans n,a' n,b' n,c' n,d' n,e' n⟩
theorem zn7 {a b c d e f:Prop}(n:New w x)(H:Hid (New u w))(a':New w x→a)(b':New w x→b)(c':New w x→c)(d':New w x→d)(e':New w x→e)(f':New w x→f):Hid (New u x)∧Hid a∧Hid b∧Hid c∧Hid d∧Hid e∧Hid f:=⟨H.out.trans n,a' n,b' n,c' n,d' n,e' n,f' n⟩
theorem zn8 {a b c d e f g:Prop}(n:New w x)(H:Hid (New u w))(a':New w x→a)(b':New w x→b)(c':New w x→c)(d':New w x→d)(e':New w x→e)(f':New w x→f)(g':New w x→g):Hid (New u x)∧Hid a∧Hid b∧Hid c∧Hid d∧Hid e∧Hid f∧Hid g:=⟨H.out.trans n,a' n,b' n,c' n,d' n,e' n,f' n,g' n⟩
theorem zn9 {a b c d e f g h:Prop}(n:New w x)(H:Hid (New u w))(a':New w x→a)(b':New w x→b)(c':New w x→c)(d':New w x→d)(e':New w x→e)(f':New w x→f)(g':New w x→g)(h':New w x→h):Hid (New u x)∧Hid a∧Hid b∧Hid c∧Hid d∧Hid e∧Hid f∧Hid g∧Hid h:=⟨H.out.trans n,a' n,b' n,c' n,d' n,e' n,f' n,g' n,h' n⟩
theorem zn10 {a b c d e f g h i:Prop}(n:New w x)(H:Hid (New u w))(a':New w x→a)(b':New w x→b)(c':New w x→c)(d':New w x→d)(e':New w x→e)(f':New w x→f)(g':New w x→g)(h':New w x→h)(i':New w x→i):Hid (New u x)∧Hid a∧Hid b∧Hid c∧Hid d∧Hid e∧Hid f∧Hid g∧Hid h∧Hid i:=⟨H.out.trans n,a' n,b' n,c' n,d' n,e' n,f' n,g' n,h' n,i' n⟩
theorem zn11 {a b c d e f g h i j:Prop}(n:New w x)(H:Hid (New u w))(a':New w x→a)(b':New w x→b)(c':New w x→c)(d':New w x→d)(e':New w x→e)(f':New w x→f)(g':New w x→g)(h':New w x→h)(i':New w x→i)(j':New w x→j):Hid (New u x)∧Hid a∧Hid b∧Hid c∧Hid d∧Hid e∧Hid f∧Hid g∧Hid h∧Hid i∧Hid j:=⟨H.out.trans n,a' n,b' n,c' n,d' n,e' n,f' n,g' n,h' n,i' n,j' n⟩
theorem zn12 {a b c d e f g h i j k:Prop}(n:New w x)(H:Hid (New u w))(a':New w x→a)(b':New w x→b)(c':New w x→c)(d':New w x→d)(e':New w x→e)(f':New w x→f)(g':New w x→g)(h':New w x→h)(i':New w x→i)(j':New w x→j)(k':New w x→k):Hid (New u x)∧Hid a∧Hid b∧Hid c∧Hid d∧Hid e∧Hid f∧Hid g∧Hid h∧Hid i∧Hid j∧Hid k:=⟨H.out.trans n,a' n,b' n,c' n,d' n,e' n,f' n,g' n,h' n,i' n,j' n,k' n⟩
theorem zm2 {a b:Prop}(n:New w x)(a':New w x→a)(b':New w x→b):Hid a∧Hid b:=⟨a' n,b' n⟩
theorem zm3 {a b c:Prop}(n:New w x)(a':New w x→a)(b':New w x→b)(c':New w x→c):Hid a∧Hid b∧Hid c:=⟨a' n,b' n,c' n⟩
theorem zm4 {a b c d:Prop}(n:New w x)(a':New w x→a)(b':New w x→b)(c':New w x→c)(d':New w x→d):Hid a∧Hid b∧Hid c∧Hid d:=⟨a' n,b' n,c' n,d' n⟩
theorem zm5 {a b c d e:Prop}(n:New w x)(a':New w x→a)(b':New w x→b)(c':New w x→c)(d':New w x→d)(e':New w x→e):Hid a∧Hid b∧Hid c∧Hid d∧Hid e:=⟨a' n,b' n,c' n,d' n,e' n⟩
theorem zm6 {a b c d e f:Prop}(n:New w x)(a':New w x→a)(b':New w x→b)(c':New w x→c)(d':New w x→d)(e':New w x→e)(f':New w x→f):Hid a∧Hid b∧Hid c∧Hid d∧Hid e∧Hid f:=⟨a' n,b' n,c' n,d' n,e' n,f' n⟩
theorem zy4 {G a b c:Prop}(q:Hid (New u x)→Hid a→Hid b→Hid c→G)(n:New w x)(H:Hid (New u w))(a':New w x→a)(b':New w x→b)(c':New w x→c):G:=q (H.out.trans n) (a' n) (b' n) (c' n)
theorem zy5 {G a b c d:Prop}(q:Hid (New u x)→Hid a→Hid b→Hid c→Hid d→G)(n:New w x)(H:Hid (New u w))(a':New w x→a)(b':New w x→b)(c':New w x→c)(d':New w x→d):G:=q (H.out.trans n) (a' n) (b' n) (c' n) (d' n)
theorem zy6 {G a b c d e:Prop}(q:Hid (New u x)→Hid a→Hid b→Hid c→Hid d→Hid e→G)(n:New w x)(H:Hid (New u w))(a':New w x→a)(b':New w x→b)(c':New w x→c)(d':New w x→d)(e':New w x→e):G:=q (H.out.trans n) (a' n) (b' n) (c' n) (d' n) (e' n)
theorem zy7 {G a b c d e f:Prop}(q:Hid (New u x)→Hid a→Hid b→Hid c→Hid d→Hid e→Hid f→G)(n:New w x)(H:Hid (New u w))(a':New w x→a)(b':New w x→b)(c':New w x→c)(d':New w x→d)(e':New w x→e)(f':New w x→f):G:=q (H.out.trans n) (a' n) (b' n) (c' n) (d' n) (e' n) (f' n)
end
section
variable {P:Program} {ops:Array Oper} {Q:Exit→Act→World→Prop} {md:Region.Mode} {S:World→Prop}
theorem zR {id:Nat}{a:Act}{w:World}(n N:Nat)(S:World→Prop){L:Array Bool}(h:wpT P .any ops Q S n N L a w.drew)(hN:ops.size=N:=by rfl)(hL:(List.replicate N false).toArray=L:=by (simp only[List.replicate_succ,List.replicate_zero];exact rfl))(hm:P.follows .mixedOrders=true:=by kernel_rfl):(Code.region id ops true).wp P Q a w:=by
 subst hL;exact wp_region_T n S N _ hN (by simp) hm h
theorem zT {n:Nat} (i:Nat) {oi:Oper} {v:Value} {fuel:Nat} {listed:Array Bool} {a a':Act} {w:World} (hS:S w) (h:wpT P md ops Q S n fuel (listed.setIfInBounds i true) a' w)
  (hi:ops[i]?=some oi:=by rfl) (hB:takeB md ops n listed i=true:=by kernel_rfl) (hw:Region.wanted oi (yielded ops a.tmps)=true:=by first | kernel_rfl | rfl)
  (hy:∀ W,S W→(execOp a.eval oi).run P W=.ok (.value v) W:=by (intro W hW;(try dsimp only at hW);go_simp;try with_reducible rfl))
  (hQ:∀ c a w,Q (.panic c) (a.put oi.dst v) w→Q (.panic c) a w:=by exact fun _ _ _ h=>h) (ha:a.put oi.dst v=a':=by ((try simp only[PT]);exact rfl)):wpT P md ops Q S n (fuel+1) listed a w:=
 wpT_take i hi hB hQ hS (Or.inl ⟨hw,hy⟩) (ha ▸ h)
theorem zK {c:Prop}{K:Act→World→Prop}{n fuel:Nat}{listed:Array Bool}{a a':Act}{w:World}(hK:Shut (∀ a w,(c→S w)→wpT P md ops Q S n fuel listed a w→K a w))(hS:S w)(h:wpT P md ops Q S n fuel listed a' w)(ha:a=a':=by ((try simp only[PT]);exact rfl)):K a w:=hK.out _ _ (fun _=>hS) (ha ▸ h)
theorem zTE {n:Nat} (i:Nat) {oi:Oper} {v:Value} {fuel:Nat} {listed:Array Bool} {a a':Act} {w:World} (hS:S w) (h:wpT P md ops Q S n fuel (listed.setIfInBounds i true) a' w)
  (hi:ops[i]?=some oi:=by rfl) (hB:takeB md ops n listed i=true:=by kernel_rfl) (hw:Region.wanted oi (yielded ops a.tmps)=true:=by first | kernel_rfl | rfl)
  (hy:∀ W,S W→(execOp a.eval oi).run P W=.ok (.value v) W:=by (intro W hW;(try dsimp only at hW);go_simp;try with_reducible rfl))
  (hQ:∀ c a w,Q (.panic c) (a.put oi.dst v) w→Q (.panic c) a w:=by exact fun _ _ _ h=>h) (ha:a.put oi.dst v=a':=by ((try simp only[PE,PT]);exact rfl)):wpT P md ops Q S n (fuel+1) listed a w:=
 wpT_take i hi hB hQ hS (Or.inl ⟨hw,hy⟩) (ha ▸ h)
theorem zVE {n:Nat} (i:Nat) {oi:Oper} {fuel:Nat} {listed:Array Bool} {a a':Act} {w:World} (hS:S w) (h:wpT P md ops Q S n fuel (listed.setIfInBounds i true) a' w)
  (hi:ops[i]?=some oi:=by rfl) (hB:takeB md ops n listed i=true:=by kernel_rfl) (hw:Region.wanted oi (yielded ops a.tmps)=false:=by first | kernel_rfl | rfl)
  (hQ:∀ c a w,Q (.panic c) (a.put oi.dst undef) w→Q (.panic c) a w:=by exact fun _ _ _ h=>h) (ha:a.put oi.dst undef=a':=by ((try simp only[PE,PT]);exact rfl)):wpT P md ops Q S n (fuel+1) listed a w:=
 wpT_take i hi hB hQ hS (Or.inr ⟨hw,rfl⟩) (ha ▸ h)
theorem zKE {c:Prop}{K:Act→World→Prop}{n fuel:Nat}{listed:Array Bool}{a a':Act}{w:World}(hK:Shut (∀ a w,(c→S w)→wpT P md ops Q S n fuel listed a w→K a w))(hS:S w)(h:wpT P md ops Q S n fuel listed a' w)(ha:a=a':=by ((try simp only[PE,PT]);exact rfl)):K a w:=hK.out _ _ (fun _=>hS) (ha ▸ h)
theorem zw2 {n:Nat} (i j:Nat) {oi oj:Oper} {fuel:Nat} {listed:Array Bool} {a:Act} {w:World}
  (h1:∀ K':Act→World→Prop,Shut (∀ a w,(i < n→S w)→wpT P md ops Q S n fuel (listed.setIfInBounds i true) a w→K' a w)→if Region.wanted oi (yielded ops a.tmps)=true then Oper.wp P oi a w K' Q else K' (a.put oi.dst undef) w)
  (h2:∀ K':Act→World→Prop,Shut (∀ a w,(j < n→S w)→wpT P md ops Q S n fuel (listed.setIfInBounds j true) a w→K' a w)→if Region.wanted oj (yielded ops a.tmps)=true then Oper.wp P oj a w K' Q else K' (a.put oj.dst undef) w)
  (hi:ops[i]?=some oi:=by rfl) (hj:ops[j]?=some oj:=by rfl) (hr:Region.ready md ops listed=[i,j]:=by kernel_rfl):wpT P md ops Q S n (fuel+1) listed a w:=wpT_two i j hi hj hr h1 h2
theorem zw3 {n:Nat} (i j k:Nat) {oi oj ok:Oper} {fuel:Nat} {listed:Array Bool} {a:Act} {w:World}
  (h1:∀ K':Act→World→Prop,Shut (∀ a w,(i < n→S w)→wpT P md ops Q S n fuel (listed.setIfInBounds i true) a w→K' a w)→if Region.wanted oi (yielded ops a.tmps)=true then Oper.wp P oi a w K' Q else K' (a.put oi.dst undef) w)
  (h2:∀ K':Act→World→Prop,Shut (∀ a w,(j < n→S w)→wpT P md ops Q S n fuel (listed.setIfInBounds j true) a w→K' a w)→if Region.wanted oj (yielded ops a.tmps)=true then Oper.wp P oj a w K' Q else K' (a.put oj.dst undef) w)
  (h3:∀ K':Act→World→Prop,Shut (∀ a w,(k < n→S w)→wpT P md ops Q S n fuel (listed.setIfInBounds k true) a w→K' a w)→if Region.wanted ok (yielded ops a.tmps)=true then Oper.wp P ok a w K' Q else K' (a.put ok.dst undef) w)
  (hi:ops[i]?=some oi:=by rfl) (hj:ops[j]?=some oj:=by rfl) (hk:ops[k]?=some ok:=by rfl) (hr:Region.ready md ops listed=[i,j,k]:=by kernel_rfl):wpT P md ops Q S n (fuel+1) listed a w:=wpT_three i j k hi hj hk hr h1 h2 h3
theorem zG {N d n:Nat} (i:Nat) {oi:Oper} {v:Value} {fuel:Nat} {listed:Array Bool} {a:Act} {w:World} {l:List (Nat × Value)} (HS:Hid (S w)) (HA:Hid (Has N a l)) (hy:∀ W,S W→(execOp a.eval oi).run P W=.ok (.value v) W)
  (h:∀ A,Hid (Has N A ((d,v)::l))→wpT P md ops Q S n fuel (listed.setIfInBounds i true) A w) (hi:ops[i]?=some oi:=by rfl) (hB:takeB md ops n listed i=true:=by kernel_rfl) (hQ:∀ c a w,Q (.panic c) (a.put oi.dst v) w→Q (.panic c) a w:=by exact fun _ _ _ h=>h) (hd:oi.dst=some d:=by rfl) (hN:d < N:=by decide) (hf:(l.all fun p=>d != p.1)=true:=by kernel_rfl)
  (hw:Region.wanted oi (yielded ops a.tmps)=true:=by exact wanted_plain rfl):wpT P md ops Q S n (fuel+1) listed a w:=stepT i hi hB hQ HS.out HA.out hd hN hf hw hy h
theorem zP {N d n fuel:Nat} {v:Value} {listed:Array Bool} {a:Act} {w:World} {l:List (Nat × Value)} (HA:Hid (Has N a l))
  (h:∀ A,Hid (Has N A ((d,v)::l))→wpT P md ops Q S n fuel listed A w) (hN:d < N:=by decide) (hf:(l.all fun p=>d != p.1)=true:=by kernel_rfl):wpT P md ops Q S n fuel listed (a.put (some d) v) w:=putT HA.out hN hf h
end
end Go.Proofs.YtnjonlnemagomaaGreatDoor
