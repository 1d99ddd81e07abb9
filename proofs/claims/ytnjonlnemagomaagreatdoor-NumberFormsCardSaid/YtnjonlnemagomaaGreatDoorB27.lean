/- Part B27. -/
import Derived.OpenShut
import Derived.WideShapes
import Derived.Deep.Slices
import Derived.Laws.Cover2
import Derived.Carry
import Derived.RowKit
import Derived.Lay
import Derived.Shelf.Vars
import Derived.Stop.LaidErr
import Derived.Stop.Joined
import Derived.LaidMore
import Derived.ProofKit
import Derived.Lib.SmallJoins
import Derived.Lib.OthersKept
import Derived.Test.YtnjonlnemagomaaGreatDoorTie
import Derived.Test.YtnjonlnemagomaaGreatDoorCards
import Derived.Test.YtnjonlnemagomaaGreatDoorB11
import Derived.Test.YtnjonlnemagomaaGreatDoorB18
namespace Go.Proofs.YtnjonlnemagomaaGreatDoor
open Go.RowKit Go.ChangeShapes Go.WideShapes Go.Deep Big Go.Lib
set_option maxRecDepth 100000
set_option maxHeartbeats 8000000
section
variable {H:Type} {enc:TypeId × Value->H} {P:Program} {w:World} {base:Nat} {sp:Nat->Bool} {held:Bool}
theorem trod_int' {t:TypeId}{k:IntKind}{fuel:Nat}{v:Value}{y:DataW H × List MemPlace}(ht:P.underlying t=some (.int k))(h:DataW.trod enc P w base sp held fuel t [v]=some y):∃ n,v=.int k n/\(Lit.int k n).wf=true:=by
 obtain ⟨n,h1,_,hw⟩:=DataW.trod_int ht h;exact ⟨n,by simpa using h1,hw⟩
end
theorem y7i {H:Type} {enc:TypeId × Value->H} {a:Assume} {C:Checked} {os:Os} {f:FuncId} {fn:Func} {s:ChangeSpec} {conds:List PathCond} {apart fresh handsOn again:Bool} {X:World->Array Value->Prop}
  (hX:∀ (w w':World) (args:Array Value),w.heap=w'.heap->X w args->X w' args)
  (own:ownKnob C.prog.godebug=none) (started:os.Started) (noInit:C.prog.inits.idxOf? f=none) (hfn:C.prog.funcs[f]?=some fn)
  (witness:∃ (w:World) (tape:Tape) (i:Input),w.os=os/\(w.forCall tape i).Shaped C.prog/\i.vars=[]/\Input.okWide C.prog (w.forCall tape i) .any w.heap.size f i/\
   ((s.pre enc C.prog fn conds apart (w.forCall tape i).memory i.args/\X (w.forCall tape i).memory i.args)/\sizedMet enc C.prog fn (OpenSpec.ofChange s) apart (w.forCall tape i).memory i.args)/\a.holds C.prog (lone (Frame.enter C.prog f i.args .normal) [] (w.forCall tape i)))
  (contract:∀ (W:World) (base:Nat) (args:Array Value) (ds gs:List (DataW H)) (before:List MemPlace),
   (∀ (j:Nat) t v,fn.params[j]?=some t->args[j]?=some v->Value.okWide C.prog W .any base t v)->
   DataW.Whole enc C.prog fn.params.toList s.vars apart W args.toList ds gs before->X W args->W.ShapedOpen C.prog->
   Calls C.prog f args W fun e W'=>∃ v,e=.returned v/\s.post enc C.prog fn apart fresh handsOn again W args v W'):
  ReturnsInHanded a C os f .any (fun w args=>(s.pre enc C.prog fn conds apart w args/\X w args)/\sizedMet enc C.prog fn (OpenSpec.ofChange s) apart w args) (s.post enc C.prog fn apart fresh handsOn again):=by
 refine returnsInHanded_of_calls own started noInit witness ?_;intro w tape i _ hsh _ hok hpre _;obtain ⟨_,_,_,fn',hfn',_,_,_,_,hval⟩:=hok;have e:fn'=fn:=Option.some.inj (hfn'.symm.trans hfn);subst e;obtain ⟨⟨⟨ds,gs,before,hw,_⟩,hx⟩,_⟩:=hpre;have hw':=DataW.Whole.of_heap (w':=w.forCall tape i) (by rfl) hw;refine (contract (w.forCall tape i) w.heap.size i.args ds gs before hval hw' (hX _ _ _ (by rfl) hx) hsh).mono fun e W' ⟨v,he,hp⟩=>?_;subst he;exact ChangeSpec.post_blind hp
theorem own:ownKnob Tryz.prog.godebug=none:=by kernel_rfl
theorem laidOut:laidOutB Tryz.prog=true:=by kernel_rfl
noncomputable def Listed:List (String × DataW Unit):=Rows.numberDealsRow.laid
theorem ypw {W:World}(h:laidMetH Tryz.prog Listed W)(hsh:W.ShapedOpen Tryz.prog):Env W:=by
 refine ⟨cell_of_shapedOpen_int hsh (g:=1) (t:=3) (zero:=#[.int .i64 0]) (of_decide_eq_true (by kernel_rfl)) (by kernel_rfl) rfl (by kernel_rfl) (by kernel_rfl) Tryz.underlying3,?_⟩;rw[MakeChecks.laidMetH_plain _ _ _ (by kernel_rfl)] at h
 have h2 : laidMet Tryz.prog (("internal/strconv.uint64pow10", Rows.laid_internal_strconv_uint64pow10) :: Listed.drop 3) W := h.tail.tail
 have e:(Rows.laid_internal_strconv_uint64pow10:DataW Unit)=Lib.tabData .u64 Lib.pow10Tab:=by kernel_rfl
 rw[e]at h2;exact Lib.tabIs_of_head (g:=6) (t:=294) (e:=198) (n:=20) (by kernel_rfl) (by kernel_rfl) Tryz.underlying294 Tryz.underlying198 (by kernel_rfl) (by kernel_rfl) h2
theorem yer (os:Os)(args:Array Value):laidMetH Tryz.prog Listed ((World.laidAll Tryz.prog os Listed).forCall (fun _ _=>0) ⟨#[],args,[]⟩).memory:=by
 rw[MakeChecks.laidMetH_plain _ _ _ (by kernel_rfl)];exact laidMet_laidAll _ (by kernel_rfl) (by kernel_rfl)
def letN (c:Nat):Bool:=(decide (97<=c) && decide (c<=122)) || (decide (65<=c) && decide (c<=90))
def chrN (i c:Nat):Bool:=letN c || (decide (i≠0) && ((decide (48<=c) && decide (c<=57)) || decide (c=95)))
def Chrs (s:ByteArray)(k:Nat):Prop:=∀ (i:Nat) (h:i < s.size),i < k->chrN i s[i].toNat=true
def y6p (s:ByteArray):Prop:=1<=s.size/\s.size<=24/\Chrs s s.size
theorem Chrs.step {s:ByteArray}{k:Nat}(h:Chrs s k)(hk:k < s.size)(hc:chrN k s[k].toNat=true):Chrs s (k+1):=fun i hi hik=>by
 rcases Nat.lt_or_ge i k with g | g
 ·exact h i hi g
 ·obtain rfl:i=k:=by omega
  exact hc
theorem yca (s:ByteArray)(b:Bool)(w:World)(hl:s.size<=1000000)(hb1:b=true->y6p s)(hb2:b=false->¬y6p s):Calls Tryz.prog 72 #[.string s] w fun e w'=>e=.returned (.bool b)/\New w w':=by
 by_cases h0:(s.size:Int) < 1
 ·have hb:b=false:=by
   cases b with
   | false=>rfl
   | true=>have:=(hb1 rfl).1;omega
  subst hb;clear hb1 hb2;go_enter Tryz.func72,Tryz.ntmps72;go_wp2_with fail;go_ret;exact ⟨rfl,New.refl _⟩
 by_cases h1:(24:Int) < (s.size:Int)
 ·have hb:b=false:=by
   cases b with
   | false=>rfl
   | true=>have:=(hb1 rfl).2.1;omega
  subst hb;clear hb1 hb2;go_enter Tryz.func72,Tryz.ntmps72;go_wp2_with fail;go_ret;exact ⟨rfl,New.refl _⟩
 have HB1:=hid hb1;have HB2:=hid hb2;clear hb1 hb2;go_enter Tryz.func72,Tryz.ntmps72;go_wp2_with fail;go_loopw [3] (fun i wr=>∃ (k:Nat),k<=s.size/\i=.int .i64 (k:Int)/\Hid (Chrs s k)/\Hid (New w wr)) (fun i _=>s.size - (RowKit.intOf i).toNat)
 case atStart=>exact ⟨0,Nat.zero_le _,rfl,hid (fun i h hi=>absurd hi (Nat.not_lt_zero i)),hid (New.refl _)⟩
 case round=>
  obtain ⟨k,hk,rfl,HC,HN⟩:=hrel;by_cases hlt:k < s.size
  ·by_cases hc:chrN k s[k].toNat=true
   ·have hstep:=HC.out.step hlt hc;by_cases hL:letN s[k].toNat=true
    ·by_cases g1:97<=s[k].toNat
     ·have g2:s[k].toNat<=122:=by unfold letN at hL;simp at hL;omega
      clear hc hL;have HSTEP:=hid hstep;clear hstep;go_wp2_with fail;go_roundw
      case rel=>exact ⟨k+1,by omega,by go_num,HSTEP,HN⟩
      case measure=>simp[RowKit.intOf];omega
     ·have g2:65<=s[k].toNat/\s[k].toNat<=90:=by unfold letN at hL;simp at hL;omega
      obtain ⟨g2,g3⟩:=g2;clear hc hL;have HSTEP:=hid hstep;clear hstep;go_wp2_with fail;go_roundw
      case rel=>exact ⟨k+1,by omega,by go_num,HSTEP,HN⟩
      case measure=>simp[RowKit.intOf];omega
    ·have hk0:k≠0/\(48<=s[k].toNat/\s[k].toNat<=57\/s[k].toNat=95):=by
      unfold chrN at hc;simp[hL] at hc;exact hc
     obtain ⟨hk0,hcl⟩:=hk0;have hkb:((k:Int)==0)=false:=beq_false_of_ne (by omega);clear hc hL;have HSTEP:=hid hstep;clear hstep;rcases hcl with ⟨g1,g2⟩ | g1
     ·have g3:¬65<=s[k].toNat:=by omega
      have g4:¬97<=s[k].toNat:=by omega
      go_wp2_with fail;go_roundw
      case rel=>exact ⟨k+1,by omega,by go_num,HSTEP,HN⟩
      case measure=>simp[RowKit.intOf];omega
     ·skip
      go_wp2_with fail;go_roundw
      case rel=>exact ⟨k+1,by omega,by go_num,HSTEP,HN⟩
      case measure=>simp[RowKit.intOf];omega
   ·have hb:b=false:=by
     cases b with
     | false=>rfl
     | true=>exact absurd ((HB1.out rfl).2.2 k hlt hlt) hc
    subst hb
    have hcl:(s[k].toNat < 65\/90 < s[k].toNat/\s[k].toNat < 97\/122 < s[k].toNat)/\(k=0\/(s[k].toNat < 48\/57 < s[k].toNat)/\s[k].toNat≠95):=by
     unfold chrN letN at hc;simp at hc;omega
    clear hc;by_cases hk0:k=0
    ·subst hk0;obtain ⟨hcl, -⟩:=hcl;rcases (by omega:s[0].toNat < 48\/48<=s[0].toNat/\s[0].toNat<=57\/57 < s[0].toNat/\s[0].toNat < 65\/90 < s[0].toNat/\s[0].toNat < 97\/122 < s[0].toNat) with g1 | ⟨g1,g2⟩ | ⟨g1,g2⟩ | ⟨g1,g2⟩ | g1
     ·skip
      have dA:=decide_eq_false (show ¬(97:Int)<=(s[0].toNat:Int) by omega);have dB:=decide_eq_true (show (s[0].toNat:Int)<=122 by omega);have dC:=decide_eq_false (show ¬(65:Int)<=(s[0].toNat:Int) by omega);have dD:=decide_eq_true (show (s[0].toNat:Int)<=90 by omega);have dE:=decide_eq_false (show ¬(48:Int)<=(s[0].toNat:Int) by omega);have dF:=decide_eq_true (show (s[0].toNat:Int)<=57 by omega);clear hcl;go_wp2_with fail;go_ret;exact ⟨rfl,HN.out⟩
     ·skip
      have dA:=decide_eq_false (show ¬(97:Int)<=(s[0].toNat:Int) by omega);have dB:=decide_eq_true (show (s[0].toNat:Int)<=122 by omega);have dC:=decide_eq_false (show ¬(65:Int)<=(s[0].toNat:Int) by omega);have dD:=decide_eq_true (show (s[0].toNat:Int)<=90 by omega);have dE:=decide_eq_true (show (48:Int)<=(s[0].toNat:Int) by omega);have dF:=decide_eq_true (show (s[0].toNat:Int)<=57 by omega);clear hcl;go_wp2_with fail;go_ret;exact ⟨rfl,HN.out⟩
     ·skip
      have dA:=decide_eq_false (show ¬(97:Int)<=(s[0].toNat:Int) by omega);have dB:=decide_eq_true (show (s[0].toNat:Int)<=122 by omega);have dC:=decide_eq_false (show ¬(65:Int)<=(s[0].toNat:Int) by omega);have dD:=decide_eq_true (show (s[0].toNat:Int)<=90 by omega);have dE:=decide_eq_true (show (48:Int)<=(s[0].toNat:Int) by omega);have dF:=decide_eq_false (show ¬(s[0].toNat:Int)<=57 by omega);clear hcl;go_wp2_with fail;go_ret;exact ⟨rfl,HN.out⟩
     ·skip
      have dA:=decide_eq_false (show ¬(97:Int)<=(s[0].toNat:Int) by omega);have dB:=decide_eq_true (show (s[0].toNat:Int)<=122 by omega);have dC:=decide_eq_true (show (65:Int)<=(s[0].toNat:Int) by omega);have dD:=decide_eq_false (show ¬(s[0].toNat:Int)<=90 by omega);have dE:=decide_eq_true (show (48:Int)<=(s[0].toNat:Int) by omega);have dF:=decide_eq_false (show ¬(s[0].toNat:Int)<=57 by omega);clear hcl;go_wp2_with fail;go_ret;exact ⟨rfl,HN.out⟩
     ·skip
      have dA:=decide_eq_true (show (97:Int)<=(s[0].toNat:Int) by omega);have dB:=decide_eq_false (show ¬(s[0].toNat:Int)<=122 by omega);have dC:=decide_eq_true (show (65:Int)<=(s[0].toNat:Int) by omega);have dD:=decide_eq_false (show ¬(s[0].toNat:Int)<=90 by omega);have dE:=decide_eq_true (show (48:Int)<=(s[0].toNat:Int) by omega);have dF:=decide_eq_false (show ¬(s[0].toNat:Int)<=57 by omega);clear hcl;go_wp2_with fail;go_ret;exact ⟨rfl,HN.out⟩
    ·have hkb:((k:Int)==0)=false:=beq_false_of_ne (by omega);obtain ⟨hc1,hc2⟩:=hcl;have hc2:=hc2.resolve_left hk0;have h95:((s[k].toNat:Int)==95)=false:=beq_false_of_ne (by omega);rcases (by omega:s[k].toNat < 48\/57 < s[k].toNat/\s[k].toNat < 65\/90 < s[k].toNat/\s[k].toNat < 97\/122 < s[k].toNat) with g1 | ⟨g1,g2⟩ | ⟨g1,g2⟩ | g1
     ·skip
      have dA:=decide_eq_false (show ¬(97:Int)<=(s[k].toNat:Int) by omega);have dB:=decide_eq_true (show (s[k].toNat:Int)<=122 by omega);have dC:=decide_eq_false (show ¬(65:Int)<=(s[k].toNat:Int) by omega);have dD:=decide_eq_true (show (s[k].toNat:Int)<=90 by omega);have dE:=decide_eq_false (show ¬(48:Int)<=(s[k].toNat:Int) by omega);have dF:=decide_eq_true (show (s[k].toNat:Int)<=57 by omega);clear hc1 hc2;go_wp2_with fail;go_ret;exact ⟨rfl,HN.out⟩
     ·skip
      have dA:=decide_eq_false (show ¬(97:Int)<=(s[k].toNat:Int) by omega);have dB:=decide_eq_true (show (s[k].toNat:Int)<=122 by omega);have dC:=decide_eq_false (show ¬(65:Int)<=(s[k].toNat:Int) by omega);have dD:=decide_eq_true (show (s[k].toNat:Int)<=90 by omega);have dE:=decide_eq_true (show (48:Int)<=(s[k].toNat:Int) by omega);have dF:=decide_eq_false (show ¬(s[k].toNat:Int)<=57 by omega);clear hc1 hc2;go_wp2_with fail;go_ret;exact ⟨rfl,HN.out⟩
     ·skip
      have dA:=decide_eq_false (show ¬(97:Int)<=(s[k].toNat:Int) by omega);have dB:=decide_eq_true (show (s[k].toNat:Int)<=122 by omega);have dC:=decide_eq_true (show (65:Int)<=(s[k].toNat:Int) by omega);have dD:=decide_eq_false (show ¬(s[k].toNat:Int)<=90 by omega);have dE:=decide_eq_true (show (48:Int)<=(s[k].toNat:Int) by omega);have dF:=decide_eq_false (show ¬(s[k].toNat:Int)<=57 by omega);clear hc1 hc2;go_wp2_with fail;go_ret;exact ⟨rfl,HN.out⟩
     ·skip
      have dA:=decide_eq_true (show (97:Int)<=(s[k].toNat:Int) by omega);have dB:=decide_eq_false (show ¬(s[k].toNat:Int)<=122 by omega);have dC:=decide_eq_true (show (65:Int)<=(s[k].toNat:Int) by omega);have dD:=decide_eq_false (show ¬(s[k].toNat:Int)<=90 by omega);have dE:=decide_eq_true (show (48:Int)<=(s[k].toNat:Int) by omega);have dF:=decide_eq_false (show ¬(s[k].toNat:Int)<=57 by omega);clear hc1 hc2;go_wp2_with fail;go_ret;exact ⟨rfl,HN.out⟩
  ·have hkk:k=s.size:=by omega
   have hb:b=true:=by
    cases b with
    | true=>rfl
    | false=>exact absurd ⟨by omega,by omega,hkk ▸ HC.out⟩ (HB2.out rfl)
   subst hb;have HKK:=hid hkk;clear hkk;go_wp2_with fail;go_ret;exact ⟨rfl,HN.out⟩
theorem y5p (c:Nat)(w:World):Calls Tryz.prog 148 #[.int .i32 (c:Int)] w fun e w'=>e=.returned (.bool (letN c))/\w'=w:=by
 obtain ⟨b,hb⟩:∃ b,letN c=b:=⟨_,rfl⟩;rw[hb];rcases (by omega:c < 65\/65<=c/\c<=90\/90 < c/\c < 97\/97<=c/\c<=122\/122 < c) with g1 | ⟨g1,g2⟩ | ⟨g1,g2⟩ | ⟨g1,g2⟩ | g1
 ·obtain rfl:b=false:=by rw[<-hb];unfold letN;simp;omega
  clear hb;have dA:=decide_eq_false (show ¬(97:Int)<=(c:Int) by omega);have dB:=decide_eq_true (show (c:Int)<=122 by omega);have dC:=decide_eq_false (show ¬(65:Int)<=(c:Int) by omega);have dD:=decide_eq_true (show (c:Int)<=90 by omega);go_enter Tryz.func148,Tryz.ntmps148;go_wp2_with fail;go_ret;exact ⟨rfl,rfl⟩
 ·obtain rfl:b=true:=by rw[<-hb];unfold letN;simp;omega
  clear hb;have dA:=decide_eq_false (show ¬(97:Int)<=(c:Int) by omega);have dB:=decide_eq_true (show (c:Int)<=122 by omega);have dC:=decide_eq_true (show (65:Int)<=(c:Int) by omega);have dD:=decide_eq_true (show (c:Int)<=90 by omega);go_enter Tryz.func148,Tryz.ntmps148;go_wp2_with fail;go_ret;exact ⟨rfl,rfl⟩
 ·obtain rfl:b=false:=by rw[<-hb];unfold letN;simp;omega
  clear hb;have dA:=decide_eq_false (show ¬(97:Int)<=(c:Int) by omega);have dB:=decide_eq_true (show (c:Int)<=122 by omega);have dC:=decide_eq_true (show (65:Int)<=(c:Int) by omega);have dD:=decide_eq_false (show ¬(c:Int)<=90 by omega);go_enter Tryz.func148,Tryz.ntmps148;go_wp2_with fail;go_ret;exact ⟨rfl,rfl⟩
 ·obtain rfl:b=true:=by rw[<-hb];unfold letN;simp;omega
  clear hb;have dA:=decide_eq_true (show (97:Int)<=(c:Int) by omega);have dB:=decide_eq_true (show (c:Int)<=122 by omega);have dC:=decide_eq_true (show (65:Int)<=(c:Int) by omega);have dD:=decide_eq_false (show ¬(c:Int)<=90 by omega);go_enter Tryz.func148,Tryz.ntmps148;go_wp2_with fail;go_ret;exact ⟨rfl,rfl⟩
 ·obtain rfl:b=false:=by rw[<-hb];unfold letN;simp;omega
  clear hb;have dA:=decide_eq_true (show (97:Int)<=(c:Int) by omega);have dB:=decide_eq_false (show ¬(c:Int)<=122 by omega);have dC:=decide_eq_true (show (65:Int)<=(c:Int) by omega);have dD:=decide_eq_false (show ¬(c:Int)<=90 by omega);go_enter Tryz.func148,Tryz.ntmps148;go_wp2_with fail;go_ret;exact ⟨rfl,rfl⟩
theorem yc0 (s:ByteArray)(b:Bool)(w:World)(hl:s.size<=1000000)(hb1:b=true->y6p s)(hb2:b=false->¬y6p s):Calls Tryz.prog 71 #[.string s] w fun e w'=>e=.returned (.bool b)/\New w w':=by
 have HB1:=hid hb1;have HB2:=hid hb2;clear hb1 hb2;go_enter Tryz.func71,Tryz.ntmps71;go_wp2_with fail
 go_loopg [3] s.size (fun g i wx=>∃ k:Nat,k+g=s.size/\wx=w.iter s k/\Hid (Chrs s k))
 case atStart=>exact ⟨0,by omega,rfl,hid (fun i h hi=>absurd hi (Nat.not_lt_zero i))⟩
 case round=>
  obtain ⟨k,hkg,rfl,HC⟩:=hrel
  cases gk with
  | zero=>
   obtain rfl:k=s.size:=by omega
   have hnx:=run_next_end (P:=Tryz.prog) w s s.size
   have hbb:b=decide (1<=s.size/\s.size<=24):=by
    cases b with
    | true=>have:=HB1.out rfl;exact (decide_eq_true ⟨this.1,this.2.1⟩).symm
    | false=>exact (decide_eq_false fun h=>HB2.out rfl ⟨h.1,h.2,HC.out⟩).symm
   have hsz:s.toList.length=s.size:=by rw[ByteArray.toList_eq];simp
   by_cases h0:s.size=0
   ·have he:s.toList=[]:=List.eq_nil_of_length_eq_zero (by omega)
    have hf:b=false:=by rw[hbb];exact decide_eq_false (by omega)
    subst hf;clear hbb hsz h0;go_wp2_with fail;go_ret;exact ⟨rfl,(New.refl _).alloc _⟩
   ·have he:s.toList≠[]:=fun e=>by rw[e] at hsz;exact h0 (by simpa using hsz.symm)
    have he2:s.toList.isEmpty=false:=by cases h:s.toList with
     | nil=>exact absurd h he
     | cons=>rfl
    have hd:decide ((s.size:Int)<=24)=b:=by rw[hbb];exact decide_eq_decide.2 ⟨fun h=>⟨by omega,by omega⟩,fun h=>by omega⟩
    clear hbb hsz h0;go_wp2_with fail;go_ret;exact ⟨rfl,(New.refl _).alloc _⟩
  | succ g=>
   have hlt:k < s.size:=by omega
   by_cases ha:s[k].toNat < 128
   ·have hnx:=fun ty=>run_next_ascii (P:=Tryz.prog) w s k ty hlt ha;obtain ⟨c,hc⟩:∃ c,s[k].toNat=c:=⟨_,rfl⟩;rw[hc] at hnx;have HCC:=hid hc;clear hc;go_wp2_with fail;refine (y5p c _).mono ?_;rintro e w2 ⟨rfl,rfl⟩;by_cases hcc:chrN k c=true
    ·have hstep:=HC.out.step hlt (by rw[HCC.out];exact hcc);by_cases hL:letN c=true
     ·rw[hL];clear hcc hL;have HSTEP:=hid hstep;clear hstep;go_wp2_with fail
      go_roundg g
      case measure=>omega
      case rel=>exact ⟨k+1,by omega,rfl,HSTEP⟩
     ·have hk0:k≠0/\(48<=c/\c<=57\/c=95):=by
       unfold chrN at hcc;simp[hL] at hcc;exact hcc
      obtain ⟨hk0,hcl⟩:=hk0
      have hLf:letN c=false:=by simpa using hL
      rw[hLf];have hkb:((k:Int)==0)=false:=beq_false_of_ne (by omega);clear hcc hL hLf;have HSTEP:=hid hstep;clear hstep;rcases hcl with ⟨g1,g2⟩ | g1
      ·have h95:((c:Int) != 95)=true:=bne_iff_ne.2 (by omega);have dE:=decide_eq_false (show ¬(c:Int) < 48 by omega);have dF:=decide_eq_false (show ¬(57:Int) < (c:Int) by omega);go_wp2_with fail
       go_roundg g
       case measure=>omega
       case rel=>exact ⟨k+1,by omega,rfl,HSTEP⟩
      ·have h95:((c:Int) != 95)=false:=by rw[g1];decide
       have dE:=decide_eq_false (show ¬(c:Int) < 48 by omega);have dF:=decide_eq_true (show (57:Int) < (c:Int) by omega);go_wp2_with fail
       go_roundg g
       case measure=>omega
       case rel=>exact ⟨k+1,by omega,rfl,HSTEP⟩
    ·have hf:b=false:=by
      cases b with
      | false=>rfl
      | true=>exact absurd ((HB1.out rfl).2.2 k hlt hlt) (by rw[HCC.out];exact hcc)
     subst hf
     have hLf:letN c=false:=by
      unfold chrN at hcc;simp at hcc;exact hcc.1
     rw[hLf];by_cases hk0:k=0
     ·subst hk0;clear hcc hLf;go_wp2_with fail;go_ret;exact ⟨rfl,(New.refl _).alloc _⟩
     ·have hkb:((k:Int)==0)=false:=beq_false_of_ne (by omega)
      have hcl:(c < 48\/57 < c)/\c≠95:=by
       unfold chrN at hcc;simp[hLf,hk0] at hcc;omega
      have h95:((c:Int) != 95)=true:=bne_iff_ne.2 (by omega);clear hcc hLf;rcases hcl.1 with g1 | g1
      ·clear hcl;have dE:=decide_eq_true (show (c:Int) < 48 by omega);have dF:=decide_eq_false (show ¬(57:Int) < (c:Int) by omega);go_wp2_with fail;go_ret;exact ⟨rfl,(New.refl _).alloc _⟩
      ·clear hcl;have dE:=decide_eq_false (show ¬(c:Int) < 48 by omega);have dF:=decide_eq_true (show (57:Int) < (c:Int) by omega);go_wp2_with fail;go_ret;exact ⟨rfl,(New.refl _).alloc _⟩
   ·have hf:b=false:=by
     cases b with
     | false=>rfl
     | true=>
      have h:=(HB1.out rfl).2.2 k hlt hlt;unfold chrN letN at h;simp at h;omega
    subst hf;obtain ⟨d1,d2⟩:=decode_high s k hlt (by omega);have hnx:=fun ty=>run_next_any (P:=Tryz.prog) w s k ty hlt;obtain ⟨c,hc⟩:∃ c,(Utf8.decode s k).1=c:=⟨_,rfl⟩;obtain ⟨st,hst⟩:∃ c,(Utf8.decode s k).2=c:=⟨_,rfl⟩;rw[hc,hst] at hnx;rw[hc] at d1;clear hc hst d2 ha;go_wp2_with fail;refine (y5p c _).mono ?_;rintro e w2 ⟨rfl,rfl⟩
    have hcc:¬chrN k c=true:=by unfold chrN letN;simp;omega
    have hLf:letN c=false:=by unfold letN;simp;omega
    rw[hLf];by_cases hk0:k=0
    ·subst hk0;clear hcc hLf;go_wp2_with fail;go_ret;exact ⟨rfl,(New.refl _).alloc _⟩
    ·have hkb:((k:Int)==0)=false:=beq_false_of_ne (by omega)
     have hcl:(c < 48\/57 < c)/\c≠95:=by
      unfold chrN at hcc;simp[hLf,hk0] at hcc;omega
     have h95:((c:Int) != 95)=true:=bne_iff_ne.2 (by omega);clear hcc hLf;rcases hcl.1 with g1 | g1
     ·clear hcl;have dE:=decide_eq_true (show (c:Int) < 48 by omega);have dF:=decide_eq_false (show ¬(57:Int) < (c:Int) by omega);go_wp2_with fail;go_ret;exact ⟨rfl,(New.refl _).alloc _⟩
     ·clear hcl;have dE:=decide_eq_false (show ¬(c:Int) < 48 by omega);have dF:=decide_eq_true (show (57:Int) < (c:Int) by omega);go_wp2_with fail;go_ret;exact ⟨rfl,(New.refl _).alloc _⟩
end Go.Proofs.YtnjonlnemagomaaGreatDoor
