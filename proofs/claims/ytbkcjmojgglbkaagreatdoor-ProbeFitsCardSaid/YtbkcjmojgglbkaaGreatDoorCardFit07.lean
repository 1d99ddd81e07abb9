/- ProbeFits: for every converter and every two marks: the law returns true, and the arguments read behind the call as before it. CONDITIONS: the seven package-level variables of the library of Go that the row lists hold what start-up lays (the card ties them to the text of the program). -/
import Derived.Laws.FloatArith
import Derived.BigQuiet
import Derived.Deep.DeepCutAuto
import Derived.Deep.CutBlock
import Derived.Test.YtbkcjmojgglbkaaGreatDoorB35
import Derived.Test.YtbkcjmojgglbkaaGreatDoorCardFit06
namespace Go.Proofs.YtbkcjmojgglbkaaGreatDoor
open Go.RowKit Go.ChangeShapes Go.WideShapes Go.Deep Go.Joins
set_option maxRecDepth 100000
set_option maxHeartbeats 8000000
theorem in_mark_size {H:Type}{enc:TypeId × Value→H}{w:World}{base:Nat}{sp:Nat→Bool}{held:Bool}{r:Reach}{b0:Nat}{v:Value}{d:DataW H}{p:List MemPlace}(hval:Value.okWide Tryz.prog w r b0 75 v)(h:DataW.Trod enc Tryz.prog w base sp held 75 v d p):
  ∃ (c:Int) (t:ByteArray),v=.agg #[.int .i64 c,.string t]∧t.size≤9223372036854775807:=by
 obtain ⟨v0,v1,y0,y1,n,rfl,_,_,h0,h1⟩:=Joins.open_agg2 Tryz.underlying75 (by kernel_rfl) (by kernel_rfl) hval h;obtain ⟨c,rfl,_⟩:=trod_int' Tryz.underlying3 h0;obtain ⟨t,rfl,ht⟩:=trod_str' Tryz.underlying22 h1;exact ⟨c,t,rfl,ht⟩
theorem fits_lifted (os:Os)(started:os.Started)(H:Type)(enc:TypeId × Value→H):
  ReturnsInHanded {} Tryz.checked os 8 .any (fun w args=>(Rows.probeFitsSpec.pre enc Tryz.prog Tryz.f8 [] false w args∧laidMetH Tryz.prog Listed w)∧sizedMet enc Tryz.prog Tryz.f8 (OpenSpec.ofChange Rows.probeFitsSpec) false w args)
   (Rows.probeFitsSpec.post enc Tryz.prog Tryz.f8 false true false false):=by
 refine returns_and_shaped (C:=Tryz.checked) (X:=fun w _=>laidMetH Tryz.prog Listed w) (fun _ _ _ hh h=>h.of_heap hh) own started (by kernel_rfl) Tryz.func8
  (ChangeSpec.witness_shaped (enc:=enc) (C:=Tryz.checked) (os:=os) (X:=fun w _=>laidMetH Tryz.prog Listed w) false (World.laidAll Tryz.prog os Listed) #[.agg #[.int .i64 0,.int .i64 0,.int .i64 0,.string ⟨#[]⟩,.string ⟨#[]⟩],.agg #[.int .i64 0,.string ⟨#[]⟩],.agg #[.int .i64 0,.string ⟨#[]⟩]] 8 (World.laidAll_os _ _ _)
   (World.shaped_of_ZipB (by kernel_rfl) (by kernel_rfl)) (by kernel_rfl) (by kernel_rfl) (by kernel_rfl) (witness_laid os _)) ?_
 intro W base args ds gs before hval0 hW hL hsh;have hval:∀ (j:Nat) t v,Tryz.f8.params[j]?=some t→args[j]?=some v→Value.okWide Tryz.prog W .any base t v:=hval0;have hW':=hW;obtain ⟨p,q,hA0,hV,rfl,_,_⟩:=hW;have hA:DataW.TrodAll enc Tryz.prog W 0 (fun _=>true) true Tryz.f8.params.toList args.toList ds p:=hA0;rw[Tryz.params8] at hA hval;obtain ⟨v0,v1,v2,d0,d1,d2,p0,p1,p2,rfl,rfl,rfl,h0,h1,h2⟩:=trodAll_three hA;obtain ⟨rfl,rfl⟩:=trodVars_none hV;have he:=env_of hL hsh
 have hlt:∀ x∈p0 ++ p1 ++ p2,x.block < W.heap.size:=fun x hx=>by simpa using hW'.lt x (by simpa using hx)
 have hv0:=hval 0 _ _ rfl rfl;have hv1:=hval 1 _ _ rfl rfl;have hv2:=hval 2 _ _ rfl rfl;clear hA0 hval0 hval hA
 have up:∀ W',New W W'→DataW.TrodAll enc Tryz.prog W' 0 (fun b=>decide (b < W.heap.size)) true [24,75,75] [v0,v1,v2] [d0,d1,d2] (p0 ++ (p1 ++ p2)):=fun W' hn=>
  trodAll_mk3 (Below.trod laidOut (by kernel_rfl) (of_decide_eq_true (by kernel_rfl)) h0 hn fun x hx=>hlt x (by simp[hx]))
   (Below.trod laidOut (by kernel_rfl) (of_decide_eq_true (by kernel_rfl)) h1 hn fun x hx=>hlt x (by simp[hx]))
   (Below.trod laidOut (by kernel_rfl) (of_decide_eq_true (by kernel_rfl)) h2 hn fun x hx=>hlt x (by simp[hx]))
 obtain ⟨b,s,z,g,o,rfl,hg,ho⟩:=in_adc hv0 h0;obtain ⟨c1,t1,rfl,hl1⟩:=in_mark_size hv1 h1;obtain ⟨c2,t2,rfl,hl2⟩:=in_mark_size hv2 h2;refine (fits_law awake_calls b s z c1 c2 g o t1 t2 W he (by omega) (by omega) (by omega) (by omega)).mono fun e W' hp=>?_;obtain ⟨rfl,hn⟩:=hp;exact ⟨_,rfl,_,_,_,[],p0 ++ (p1 ++ p2),[],hW',trodAll_mk1 (shut_bool Tryz.underlying4 _),up W' hn,rfl,Below.frame hn _,fun h=>by cases h⟩
theorem fits_holds:Rows.ProbeFitsSaid:=
 OpenClaim.holds_of_wide 8 Tryz.f8 rfl rfl rfl rfl rfl rfl rfl ⟨rfl,rfl,rfl,rfl,rfl⟩ rfl rfl rfl rfl rfl (by kernel_rfl) Tryz.func8 (by kernel_rfl)
  (of_decide_eq_true (by kernel_rfl)) (by unfold Func.isWrapper;first | (rw[if_pos (by decide +kernel)];kernel_rfl) | (rw[if_neg (by decide +kernel)];exact ⟨rfl,rfl⟩))
  (fun os started H enc _=>fits_lifted os started H enc)
theorem fits_card_holds:Rows.ProbeFitsCardSaid:=
 Claim7.holds_tied_plain_at .later [] [.data, .data, .data, .data, .sentinel, .sentinel, .pinned] true (true, "0317c1efc2cc73041a6463d23eedf5ef37cef014deea2dd9430a94fd6af32783") true
  fits_holds (fun _ h=>by cases h) (by kernel_rfl) (fun _ h=>by cases h) probeFits_row_tie rfl ⟨rfl,rfl⟩ (by kernel_rfl) rfl
  (fun f fn hf hfn=>by
   obtain rfl : f = 8 := Option.some.inj ((show Tryz.prog.funcNamed "strobe/strobelaw02.ProbeFits" = some 8 by kernel_rfl).symm.trans hf) |>.symm
   obtain rfl:fn=Tryz.f8:=(Option.some.inj (Tryz.func8.symm.trans hfn)).symm
   exact ⟨by kernel_rfl,fun j t ht=>by
    rw[Tryz.params8]at ht
    have hm:t∈[24,75,75]:=by simpa using Array.mem_of_getElem? ht
    have hall:([24,75,75].all fun u=>!Tryz.prog.wantsStandIn u)=true:=by kernel_rfl
    exact (show Tryz.prog.wantsStandIn t=false by simpa using List.all_eq_true.1 hall t hm)⟩)
  (by kernel_rfl)
end Go.Proofs.YtbkcjmojgglbkaaGreatDoor
