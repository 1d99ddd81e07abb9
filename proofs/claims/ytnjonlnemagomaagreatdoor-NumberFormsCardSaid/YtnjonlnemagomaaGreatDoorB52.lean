/- Part B52. -/
import Derived.Test.YtnjonlnemagomaaGreatDoorB29
import Derived.Test.YtnjonlnemagomaaGreatDoorB30
import Derived.Test.YtnjonlnemagomaaGreatDoorB34
import Derived.Test.YtnjonlnemagomaaGreatDoorB51
namespace Go.Proofs.YtnjonlnemagomaaGreatDoor
open Go.RowKit Go.ChangeShapes Go.WideShapes Go.Deep
set_option maxRecDepth 100000
set_option maxHeartbeats 8000000
theorem ydl (os:Os)(started:os.Started)(H:Type)(enc:TypeId × Value->H):
  ReturnsInHanded {} Tryz.checked os 11 .any (fun w args=>(Rows.numberFormsSpec.pre enc Tryz.prog Tryz.f11 [] false w args/\laidMetH Tryz.prog Listed w)/\sizedMet enc Tryz.prog Tryz.f11 (OpenSpec.ofChange Rows.numberFormsSpec) false w args)
   (Rows.numberFormsSpec.post enc Tryz.prog Tryz.f11 false true false false):=by
 refine y7i (C:=Tryz.checked) (X:=fun w _=>laidMetH Tryz.prog Listed w) (fun _ _ _ hh h=>h.of_heap hh) own started (by kernel_rfl) Tryz.func11
  (ChangeSpec.witness_shaped (enc:=enc) (C:=Tryz.checked) (os:=os) (X:=fun w _=>laidMetH Tryz.prog Listed w) false (World.laidAll Tryz.prog os Listed) #[.string ⟨#[]⟩,.agg #[.int .i64 0,.int .i64 0],.string ⟨#[]⟩] 8 (World.laidAll_os _ _ _)
   (World.shaped_of_ZipB (by kernel_rfl) (by kernel_rfl)) (by kernel_rfl) (by kernel_rfl) (by kernel_rfl) (yer os _)) ?_
 intro W base args ds gs before hval0 hW hL hsh;have hval:∀ (j:Nat) t v,Tryz.f11.params[j]?=some t->args[j]?=some v->Value.okWide Tryz.prog W .any base t v:=hval0;have hW':=hW;obtain ⟨p,q,hA0,hV,rfl,_,_⟩:=hW;have hA:DataW.TrodAll enc Tryz.prog W 0 (fun _=>true) true Tryz.f11.params.toList args.toList ds p:=hA0;rw[Tryz.params11] at hA hval;obtain ⟨v0,v1,v2,d0,d1,d2,p0,p1,p2,rfl,rfl,rfl,h0,h1,h2⟩:=trodAll_three hA;obtain ⟨rfl,rfl⟩:=trodVars_none hV;have he:=ypw hL hsh
 have hlt:∀ x∈p0 ++ p1 ++ p2,x.block < W.heap.size:=fun x hx=>by simpa using hW'.lt x (by simpa using hx)
 have hv0:=hval 0 _ _ rfl rfl;have hv1:=hval 1 _ _ rfl rfl;have hv2:=hval 2 _ _ rfl rfl;clear hA0 hval0 hval hA
 have up:∀ W',New W W'->DataW.TrodAll enc Tryz.prog W' 0 (fun b=>decide (b < W.heap.size)) true [9,96,23] [v0,v1,v2] [d0,d1,d2] (p0 ++ (p1 ++ p2)):=fun W' hn=>
  trodAll_mk3 (Below.trod laidOut (by kernel_rfl) (of_decide_eq_true (by kernel_rfl)) h0 hn fun x hx=>hlt x (by simp[hx]))
   (Below.trod laidOut (by kernel_rfl) (of_decide_eq_true (by kernel_rfl)) h1 hn fun x hx=>hlt x (by simp[hx]))
   (Below.trod laidOut (by kernel_rfl) (of_decide_eq_true (by kernel_rfl)) h2 hn fun x hx=>hlt x (by simp[hx]))
 obtain ⟨s,rfl,hs⟩:=ynj Tryz.underlying9 hv0 h0;obtain ⟨n0,n1,rfl⟩:=ymv Tryz.underlying96 Tryz.underlying3 (by kernel_rfl) (by kernel_rfl) hv1 h1;obtain ⟨x,rfl,hx⟩:=ynj Tryz.underlying23 hv2 h2;refine (yji s x n0 n1 W he hs hx).mono fun e W' hp=>?_;obtain ⟨rfl,hn⟩:=hp;exact ⟨_,rfl,_,_,_,[],p0 ++ (p1 ++ p2),[],hW',trodAll_mk1 (shut_bool Tryz.underlying4 _),up W' hn,rfl,Below.frame hn _,fun h=>by cases h⟩
theorem yg7:Rows.NumberFormsSaid:=
 OpenClaim.holds_of_wide 11 Tryz.f11 rfl rfl rfl rfl rfl rfl rfl ⟨rfl,rfl,rfl,rfl,rfl⟩ rfl rfl rfl rfl rfl y9z Tryz.func11 yeo
  (of_decide_eq_true (by kernel_rfl)) (by unfold Func.isWrapper;first | (rw[if_pos (by decide +kernel)];kernel_rfl) | (rw[if_neg (by decide +kernel)];exact ⟨rfl,rfl⟩))
  (fun os started H enc _=>ydl os started H enc)
end Go.Proofs.YtnjonlnemagomaaGreatDoor
