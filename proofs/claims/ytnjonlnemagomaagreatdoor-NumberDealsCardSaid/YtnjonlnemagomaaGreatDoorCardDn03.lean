/- Part CardDn03. -/
import Derived.Lib.SmallJoins
import Derived.Maps.AppendAt
import Derived.Laws.AppendOwnNone
import Derived.Test.YtnjonlnemagomaaGreatDoorA39
import Derived.Test.YtnjonlnemagomaaGreatDoorCardDn02
namespace Go.Proofs.YtnjonlnemagomaaGreatDoor
open Go.RowKit Go.ChangeShapes Go.WideShapes Go.Deep Go.Joins
set_option maxRecDepth 100000
set_option maxHeartbeats 8000000
theorem array4 {α:Type}{cs:Array α}(h:cs.size=4):∃ c0 c1 c2 c3,cs=#[c0,c1,c2,c3]:=by
 obtain ⟨l⟩:=cs
 match l,h with
 | [c0,c1,c2,c3],_=>exact ⟨c0,c1,c2,c3,rfl⟩
section
variable {H:Type} {enc:TypeId × Value→H} {P:Program} {w:World} {base:Nat} {sp:Nat→Bool} {held:Bool}
theorem trod_struct4 {t:TypeId}{f0 f1 f2 f3:Field}{fuel:Nat}{cs:List Value}{x:DataW H × List MemPlace}(ht:P.underlying t=some (.struct #[f0,f1,f2,f3]))(h:DataW.trod enc P w base sp held fuel t cs=some x):
  ∃ y0 y1 y2 y3 n,DataW.trod enc P w base sp held n f0.type ((cs.drop f0.offset).take (P.cellsOf f0.type))=some y0∧
   DataW.trod enc P w base sp held n f1.type ((cs.drop f1.offset).take (P.cellsOf f1.type))=some y1∧DataW.trod enc P w base sp held n f2.type ((cs.drop f2.offset).take (P.cellsOf f2.type))=some y2∧
   DataW.trod enc P w base sp held n f3.type ((cs.drop f3.offset).take (P.cellsOf f3.type))=some y3:=by
 obtain ⟨xs,n,_,rfl,hl,hlen,hf⟩:=DataW.trod_struct ht h
 match xs,hlen with
 | [y0,y1,y2,y3],_=>exact ⟨y0,y1,y2,y3,n,by simpa using hf 0 f0 rfl,by simpa using hf 1 f1 rfl,by simpa using hf 2 f2 rfl,by simpa using hf 3 f3 rfl⟩
theorem open_agg4 {r:Reach} {b0:Nat} {t:TypeId} {f0 f1 f2 f3:Field} {v:Value} {d:DataW H} {p:List MemPlace} (hs:P.underlying t=some (.struct #[f0,f1,f2,f3])) (hone:oneCellFields P #[f0,f1,f2,f3]=true) (hC:P.cellsOf t=4)
  (hv:Value.okWide P w r b0 t v) (h:DataW.Trod enc P w base sp held t v d p):
  ∃ (v0 v1 v2 v3:Value) (y0 y1 y2 y3:DataW H × List MemPlace) (n:Nat),v=.agg #[v0,v1,v2,v3]∧
   DataW.trod enc P w base sp held n f0.type [v0]=some y0∧DataW.trod enc P w base sp held n f1.type [v1]=some y1∧DataW.trod enc P w base sp held n f2.type [v2]=some y2∧DataW.trod enc P w base sp held n f3.type [v3]=some y3:=by
 obtain ⟨cs,rfl,hsz⟩:=okWide_struct hs hv;obtain ⟨c0,c1,c2,c3,rfl⟩:=array4 (hsz.trans hC);obtain ⟨fuel,hf⟩:=h;obtain ⟨y0,y1,y2,y3,n,h0,h1,h2,h3⟩:=trod_struct4 hs hf;obtain ⟨o0,k0⟩:=hone_of hone 0 f0 rfl;obtain ⟨o1,k1⟩:=hone_of hone 1 f1 rfl;obtain ⟨o2,k2⟩:=hone_of hone 2 f2 rfl;obtain ⟨o3,k3⟩:=hone_of hone 3 f3 rfl;exact ⟨c0,c1,c2,c3,y0,y1,y2,y3,n,rfl,by simpa[Value.cells,o0,k0] using h0,by simpa[Value.cells,o1,k1] using h1,by simpa[Value.cells,o2,k2] using h2,by simpa[Value.cells,o3,k3] using h3⟩
end
theorem getD_map (xs:List Int):(List.range xs.length).map (fun i=>xs.getD i 0)=xs:=by
 apply List.ext_getElem (by simp);intro i h1 h2;simp[List.getD_eq_getElem?_getD,h2]
theorem in_deal {H:Type}{enc:TypeId × Value→H}{w:World}{base:Nat}{sp:Nat→Bool}{held:Bool}{r:Reach}{b0:Nat}{v:Value}{d:DataW H}{p:List MemPlace}(hval:Value.okWide Tryz.prog w r b0 26 v)(h:DataW.Trod enc Tryz.prog w base sp held 26 v d p):
  ∃ (T key num:Int) (a:Option Addr) (cap n:Nat) (f:Nat→Int),v=.agg #[.int .i64 T,.slice a n cap,.int .i64 key,.int .i64 num]∧RdL w a (ints ((List.range n).map f)):=by
 obtain ⟨v0,v1,v2,v3,y0,y1,y2,y3,n,rfl,h0,h1,h2,h3⟩:=open_agg4 Tryz.underlying26 (by kernel_rfl) (by kernel_rfl) hval h;obtain ⟨T,rfl,_⟩:=trod_int' Tryz.underlying3 h0;obtain ⟨a,cap,vs,e1,hr,_,_,_,hel⟩:=in_slice1 Tryz.underlying24 (by kernel_rfl) h1;obtain ⟨key,rfl,_⟩:=trod_int' Tryz.underlying3 h2;obtain ⟨num,rfl,_⟩:=trod_int' Tryz.underlying3 h3
 obtain ⟨xs,rfl⟩:∃ xs,vs=ints xs:=exists_map fun u hu=>by
  obtain ⟨n,y,hy⟩:=hel u hu;obtain ⟨x,hx,_⟩:=trod_int' Tryz.underlying3 hy;exact ⟨x,hx⟩
 have hl:(ints xs).length=xs.length:=by simp[ints]
 rw[hl]at e1;simp at e1;subst e1;exact ⟨T,key,num,a,cap,xs.length,fun i=>xs.getD i 0,rfl,by rw[getD_map];exact hr⟩
theorem deals_lifted (os:Os)(started:os.Started)(H:Type)(enc:TypeId × Value→H):
  ReturnsInHanded {} Tryz.checked os 7 .any (fun w args=>(Rows.numberDealsSpec.pre enc Tryz.prog Tryz.f7 [] false w args∧laidMetH Tryz.prog Listed w)∧sizedMet enc Tryz.prog Tryz.f7 (OpenSpec.ofChange Rows.numberDealsSpec) false w args)
   (Rows.numberDealsSpec.post enc Tryz.prog Tryz.f7 false true false false):=by
 refine returns_and_shaped (C:=Tryz.checked) (X:=fun w _=>laidMetH Tryz.prog Listed w) (fun _ _ _ hh h=>h.of_heap hh) own started (by kernel_rfl) Tryz.func7
  (ChangeSpec.witness_shaped (enc:=enc) (C:=Tryz.checked) (os:=os) (X:=fun w _=>laidMetH Tryz.prog Listed w) false (World.laidAll Tryz.prog os Listed) #[.agg #[.int .i64 0,.slice none 0 0,.int .i64 0,.int .i64 0]] 8 (World.laidAll_os _ _ _)
   (World.shaped_of_ZipB (by kernel_rfl) (by kernel_rfl)) (by kernel_rfl) (by kernel_rfl) (by kernel_rfl) (witness_laid os _)) ?_
 intro W base args ds gs before hval0 hW hL hsh;have hval:∀ (j:Nat) t v,Tryz.f7.params[j]?=some t→args[j]?=some v→Value.okWide Tryz.prog W .any base t v:=hval0;have hW':=hW;obtain ⟨p,q,hA0,hV,rfl,_,_⟩:=hW;have hA:DataW.TrodAll enc Tryz.prog W 0 (fun _=>true) true Tryz.f7.params.toList args.toList ds p:=hA0;rw[Tryz.params7] at hA hval;obtain ⟨v0,d0,rfl,rfl,h0⟩:=trodAll_one hA;obtain ⟨rfl,rfl⟩:=trodVars_none hV;have he:=env_of hL hsh
 have hlt:∀ x∈p,x.block < W.heap.size:=fun x hx=>by simpa using hW'.lt x (by simpa using hx)
 have hv0:=hval 0 _ _ rfl rfl;clear hA0 hval0 hval hA
 have up:∀ W',New W W'→DataW.TrodAll enc Tryz.prog W' 0 (fun b=>decide (b < W.heap.size)) true [26] [v0] [d0] (p):=fun W' hn=>
  trodAll_mk1 (Below.trod laidOut (by kernel_rfl) (of_decide_eq_true (by kernel_rfl)) h0 hn fun x hx=>hlt x (by simp[hx]))
 obtain ⟨T,key,num,a,cap,n,f,rfl,hr⟩:=in_deal hv0 h0;refine (deals_law T key num n cap f a W he hr).mono fun e W' hp=>?_;obtain ⟨rfl,hn⟩:=hp;exact ⟨_,rfl,_,_,_,[],p,[],hW',trodAll_mk1 (shut_bool Tryz.underlying4 _),up W' hn,rfl,Below.frame hn _,fun h=>by cases h⟩
end Go.Proofs.YtnjonlnemagomaaGreatDoor
