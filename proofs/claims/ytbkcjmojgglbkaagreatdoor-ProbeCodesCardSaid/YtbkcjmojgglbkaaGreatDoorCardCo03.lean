/- ProbeCodes. The law returns true at every input, and the arguments read behind the call as before it. CONDITIONS. The seven listed package-level variables of the library hold what start-up lays (the card ties them to the text). -/
import Derived.Lib.SmallJoins
import Derived.Maps.AppendAt
import Derived.Laws.AppendOwnNone
import Derived.Test.YtbkcjmojgglbkaaGreatDoorCardCo02
namespace Go.Proofs.YtbkcjmojgglbkaaGreatDoor
open Go.RowKit Big Go.Lib Go.ChangeShapes Go.WideShapes Go.Deep Go.Joins
set_option maxRecDepth 100000
set_option maxHeartbeats 8000000
theorem codes_long (haw:AwakeOk) (b s z code:Int) (g o v:ByteArray) (w:World) (he:Env w) (hg:g.size≤9223372036854775807) (ho:o.size≤9223372036854775807) (hv:v.size≤9223372036854775807)
  (h:¬(g.size≤60∧o.size≤60∧v.size≤60)):
  Calls Tryz.prog 3 #[adcV b s z g o,.string v,.int .i64 code] w fun e w'=>e=.returned (.bool true)∧New w w':=by
 have hsh:=fun W=>rshort_calls b s z g o W hg ho
 have hvi:(v.size:Int)≤9223372036854775807:=by omega
 unfold adcV
 cases hs:(decide (g.size≤60) && decide (o.size≤60)) with
 | false=>
  simp only[hs]at hsh;clear h hs hg ho hv;have HAW:=hid haw;have HE:=hid he;have HSH:=hid hsh;clear haw he hsh;go_enter Tryz.func3,Tryz.ntmps3;go_upto_region 1 with (fail);obtain ⟨BA,HN⟩:=lay1 w 24 #[.int .i64 b,.int .i64 s,.int .i64 z,.string g,.string o];obtain ⟨⟨pa0,pa1,pa2,pa3,pa4⟩,pa5⟩:=BA.out.five;go_wp2_with fail;refine (HSH.out _).mono ?_;rintro e w1 ⟨rfl,hn⟩;clear pa0 pa1 pa2 pa3 pa4 pa5;replace HN:=tW HN hn;clear hn;go_wp2_with fail;refine (HAW.out _ (HE.out.new HN.out)).mono ?_;rintro e w2 ⟨rfl,hn⟩;replace HN:=tW HN hn;clear hn;go_wp2_with fail;go_ret;exact ⟨rfl,HN.out⟩
 | true=>
  have hvn:(60:Int) < (v.size:Int):=by
   rw[Bool.and_eq_true,decide_eq_true_eq,decide_eq_true_eq]at hs;omega
  have hvb:decide ((60:Int) < (v.size:Int))=true:=decide_eq_true hvn;simp only[hs] at hsh;clear h hs hg ho hv;have HAW:=hid haw;have HE:=hid he;have HSH:=hid hsh;clear haw he hsh;go_enter Tryz.func3,Tryz.ntmps3;go_upto_region 1 with (fail);obtain ⟨BA,HN⟩:=lay1 w 24 #[.int .i64 b,.int .i64 s,.int .i64 z,.string g,.string o];obtain ⟨⟨pa0,pa1,pa2,pa3,pa4⟩,pa5⟩:=BA.out.five;go_wp2_with fail;refine (HSH.out _).mono ?_;rintro e w1 ⟨rfl,hn⟩;clear pa0 pa1 pa2 pa3 pa4 pa5;replace HN:=tW HN hn;clear hn;go_wp2_with fail;refine (HAW.out _ (HE.out.new HN.out)).mono ?_;rintro e w2 ⟨rfl,hn⟩;replace HN:=tW HN hn;clear hn;go_wp2_with fail;go_ret;exact ⟨rfl,HN.out⟩
theorem codes_law (haw:AwakeOk)(b s z code:Int)(g o v:ByteArray)(w:World)(he:Env w)(hg:g.size≤9223372036854775807)(ho:o.size≤9223372036854775807)(hv:v.size≤9223372036854775807):
  Calls Tryz.prog 3 #[adcV b s z g o,.string v,.int .i64 code] w fun e w'=>e=.returned (.bool true)∧New w w':=by
 by_cases hlen:g.size≤60∧o.size≤60∧v.size≤60
 ·obtain ⟨hg6,ho6,hv6⟩:=hlen;have hsh:=fun W=>rshort_calls b s z g o W hg ho;rw[decide_eq_true hg6,decide_eq_true ho6,Bool.and_self] at hsh;obtain ⟨n,hpc,hrc,hok⟩:=adc_err b s z g o (by omega) (by omega);by_cases h0:n=0
  ·subst h0;obtain ⟨qg,qo,K⟩:=hok rfl;have htb:=top_bd K.blo K.bhi;have hzh:=K.zhi;have hlo:=K.blo
   have hzz:z≤4095:=by omega
   have hfu:=fun W hW=>full_calls K W hW;have hrf:=fun W=>rfull_calls b s z g o W (by omega) K.bhi K.slo K.shi K.zlo hzz;have hck:=fun W hW=>check_calls v W hW (by omega);have hqc:=fun W=>rcheck_calls v W (by omega);have hcc:=fun W=>rcheckCode_calls b s z code g o W (by omega) K.bhi;have hkc:=fun W hW=>checkCode_calls K code W hW
   obtain ⟨c,clip,t2,ht2,hco,hrco,hnc⟩:∃ c clip t2:Int,ratErr v.data.toList=t2∧
     (∀ W,Env W→Calls Tryz.prog 12 #[adcV b s z g o,.string v] W fun e w'=>e=.returned (.tuple #[.int .i64 c,.int .i64 clip,.int .i64 t2])∧New W w')∧
     (t2=0→∀ W,Calls Tryz.prog 18 #[adcV b s z g o,.string v] W fun e w'=>e=.returned (.tuple #[.int .i64 c,.int .i64 clip])∧New W w')∧(t2≠0→c=0∧clip=0):=by
    by_cases h2:ratErr v.data.toList=0
    ·obtain ⟨q,hf,hq⟩:=ratText_of_err h2;refine ⟨_,_,0,h2,fun W hW=>Code_ok K v q W hW hq hf (by omega),fun _ W=>?_,fun h=>absurd rfl h⟩;have:=rcode_calls b s z g o q W ((RFB.of (Fits.fb hf)).mono (by omega)) (by omega) K.bhi K.slo K.shi K.zlo hzz;rw[←rs_of hq] at this;exact this
    ·exact ⟨0,0,_,rfl,fun W hW=>Code_err b s z g o v 0 _ _ (if_pos rfl) h2 hpc hck W hW,fun h=>absurd h h2,fun _=>⟨rfl,rfl⟩⟩
   rw[ht2]at hqc
   obtain ⟨vf,t3,ht3,hvo,hrv,hnv,hvv⟩:∃ (vf:Nat) (t3:Int),(if outside code 0 (2^b.toNat - 1) then 3 else 0)=t3∧
     (∀ W,Env W→Calls Tryz.prog 13 #[adcV b s z g o,.int .i64 code] W fun e w'=>e=.returned (.tuple #[.float .f32 vf,.int .i64 t3])∧New W w')∧
     (t3=0→∀ W,Calls Tryz.prog 20 #[adcV b s z g o,.int .i64 code] W fun e w'=>e=.returned (.float .f32 vf)∧New W w')∧(t3≠0→vf=0)∧
     (FloatKind.f32.format.order vf vf==some .eq)=true:=by
    by_cases h3:outside code 0 (2^b.toNat - 1)=true
    ·rw[h3,if_pos rfl];rw[h3,if_pos rfl] at hkc;exact ⟨0,3,rfl,fun W hW=>Volts_err b s z g o code 3 (by decide) hkc W hW,fun h=>absurd h (by decide),fun _=>rfl,by decide⟩
    ·rw[if_neg h3];have h3':=h3;simp only[outside,Bool.not_eq_true,Bool.or_eq_false_iff,decide_eq_false_iff_not] at h3';have hzl:=K.zlo;have hs1:=K.slo;have hs2:=K.shi;refine ⟨_,0,rfl,fun W hW=>Volts_ok K code W hW (by omega) (by omega),fun _ W=>rvolts_calls b s z code g o W K.slo K.shi K.zlo hzz (by omega) (by omega),fun h=>absurd rfl h,?_⟩;have:=Flo.vol_same (d:=code - z) (e:=code - z) (s:=s) (by omega) (by omega) (by omega) (by omega);rw[decide_eq_true rfl] at this;exact this
   rw[ht3]at hcc;exact codes_B haw b s z code c clip t2 t3 g o v _ _ vf w he hv6 hsh hfu hco hvo hpc hrc hrf hqc hcc hrco hrv hnc hnv hvv
  ·have hk:=fun W hW=>check_calls v W hW (by omega)
   exact codes_A haw b s z code n g o v w he h0 hv6 hsh (fun W hW=>full_err b s z g o n h0 hpc W hW) (fun W hW=>Code_err b s z g o v n _ n (if_neg h0) h0 hpc hk W hW)
    (fun W hW=>Volts_err b s z g o code n h0 (fun W hW=>checkCode_err b s z g o code n h0 hpc W hW) W hW) hpc hrc
 ·exact codes_long haw b s z code g o v w he hg ho hv hlen
section
variable {H:Type} {enc:TypeId × Value→H} {P:Program} {w:World} {base:Nat} {sp:Nat→Bool} {held:Bool}
theorem in_str {r:Reach}{b0:Nat}{t:TypeId}{v:Value}{d:DataW H}{p:List MemPlace}(ht:P.underlying t=some .string)(hval:Value.okWide P w r b0 t v)(hd:DataW.Trod enc P w base sp held t v d p):
  ∃ s:ByteArray,v=.string s∧s.size≤9223372036854775807:=by
 obtain ⟨s,rfl⟩:=okWide_string ht hval;obtain ⟨fuel,hf⟩:=hd;obtain ⟨s',h,_,hs⟩:=DataW.trod_string ht hf;simp[Value.cells] at h;subst h;exact ⟨_,rfl,hs⟩
end
theorem codes_lifted (os:Os)(started:os.Started)(H:Type)(enc:TypeId × Value→H):
  ReturnsInHanded {} Tryz.checked os 3 .any (fun w args=>(Rows.probeCodesSpec.pre enc Tryz.prog Tryz.f3 [] false w args∧laidMetH Tryz.prog Listed w)∧sizedMet enc Tryz.prog Tryz.f3 (OpenSpec.ofChange Rows.probeCodesSpec) false w args)
   (Rows.probeCodesSpec.post enc Tryz.prog Tryz.f3 false true false false):=by
 refine returns_and_shaped (C:=Tryz.checked) (X:=fun w _=>laidMetH Tryz.prog Listed w) (fun _ _ _ hh h=>h.of_heap hh) own started (by kernel_rfl) Tryz.func3
  (ChangeSpec.witness_shaped (enc:=enc) (C:=Tryz.checked) (os:=os) (X:=fun w _=>laidMetH Tryz.prog Listed w) false (World.laidAll Tryz.prog os Listed) #[.agg #[.int .i64 0,.int .i64 0,.int .i64 0,.string ⟨#[]⟩,.string ⟨#[]⟩],.string ⟨#[]⟩,.int .i64 0] 8 (World.laidAll_os _ _ _)
   (World.shaped_of_ZipB (by kernel_rfl) (by kernel_rfl)) (by kernel_rfl) (by kernel_rfl) (by kernel_rfl) (witness_laid os _)) ?_
 intro W base args ds gs before hval0 hW hL hsh;have hval:∀ (j:Nat) t v,Tryz.f3.params[j]?=some t→args[j]?=some v→Value.okWide Tryz.prog W .any base t v:=hval0;have hW':=hW;obtain ⟨p,q,hA0,hV,rfl,_,_⟩:=hW;have hA:DataW.TrodAll enc Tryz.prog W 0 (fun _=>true) true Tryz.f3.params.toList args.toList ds p:=hA0;rw[Tryz.params3] at hA hval;obtain ⟨v0,v1,v2,d0,d1,d2,p0,p1,p2,rfl,rfl,rfl,h0,h1,h2⟩:=trodAll_three hA;obtain ⟨rfl,rfl⟩:=trodVars_none hV;have he:=env_of hL hsh
 have hlt:∀ x∈p0 ++ p1 ++ p2,x.block < W.heap.size:=fun x hx=>by simpa using hW'.lt x (by simpa using hx)
 have hv0:=hval 0 _ _ rfl rfl;have hv1:=hval 1 _ _ rfl rfl;have hv2:=hval 2 _ _ rfl rfl;clear hA0 hval0 hval hA
 have up:∀ W',New W W'→DataW.TrodAll enc Tryz.prog W' 0 (fun b=>decide (b < W.heap.size)) true [24,22,3] [v0,v1,v2] [d0,d1,d2] (p0 ++ (p1 ++ p2)):=fun W' hn=>
  trodAll_mk3 (Below.trod laidOut (by kernel_rfl) (of_decide_eq_true (by kernel_rfl)) h0 hn fun x hx=>hlt x (by simp[hx]))
   (Below.trod laidOut (by kernel_rfl) (of_decide_eq_true (by kernel_rfl)) h1 hn fun x hx=>hlt x (by simp[hx]))
   (Below.trod laidOut (by kernel_rfl) (of_decide_eq_true (by kernel_rfl)) h2 hn fun x hx=>hlt x (by simp[hx]))
 obtain ⟨b,s,z,g,o,rfl,hg,ho⟩:=in_adc hv0 h0;obtain ⟨v,rfl,hl⟩:=in_str Tryz.underlying22 hv1 h1;obtain ⟨n,rfl,_,_,_⟩:=open_int Tryz.underlying3 hv2 h2;refine (codes_law awake_calls b s z n g o v W he hg ho hl).mono fun e W' hp=>?_;obtain ⟨rfl,hn⟩:=hp;exact ⟨_,rfl,_,_,_,[],p0 ++ (p1 ++ p2),[],hW',trodAll_mk1 (shut_bool Tryz.underlying4 _),up W' hn,rfl,Below.frame hn _,fun h=>by cases h⟩
theorem codes_holds:Rows.ProbeCodesSaid:=
 OpenClaim.holds_of_wide 3 Tryz.f3 rfl rfl rfl rfl rfl rfl rfl ⟨rfl,rfl,rfl,rfl,rfl⟩ rfl rfl rfl rfl rfl (by kernel_rfl) Tryz.func3 (by kernel_rfl)
  (of_decide_eq_true (by kernel_rfl)) (by unfold Func.isWrapper;first | (rw[if_pos (by decide +kernel)];kernel_rfl) | (rw[if_neg (by decide +kernel)];exact ⟨rfl,rfl⟩))
  (fun os started H enc _=>codes_lifted os started H enc)
theorem codes_card_holds:Rows.ProbeCodesCardSaid:=
 Claim7.holds_tied_plain_at .later [] [.data, .data, .data, .data, .sentinel, .sentinel, .pinned] true (true, "0317c1efc2cc73041a6463d23eedf5ef37cef014deea2dd9430a94fd6af32783") true
  codes_holds (fun _ h=>by cases h) (by kernel_rfl) (fun _ h=>by cases h) probeCodes_row_tie rfl ⟨rfl,rfl⟩ (by kernel_rfl) rfl
  (fun f fn hf hfn=>by
   obtain rfl : f = 3 := Option.some.inj ((show Tryz.prog.funcNamed "strobe/strobelaw02.ProbeCodes" = some 3 by kernel_rfl).symm.trans hf) |>.symm
   obtain rfl:fn=Tryz.f3:=(Option.some.inj (Tryz.func3.symm.trans hfn)).symm
   exact ⟨by kernel_rfl,fun j t ht=>by
    rw[Tryz.params3]at ht
    have hm:t∈[24,22,3]:=by simpa using Array.mem_of_getElem? ht
    have hall:([24,22,3].all fun u=>!Tryz.prog.wantsStandIn u)=true:=by kernel_rfl
    exact (show Tryz.prog.wantsStandIn t=false by simpa using List.all_eq_true.1 hall t hm)⟩)
  (by kernel_rfl)
end Go.Proofs.YtbkcjmojgglbkaaGreatDoor
