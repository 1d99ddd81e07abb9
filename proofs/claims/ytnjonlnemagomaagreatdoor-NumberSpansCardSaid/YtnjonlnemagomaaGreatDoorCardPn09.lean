/- Part CardPn09. -/
import Derived.Deep.LoopGhost
import Derived.Deep.DeepCutAuto
import Derived.Lib.SmallJoins
import Derived.Maps.AppendAt
import Derived.Laws.AppendOwnNone
import Derived.JoinedOf
import Derived.Test.YtnjonlnemagomaaGreatDoorCardPn08
namespace Go.Proofs.YtnjonlnemagomaaGreatDoor
open Go.RowKit Big Go.Lib Go.ChangeShapes Go.WideShapes Go.Deep Go.Proofs.Tryz
set_option maxRecDepth 100000
set_option maxHeartbeats 8000000
set_option linter.all false
theorem sign_geS {x y:Rat}:0≤(x - y).num.sign ↔ y≤x:=by
 have h:=sign_le (x:=y) (y:=x)
 have e:(x - y).num.sign= -(y - x).num.sign:=by rw[←Rat.neg_sub,Rat.neg_num,Int.sign_neg]
 rw[e,←h];omega
theorem sp_root (xa:ByteArray)(hl:xa.size≤60):∃ (o1 c0 s:Int) (RL RH:ByteArray),SpRoot xa o1 c0 s RL RH:=by
 have aa:=fun W=>rcheck_calls xa W (by omega);by_cases h0:ratErr xa.data.toList=0
 ·obtain ⟨q,rfl,hb⟩:=short_num (n:=60) hl h0 (by omega);have hb:=hb.mono (show 4*60≤250 by omega);rw[h0] at aa;have ab:=fun W=>(rsign_calls q W).mono fun e w' h=>(show Gv W (.int .i64 q.num.sign) e w' from ⟨h.1,by rw[h.2];exact New.refl _⟩);rcases Int.lt_or_le q.num 0 with hn | hn
  ·refine ⟨3,0,q.num.sign,⟨#[]⟩,⟨#[]⟩,⟨fun W hW=>nroot_neg (rs q) q (rs_list _) (hb.fitsN (by omega)) (fbs_len hb (by omega)) hn W hW,aa,fun _=>ab,?_,fun _=>⟨rfl,rfl⟩,fun h=>absurd h (by decide),fun h=>absurd h (by decide)⟩⟩;rw[if_pos rfl,if_pos (Int.sign_neg_iff.2 hn)]
  ·obtain ⟨L,H,fl,fh,hp,hr⟩:=root_both q hb hn;refine ⟨0,0,q.num.sign,rs L,rs H,⟨hp,aa,fun _=>ab,?_,fun h=>absurd rfl h,fun _=>hr,fun _ W=>rlargeSpan_calls 600 L H W (RFB.of fl) (RFB.of fh) (by omega)⟩⟩;rw[if_pos rfl,if_neg];intro h;have:=Int.sign_neg_iff.1 h;omega
 ·exact ⟨_,_,0,⟨#[]⟩,⟨#[]⟩,⟨fun W hW=>nroot_err xa _ rfl h0 (by omega) W hW,aa,fun h=>absurd h h0,by rw[if_neg h0],fun _=>⟨rfl,rfl⟩,fun h=>absurd h h0,fun h=>absurd h h0⟩⟩
theorem span_chk (x y:ByteArray)(hx:x.size≤60)(hy:y.size≤60):∃ C:Int,(∀ W,Env W→Calls prog 51 #[spv x y] W (Gv W (.int .i64 C)))∧(∀ W,Calls prog 36 #[spv x y] W (Gv W (.int .i64 C)))∧(C=0→∃ p q:Rat,x=rs p∧y=rs q∧SpanOk p q):=by
 by_cases h0:err2 x y=0
 ·have h1:ratErr x.data.toList=0:=by
   unfold err2 at h0;split at h0
   ·assumption
   ·exact h0
  have h2:ratErr y.data.toList=0:=by
   unfold err2 at h0
   rwa [if_pos h1] at h0
  obtain ⟨p,rfl,fp⟩:=short_num (n:=60) hx h1 (by omega);obtain ⟨q,rfl,fq⟩:=short_num (n:=60) hy h2 (by omega);have fp:=fp.mono (show 4*60≤300 by omega);have fq:=fq.mono (show 4*60≤300 by omega);refine ⟨if q < p then 11 else 0,fun W hW=>ncheckSpan_ok p q (rs p) (rs q) (rs_list _) (rs_list _) (fp.fitsN (by omega)) (fq.fitsN (by omega)) (SpanOk.len fp) (SpanOk.len fq) W hW,fun W=>rspan_gen p q W (fp.fitsN (by omega)) (fq.fitsN (by omega)) (SpanOk.len fp) (SpanOk.len fq),fun h=>⟨p,q,rfl,rfl,fp,fq,?_⟩⟩;by_cases h3:q < p
  ·rw[if_pos h3] at h;exact absurd h (by decide)
  ·exact Rat.not_lt.1 h3
 ·exact ⟨_,fun W hW=>ncheckSpan_err x y _ rfl h0 (by omega) (by omega) W hW,fun W=>rspan_bad x y _ W rfl h0 (by omega) (by omega),fun h=>absurd h h0⟩
theorem min4_is {a b c d z:Rat}(h:z=a∨z=b∨z=c∨z=d)(ha:z≤a)(hb:z≤b)(hc:z≤c)(hd:z≤d):min4 a b c d=z:=by
 obtain ⟨m1,m2,m3,m4⟩:=min4_le a b c d;refine Rat.le_antisymm ?_ ?_
 ·rcases h with h | h | h | h <;> rw[h] <;> assumption
 ·unfold min4 minR
  split <;> first | assumption | (split <;> first | assumption | (split <;> assumption))
theorem max4_is {a b c d z:Rat}(h:z=a∨z=b∨z=c∨z=d)(ha:a≤z)(hb:b≤z)(hc:c≤z)(hd:d≤z):max4 a b c d=z:=by
 obtain ⟨m1,m2,m3,m4⟩:=max4_ge a b c d;refine Rat.le_antisymm ?_ ?_
 ·unfold max4 maxR
  split <;> first | assumption | (split <;> first | assumption | (split <;> assumption))
 ·rcases h with h | h | h | h <;> rw[h] <;> assumption
theorem sp_bad (xa ya xb yb:ByteArray) (CA CB:Int) (hna:∀ W,Env W→Calls prog 51 #[spv xa ya] W (Gv W (.int .i64 CA))) (hra:∀ W,Calls prog 36 #[spv xa ya] W (Gv W (.int .i64 CA)))
  (hnb:∀ W,Env W→Calls prog 51 #[spv xb yb] W (Gv W (.int .i64 CB))) (hrb:∀ W,Calls prog 36 #[spv xb yb] W (Gv W (.int .i64 CB))) (h0:(if CA=0 then CB else CA)≠0):
  SpAll xa ya xb yb CA CB (if CA=0 then CB else CA) 0 (if CA=0 then CB else CA) 0 0 ⟨#[]⟩ ⟨#[]⟩ ⟨#[]⟩ ⟨#[]⟩ ⟨#[]⟩ ⟨#[]⟩ ⟨#[]⟩ ⟨#[]⟩ (if CA=0 then CB else CA) false where
 f_na:=hna
 f_ra:=hra
 f_rb:=hrb
 f_hb:=rfl
 f_p:=fun W hW=>nplus_calls _ _ _ _ _ _ _ (fun W hW=>opspans_all xa ya xb yb _ _ _ CA CB _ rfl hna hnb (fun h=>absurd h h0) (fun _=>⟨rfl,rfl⟩) W hW) W hW
 f_m:=fun W hW=>nminus_calls _ _ _ _ _ _ _ (fun W hW=>opspans_all xa ya xb yb _ _ _ CA CB _ rfl hna hnb (fun h=>absurd h h0) (fun _=>⟨rfl,rfl⟩) W hW) W hW
 f_t:=fun W hW=>ntimes_calls _ _ _ _ _ _ _ (fun W hW=>opspans_all xa ya xb yb _ _ _ CA CB _ rfl hna hnb (fun h=>absurd h h0) (fun _=>⟨rfl,rfl⟩) W hW) W hW
 f_o:=fun W hW=>nover_all xa ya xb yb _ _ 0 0 CA CB _ _ rfl (fun h=>absurd h h0) hna hnb (fun _=>⟨rfl,rfl,rfl⟩) (fun h=>absurd h h0) (fun h=>absurd h h0) W hW
 f_c:=fun W hW=>ncompare_err xa ya xb yb CA CB _ rfl h0 hna hnb W hW
 f_n1:=fun _=>⟨rfl,rfl,rfl,rfl,rfl,rfl,rfl,rfl,rfl,rfl,rfl⟩
 f_rc:=fun h=>absurd h h0
 f_ci:=fun h=>absurd h h0
 f_rp:=fun h=>absurd h h0
 f_rm:=fun h=>absurd h h0
 f_rt:=fun h=>absurd h h0
 f_bp:=fun h=>absurd h h0
 f_bm:=fun h=>absurd h h0
 f_bt:=fun h=>absurd h h0
 f_hz:=fun h=>absurd h h0
 f_z:=fun h=>absurd h h0
 f_ro:=fun h=>absurd h h0
 f_bo:=fun h=>absurd h h0
 f_e0:=fun h=>absurd h h0
theorem sp_cmp {x0 x1 y0 y1:Rat}(ha:SpanOk x0 x1)(hb:SpanOk y0 y1):∃ cc E nn ac:Int,(∀ W,Env W→Calls prog 56 #[spv (rs x0) (rs x1),spv (rs y0) (rs y1)] W (Gv W (.tuple #[.int .i64 cc,.int .i64 E])))∧
  (∀ W,Calls prog 58 #[spv (rs x0) (rs x1),spv (rs y0) (rs y1)] W (Gv W (.tuple #[.int .i64 ac,.int .i64 nn])))∧∀ W,Calls prog 57 #[.int .i64 cc,.int .i64 E,.int .i64 nn,.int .i64 ac] W (Gv W (.bool true)):=by
 have ad:=fun W=>rcmpQ_calls 300 300 x1 y0 W (RFB.of ha.f1) (RFB.of hb.f0) (by omega);have ae:=fun W=>rcmpQ_calls 300 300 y1 x0 W (RFB.of hb.f1) (RFB.of ha.f0) (by omega)
 have aa:decide ((x1 - y0).num.sign < 0)=decide (x1 < y0):=decide_eq_decide.2 (by
  constructor
  ·intro h;rcases Rat.le_total (a:=y0) (b:=x1) with h2 | h2
   ·exact absurd (sign_geS.2 h2) (by omega)
   ·exact Rat.not_le.1 fun h3=>absurd (sign_geS.2 h3) (by omega)
  ·intro h
   rw[csgn_lt h];decide)
 have ab:decide ((y1 - x0).num.sign < 0)=decide (y1 < x0):=decide_eq_decide.2 (by
  constructor
  ·intro h;exact Rat.not_le.1 fun h3=>absurd (sign_geS.2 h3) (by omega)
  ·intro h
   rw[csgn_lt h];decide)
 obtain ⟨b1,h1⟩:∃ b,decide (x1 < y0)=b:=⟨_,rfl⟩;obtain ⟨b2,h2⟩:∃ b,decide (y1 < x0)=b:=⟨_,rfl⟩;obtain ⟨b3,h3⟩:∃ b,((rs x0).toList==(rs x1).toList)=b:=⟨_,rfl⟩;obtain ⟨b4,h4⟩:∃ b,((rs x0).toList==(rs y0).toList && (rs x1).toList==(rs y1).toList)=b:=⟨_,rfl⟩;refine ⟨_,_,_,_,fun W hW=>spancmp ha hb b1 b2 b3 b4 h1 h2 h3 h4 W hW,fun W=>rcompare_walk (rs x0) (rs x1) (rs y0) (rs y1) _ _ W b1 b2 b3 b4 (aa.trans h1) (ab.trans h2) h3 h4 ad ae,fun W=>?_⟩
 cases b1 with
 | true=>exact linteger_ok (-1) W
 | false=>
  cases b2 with
  | true=>exact linteger_ok 1 W
  | false=>
   cases b3 with
   | true=>
    cases b4 with
    | true=>exact linteger_ok 0 W
    | false=>exact linteger_bad 24 0 W (by decide)
   | false=>
    cases b4 with
    | true=>exact linteger_bad 24 0 W (by decide)
    | false=>exact linteger_bad 24 0 W (by decide)
theorem sp_ok {x0 x1 y0 y1:Rat}(ha:SpanOk x0 x1)(hb:SpanOk y0 y1)(hna:∀ W,Env W→Calls prog 51 #[spv (rs x0) (rs x1)] W (Gv W (.int .i64 0)))(hra:∀ W,Calls prog 36 #[spv (rs x0) (rs x1)] W (Gv W (.int .i64 0)))(hrb:∀ W,Calls prog 36 #[spv (rs y0) (rs y1)] W (Gv W (.int .i64 0))):
  ∃ (cc E nn ai:Int) (PL PH ML MH TL TH OL OH:ByteArray) (eo:Int) (hzb:Bool),SpAll (rs x0) (rs x1) (rs y0) (rs y1) 0 0 0 cc E nn ai PL PH ML MH TL TH OL OH eo hzb:=by
 obtain ⟨cc,E,nn,ai,hc,al,ak⟩:=sp_cmp ha hb;have hx:=ha.le;have hy:=hb.le;have ac:=RFB.of ha.f0;have ad:=RFB.of ha.f1;have aa:=RFB.of hb.f0;have ab:=RFB.of hb.f1;obtain ⟨L1,H1,ay,au,k1,ap,c1⟩:=combine_enc ha hb 92 (fun x y=>x+y) enter_add (fun x y hx hy _ W va vb h1 h2=>fadd_calls va vb x y 300 300 W h1 h2 hx hy (by omega)) (fun x y hx hy _=>(FB.add hx hy).mono (by omega));obtain ⟨L2,H2,az,av,k2,aq,c2⟩:=combine_enc ha hb 93 (fun x y=>x - y) enter_sub (fun x y hx hy _ W va vb h1 h2=>fsub_calls va vb x y 300 300 W h1 h2 hx hy (by omega)) (fun x y hx hy _=>(FB.sub hx hy).mono (by omega));obtain ⟨L3,H3,a0,aw,k3,ar,c3⟩:=combine_enc ha hb 94 (fun x y=>x*y) enter_mul (fun x y hx hy _ W va vb h1 h2=>fmul_calls va vb x y 300 300 W h1 h2 hx hy (by omega)) (fun x y hx hy _=>(FB.mul hx hy).mono (by omega))
 have v1:L1=x0+y0:=by rw[ay];exact min4_is (.inl rfl) Rat.le_refl (by grind) (by grind) (by grind)
 have a5:H1=x1+y1:=by rw[au];exact max4_is (.inr (.inr (.inr rfl))) (by grind) (by grind) (by grind) Rat.le_refl
 have v2:L2=x0 - y1:=by rw[az];exact min4_is (.inr (.inl rfl)) (by grind) Rat.le_refl (by grind) (by grind)
 have a6:H2=x1 - y0:=by rw[av];exact max4_is (.inr (.inr (.inl rfl))) (by grind) (by grind) Rat.le_refl (by grind)
 have ae:∀ {fn:Nat} {L H:Rat},(∀ W,Env W→Calls prog 141 #[spv (rs x0) (rs x1),spv (rs y0) (rs y1),.func (.func fn) #[] #[]] W (SpPost W (rs L) (rs H) 0))→∀ W,Env W→Calls prog 140 #[spv (rs x0) (rs x1),spv (rs y0) (rs y1),.func (.func fn) #[] #[]] W (SpPost W (rs L) (rs H) 0):=fun {fn L H} h W hW=>
  opspans_all _ _ _ _ _ _ _ 0 0 0 rfl (fun W h=>ha.chk W h) (fun W h=>hb.chk W h) (fun _ W hW=>h W hW) (fun h=>absurd rfl h) W hW
 have hp:=fun W hW=>nplus_calls _ _ _ _ _ _ _ (ae c1) W hW;have hm:=fun W hW=>nminus_calls _ _ _ _ _ _ _ (ae c2) W hW;have ht:=fun W hW=>ntimes_calls _ _ _ _ _ _ _ (ae c3) W hW
 have an:∀ W,Calls prog 59 #[spv (rs x0) (rs x1),spv (rs y0) (rs y1)] W (Gv W (spv (rs L1) (rs H1))):=fun W=>by
  rw[v1,a5];exact rplus_walk _ _ _ _ _ _ W (fun W=>(raddQ_calls 300 300 x0 y0 W ac aa (by omega)).mono fun e w' h=>RetS.to rfl h) (fun W=>(raddQ_calls 300 300 x1 y1 W ad ab (by omega)).mono fun e w' h=>RetS.to rfl h)
 have am:∀ W,Calls prog 60 #[spv (rs x0) (rs x1),spv (rs y0) (rs y1)] W (Gv W (spv (rs L2) (rs H2))):=fun W=>by
  rw[v2,a6];exact rminus_walk _ _ _ _ _ _ W (fun W=>(rsubQ_calls 300 300 x0 y1 W ac ab (by omega)).mono fun e w' h=>RetS.to rfl h) (fun W=>(rsubQ_calls 300 300 x1 y0 W ad aa (by omega)).mono fun e w' h=>RetS.to rfl h)
 have rm:∀ {p q:Rat},RFB 300 p→RFB 300 q→∀ W,Calls prog 32 #[.string (rs p),.string (rs q)] W fun e w'=>e=.returned (.string (rs (p*q)))∧New W w':=fun {p q} h1 h2 W=>(rmulQ_calls 300 300 p q W h1 h2 (by omega)).mono fun e w' h=>RetS.to rfl h
 have ao:∀ W,Calls prog 61 #[spv (rs x0) (rs x1),spv (rs y0) (rs y1)] W (Gv W (spv (rs L3) (rs H3))):=fun W=>by
  rw[a0,aw];exact rtimes_walk _ _ _ _ _ _ _ _ _ _ W (rm ac aa) (rm ac ab) (rm ad aa) (rm ad ab) (fun B aj t W hB=>hull_four 700 _ _ _ _ B aj t W hB (by omega) ((ac.mul aa).mono (by omega)) ((ac.mul ab).mono (by omega)) ((ad.mul aa).mono (by omega)) ((ad.mul ab).mono (by omega)))
 have af:∀ {L H:Rat},FB 700 L→FB 700 H→∀ W,Calls prog 137 #[spv (rs L) (rs H)] W (RetNew W 0):=fun {L H} h1 h2 W=>rlargeSpan_calls 700 L H W (RFB.of h1) (RFB.of h2) (by omega);have hz:RFB 300 0:=(show RFB 56 0 from ⟨by decide,by decide⟩).mono (by omega);have hh:=fun W=>rhasB_calls y0 y1 0 W 300 (by omega) aa ab hz;rw[rs_zero] at hh;by_cases h0:y0≤0∧0≤y1
 ·rw[decide_eq_true h0.1,decide_eq_true h0.2] at hh;exact ⟨cc,E,nn,ai,rs L1,rs H1,rs L2,rs H2,rs L3,rs H3,⟨#[]⟩,⟨#[]⟩,6,true,⟨hna,hra,hrb,rfl,hp,hm,ht,fun W hW=>over_zero ha hb h0.1 h0.2 W hW,hc,fun h=>absurd rfl h,fun _=>al,fun _=>ak,fun _=>an,fun _=>am,fun _=>ao,fun _=>af k1 ap,fun _=>af k2 aq,fun _=>af k3 ar,fun _=>hh,fun _ _=>⟨rfl,rfl,rfl⟩,fun _ h=>absurd h (by decide),fun _ h=>absurd h (by decide),fun _ h=>absurd h (by decide)⟩⟩
 ·have hs:0 < y0∨y1 < 0:=by
   by_cases h1:y0≤0
   ·exact .inr (Rat.not_le.1 fun h2=>h0 ⟨h1,h2⟩)
   ·exact .inl (Rat.not_le.1 h1)
  have hf:(decide (y0≤0) && decide (0≤y1))=false:=by
   rw[Bool.and_eq_false_iff,decide_eq_false_iff_not,decide_eq_false_iff_not];exact Decidable.not_and_iff_not_or_not.1 h0
  simp only[hf]at hh
  have ah:∀ y,(y=y0∨y=y1)→y≠0:=fun y h=>by rcases h with rfl | rfl <;> rcases hs with h | h <;> grind
  have n0:y0.num≠0:=fun e=>ah y0 (.inl rfl) (rat_zero e);have n1:y1.num≠0:=fun e=>ah y1 (.inr rfl) (rat_zero e);obtain ⟨L4,H4,a1,ax,k4,a4,c4⟩:=combine_enc ha hb 95 (fun x y=>x / y) enter_div (fun x y hx hy h W va vb h1 h2=>fdiv_calls va vb x y 300 300 W h1 h2 hx hy (by omega) (ah y h)) (fun x y hx hy h=>(FB.div hx hy (ah y h)).mono (by omega));have a3:0 < y0.num∨y1.num < 0:=hs.imp pos_num.1 neg_num'.1;have ho:=fun W hW=>nover_all _ _ _ _ _ _ y0 y1 0 0 0 0 rfl (fun _=>⟨rs_list _,rs_list _,SpanOk.len hb.f0,SpanOk.len hb.f1⟩) (fun W h=>ha.chk W h) (fun W h=>hb.chk W h) (fun h=>absurd rfl h) (fun _ h1 h2=>absurd a3 (by omega)) (fun _ _=>⟨rfl,fun W hW=>c4 W hW⟩) W hW;have rd:∀ {p q:Rat},RFB 300 p→RFB 300 q→q.num≠0→∀ W,Calls prog 65 #[.string (rs p),.string (rs q)] W fun e w'=>e=.returned (.string (rs (p / q)))∧New W w':=fun {p q} h1 h2 h3 W=>(rdivZ_calls 300 300 p q W h1 h2 (by omega) h3).mono fun e w' h=>RetS.to rfl h
  have ag:∀ {p q:Rat},RFB 300 p→RFB 300 q→q.num≠0→RFB 700 (p / q):=fun {p q} h1 h2 h3=>by
   rw[Rat.div_def];exact (h1.mul (h2.inv h3)).mono (by omega)
  have a2:∀ W,Calls prog 63 #[spv (rs x0) (rs x1),spv (rs y0) (rs y1)] W (Gv W (spv (rs L4) (rs H4))):=fun W=>by
   rw[a1,ax];exact rover_walk _ _ _ _ _ _ _ _ _ _ W (rd ac aa n0) (rd ac ab n1) (rd ad aa n0) (rd ad ab n1) (fun B aj t W hB=>hull_four 700 _ _ _ _ B aj t W hB (by omega) (ag ac aa n0) (ag ac ab n1) (ag ad aa n0) (ag ad ab n1))
  exact ⟨cc,E,nn,ai,rs L1,rs H1,rs L2,rs H2,rs L3,rs H3,rs L4,rs H4,0,false,⟨hna,hra,hrb,rfl,hp,hm,ht,ho,hc,fun h=>absurd rfl h,fun _=>al,fun _=>ak,fun _=>an,fun _=>am,fun _=>ao,fun _=>af k1 ap,fun _=>af k2 aq,fun _=>af k3 ar,fun _=>hh,fun _ h=>absurd h (by decide),fun _ _=>a2,fun _ _=>af k4 a4,fun _ _=>rfl⟩⟩
theorem spans_law (xa ya xb yb:ByteArray)(w:World)(he:Env w)(hxa:xa.size≤9223372036854775807)(hya:ya.size≤9223372036854775807)(hxb:xb.size≤9223372036854775807)(hyb:yb.size≤9223372036854775807):
  Calls prog 8 #[.agg #[.string xa,.string ya],.agg #[.string xb,.string yb]] w fun e w'=>e=.returned (.bool true)∧New w w':=by
 by_cases h:xa.size≤60∧ya.size≤60∧xb.size≤60∧yb.size≤60
 ·obtain ⟨h1,h2,h3,h4⟩:=h;obtain ⟨o1,c0,s,RL,RH,aa⟩:=sp_root xa h1;obtain ⟨CA,ac,ad,ka⟩:=span_chk xa ya h1 h2;obtain ⟨CB,af,ae,kb⟩:=span_chk xb yb h3 h4;by_cases h0:(if CA=0 then CB else CA)=0
  ·have eA:CA=0:=by
    by_cases h5:CA=0
    ·exact h5
    ·rwa [if_neg h5] at h0
   rw[if_pos eA]at h0;subst eA;subst h0;obtain ⟨x0,x1,rfl,rfl,ha⟩:=ka rfl;obtain ⟨y0,y1,rfl,rfl,hb⟩:=kb rfl;obtain ⟨cc,E,nn,ah,PL,PH,ML,MH,TL,TH,OL,OH,eo,ag,ab⟩:=sp_ok ha hb ac ad ae;exact spans_walk _ _ _ _ RL RH PL PH ML MH TL TH OL OH o1 c0 s 0 0 0 cc E nn ah eo ag w he ⟨hxa,hya,hxb,hyb⟩ fun _ _ _ _=>⟨aa,ab⟩
  ·exact spans_walk _ _ _ _ RL RH _ _ _ _ _ _ _ _ o1 c0 s CA CB _ _ _ _ _ _ _ w he ⟨hxa,hya,hxb,hyb⟩ fun _ _ _ _=>⟨aa,sp_bad xa ya xb yb CA CB ac ad af ae h0⟩
 ·exact spans_walk xa ya xb yb ⟨#[]⟩ ⟨#[]⟩ ⟨#[]⟩ ⟨#[]⟩ ⟨#[]⟩ ⟨#[]⟩ ⟨#[]⟩ ⟨#[]⟩ ⟨#[]⟩ ⟨#[]⟩ 0 0 0 0 0 0 0 0 0 0 0 false w he ⟨hxa,hya,hxb,hyb⟩ fun h1 h2 h3 h4=>absurd ⟨h1,h2,h3,h4⟩ h
theorem spans_lifted (os:Os)(started:os.Started)(H:Type)(enc:TypeId × Value→H):
  ReturnsInHanded {} Tryz.checked os 8 .any (fun w args=>(Rows.numberSpansSpec.pre enc Tryz.prog Tryz.f8 [] false w args∧laidMetH Tryz.prog Listed w)∧sizedMet enc Tryz.prog Tryz.f8 (OpenSpec.ofChange Rows.numberSpansSpec) false w args)
   (Rows.numberSpansSpec.post enc Tryz.prog Tryz.f8 false true false false):=by
 refine returns_and_shaped (C:=Tryz.checked) (X:=fun w _=>laidMetH Tryz.prog Listed w) (fun _ _ _ hh h=>h.of_heap hh) own started (by kernel_rfl) Tryz.func8
  (ChangeSpec.witness_shaped (enc:=enc) (C:=Tryz.checked) (os:=os) (X:=fun w _=>laidMetH Tryz.prog Listed w) false (World.laidAll Tryz.prog os Listed) #[.agg #[.string ⟨#[]⟩,.string ⟨#[]⟩],.agg #[.string ⟨#[]⟩,.string ⟨#[]⟩]] 8 (World.laidAll_os _ _ _)
   (World.shaped_of_ZipB (by kernel_rfl) (by kernel_rfl)) (by kernel_rfl) (by kernel_rfl) (by kernel_rfl) (witness_laid os _)) ?_
 intro W base args ds gs before hval0 hW hL hsh;have hval:∀ (j:Nat) t v,Tryz.f8.params[j]?=some t→args[j]?=some v→Value.okWide Tryz.prog W .any base t v:=hval0;have hW':=hW;obtain ⟨p,q,hA0,hV,rfl,_,_⟩:=hW;have hA:DataW.TrodAll enc Tryz.prog W 0 (fun _=>true) true Tryz.f8.params.toList args.toList ds p:=hA0;rw[Tryz.params8] at hA hval;obtain ⟨v0,v1,d0,d1,p0,p1,rfl,rfl,rfl,h0,h1⟩:=trodAll_two hA;obtain ⟨rfl,rfl⟩:=trodVars_none hV;have he:=env_of hL hsh
 have hlt:∀ x∈p0 ++ p1,x.block < W.heap.size:=fun x hx=>by simpa using hW'.lt x (by simpa using hx)
 have hv0:=hval 0 _ _ rfl rfl;have hv1:=hval 1 _ _ rfl rfl;clear hA0 hval0 hval hA
 have up:∀ W',New W W'→DataW.TrodAll enc Tryz.prog W' 0 (fun b=>decide (b < W.heap.size)) true [53,53] [v0,v1] [d0,d1] (p0 ++ p1):=fun W' hn=>
  trodAll_mk2 (Below.trod laidOut (by kernel_rfl) (of_decide_eq_true (by kernel_rfl)) h0 hn fun x hx=>hlt x (by simp[hx]))
   (Below.trod laidOut (by kernel_rfl) (of_decide_eq_true (by kernel_rfl)) h1 hn fun x hx=>hlt x (by simp[hx]))
 obtain ⟨xa,ya,rfl,hxa,hya⟩:=in_span hv0 h0;obtain ⟨xb,yb,rfl,hxb,hyb⟩:=in_span hv1 h1;refine (spans_law xa ya xb yb W he hxa hya hxb hyb).mono fun e W' hp=>?_;obtain ⟨rfl,hn⟩:=hp;exact ⟨_,rfl,_,_,_,[],p0 ++ p1,[],hW',trodAll_mk1 (shut_bool Tryz.underlying4 _),up W' hn,rfl,Below.frame hn _,fun h=>by cases h⟩
theorem spans_holds:Rows.NumberSpansSaid:=
 OpenClaim.holds_of_wide 8 Tryz.f8 rfl rfl rfl rfl rfl rfl rfl ⟨rfl,rfl,rfl,rfl,rfl⟩ rfl rfl rfl rfl rfl spans_named func8 spans_closed
  (of_decide_eq_true (by kernel_rfl)) (by unfold Func.isWrapper;first | (rw[if_pos (by decide +kernel)];kernel_rfl) | (rw[if_neg (by decide +kernel)];exact ⟨rfl,rfl⟩))
  (fun os started H enc _=>spans_lifted os started H enc)
end Go.Proofs.YtnjonlnemagomaaGreatDoor
