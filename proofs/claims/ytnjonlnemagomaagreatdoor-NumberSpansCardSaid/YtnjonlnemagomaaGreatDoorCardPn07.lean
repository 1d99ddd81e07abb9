/- Part CardPn07. -/
import Derived.Deep.LoopGhost
import Derived.Test.YtnjonlnemagomaaGreatDoorCardPn06
namespace Go.Proofs.YtnjonlnemagomaaGreatDoor
open Go.RowKit Big Go.Lib Go.Proofs.Tryz
set_option maxRecDepth 100000
set_option maxHeartbeats 8000000
set_option linter.all false
theorem enter_add (args:Array Value)(W:World):Sem.run prog (callFunc 92 args) W=.ok (.enter 92 args) W:=by kernel_rfl
theorem enter_sub (args:Array Value)(W:World):Sem.run prog (callFunc 93 args) W=.ok (.enter 93 args) W:=by kernel_rfl
structure SpanOk (x0 x1:Rat):Prop where
 f0:FB 300 x0
 f1:FB 300 x1
 le:x0≤x1
theorem SpanOk.len {x:Rat}(h:FB 300 x):(rs x).size≤100000:=by have:=(RFB.of h).len;omega
theorem SpanOk.chk {x0 x1:Rat}(h:SpanOk x0 x1)(w:World)(he:Env w):Calls prog 51 #[.agg #[.string (rs x0),.string (rs x1)]] w (RetNew w 0):=by
 have h1:=ncheckSpan_ok x0 x1 (rs x0) (rs x1) (rs_list _) (rs_list _) (h.f0.fitsN (by omega)) (h.f1.fitsN (by omega)) (SpanOk.len h.f0) (SpanOk.len h.f1) w he;rw[if_neg (Rat.not_lt.2 h.le)] at h1;exact h1
theorem combine_enc {x0 x1 y0 y1:Rat} (ha:SpanOk x0 x1) (hb:SpanOk y0 y1) (fn:Nat) (op:Rat→Rat→Rat) (hcf:∀ (args:Array Value) (W:World),Sem.run prog (callFunc fn args) W=.ok (.enter fn args) W)
  (hop:∀ x y,FB 300 x→FB 300 y→(y=y0∨y=y1)→∀ W va vb,IsFrac W va x→IsFrac W vb y→Calls prog fn #[va,vb] W (FracPost W (op x y)))
  (hfb:∀ x y,FB 300 x→FB 300 y→(y=y0∨y=y1)→FB 700 (op x y)):
  ∃ L H:Rat,L=min4 (op x0 y0) (op x0 y1) (op x1 y0) (op x1 y1)∧H=max4 (op x0 y0) (op x0 y1) (op x1 y0) (op x1 y1)∧FB 700 L∧FB 700 H∧
   ∀ W,Env W→Calls prog 141 #[.agg #[.string (rs x0),.string (rs x1)],.agg #[.string (rs y0),.string (rs y1)],.func (.func fn) #[] #[]] W (SpPost W (rs L) (rs H) 0):=by
 have fx:∀ x,(x=x0∨x=x1)→FB 300 x:=fun x h=>h.elim (fun e=>by rw[e];exact ha.f0) (fun e=>by rw[e];exact ha.f1);have fy:∀ x,(x=y0∨x=y1)→FB 300 x:=fun x h=>h.elim (fun e=>by rw[e];exact hb.f0) (fun e=>by rw[e];exact hb.f1);have k:=fun x y (hx:x=x0∨x=x1) (hy:y=y0∨y=y1)=>hfb x y (fx x hx) (fy y hy) hy;have aa:=k x0 y0 (.inl rfl) (.inl rfl);have ab:=k x0 y1 (.inl rfl) (.inr rfl);have ac:=k x1 y0 (.inr rfl) (.inl rfl);have ad:=k x1 y1 (.inr rfl) (.inr rfl)
 exact ⟨_,_,rfl,rfl,((aa.minR ab).minR ac).minR ad,((aa.maxR ab).maxR ac).maxR ad,fun W hW=>
  combine_calls (rs x0) (rs x1) (rs y0) (rs y1) x0 x1 y0 y1 (rs_list _) (rs_list _) (rs_list _) (rs_list _) (SpanOk.len ha.f0) (SpanOk.len ha.f1) (SpanOk.len hb.f0) (SpanOk.len hb.f1) fn op hcf
   (fun x y hx hy W va vb h1 h2=>hop x y (fx x hx) (fy y hy) hy W va vb h1 h2) (fun x y hx hy=>(k x y hx hy).mono (by omega)) W hW⟩
theorem pos_num {y:Rat}:0 < y ↔ 0 < y.num:=by
 rw[←Rat.not_le,←Int.not_le]
 exact not_congr (by
  constructor
  ·intro h;have h1:0≤(-y).num:=Rat.num_nonneg.2 (by grind);rw[Rat.neg_num] at h1;omega
  ·intro h;have h1:0≤ -y:=Rat.num_nonneg.1 (by rw[Rat.neg_num];omega)
   grind)
theorem neg_num' {y:Rat}:y < 0 ↔ y.num < 0:=by
 rw[←Rat.not_le,←Int.not_le];exact not_congr Rat.num_nonneg.symm
theorem over_zero {x0 x1 y0 y1:Rat}(ha:SpanOk x0 x1)(hb:SpanOk y0 y1)(h0:y0≤0)(h1:0≤y1)(W:World)(hW:Env W):Calls prog 55 #[.agg #[.string (rs x0),.string (rs x1)],.agg #[.string (rs y0),.string (rs y1)]] W (SpPost W ⟨#[]⟩ ⟨#[]⟩ 6):=by
 have h2:¬0 < y0.num:=fun h=>absurd (pos_num.2 h) (Rat.not_lt.2 h0);have h3:=Rat.num_nonneg.2 h1;exact nover_all _ _ _ _ _ _ y0 y1 0 0 0 6 rfl (fun _=>⟨rs_list _,rs_list _,SpanOk.len hb.f0,SpanOk.len hb.f1⟩) (fun W h=>ha.chk W h) (fun W h=>hb.chk W h) (fun h=>absurd rfl h) (fun _ _ _=>⟨rfl,rfl,rfl⟩) (fun _ h=>absurd h (by omega)) W hW
theorem spancmp {x0 x1 y0 y1:Rat}(ha:SpanOk x0 x1)(hb:SpanOk y0 y1)(b1 b2 b3 b4:Bool)(e1:decide (x1 < y0)=b1)(e2:decide (y1 < x0)=b2)(e3:((rs x0).toList==(rs x1).toList)=b3)(e4:((rs x0).toList==(rs y0).toList && (rs x1).toList==(rs y1).toList)=b4)(W:World)(hW:Env W):
  Calls prog 56 #[.agg #[.string (rs x0),.string (rs x1)],.agg #[.string (rs y0),.string (rs y1)]] W (NCmpPost W (if b1 then -1 else if b2 then 1 else 0) (if b1 then 0 else if b2 then 0 else if b4 && b3 then 0 else 24)):=
 ncompare_all _ _ _ _ x0 x1 y0 y1 (rs_list _) (rs_list _) (rs_list _) (rs_list _) (SpanOk.len ha.f0) (SpanOk.len ha.f1) (SpanOk.len hb.f0) (SpanOk.len hb.f1) (ha.f0.fitsN (by omega)) (ha.f1.fitsN (by omega)) (hb.f0.fitsN (by omega)) (hb.f1.fitsN (by omega)) 0 0 rfl (fun W h=>ha.chk W h) (fun W h=>hb.chk W h) b1 b2 b3 b4 e1 e2 e3 e4 W hW
theorem fbs_len {x:Rat}{k:Nat}(h:FB k x)(hk:k≤1800):(rs x).size≤100000:=by have:=(RFB.of h).len;omega
theorem sq_natAbs (z:Int):(z.natAbs:Int)*(z.natAbs:Int)=z*z:=by
 rcases Int.lt_or_le z 0 with h | h
 ·have:(z.natAbs:Int)= -z:=by omega
  rw[this,Int.neg_mul_neg]
 ·have:(z.natAbs:Int)=z:=by omega
  rw[this]
theorem sq_parts (b:Rat):(b*b).num=b.num*b.num∧((b*b).den:Int)=(b.den:Int)*(b.den:Int):=by
 have hc:Nat.gcd (b.num*b.num).natAbs (b.den*b.den)=1:=by
  rw[Int.natAbs_mul];exact Nat.Coprime.mul_left (Nat.Coprime.mul_right b.reduced b.reduced) (Nat.Coprime.mul_right b.reduced b.reduced)
 have hd:=b.den_pos;have hp:=Nat.mul_pos hd hd;have h1:=divInt_parts (x:=b.num*b.num) (y:=((b.den*b.den:Nat):Int)) (by omega);rw[Int.natAbs_natCast,hc,Nat.div_one,Nat.div_one] at h1
 have e:b*b=Rat.divInt (b.num*b.num) ((b.den*b.den:Nat):Int):=by
  rw[rmul_divInt];push_cast;rfl
 have h3:(0:Int)≤b.num*b.num:=by rw[←sq_natAbs];exact Int.mul_nonneg (by omega) (by omega)
 rw[←e]at h1;refine ⟨?_,by rw[h1.2];push_cast;rfl⟩;rw[h1.1];unfold sgnd;rw[if_neg (by simp;omega)];omega
theorem rsingle_calls (x:ByteArray)(w:World):Calls prog 139 #[.string x] w fun e w'=>e=.returned (.agg #[.string x,.string x])∧New w w':=by
 go_in;go_upto_region 1 with (fail);obtain ⟨BP,HN⟩:=lay1 w 53 #[.string ⟨#[]⟩,.string ⟨#[]⟩];obtain ⟨p0,p1,p2,p3,p4⟩:=BP.out.two;go_wp2_with fail;refine bodyPost_ret (v:=.agg #[.string x,.string x]) (by simp[results,results139,go_sem,p0,p1]) rfl ?_;exact ⟨rfl,(New.refl w).alloc _⟩
theorem lt_up {a j k:Nat}(h:a < 2^j)(hk:j≤k):a < 2^k:=Nat.lt_of_lt_of_le h (Nat.pow_le_pow_right (by omega) hk)
theorem le_up {a j k:Nat}(h:a≤2^j)(hk:j < k):a < 2^k:=Nat.lt_of_le_of_lt h (Nat.pow_lt_pow_right (by omega) hk)
abbrev Str (w:World)(s:ByteArray)(e:Ending)(w':World):Prop:=e=.returned (.string s)∧New w w'
theorem rroot_walk1 (s A B C D E M:ByteArray) (w:World) (hnu:∀ W,Calls prog 110 #[.string s] W (Str W A)) (hw1:∀ W,Calls prog 138 #[.string A] W (Str W B)) (hde:∀ W,Calls prog 111 #[.string s] W (Str W C)) (hw2:∀ W,Calls prog 138 #[.string C] W (Str W D))
  (hdi:∀ W,Calls prog 65 #[.string B,.string D] W (Str W E)) (hmu:∀ W,Calls prog 32 #[.string E,.string E] W (Str W M)) (hb:(M.toList==s.toList)=true):
  Calls prog 50 #[.string s] w fun e w'=>e=.returned (.agg #[.string E,.string E])∧New w w':=by
 refine zh6 ?_ hnu hw1 hde hw2 hdi hmu;clear hnu hw1 hde hw2 hdi hmu;intro ad ae aa af ab ac;go_in;go_upto_region 1 with (fail);obtain ⟨BP,HN⟩:=lay1 w 53 #[.string ⟨#[]⟩,.string ⟨#[]⟩];go_wp2_with fail;refine zM (ad _) fun w1 hn=>?_;obtain ⟨HN,BP⟩:=zn2 hn HN BP.new;clear hn;go_wp2_with fail;refine zM (ae _) fun w2 hn=>?_;obtain ⟨HN,BP⟩:=zn2 hn HN BP.new;clear hn;go_wp2_with fail;refine zM (aa _) fun w3 hn=>?_;obtain ⟨HN,BP⟩:=zn2 hn HN BP.new;clear hn;go_wp2_with fail;refine zM (af _) fun w4 hn=>?_;obtain ⟨HN,BP⟩:=zn2 hn HN BP.new;clear hn;go_wp2_with fail;refine zM (ab _) fun w5 hn=>?_;obtain ⟨HN,BP⟩:=zn2 hn HN BP.new;clear hn;go_wp2_with fail;refine zM (ac _) fun w6 hn=>?_;obtain ⟨HN,BP⟩:=zn2 hn HN BP.new;clear hn;go_wp2_with fail;refine zM (rsingle_calls E _) fun w7 hn=>?_;obtain ⟨HN,BP⟩:=zn2 hn HN BP.new;clear hn;obtain ⟨p0,p1,p2,p3,p4⟩:=BP.out.two;go_wp2_with fail;refine bodyPost_ret (v:=.agg #[.string E,.string E]) (by simp[results,results50,go_sem,p0,p1]) rfl ?_;exact ⟨rfl,HN.putAt BP (by omega) _ _⟩
theorem rroot_walk2 (s A B C D E M F G K X K1 Y:ByteArray) (w:World) (hnu:∀ W,Calls prog 110 #[.string s] W (Str W A)) (hw1:∀ W,Calls prog 138 #[.string A] W (Str W B)) (hde:∀ W,Calls prog 111 #[.string s] W (Str W C)) (hw2:∀ W,Calls prog 138 #[.string C] W (Str W D))
  (hdi:∀ W,Calls prog 65 #[.string B,.string D] W (Str W E)) (hmu:∀ W,Calls prog 32 #[.string E,.string E] W (Str W M)) (hb:(M.toList==s.toList)=false)
  (hm6:∀ W,Calls prog 32 #[.string s,.string ⟨#[49,48,48,48,48,48,48]⟩] W (Str W F)) (hfl:∀ W,Calls prog 74 #[.string F] W (Str W G)) (hw3:∀ W,Calls prog 138 #[.string G] W (Str W K))
  (hd1:∀ W,Calls prog 65 #[.string K,.string ⟨#[49,48,48,48]⟩] W (Str W X)) (had:∀ W,Calls prog 45 #[.string K,.string ⟨#[49]⟩] W (Str W K1)) (hd2:∀ W,Calls prog 65 #[.string K1,.string ⟨#[49,48,48,48]⟩] W (Str W Y)):
  Calls prog 50 #[.string s] w fun e w'=>e=.returned (.agg #[.string X,.string Y])∧New w w':=by
 refine zh6 ?_ hm6 hfl hw3 hd1 had hd2;clear hm6 hfl hw3 hd1 had hd2;intro ag af al ab aa ac;refine zh6 ?_ hnu hw1 hde hw2 hdi hmu;clear hnu hw1 hde hw2 hdi hmu;intro ai aj ad ak ae ah;go_in;go_upto_region 1 with (fail);obtain ⟨BP,HN⟩:=lay1 w 53 #[.string ⟨#[]⟩,.string ⟨#[]⟩];go_wp2_with fail;refine zM (ai _) fun w1 hn=>?_;obtain ⟨HN,BP⟩:=zn2 hn HN BP.new;clear hn;go_wp2_with fail;refine zM (aj _) fun w2 hn=>?_;obtain ⟨HN,BP⟩:=zn2 hn HN BP.new;clear hn;go_wp2_with fail;refine zM (ad _) fun w3 hn=>?_;obtain ⟨HN,BP⟩:=zn2 hn HN BP.new;clear hn;go_wp2_with fail;refine zM (ak _) fun w4 hn=>?_;obtain ⟨HN,BP⟩:=zn2 hn HN BP.new;clear hn;go_wp2_with fail;refine zM (ae _) fun w5 hn=>?_;obtain ⟨HN,BP⟩:=zn2 hn HN BP.new;clear hn;go_wp2_with fail;refine zM (ah _) fun w6 hn=>?_;obtain ⟨HN,BP⟩:=zn2 hn HN BP.new;clear hn;go_wp2_with fail;refine zM (ag _) fun w7 hn=>?_;obtain ⟨HN,BP⟩:=zn2 hn HN BP.new;clear hn;go_wp2_with fail;refine zM (af _) fun w8 hn=>?_;obtain ⟨HN,BP⟩:=zn2 hn HN BP.new;clear hn;go_wp2_with fail;refine zM (al _) fun w9 hn=>?_;obtain ⟨HN,BP⟩:=zn2 hn HN BP.new;clear hn;go_wp2_with fail;refine zM (ab _) fun am hn=>?_;obtain ⟨HN,BP⟩:=zn2 hn HN BP.new;clear hn;go_wp2_with fail;refine zM (aa _) fun an hn=>?_;obtain ⟨HN,BP⟩:=zn2 hn HN BP.new;clear hn;go_wp2_with fail;refine zM (ac _) fun ao hn=>?_;obtain ⟨HN,BP⟩:=zn2 hn HN BP.new;clear hn;obtain ⟨p0,p1,p2,p3,p4⟩:=BP.out.two;go_wp2_with fail;refine bodyPost_ret (v:=.agg #[.string X,.string Y]) (by simp[results,results50,go_sem,p0,p1]) rfl ?_;exact ⟨rfl,HN.putAt BP (by omega) _ _⟩
theorem nz_div (a b k:Nat)(w:World)(ha:a < 2^k)(hb:b < 2^k)(h0:0 < b)(hk:k≤10000)(h1:1≤k):Calls prog 65 #[.string (NZ a),.string (NZ b)] w (Str w (rs (Rat.divInt a b))):=by
 have h:=(rdivZ_calls k k ((a:Int):Rat) ((b:Int):Rat) w (nz_bd ha h1) (nz_bd hb h1) (by omega) (by rw[Rat.num_intCast];omega)).mono fun e w' h=>RetS.to rfl h
 rwa [←Rat.divInt_eq_div] at h
theorem nz_thou:NZ 1000=⟨#[49,48,48,48]⟩:=by unfold NZ;rw[rs_int];decide +kernel
theorem nz_mill:NZ 1000000=⟨#[49,48,48,48,48,48,48]⟩:=by unfold NZ;rw[rs_int];decide +kernel
theorem root_both (q:Rat)(hb:FB 250 q)(h0:0≤q.num):∃ L H:Rat,FB 600 L∧FB 600 H∧(∀ W,Env W→Calls prog 31 #[.string (rs q)] W (SpPost W (rs L) (rs H) 0))∧
  ∀ W,Calls prog 50 #[.string (rs q)] W fun e w'=>e=.returned (.agg #[.string (rs L),.string (rs H)])∧New W w':=by
 have hr:RFB 250 q:=RFB.of hb;have hq:=q.den_pos;obtain ⟨N,hN⟩:∃ N:Nat,q.num=(N:Int):=⟨q.num.toNat,by omega⟩
 have ar:N < 2^250:=by have:=hr.num;rwa [hN,Int.natAbs_natCast] at this
 have aq:q.den < 2^250:=hr.den;obtain ⟨M,hM⟩:∃ M,M=250:=⟨_,rfl⟩;have up:∀ n,n < 2^250→n < 2^(2*M):=fun n h=>lt_up (j:=250) (k:=2*M) h (by omega);obtain ⟨n,hn⟩:=isRt_ex N;obtain ⟨d,hd⟩:=isRt_ex q.den;have ai:=hb.fitsN (by omega);have hl:=fbs_len hb (by omega)
 have ab:∀ {z:Nat} {r:Int},IsRt (z:Int) r→∃ m:Nat,r=(m:Int)∧m≤z:=fun {z r} h=>by
  refine ⟨r.toNat,by have:=h.1;omega,?_⟩
  have h1:r≤r*r:=by
   rcases Int.lt_or_le r 1 with h5 | h5
   ·have:=h.1;have e:r=0:=by omega
    rw[e];decide
   ·have:=Int.mul_le_mul_of_nonneg_left h5 h.1;omega
  have:=h.2.1;omega
 obtain ⟨nn,a6,a5⟩:=ab hn;obtain ⟨dn,a0,az⟩:=ab hd;rw[a6] at hn;rw[a0] at hd;clear a6 a0 n d
 have d0:0 < dn:=by
  rcases Nat.eq_zero_or_pos dn with h | h
  ·rw[h] at hd;have:=hd.2.2;omega
  ·exact h
 have ao:=fun W=>(rnum_calls 250 q W hr (by omega)).mono fun e w' h=>RetS.to rfl h;have ay:=fun W=>(rdenQ_calls 250 q W hr (by omega)).mono fun e w' h=>RetS.to rfl h;rw[hN] at ao
 have hw:∀ (z r:Nat),IsRt (z:Int) (r:Int)→z < 2^(2*M)→∀ W,Calls prog 138 #[.string (NZ z)] W (Str W (NZ r)):=fun z r h hz W=>(wroot_gen z M 510 W hz (by omega) (by omega)).mono fun e w' ⟨⟨r',h',e1⟩,hn⟩=>by
  have:=h.unique h'
  have e2:r'=r:=by omega
  subst e2;exact ⟨e1,hn⟩
 have a7:=hw N nn hn (up N ar);have a8:=hw q.den dn hd (up _ aq);have al:nn < 2^250:=Nat.lt_of_le_of_lt a5 ar;have ah:dn < 2^250:=Nat.lt_of_le_of_lt az aq;have an:=fun W=>nz_div nn dn 250 W al ah d0 (by omega) (by omega);obtain ⟨E,hE⟩:∃ E,Rat.divInt (nn:Int) (dn:Int)=E:=⟨_,rfl⟩
 have ae:FB 250 E:=by
  rw[←hE];exact FB.divInt (by unfold BdK;rw[Int.natAbs_natCast];exact al) (by unfold BdK;rw[Int.natAbs_natCast];exact ah) (by omega)
 simp only[hE]at an;have a4:=fun W=>(rmulQ_calls 250 250 E E W (RFB.of ae) (RFB.of ae) (by omega)).mono fun e w' h=>RetS.to rfl h
 have ad:∀ {p:Rat},((rs p).toList==(rs q).toList)=true ↔ p=q:=fun {p}=>by
  rw[beq_iff_eq,ByteArray.toList_eq,ByteArray.toList_eq,rs_list,rs_list];exact ⟨ratText_inj,fun h=>by rw[h]⟩
 by_cases he:(nn:Int)*(nn:Int)=q.num∧(dn:Int)*(dn:Int)=q.den
 ·have am:E*E=q:=by
   rw[←hE,Rat.divInt_mul_divInt _ _,he.1,he.2];exact Rat.num_divInt_den q
  refine ⟨E,E,ae.mono (by omega),ae.mono (by omega),fun W hW=>?_,fun W=>rroot_walk1 (rs q) _ _ _ _ _ _ W ao a7 ay a8 an a4 (ad.2 am)⟩;have h:=nroot_exact (rs q) q (nn:Int) (dn:Int) (rs_list _) ai (hb.mono (by omega)) hl (by omega) (by omega) he.1 he.2 W hW
  rwa [hE] at h
 ·have am:¬E*E=q:=fun e=>he (by
   obtain ⟨k1,k2⟩:=sq_parts E;rw[e] at k1 k2
   have a9:0≤E:=by rw[←hE];exact Rat.divInt_nonneg (by omega) (by omega)
   have ba:=Rat.num_nonneg.2 a9
   have r1:IsRt (N:Int) E.num:=by
    rw[←hN,k1]
    have e3:(E.num+1)*(E.num+1)=E.num*E.num+2*E.num+1:=by grind
    exact ⟨ba,Int.le_refl _,by omega⟩
   have r2:IsRt (q.den:Int) (E.den:Int):=by
    rw[k2]
    have e3:((E.den:Int)+1)*((E.den:Int)+1)=(E.den:Int)*(E.den:Int)+2*(E.den:Int)+1:=by grind
    exact ⟨by omega,Int.le_refl _,by omega⟩
   rw[hn.unique r1,hd.unique r2,k1,k2]
   exact ⟨rfl,rfl⟩)
  have bb:((rs (E*E)).toList==(rs q).toList)=false:=by
   cases h:(rs (E*E)).toList==(rs q).toList with
   | false=>rfl
   | true=>exact absurd (ad.1 h) am
  have kq:FB 21 ((1000000:Int):Rat):=FB.int (by unfold BdK;decide) (by omega);have kp:=hb.mul kq
  have be:0≤(q*((1000000:Int):Rat)).floor:=by
   rw[Rat.le_floor_iff];have h1:0≤q:=Rat.num_nonneg.1 h0
   have h2:(0:Rat)≤((1000000:Int):Rat):=by rw[show (0:Rat)=((0:Int):Rat) from rfl];exact Rat.intCast_le_intCast.2 (by decide)
   exact Rat.mul_nonneg h1 h2
  have kf:BdK 272 (q*((1000000:Int):Rat)).floor:=by have:=(floor_fb kp (by omega)).num;rwa [Rat.num_intCast] at this
  obtain ⟨Z,hZ⟩:∃ Z:Nat,(q*((1000000:Int):Rat)).floor=(Z:Int):=⟨(q*((1000000:Int):Rat)).floor.toNat,by omega⟩
  have au:Z < 2^272:=by
   rw[hZ]at kf;unfold BdK at kf
   rwa [Int.natAbs_natCast] at kf
  obtain ⟨m0,af⟩:=isRt_ex Z;obtain ⟨m,a1,a3⟩:=ab af;rw[a1] at af;clear a1 m0;have ag:m < 2^272:=Nat.lt_of_le_of_lt a3 au;have ac:∀ {a:Nat},a < 2^272→a < 2^280:=fun {a} h=>lt_up (j:=272) (k:=280) h (by omega);have a2:=fun W=>(rmulQ_calls 250 21 q ((1000000:Int):Rat) W hr (RFB.of kq) (by omega)).mono fun e w' h=>RetS.to rfl h;have e6:rs ((1000000:Int):Rat)=⟨#[49,48,48,48,48,48,48]⟩:=nz_mill;simp only[e6] at a2;have aj:=fun W=>(rfloorQ_calls 271 (q*((1000000:Int):Rat)) W (RFB.of kp) (by omega)).mono fun e w' h=>RetS.to rfl h;rw[hZ] at aj;have bc:=hw Z m af (lt_up (j:=272) (k:=2*M) au (by omega));have aa:(1000:Nat) < 2^280:=lt_up (j:=10) (k:=280) (by decide) (by omega)
  have ak:m+1 < 2^280:=by
   have h1:=Nat.succ_le_of_lt ag;exact le_up (j:=272) (k:=280) h1 (by omega)
  have aw:=fun W=>nz_div m 1000 280 W (ac ag) aa (by omega) (by omega) (by omega);have av:=fun W=>nz_add m 1 280 W (ac ag) (lt_up (j:=1) (k:=280) (by decide) (by omega)) (by omega) (by omega);have ax:=fun W=>nz_div (m+1) 1000 280 W ak aa (by omega) (by omega) (by omega);rw[nz_thou] at aw ax;rw[nz_one] at av;have ap:∀ {a:Nat},a < 2^280→FB 600 (Rat.divInt (a:Int) ((1000:Nat):Int)):=fun {a} h=>(FB.divInt (j:=280) (by unfold BdK;rw[Int.natAbs_natCast];exact h) (by unfold BdK;exact aa) (by decide)).mono (by omega);refine ⟨Rat.divInt (m:Int) ((1000:Nat):Int),Rat.divInt ((m+1:Nat):Int) ((1000:Nat):Int),ap (ac ag),ap ak,fun W hW=>?_,fun W=>rroot_walk2 (rs q) _ _ _ _ _ _ _ _ _ _ _ _ W ao a7 ay a8 an a4 bb a2 aj bc aw av ax⟩;have h:=nroot_near (rs q) q (nn:Int) (dn:Int) (m:Int) (rs_list _) ai (hb.mono (by omega)) hl h0 (by rw[hN];exact hn) hd he (by rw[hZ];exact af) W hW
  rwa [show ((m:Int)+1)=((m+1:Nat):Int) by omega] at h
def HullRel (w:World)(P:Nat)(mn mx:Nat→ByteArray)(k:Nat)(wr:World):Prop:=New w wr∧Box wr w.heap.size 53 #[.string ⟨#[]⟩,.string ⟨#[]⟩]∧Box wr P 53 #[.string (mn k),.string (mx k)]
theorem HullRel.new {w:World}{P:Nat}{mn mx:Nat→ByteArray}{k:Nat}{wr w':World}(h:HullRel w P mn mx k wr)(hn:New wr w'):HullRel w P mn mx k w':=⟨h.1.trans hn,h.2.1.new hn,h.2.2.new hn⟩
theorem HullRel.next {w:World}{P:Nat}{mn mx:Nat→ByteArray}{k:Nat}{wr:World}(h:HullRel w P mn mx k wr)(hP:w.heap.size < P):HullRel w P mn mx (k+1) ((wr.setCell ⟨P,0,none⟩ (.string (mn (k+1)))).setCell ⟨P,1,none⟩ (.string (mx (k+1)))):=
 ⟨h.1.putAt h.2.2 (by omega) _ _,(h.2.1.other (p:=⟨P,0,none⟩) (by show P≠w.heap.size;omega) _).other (p:=⟨P,1,none⟩) (by show P≠w.heap.size;omega) _,(h.2.2.set 0 _).set 1 _⟩
theorem hull_walk (B cap:Nat) (T mn mx:Nat→ByteArray) (w:World) (hc:∀ k,k < 4→w.cell? ⟨B,k,none⟩=some (.string (T k))) (h0:mn 0=T 0) (h1:mx 0=T 0)
  (ac:∀ k,k < 3→∀ W,Calls prog 203 #[.string (mn k),.string (T (k+1))] W fun e w'=>e=.returned (.string (mn (k+1)))∧New W w') (ad:∀ k,k < 3→∀ W,Calls prog 204 #[.string (mx k),.string (T (k+1))] W fun e w'=>e=.returned (.string (mx (k+1)))∧New W w'):
  Calls prog 142 #[.slice (some ⟨B,0,none⟩) 4 cap] w fun e w'=>e=.returned (.agg #[.string (mn 3),.string (mx 3)])∧New w w':=by
 have c0:=hc 0 (by omega);refine zh5 ?_ hc ac ad h0 h1;clear hc ac ad h0 h1;intro HC ax ay H0 H1;go_in;go_upto_region 1 with (fail);obtain ⟨BP,HN⟩:=lay1 w 53 #[.string ⟨#[]⟩,.string ⟨#[]⟩];replace c0:=HN.cell c0;obtain ⟨w1,au⟩:∃ x,w.alloc (.cells #[.string ⟨#[]⟩,.string ⟨#[]⟩] 53)=x:=⟨_,rfl⟩;rw[au] at BP HN c0⊢;clear au;have ar:w.heap.size < w1.heap.size:=BP.out.lt
 have aj:=hid (show HullRel w w1.heap.size mn mx 0 (w1.alloc (.cells #[.string (T 0),.string (T 0)] 53)).drew from ⟨(HN.alloc _).drew,BP.new ((New.refl w1).alloc _).drew,by
  have:=(Box.alloc w1 w1.heap.size 53 #[.string (T 0),.string (T 0)] rfl).new (New.refl _).drew;rw[H0.out,H1.out]
  exact this⟩)
 have c9:=((New.refl w1).alloc (.cells #[.string ⟨#[]⟩,.string ⟨#[]⟩] 53)).drew.cell c0;obtain ⟨BN,hn⟩:=lay1 w1 53 #[.string ⟨#[]⟩,.string ⟨#[]⟩];obtain ⟨HN,BP⟩:=zn2 hn HN BP.new;clear hn;have ah:=BN.out.new (New.refl _).drew;have e0:=ah.cell 0;have e1:=ah.cell 1;have f0:=ah.frozen 0;have f1:=ah.frozen 1
 go_region
 clear BN ah BP HN e0 e1 f0 f1 c9 c0;obtain ⟨P,hP⟩:∃ P,w1.heap.size=P:=⟨_,rfl⟩;obtain ⟨w2,ap⟩:∃ x,(w1.alloc (.cells #[.string (T 0),.string (T 0)] 53)).drew=x:=⟨_,rfl⟩;rw[ap,hP] at aj;rw[ap,hP];rw[hP] at ar;clear ap hP H0 H1;go_wp2_with fail;go_loopw [4] (fun i wr=>∃ k j:Nat,Hid (j=k+1)∧j≤4∧i=.int .i64 (j:Int)∧Hid (HullRel w P mn mx k wr)) (fun i _=>4 - (RowKit.intOf i).toNat)
 case atStart=>exact ⟨0,1,hid rfl,by omega,rfl,aj⟩
 case round=>
  clear aj;obtain ⟨k,j,HJ,hj,rfl,HR⟩:=hrel;refine zh3 ?_ HR.1 HR.2.1 HR.2.2;intro HN BP BN;by_cases h4:j < 4
  ·have h3:k < 3:=by have:=HJ.out;omega
   have a1:(j:Int) < 4:=by omega
   have hc:=HN.out.cell (HC.out (k+1) (by omega));have ac:=ax.out k h3;have ad:=ay.out k h3;have ao:=fun W (hh:HullRel w P mn mx k W)=>hh.next ar;obtain ⟨M0,ak⟩:∃ x,mn k=x:=⟨_,rfl⟩;obtain ⟨X0,am⟩:∃ x,mx k=x:=⟨_,rfl⟩;obtain ⟨M1,al⟩:∃ x,mn (k+1)=x:=⟨_,rfl⟩;obtain ⟨X1,an⟩:∃ x,mx (k+1)=x:=⟨_,rfl⟩;obtain ⟨T1,ai⟩:∃ x,T (k+1)=x:=⟨_,rfl⟩;simp only[ak,al,ai] at ac;simp only[am,an,ai] at ad;simp only[al,an] at ao;rw[ai] at hc;rw[←HJ.out] at hc;rw[ak,am] at BN;clear al an ai ak am;refine zh3 ?_ ac ad ao;clear ac ad ao;intro aw av az;obtain ⟨aa,ab,ae,af,ag⟩:=BN.out.two;go_upto_region 5 with (fail);refine wp_region_U 15 (fun W=>W.cell? ⟨P,0,none⟩=some (.string M0)∧W.cell? ⟨P,1,none⟩=some (.string X0)∧W.cell? ⟨B,j,none⟩=some (.string T1)) 18 #[false,false,false,false,false,false,false,false,false,false,false,false,false,false,false,false,false,false] rfl (by kernel_rfl) (by kernel_rfl) ?_;refine tkU 0 (fun _=>by exact ⟨aa,ab,hc⟩) ?_
   try simp only[PE,PT]
   refine tkU 1 (fun _=>by exact ⟨aa,ab,hc⟩) ?_
   try simp only[PE,PT]
   refine tkU 2 (fun _=>by exact ⟨aa,ab,hc⟩) ?_
   try simp only[PE,PT]
   refine tkU 3 (fun _=>by exact ⟨aa,ab,hc⟩) ?_
   try simp only[PE,PT]
   refine tkU 4 (fun _=>by exact ⟨aa,ab,hc⟩) ?_
   try simp only[PE,PT]
   refine tkU 5 (fun _=>by exact ⟨aa,ab,hc⟩) ?_
   try simp only[PE,PT]
   refine tkU 7 (fun _=>by exact ⟨aa,ab,hc⟩) ?_
   try simp only[PE,PT]
   refine tkU 8 (fun _=>by exact ⟨aa,ab,hc⟩) ?_
   try simp only[PE,PT]
   refine tkU 9 (fun _=>by exact ⟨aa,ab,hc⟩) ?_
   try simp only[PE,PT]
   refine tkU 10 (fun _=>by exact ⟨aa,ab,hc⟩) ?_
   try simp only[PE,PT]
   refine tkU 11 (fun _=>by exact ⟨aa,ab,hc⟩) ?_
   try simp only[PE,PT]
   refine tkU 12 (fun _=>by exact ⟨aa,ab,hc⟩) ?_
   try simp only[PE,PT]
   refine wpU_one 6 rfl (by kernel_rfl) (fun K hK=>?_);go_simp;refine zM (aw _) fun w3 hn=>?_;have hn:=hn.undrew;replace hc:=hn.cell hc;have hr:=HR.out.new hn;clear HR;have HR:=hid hr;clear hr;clear aa ab ae af ag;obtain ⟨HN,BN,BP⟩:=zn3 hn HN BN.new BP.new;clear hn;obtain ⟨aa,ab,ae,af,ag⟩:=BN.out.two;refine hK.out _ _ (fun _=>⟨aa,ab,hc⟩) ?_;clear hK K
   try simp only[PE,PT]
   refine tkU 14 (fun _=>by exact ⟨aa,ab,hc⟩) ?_
   try simp only[PE,PT]
   refine wpU_one 13 rfl (by kernel_rfl) (fun K hK=>?_);go_simp;refine zM (av _) fun w4 hn=>?_;replace hc:=hn.cell hc;have hr:=HR.out.new hn;clear HR;replace hr:=hid hr;clear aa ab ae af ag;obtain ⟨HN,BN,BP⟩:=zn3 hn HN BN.new BP.new;clear hn;obtain ⟨aa,ab,ae,af,ag⟩:=BN.out.two;refine hK.out _ _ (fun _=>⟨aa,ab,hc⟩) ?_;clear hK K
   try simp only[PE,PT]
   refine wpU_one 15 rfl (by kernel_rfl) (fun K hK=>?_);go_simp;clear aa ab ae af ag;replace BN:=hid (BN.set 0 (.string M1));have pn:=BN.out.two;refine hK.out _ _ (fun h=>absurd h (by decide)) ?_;clear hK K
   try simp only[PE,PT]
   refine tkU0 16 (fun h=>absurd h (by decide)) ?_
   try simp only[PE,PT]
   refine wpU_one 17 rfl (by kernel_rfl) (fun K hK=>?_);go_simp;clear pn;refine hK.out _ _ (fun h=>absurd h (by decide)) ?_;clear hK K
   try simp only[PE,PT]
   refine wpU_end (by kernel_rfl) ?_;go_wp2_with fail;go_roundw
   case rel=>exact ⟨k+1,j+1,hid (by rw[HJ.out]),by omega,by go_num,hid (az.out _ hr.out)⟩
   case measure=>simp[RowKit.intOf];omega
  ·have aq:j=4:=by omega
   have a0:k=3:=by have:=HJ.out;omega
   subst a0;replace aq:=hid aq;clear HJ;obtain ⟨aa,ab,ae,af,ag⟩:=BN.out.two;obtain ⟨p0,p1,p2,p3,p4⟩:=BP.out.two;go_wp2_with fail;refine bodyPost_ret (v:=.agg #[.string (mn 3),.string (mx 3)]) (by simp[results,results142,go_sem,p0,p1]) rfl ?_;exact ⟨rfl,HN.putAt BP (by omega) _ _⟩
theorem hull_four (k:Nat)(q0 q1 q2 q3:Rat)(B cap:Nat)(t:TypeId)(w:World)(hB:Box w B t #[.string (rs q0),.string (rs q1),.string (rs q2),.string (rs q3)])(hk:k≤20000)(b0:RFB k q0)(b1:RFB k q1)(b2:RFB k q2)(b3:RFB k q3):
  Calls prog 142 #[.slice (some ⟨B,0,none⟩) 4 cap] w fun e w'=>e=.returned (.agg #[.string (rs (min4 q0 q1 q2 q3)),.string (rs (max4 q0 q1 q2 q3))])∧New w w':=by
 have m1:RFB k (minR q0 q1):=by unfold minR;split <;> assumption
 have m2:RFB k (minR (minR q0 q1) q2):=by rw[show minR (minR q0 q1) q2=if q2 < minR q0 q1 then q2 else minR q0 q1 from rfl];split <;> assumption
 have M1:RFB k (maxR q0 q1):=by unfold maxR;split <;> assumption
 have M2:RFB k (maxR (maxR q0 q1) q2):=by rw[show maxR (maxR q0 q1) q2=if maxR q0 q1 < q2 then q2 else maxR q0 q1 from rfl];split <;> assumption
 have h:=hull_walk B cap (fun j=>match j with | 0=>rs q0 | 1=>rs q1 | 2=>rs q2 | _=>rs q3)
  (fun j=>match j with | 0=>rs q0 | 1=>rs (minR q0 q1) | 2=>rs (minR (minR q0 q1) q2) | _=>rs (min4 q0 q1 q2 q3))
  (fun j=>match j with | 0=>rs q0 | 1=>rs (maxR q0 q1) | 2=>rs (maxR (maxR q0 q1) q2) | _=>rs (max4 q0 q1 q2 q3)) w
  (fun j hj=>by
   match j,hj with
   | 0,_=>exact hB.cell 0
   | 1,_=>exact hB.cell 1
   | 2,_=>exact hB.cell 2
   | 3,_=>exact hB.cell 3) rfl rfl
  (fun j hj W=>by
   match j,hj with
   | 0,_=>exact (rmin_calls k q0 q1 W b0 b1 hk).mono fun e w' h=>RetS.to rfl h
   | 1,_=>exact (rmin_calls k _ q2 W m1 b2 hk).mono fun e w' h=>RetS.to rfl h
   | 2,_=>exact (rmin_calls k _ q3 W m2 b3 hk).mono fun e w' h=>RetS.to rfl h)
  (fun j hj W=>by
   match j,hj with
   | 0,_=>exact (rmax_calls k q0 q1 W b0 b1 hk).mono fun e w' h=>RetS.to rfl h
   | 1,_=>exact (rmax_calls k _ q2 W M1 b2 hk).mono fun e w' h=>RetS.to rfl h
   | 2,_=>exact (rmax_calls k _ q3 W M2 b3 hk).mono fun e w' h=>RetS.to rfl h)
 exact h
theorem rtimes_walk (XA YA XB YB A0 A1 A2 A3 U V:ByteArray) (w:World) (h0:∀ W,Calls prog 32 #[.string XA,.string XB] W fun e w'=>e=.returned (.string A0)∧New W w') (h1:∀ W,Calls prog 32 #[.string XA,.string YB] W fun e w'=>e=.returned (.string A1)∧New W w') (h2:∀ W,Calls prog 32 #[.string YA,.string XB] W fun e w'=>e=.returned (.string A2)∧New W w') (h3:∀ W,Calls prog 32 #[.string YA,.string YB] W fun e w'=>e=.returned (.string A3)∧New W w')
  (hh:∀ (B cap:Nat) (t:TypeId) (W:World),Box W B t #[.string A0,.string A1,.string A2,.string A3]→Calls prog 142 #[.slice (some ⟨B,0,none⟩) 4 cap] W fun e w'=>e=.returned (.agg #[.string U,.string V])∧New W w'):
  Calls prog 61 #[.agg #[.string XA,.string YA],.agg #[.string XB,.string YB]] w fun e w'=>e=.returned (.agg #[.string U,.string V])∧New w w':=by
 refine zh5 ?_ h0 h1 h2 h3 hh;clear h0 h1 h2 h3 hh;intro H0 H1 H2 H3 HH;go_in;go_upto_region 1 with (fail);obtain ⟨BA,BB,BP,HN⟩:=lay3 w 53 #[.string XA,.string YA] 53 #[.string XB,.string YB] 53 #[.string ⟨#[]⟩,.string ⟨#[]⟩];have pa:=BA.out.two;have pb:=BB.out.two;clear pa;clear pb;refine zR 22 23 (fun W=>zC W w.heap.size (.string XA) (.string YA)∧zC W (w.heap.size+1) (.string XB) (.string YB)) ?_;refine zTE 0 ⟨cW2 BA,cW2 BB⟩ ?_;refine zTE 1 ⟨cW2 BA,cW2 BB⟩ ?_;refine zTE 2 ⟨cW2 BA,cW2 BB⟩ ?_;refine zTE 3 ⟨cW2 BA,cW2 BB⟩ ?_;refine zTE 5 ⟨cW2 BA,cW2 BB⟩ ?_;refine zTE 6 ⟨cW2 BA,cW2 BB⟩ ?_;refine zTE 7 ⟨cW2 BA,cW2 BB⟩ ?_;refine zTE 8 ⟨cW2 BA,cW2 BB⟩ ?_;refine zTE 10 ⟨cW2 BA,cW2 BB⟩ ?_;refine zTE 11 ⟨cW2 BA,cW2 BB⟩ ?_;refine zTE 12 ⟨cW2 BA,cW2 BB⟩ ?_;refine zTE 13 ⟨cW2 BA,cW2 BB⟩ ?_;refine zTE 15 ⟨cW2 BA,cW2 BB⟩ ?_;refine zTE 16 ⟨cW2 BA,cW2 BB⟩ ?_;refine zTE 17 ⟨cW2 BA,cW2 BB⟩ ?_;refine zTE 18 ⟨cW2 BA,cW2 BB⟩ ?_;refine tk1 4 fun K hK=>?_
 try simp only[PE]
 go_simp;refine zM (H0 _) fun w1 hn=>?_;obtain ⟨HN,BA,BB,BP⟩:=zn4 hn.undrew HN BA.new BB.new BP.new;clear hn;refine zKE hK ⟨cW2 BA,cW2 BB⟩ ?_;clear hK K;refine tk1 9 fun K hK=>?_
 try simp only[PE]
 go_simp;refine zM (H1 _) fun w2 hn=>?_;obtain ⟨HN,BA,BB,BP⟩:=zn4 hn HN BA.new BB.new BP.new;clear hn;refine zKE hK ⟨cW2 BA,cW2 BB⟩ ?_;clear hK K;refine tk1 14 fun K hK=>?_
 try simp only[PE]
 go_simp;refine zM (H2 _) fun w3 hn=>?_;obtain ⟨HN,BA,BB,BP⟩:=zn4 hn HN BA.new BB.new BP.new;clear hn;refine zKE hK ⟨cW2 BA,cW2 BB⟩ ?_;clear hK K;refine tk1 19 fun K hK=>?_
 try simp only[PE]
 go_simp;refine zM (H3 _) fun w4 hn=>?_;obtain ⟨HN,BA,BB,BP⟩:=zn4 hn HN BA.new BB.new BP.new;clear hn;refine zKE hK ⟨cW2 BA,cW2 BB⟩ ?_;clear hK K;refine tk1 20 fun K hK=>?_
 try simp only[PE]
 go_simp;obtain ⟨BG,hn⟩:=lay1 w4 23 #[.string A0,.string A1,.string A2,.string A3];obtain ⟨HN,BA,BB,BP⟩:=zn4 hn HN BA.new BB.new BP.new;clear hn;refine zKE hK ⟨cW2 BA,cW2 BB⟩ ?_;clear hK K;refine tk1 21 fun K hK=>?_
 try simp only[PE]
 go_simp;refine zM (HH _ _ _ _ BG) fun w5 hn=>?_;clear BG;obtain ⟨HN,BA,BB,BP⟩:=zn4 hn HN BA.new BB.new BP.new;clear hn;refine zKE hK ⟨cW2 BA,cW2 BB⟩ ?_;clear hK K;refine tlW ?_;obtain ⟨aa,ab,ac,ad,ae⟩:=BA.out.two;obtain ⟨af,ag,ah,ai,aj⟩:=BB.out.two;obtain ⟨p0,p1,p2,p3,p4⟩:=BP.out.two;go_wp2_with fail;refine bodyPost_ret (v:=.agg #[.string U,.string V]) (by simp[results,results61,go_sem,p0,p1]) rfl ?_;exact ⟨rfl,HN.putAt BP (by omega) _ _⟩
theorem rover_walk (XA YA XB YB A0 A1 A2 A3 U V:ByteArray) (w:World) (h0:∀ W,Calls prog 65 #[.string XA,.string XB] W fun e w'=>e=.returned (.string A0)∧New W w') (h1:∀ W,Calls prog 65 #[.string XA,.string YB] W fun e w'=>e=.returned (.string A1)∧New W w') (h2:∀ W,Calls prog 65 #[.string YA,.string XB] W fun e w'=>e=.returned (.string A2)∧New W w') (h3:∀ W,Calls prog 65 #[.string YA,.string YB] W fun e w'=>e=.returned (.string A3)∧New W w')
  (hh:∀ (B cap:Nat) (t:TypeId) (W:World),Box W B t #[.string A0,.string A1,.string A2,.string A3]→Calls prog 142 #[.slice (some ⟨B,0,none⟩) 4 cap] W fun e w'=>e=.returned (.agg #[.string U,.string V])∧New W w'):
  Calls prog 63 #[.agg #[.string XA,.string YA],.agg #[.string XB,.string YB]] w fun e w'=>e=.returned (.agg #[.string U,.string V])∧New w w':=by
 refine zh5 ?_ h0 h1 h2 h3 hh;clear h0 h1 h2 h3 hh;intro H0 H1 H2 H3 HH;go_in;go_upto_region 1 with (fail);obtain ⟨BA,BB,BP,HN⟩:=lay3 w 53 #[.string XA,.string YA] 53 #[.string XB,.string YB] 53 #[.string ⟨#[]⟩,.string ⟨#[]⟩];have pa:=BA.out.two;have pb:=BB.out.two;clear pa;clear pb;refine zR 22 23 (fun W=>zC W w.heap.size (.string XA) (.string YA)∧zC W (w.heap.size+1) (.string XB) (.string YB)) ?_;refine zTE 0 ⟨cW2 BA,cW2 BB⟩ ?_;refine zTE 1 ⟨cW2 BA,cW2 BB⟩ ?_;refine zTE 2 ⟨cW2 BA,cW2 BB⟩ ?_;refine zTE 3 ⟨cW2 BA,cW2 BB⟩ ?_;refine zTE 5 ⟨cW2 BA,cW2 BB⟩ ?_;refine zTE 6 ⟨cW2 BA,cW2 BB⟩ ?_;refine zTE 7 ⟨cW2 BA,cW2 BB⟩ ?_;refine zTE 8 ⟨cW2 BA,cW2 BB⟩ ?_;refine zTE 10 ⟨cW2 BA,cW2 BB⟩ ?_;refine zTE 11 ⟨cW2 BA,cW2 BB⟩ ?_;refine zTE 12 ⟨cW2 BA,cW2 BB⟩ ?_;refine zTE 13 ⟨cW2 BA,cW2 BB⟩ ?_;refine zTE 15 ⟨cW2 BA,cW2 BB⟩ ?_;refine zTE 16 ⟨cW2 BA,cW2 BB⟩ ?_;refine zTE 17 ⟨cW2 BA,cW2 BB⟩ ?_;refine zTE 18 ⟨cW2 BA,cW2 BB⟩ ?_;refine tk1 4 fun K hK=>?_
 try simp only[PE]
 go_simp;refine zM (H0 _) fun w1 hn=>?_;obtain ⟨HN,BA,BB,BP⟩:=zn4 hn.undrew HN BA.new BB.new BP.new;clear hn;refine zKE hK ⟨cW2 BA,cW2 BB⟩ ?_;clear hK K;refine tk1 9 fun K hK=>?_
 try simp only[PE]
 go_simp;refine zM (H1 _) fun w2 hn=>?_;obtain ⟨HN,BA,BB,BP⟩:=zn4 hn HN BA.new BB.new BP.new;clear hn;refine zKE hK ⟨cW2 BA,cW2 BB⟩ ?_;clear hK K;refine tk1 14 fun K hK=>?_
 try simp only[PE]
 go_simp;refine zM (H2 _) fun w3 hn=>?_;obtain ⟨HN,BA,BB,BP⟩:=zn4 hn HN BA.new BB.new BP.new;clear hn;refine zKE hK ⟨cW2 BA,cW2 BB⟩ ?_;clear hK K;refine tk1 19 fun K hK=>?_
 try simp only[PE]
 go_simp;refine zM (H3 _) fun w4 hn=>?_;obtain ⟨HN,BA,BB,BP⟩:=zn4 hn HN BA.new BB.new BP.new;clear hn;refine zKE hK ⟨cW2 BA,cW2 BB⟩ ?_;clear hK K;refine tk1 20 fun K hK=>?_
 try simp only[PE]
 go_simp;obtain ⟨BG,hn⟩:=lay1 w4 23 #[.string A0,.string A1,.string A2,.string A3];obtain ⟨HN,BA,BB,BP⟩:=zn4 hn HN BA.new BB.new BP.new;clear hn;refine zKE hK ⟨cW2 BA,cW2 BB⟩ ?_;clear hK K;refine tk1 21 fun K hK=>?_
 try simp only[PE]
 go_simp;refine zM (HH _ _ _ _ BG) fun w5 hn=>?_;clear BG;obtain ⟨HN,BA,BB,BP⟩:=zn4 hn HN BA.new BB.new BP.new;clear hn;refine zKE hK ⟨cW2 BA,cW2 BB⟩ ?_;clear hK K;refine tlW ?_;obtain ⟨aa,ab,ac,ad,ae⟩:=BA.out.two;obtain ⟨af,ag,ah,ai,aj⟩:=BB.out.two;obtain ⟨p0,p1,p2,p3,p4⟩:=BP.out.two;go_wp2_with fail;refine bodyPost_ret (v:=.agg #[.string U,.string V]) (by simp[results,results63,go_sem,p0,p1]) rfl ?_;exact ⟨rfl,HN.putAt BP (by omega) _ _⟩
end Go.Proofs.YtnjonlnemagomaaGreatDoor
