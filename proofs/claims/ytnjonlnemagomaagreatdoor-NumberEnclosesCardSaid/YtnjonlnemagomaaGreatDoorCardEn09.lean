/- Part CardEn09. -/
import Derived.Test.YtnjonlnemagomaaGreatDoorB34
import Derived.Test.YtnjonlnemagomaaGreatDoorCardEn08
namespace Go.Proofs.YtnjonlnemagomaaGreatDoor
open Go.RowKit Big Go.Lib Go.Proofs.Tryz
set_option maxRecDepth 100000
set_option maxHeartbeats 8000000
set_option linter.all false
def FewP6 (v:ByteArray)(w:World)(e:Ending)(w':World):Prop:=(∃ t:Bool,e=.returned (.bool t)∧(t=true→v.size≤14∧ratErr v.data.toList=0))∧New w w'
theorem rfew6_calls (v:ByteArray)(w:World)(hl:(v.size:Int)≤9223372036854775807):Calls prog 30 #[.string v,.int .i64 6] w (FewP6 v w):=by
 by_cases h1:v.size≤14
 ·have ac:(v.size:Int)≤14:=by omega
  have al:decide ((v.size:Int)≤14)=true:=decide_eq_true ac;have aa:=fun W=>rcheck_calls v W (by omega);have HS:=hid h1;obtain ⟨r,hr⟩:∃ r,ratErr v.data.toList=r:=⟨_,rfl⟩;simp only[hr] at aa;by_cases h0:r=0
  ·subst h0;obtain ⟨q,hf,hv⟩:=ratText_of_err hr
   have ag:v=rs q:=by
    apply ByteArray.ext;apply Array.toList_inj.1;rw[hv,rs_list]
   have hb:RFB 2000 q:=RFB.of (Fits.fb hf);have ab:RFB 2000 ((q.num:Int):Rat):=rfb_int hb.num (by omega);have ae:=fun W=>(rnum_calls 2000 q W hb (by omega)).mono fun e w' h=>RetS.to rfl h;have ad:=fun W=>(rabs_calls ((q.num:Int):Rat) W (by have:=ab.len;omega)).mono fun e w' h=>RetS.to rfl h;have af:=fun W=>rden_calls v W (by omega);obtain ⟨B,hB⟩:∃ B,rs ((q.num:Int):Rat)=B:=⟨_,rfl⟩;obtain ⟨D,hD⟩:∃ B,rs (absQ ((q.num:Int):Rat))=B:=⟨_,rfl⟩
   have an:D.size≤10000:=by
    rw[←hD]
    have:RFB 2000 (absQ ((q.num:Int):Rat)):=by
     unfold absQ;split
     ·exact ab.neg
     ·exact ab
    have:=this.len;omega
   have ap:(D.size:Int)≤10000:=by omega
   simp only[←ag,hB]at ae;simp only[hB,hD] at ad;clear hB hD hb ab ag hf hv an h1;refine zh6 ?_ (New.refl w) aa ae ad af hr;clear aa ae ad af hr;intro HN ai ak ah aj HR;go_in;go_wp2_with fail;refine zM (ai _) fun w1 hn=>?_;replace HN:=tW HN hn;clear hn;go_wp2_with fail;refine zM (ak _) fun w2 hn=>?_;replace HN:=tW HN hn;clear hn;go_wp2_with fail;refine zM (ah _) fun w3 hn=>?_;replace HN:=tW HN hn;clear hn;by_cases h2:(D.size:Int)≤6
   ·have am:decide ((D.size:Int)≤6)=true:=decide_eq_true h2;go_wp2_with fail;refine (aj _).mono ?_;rintro e w4 ⟨⟨d,hd,rfl⟩,hn⟩
    have aq:(d.size:Int)≤1000000:=by omega
    clear hd;replace HN:=tW HN hn;clear hn;go_wp2_with fail;go_ret;exact ⟨⟨_,rfl,fun _=>⟨HS,HR⟩⟩,HN⟩
   ·have am:decide ((D.size:Int)≤6)=false:=decide_eq_false h2;go_wp2_with fail;go_ret;exact ⟨⟨_,rfl,fun h=>by cases h⟩,HN⟩
  ·have ao:(r==0)=false:=beq_false_of_ne h0;have HN:=hid (New.refl w);clear hr h0 h1;replace aa:=hid aa;go_in;go_wp2_with fail;refine zM (aa _) fun w1 hn=>?_;replace HN:=tW HN hn;clear hn;go_wp2_with fail;go_ret;exact ⟨⟨_,rfl,fun h=>by cases h⟩,HN⟩
 ·have ac:¬(v.size:Int)≤14:=by omega
  have al:decide ((v.size:Int)≤14)=false:=decide_eq_false ac;clear h1;go_in;go_wp2_with fail;go_ret;exact ⟨⟨_,rfl,fun h=>by cases h⟩,New.refl _⟩
theorem fbl_of_len {q:Rat}{n k:Nat}(h:(ratText q).length≤n)(hk:4*n≤k)(hk1:1≤k):FB k q:=by
 have ab:∀ m,10^m≤2^(4*m):=fun m=>by
  rw[Nat.pow_mul];exact Nat.pow_le_pow_left (by decide) m
 have aa:∀ m,m≤n→10^m≤2^k:=fun m hm=>Nat.le_trans (ab m) (Nat.pow_le_pow_right (by omega) (by omega))
 have dl:∀ u:Nat,(decDigits u).length≤n→u < 2^k:=fun u hu=>by
  have h0:u < 10^(decDigits u).length:=by
   rw[decDigits_length];exact (nDigits_le_iff (k:=nDigits u) (by rw[←decDigits_length];exact List.length_pos_iff.2 (decDigits_ne_nil u))).1 (Nat.le_refl _)
  exact Nat.lt_of_lt_of_le h0 (aa _ hu)
 have il:(decDigits q.num.natAbs).length≤(itoa q.num).length:=by
  rcases Int.lt_or_le q.num 0 with hz | hz
  ·rw[show q.num= -(q.num.natAbs:Int) by omega,Big.itoa_neg (by omega)];simp
  ·rw[show q.num=(q.num.natAbs:Int) by omega,Big.itoa_nonneg];simp
 unfold ratText at h;split at h
 ·rename_i hd;exact ⟨dl _ (by omega),by unfold BdK;rw[hd];exact Nat.one_lt_two_pow (by omega)⟩
 ·rw[List.length_append,List.length_cons] at h;exact ⟨dl _ (by omega),by unfold BdK;rw[Int.natAbs_natCast];exact dl _ (by omega)⟩
theorem short_num {s:ByteArray}{n:Nat}(hl:s.size≤n)(he:ratErr s.data.toList=0)(h1:1≤n):∃ q:Rat,s=rs q∧FB (4*n) q:=by
 obtain ⟨q,hf,hq⟩:=ratText_of_err he;refine ⟨q,?_,fbl_of_len (n:=n) ?_ (Nat.le_refl _) (by omega)⟩
 ·apply ByteArray.ext;apply Array.toList_inj.1;rw[hq,rs_list]
 ·rw[←hq,Array.length_toList];exact hl
theorem rspan_gen (x y:Rat)(w:World)(hx:Fits x)(hy:Fits y)(hsx:(rs x).size≤100000)(hsy:(rs y).size≤100000):Calls prog 36 #[.agg #[.string (rs x),.string (rs y)]] w (RetNew w (if y < x then 11 else 0)):=by
 by_cases hxy:y < x
 case neg=>
  rw[if_neg hxy];exact rspan_calls x y w hx hy (Rat.not_lt.1 hxy) hsx hsy
 rw[if_pos hxy];have ab:=fun W=>rcmpQ_calls 2000 2000 x y W (RFB.of (Fits.fb hx)) (RFB.of (Fits.fb hy)) (by omega)
 have hs:¬(x - y).num.sign≤0:=by rw[sign_le];exact Rat.not_le.2 hxy
 obtain ⟨r,hr⟩:∃ r,(x - y).num.sign=r:=⟨_,rfl⟩;simp only[hr] at ab;rw[hr] at hs;have af:decide (0 < r)=true:=decide_eq_true (by omega)
 have aa:=fun (W:World) (B cap:Nat) (t:TypeId) (hB:Box W B t #[.string (rs x),.string (rs y)])=>rrow_calls (some ⟨B,0,none⟩) cap 2 [rs x,rs y] 0 W rfl (by omega) (box_strs hB) (by
  show (if ratErr (rs x).data.toList=0 then (if ratErr (rs y).data.toList=0 then 0 else ratErr (rs y).data.toList) else ratErr (rs x).data.toList)=0
  rw[rs_list,rs_list,ratErr_ratText hx,ratErr_ratText hy];rfl) (fun k h1=>by
   match k,h1 with
   | 0,_=>exact hsx
   | 1,_=>exact hsy)
 obtain ⟨X,hX⟩:∃ X,rs x=X:=⟨_,rfl⟩;obtain ⟨Y,hY⟩:∃ X,rs y=X:=⟨_,rfl⟩;rw[hX,hY] at aa⊢;simp only[hX,hY] at ab;clear hX hY hx hy hxy hsx hsy hr;have ae:=hid ab;have ac:=hid aa;clear ab aa;go_in;go_upto_region 1 with (fail);obtain ⟨BA,HN⟩:=lay1 w 53 #[.string X,.string Y];obtain ⟨w8,ad⟩:∃ x,w.alloc (.cells #[.string X,.string Y] 53)=x:=⟨_,rfl⟩;rw[ad] at BA HN⊢;clear ad;have pa:=BA.out.two;go_wp2_with fail;clear pa;obtain ⟨BG,hn⟩:=lay1 w8 23 #[.string X,.string Y];obtain ⟨HN,BA⟩:=zn2 hn HN BA.new;clear hn;refine zM (ac _ _ _ _ BG) fun w2 hn=>?_;clear BG;obtain ⟨HN,BA⟩:=zn2 hn HN BA.new;clear hn;have pa:=BA.out.two;go_wp2_with fail;refine zM (ae _) fun w3 hn=>?_;clear pa;replace HN:=tW HN hn;clear hn;go_wp2_with fail;go_ret;exact ⟨rfl,HN⟩
theorem rhasB_calls (x y q:Rat)(w:World)(k:Nat)(hk:k≤10000)(hx:RFB k x)(hy:RFB k y)(hq:RFB k q):Calls prog 62 #[.agg #[.string (rs x),.string (rs y)],.string (rs q)] w fun e w'=>e=.returned (.bool (decide (x≤q) && decide (q≤y)))∧New w w':=by
 by_cases h1:x≤q
 case pos=>
  by_cases h2:q≤y
  case pos=>
   rw[decide_eq_true h1,decide_eq_true h2];exact rhas_calls x y q w k hk hx hy hq h1 h2
  rw[decide_eq_true h1,decide_eq_false h2];have aa:=fun W=>rcmpQ_calls k k x q W hx hq (by omega);have ad:=fun W=>rcmpQ_calls k k q y W hq hy (by omega);have ac:=sign_le.2 h1
  have ag:¬(q - y).num.sign≤0:=by rw[sign_le];exact h2
  obtain ⟨r1,ab⟩:∃ r,(x - q).num.sign=r:=⟨_,rfl⟩;obtain ⟨r2,af⟩:∃ r,(q - y).num.sign=r:=⟨_,rfl⟩;simp only[ab] at aa;simp only[af] at ad;rw[ab] at ac;rw[af] at ag;have ai:decide (r1≤0)=true:=decide_eq_true ac;have aj:decide (r2≤0)=false:=decide_eq_false ag;obtain ⟨X,hX⟩:∃ X,rs x=X:=⟨_,rfl⟩;obtain ⟨Y,hY⟩:∃ X,rs y=X:=⟨_,rfl⟩;obtain ⟨Q,hQ⟩:∃ X,rs q=X:=⟨_,rfl⟩;rw[hX,hY,hQ];simp only[hX,hQ] at aa;simp only[hY,hQ] at ad;clear hX hY hQ hx hy hq h1 h2 ab af;have ae:=hid aa;have ah:=hid ad;clear aa ad;go_in;go_upto_region 1 with (fail);obtain ⟨BA,HN⟩:=lay1 w 53 #[.string X,.string Y];have pa:=BA.out.two;go_wp2_with fail;refine zM (ae _) fun w2 hn=>?_;clear pa;obtain ⟨HN,BA⟩:=zn2 hn HN BA.new;clear hn;have pa:=BA.out.two;go_wp2_with fail;refine zM (ah _) fun w3 hn=>?_;clear pa;replace HN:=tW HN hn;clear hn;go_wp2_with fail;go_ret;exact ⟨rfl,HN⟩
 rw[decide_eq_false h1,Bool.false_and];have aa:=fun W=>rcmpQ_calls k k x q W hx hq (by omega)
 have ac:¬(x - q).num.sign≤0:=by rw[sign_le];exact h1
 obtain ⟨r1,ab⟩:∃ r,(x - q).num.sign=r:=⟨_,rfl⟩;simp only[ab] at aa;rw[ab] at ac;have ai:decide (r1≤0)=false:=decide_eq_false ac;obtain ⟨X,hX⟩:∃ X,rs x=X:=⟨_,rfl⟩;obtain ⟨Y,hY⟩:∃ X,rs y=X:=⟨_,rfl⟩;obtain ⟨Q,hQ⟩:∃ X,rs q=X:=⟨_,rfl⟩;rw[hX,hY,hQ];simp only[hX,hQ] at aa;clear hX hY hQ hx hy hq h1 ab;have ae:=hid aa;clear aa;go_in;go_upto_region 1 with (fail);obtain ⟨BA,HN⟩:=lay1 w 53 #[.string X,.string Y];have pa:=BA.out.two;go_wp2_with fail;refine zM (ae _) fun w2 hn=>?_;clear pa;replace HN:=tW HN hn;clear hn;go_wp2_with fail;go_ret;exact ⟨rfl,HN⟩
def FewS (X Y:ByteArray)(w:World)(e:Ending)(w':World):Prop:=(∃ t:Bool,e=.returned (.bool t)∧(t=true→∃ x y:Rat,X=rs x∧Y=rs y∧FB 56 x∧FB 56 y∧x≤y))∧New w w'
theorem fw_fits {q:Rat}(h:FB 56 q):Fits q:=h.fitsN (by omega)
theorem rfewSpan_calls (X Y:ByteArray)(w:World)(hlx:(X.size:Int)≤9223372036854775807)(hly:(Y.size:Int)≤9223372036854775807):Calls prog 64 #[.agg #[.string X,.string Y],.int .i64 6] w (FewS X Y w):=by
 have ag:=fun W=>rfew6_calls X W hlx;have ah:=fun W=>rfew6_calls Y W hly;clear hlx hly;unfold FewP6 at ag ah;have ao:=hid ag;have ap:=hid ah;clear ag ah;go_in;go_upto_region 1 with (fail);obtain ⟨BA,HN⟩:=lay1 w 53 #[.string X,.string Y];obtain ⟨ai,aj,ak,al,am⟩:=BA.out.two;go_wp2_with fail;refine (ao _).mono ?_;rintro e w2 ⟨⟨t1,rfl,ac⟩,hn⟩;clear ai aj ak al am;obtain ⟨HN,BA⟩:=zn2 hn HN BA.new;clear hn
 cases t1 with
 | false=>
  clear ac;go_wp2_with fail;go_ret;exact ⟨⟨_,rfl,fun h=>by cases h⟩,HN⟩
 | true=>
  have ac:=ac rfl;have ad:=hid ac;clear ac;obtain ⟨ai,aj,ak,al,am⟩:=BA.out.two;go_wp2_with fail;refine (ap _).mono ?_;rintro e w3 ⟨⟨t2,rfl,ab⟩,hn⟩;clear ai aj ak al am;obtain ⟨HN,BA⟩:=zn2 hn HN BA.new;clear hn
  cases t2 with
  | false=>
   clear ab;go_wp2_with fail;go_ret;exact ⟨⟨_,rfl,fun h=>by cases h⟩,HN⟩
  | true=>
   have ab:=ab rfl;obtain ⟨x,ex,fx⟩:=short_num (n:=14) ad.1 ad.2 (by omega);obtain ⟨y,ey,fy⟩:=short_num (n:=14) ab.1 ab.2 (by omega);have aa:=fun W=>rspan_gen x y W (fw_fits fx) (fw_fits fy) (by have:=(RFB.of fx).len;omega) (by have:=(RFB.of fy).len;omega);rw[←ex,←ey] at aa;by_cases hxy:y < x
   ·rw[if_pos hxy] at aa;clear ab ad ex ey fx fy hxy;have af:=hid aa;clear aa;have pa:=BA.out.two;go_wp2_with fail;refine zM (af _) fun w4 hn=>?_;clear pa;replace HN:=tW HN hn;clear hn;go_wp2_with fail;go_ret;exact ⟨⟨_,rfl,fun h=>by cases h⟩,HN⟩
   ·rw[if_neg hxy] at aa;have ae:∃ x y:Rat,X=rs x∧Y=rs y∧FB 56 x∧FB 56 y∧x≤y:=⟨x,y,ex,ey,fx,fy,Rat.not_lt.1 hxy⟩;clear ab ad ex ey fx fy hxy;have af:=hid aa;have an:=hid ae;clear aa ae;have pa:=BA.out.two;go_wp2_with fail;refine zM (af _) fun w4 hn=>?_;clear pa;replace HN:=tW HN hn;clear hn;go_wp2_with fail;go_ret;exact ⟨⟨_,rfl,fun _=>an⟩,HN⟩
theorem enter_add (args:Array Value)(W:World):Sem.run prog (callFunc 92 args) W=.ok (.enter 92 args) W:=by kernel_rfl
theorem enter_sub (args:Array Value)(W:World):Sem.run prog (callFunc 93 args) W=.ok (.enter 93 args) W:=by kernel_rfl
structure SpanOk (x0 x1:Rat):Prop where
 f0:FB 300 x0
 f1:FB 300 x1
 le:x0≤x1
theorem SpanOk.len {x:Rat}(h:FB 300 x):(rs x).size≤100000:=by have:=(RFB.of h).len;omega
theorem SpanOk.chk {x0 x1:Rat}(h:SpanOk x0 x1)(w:World)(he:Env w):Calls prog 51 #[.agg #[.string (rs x0),.string (rs x1)]] w (RetNew w 0):=by
 have h1:=ncheckSpan_ok x0 x1 (rs x0) (rs x1) (rs_list _) (rs_list _) (h.f0.fitsN (by omega)) (h.f1.fitsN (by omega)) (SpanOk.len h.f0) (SpanOk.len h.f1) w he;rw[if_neg (Rat.not_lt.2 h.le)] at h1;exact h1
theorem SpanOk.rchk {x0 x1:Rat}(h0:FB 1800 x0)(h1:FB 1800 x1)(h:x0≤x1)(w:World):Calls prog 36 #[.agg #[.string (rs x0),.string (rs x1)]] w (RetNew w 0):=
 rspan_calls x0 x1 w (h0.fitsN (by omega)) (h1.fitsN (by omega)) h (by have:=(RFB.of h0).len;omega) (by have:=(RFB.of h1).len;omega)
theorem combine_enc {x0 x1 y0 y1:Rat} (ha:SpanOk x0 x1) (hb:SpanOk y0 y1) (fn:Nat) (op:Rat→Rat→Rat) (hcf:∀ (args:Array Value) (W:World),Sem.run prog (callFunc fn args) W=.ok (.enter fn args) W)
  (hop:∀ x y,FB 300 x→FB 300 y→(y=y0∨y=y1)→∀ W va vb,IsFrac W va x→IsFrac W vb y→Calls prog fn #[va,vb] W (FracPost W (op x y)))
  (hfb:∀ x y,FB 300 x→FB 300 y→(y=y0∨y=y1)→FB 700 (op x y)):
  ∃ L H:Rat,L=min4 (op x0 y0) (op x0 y1) (op x1 y0) (op x1 y1)∧H=max4 (op x0 y0) (op x0 y1) (op x1 y0) (op x1 y1)∧FB 700 L∧FB 700 H∧
   ∀ W,Env W→Calls prog 141 #[.agg #[.string (rs x0),.string (rs x1)],.agg #[.string (rs y0),.string (rs y1)],.func (.func fn) #[] #[]] W (SpPost W (rs L) (rs H) 0):=by
 have fx:∀ x,(x=x0∨x=x1)→FB 300 x:=fun x h=>h.elim (fun e=>by rw[e];exact ha.f0) (fun e=>by rw[e];exact ha.f1);have fy:∀ x,(x=y0∨x=y1)→FB 300 x:=fun x h=>h.elim (fun e=>by rw[e];exact hb.f0) (fun e=>by rw[e];exact hb.f1);have k:=fun x y (hx:x=x0∨x=x1) (hy:y=y0∨y=y1)=>hfb x y (fx x hx) (fy y hy) hy;have aa:=k x0 y0 (.inl rfl) (.inl rfl);have ab:=k x0 y1 (.inl rfl) (.inr rfl);have ac:=k x1 y0 (.inr rfl) (.inl rfl);have ad:=k x1 y1 (.inr rfl) (.inr rfl)
 exact ⟨_,_,rfl,rfl,((aa.minR ab).minR ac).minR ad,((aa.maxR ab).maxR ac).maxR ad,fun W hW=>
  combine_calls (rs x0) (rs x1) (rs y0) (rs y1) x0 x1 y0 y1 (rs_list _) (rs_list _) (rs_list _) (rs_list _) (SpanOk.len ha.f0) (SpanOk.len ha.f1) (SpanOk.len hb.f0) (SpanOk.len hb.f1) fn op hcf
   (fun x y hx hy W va vb h1 h2=>hop x y (fx x hx) (fy y hy) hy W va vb h1 h2) (fun x y hx hy=>(k x y hx hy).mono (by omega)) W hW⟩
theorem plus_enc {x0 x1 y0 y1:Rat}(ha:SpanOk x0 x1)(hb:SpanOk y0 y1):∃ L H:Rat,FB 700 L∧FB 700 H∧L≤H∧(∀ x y,x0≤x→x≤x1→y0≤y→y≤y1→L≤x+y∧x+y≤H)∧
  ∀ W,Env W→Calls prog 52 #[.agg #[.string (rs x0),.string (rs x1)],.agg #[.string (rs y0),.string (rs y1)]] W (SpPost W (rs L) (rs H) 0):=by
 obtain ⟨L,H,hL,hH,k1,k2,hc⟩:=combine_enc ha hb 92 (fun x y=>x+y) enter_add (fun x y hx hy _ W va vb h1 h2=>fadd_calls va vb x y 300 300 W h1 h2 hx hy (by omega)) (fun x y hx hy _=>(FB.add hx hy).mono (by omega));obtain ⟨m1,m2,m3,m4⟩:=min4_le (x0+y0) (x0+y1) (x1+y0) (x1+y1);obtain ⟨M1,M2,M3,M4⟩:=max4_ge (x0+y0) (x0+y1) (x1+y0) (x1+y1);have eL:L=min4 (x0+y0) (x0+y1) (x1+y0) (x1+y1):=hL;have eH:H=max4 (x0+y0) (x0+y1) (x1+y0) (x1+y1):=hH;rw[←eL] at m1 m2 m3 m4;rw[←eH] at M1 M2 M3 M4;refine ⟨L,H,k1,k2,Rat.le_trans m1 M1,fun x y a0 a1 b0 b1=>plus_mem a0 a1 b0 b1 m1 M4,fun W hW=>nplus_calls _ _ _ _ _ _ _ (fun W hW=>opspans_all _ _ _ _ _ _ _ 0 0 0 rfl (fun W h=>ha.chk W h) (fun W h=>hb.chk W h) (fun _ W hW=>hc W hW) (fun h=>absurd rfl h) W hW) W hW⟩
theorem minus_enc {x0 x1 y0 y1:Rat}(ha:SpanOk x0 x1)(hb:SpanOk y0 y1):∃ L H:Rat,FB 700 L∧FB 700 H∧L≤H∧(∀ x y,x0≤x→x≤x1→y0≤y→y≤y1→L≤x - y∧x - y≤H)∧
  ∀ W,Env W→Calls prog 53 #[.agg #[.string (rs x0),.string (rs x1)],.agg #[.string (rs y0),.string (rs y1)]] W (SpPost W (rs L) (rs H) 0):=by
 obtain ⟨L,H,hL,hH,k1,k2,hc⟩:=combine_enc ha hb 93 (fun x y=>x - y) enter_sub (fun x y hx hy _ W va vb h1 h2=>fsub_calls va vb x y 300 300 W h1 h2 hx hy (by omega)) (fun x y hx hy _=>(FB.sub hx hy).mono (by omega));obtain ⟨m1,m2,m3,m4⟩:=min4_le (x0 - y0) (x0 - y1) (x1 - y0) (x1 - y1);obtain ⟨M1,M2,M3,M4⟩:=max4_ge (x0 - y0) (x0 - y1) (x1 - y0) (x1 - y1);have eL:L=min4 (x0 - y0) (x0 - y1) (x1 - y0) (x1 - y1):=hL;have eH:H=max4 (x0 - y0) (x0 - y1) (x1 - y0) (x1 - y1):=hH;rw[←eL] at m1 m2 m3 m4;rw[←eH] at M1 M2 M3 M4;refine ⟨L,H,k1,k2,Rat.le_trans m1 M1,fun x y a0 a1 b0 b1=>minus_mem a0 a1 b0 b1 m2 M3,fun W hW=>nminus_calls _ _ _ _ _ _ _ (fun W hW=>opspans_all _ _ _ _ _ _ _ 0 0 0 rfl (fun W h=>ha.chk W h) (fun W h=>hb.chk W h) (fun _ W hW=>hc W hW) (fun h=>absurd rfl h) W hW) W hW⟩
theorem times_enc {x0 x1 y0 y1:Rat}(ha:SpanOk x0 x1)(hb:SpanOk y0 y1):∃ L H:Rat,FB 700 L∧FB 700 H∧L≤H∧(∀ x y,x0≤x→x≤x1→y0≤y→y≤y1→L≤x*y∧x*y≤H)∧
  ∀ W,Env W→Calls prog 54 #[.agg #[.string (rs x0),.string (rs x1)],.agg #[.string (rs y0),.string (rs y1)]] W (SpPost W (rs L) (rs H) 0):=by
 obtain ⟨L,H,hL,hH,k1,k2,hc⟩:=combine_enc ha hb 94 (fun x y=>x*y) enter_mul (fun x y hx hy _ W va vb h1 h2=>fmul_calls va vb x y 300 300 W h1 h2 hx hy (by omega)) (fun x y hx hy _=>(FB.mul hx hy).mono (by omega));obtain ⟨m1,m2,m3,m4⟩:=min4_le (x0*y0) (x0*y1) (x1*y0) (x1*y1);obtain ⟨M1,M2,M3,M4⟩:=max4_ge (x0*y0) (x0*y1) (x1*y0) (x1*y1);have eL:L=min4 (x0*y0) (x0*y1) (x1*y0) (x1*y1):=hL;have eH:H=max4 (x0*y0) (x0*y1) (x1*y0) (x1*y1):=hH;rw[←eL] at m1 m2 m3 m4;rw[←eH] at M1 M2 M3 M4;refine ⟨L,H,k1,k2,Rat.le_trans m1 M1,fun x y a0 a1 b0 b1=>times_mem a0 a1 b0 b1 m1 m2 m3 m4 M1 M2 M3 M4,fun W hW=>ntimes_calls _ _ _ _ _ _ _ (fun W hW=>opspans_all _ _ _ _ _ _ _ 0 0 0 rfl (fun W h=>ha.chk W h) (fun W h=>hb.chk W h) (fun _ W hW=>hc W hW) (fun h=>absurd rfl h) W hW) W hW⟩
theorem pos_num {y:Rat}:0 < y ↔ 0 < y.num:=by
 rw[←Rat.not_le,←Int.not_le]
 exact not_congr (by
  constructor
  ·intro h;have h1:0≤(-y).num:=Rat.num_nonneg.2 (by grind);rw[Rat.neg_num] at h1;omega
  ·intro h;have h1:0≤ -y:=Rat.num_nonneg.1 (by rw[Rat.neg_num];omega)
   grind)
theorem neg_num' {y:Rat}:y < 0 ↔ y.num < 0:=by
 rw[←Rat.not_le,←Int.not_le];exact not_congr Rat.num_nonneg.symm
theorem over_enc {x0 x1 y0 y1:Rat}(ha:SpanOk x0 x1)(hb:SpanOk y0 y1)(hs:0 < y0∨y1 < 0):∃ L H:Rat,FB 700 L∧FB 700 H∧L≤H∧(∀ x y,x0≤x→x≤x1→y0≤y→y≤y1→L≤x / y∧x / y≤H)∧
  ∀ W,Env W→Calls prog 55 #[.agg #[.string (rs x0),.string (rs x1)],.agg #[.string (rs y0),.string (rs y1)]] W (SpPost W (rs L) (rs H) 0):=by
 have ac:=hb.le
 have aa:∀ y,(y=y0∨y=y1)→y≠0:=fun y h=>by rcases h with rfl | rfl <;> rcases hs with h | h <;> grind
 obtain ⟨L,H,hL,hH,k1,k2,hc⟩:=combine_enc ha hb 95 (fun x y=>x / y) enter_div (fun x y hx hy h W va vb h1 h2=>fdiv_calls va vb x y 300 300 W h1 h2 hx hy (by omega) (aa y h)) (fun x y hx hy h=>(FB.div hx hy (aa y h)).mono (by omega));obtain ⟨m1,m2,m3,m4⟩:=min4_le (x0 / y0) (x0 / y1) (x1 / y0) (x1 / y1);obtain ⟨M1,M2,M3,M4⟩:=max4_ge (x0 / y0) (x0 / y1) (x1 / y0) (x1 / y1);have eL:L=min4 (x0 / y0) (x0 / y1) (x1 / y0) (x1 / y1):=hL;have eH:H=max4 (x0 / y0) (x0 / y1) (x1 / y0) (x1 / y1):=hH;rw[←eL] at m1 m2 m3 m4;rw[←eH] at M1 M2 M3 M4;have ab:0 < y0.num∨y1.num < 0:=hs.imp pos_num.1 neg_num'.1;refine ⟨L,H,k1,k2,Rat.le_trans m1 M1,fun x y a0 a1 b0 b1=>over_mem a0 a1 b0 b1 hs m1 m2 m3 m4 M1 M2 M3 M4,fun W hW=>nover_all _ _ _ _ _ _ y0 y1 0 0 0 0 rfl (fun _=>⟨rs_list _,rs_list _,SpanOk.len hb.f0,SpanOk.len hb.f1⟩) (fun W h=>ha.chk W h) (fun W h=>hb.chk W h) (fun h=>absurd rfl h) (fun _ h1 h2=>absurd ab (by omega)) (fun _ _=>⟨rfl,fun W hW=>hc W hW⟩) W hW⟩
theorem over_zero {x0 x1 y0 y1:Rat}(ha:SpanOk x0 x1)(hb:SpanOk y0 y1)(h0:y0≤0)(h1:0≤y1)(W:World)(hW:Env W):Calls prog 55 #[.agg #[.string (rs x0),.string (rs x1)],.agg #[.string (rs y0),.string (rs y1)]] W (SpPost W ⟨#[]⟩ ⟨#[]⟩ 6):=by
 have h2:¬0 < y0.num:=fun h=>absurd (pos_num.2 h) (Rat.not_lt.2 h0);have h3:=Rat.num_nonneg.2 h1;exact nover_all _ _ _ _ _ _ y0 y1 0 0 0 6 rfl (fun _=>⟨rs_list _,rs_list _,SpanOk.len hb.f0,SpanOk.len hb.f1⟩) (fun W h=>ha.chk W h) (fun W h=>hb.chk W h) (fun h=>absurd rfl h) (fun _ _ _=>⟨rfl,rfl,rfl⟩) (fun _ h=>absurd h (by omega)) W hW
theorem spancmp {x0 x1 y0 y1:Rat}(ha:SpanOk x0 x1)(hb:SpanOk y0 y1)(b1 b2 b3 b4:Bool)(e1:decide (x1 < y0)=b1)(e2:decide (y1 < x0)=b2)(e3:((rs x0).toList==(rs x1).toList)=b3)(e4:((rs x0).toList==(rs y0).toList && (rs x1).toList==(rs y1).toList)=b4)(W:World)(hW:Env W):
  Calls prog 56 #[.agg #[.string (rs x0),.string (rs x1)],.agg #[.string (rs y0),.string (rs y1)]] W (NCmpPost W (if b1 then -1 else if b2 then 1 else 0) (if b1 then 0 else if b2 then 0 else if b4 && b3 then 0 else 24)):=
 ncompare_all _ _ _ _ x0 x1 y0 y1 (rs_list _) (rs_list _) (rs_list _) (rs_list _) (SpanOk.len ha.f0) (SpanOk.len ha.f1) (SpanOk.len hb.f0) (SpanOk.len hb.f1) (ha.f0.fitsN (by omega)) (ha.f1.fitsN (by omega)) (hb.f0.fitsN (by omega)) (hb.f1.fitsN (by omega)) 0 0 rfl (fun W h=>ha.chk W h) (fun W h=>hb.chk W h) b1 b2 b3 b4 e1 e2 e3 e4 W hW
theorem compare_enc {x0 x1 y0 y1:Rat}(ha:SpanOk x0 x1)(hb:SpanOk y0 y1):∃ c E:Int,(E=24∨(E=0∧∀ x y,x0≤x→x≤x1→y0≤y→y≤y1→c=(x - y).num.sign))∧
  ∀ W,Env W→Calls prog 56 #[.agg #[.string (rs x0),.string (rs x1)],.agg #[.string (rs y0),.string (rs y1)]] W (NCmpPost W c E):=by
 obtain ⟨b1,h1⟩:∃ b,decide (x1 < y0)=b:=⟨_,rfl⟩;obtain ⟨b2,h2⟩:∃ b,decide (y1 < x0)=b:=⟨_,rfl⟩;obtain ⟨b3,h3⟩:∃ b,((rs x0).toList==(rs x1).toList)=b:=⟨_,rfl⟩;obtain ⟨b4,h4⟩:∃ b,((rs x0).toList==(rs y0).toList && (rs x1).toList==(rs y1).toList)=b:=⟨_,rfl⟩;refine ⟨_,_,?_,fun W hW=>spancmp ha hb b1 b2 b3 b4 h1 h2 h3 h4 W hW⟩
 cases b1 with
 | true=>exact .inr ⟨rfl,fun x y a0 a1 b0 b1=>(csgn_lt (by have:=of_decide_eq_true h1;grind)).symm⟩
 | false=>
  cases b2 with
  | true=>exact .inr ⟨rfl,fun x y a0 a1 b0 b1=>(csgn_gt (by have:=of_decide_eq_true h2;grind)).symm⟩
  | false=>
   cases b4 with
   | false=>exact .inl rfl
   | true=>
    cases b3 with
    | false=>exact .inl rfl
    | true=>
     refine .inr ⟨rfl,fun x y a0 a1 b0 b1=>?_⟩;rw[Bool.and_eq_true,beq_iff_eq,beq_iff_eq] at h4;rw[beq_iff_eq] at h3
     have tl:∀ {p q:Rat},(rs p).toList=(rs q).toList→p=q:=fun {p q} h=>by
      rw[ByteArray.toList_eq,ByteArray.toList_eq,rs_list,rs_list]at h;exact ratText_inj h
     have e1:=tl h4.1;have e2:=tl h4.2;have e3:=tl h3;subst e3;subst e1;subst e2;have hx:x=x0:=Rat.le_antisymm a1 a0;have hy:y=x0:=Rat.le_antisymm b1 b0;rw[hx,hy,csgn_eq];rfl
theorem RFB.sub {j k:Nat}{a b:Rat}(ha:RFB j a)(hb:RFB k b):RFB (j+k+1) (a - b):=by
 rw[Rat.sub_eq_add_neg];exact ha.add hb.neg
abbrev partQ (p:Nat):Rat:=Rat.divInt (p:Int) ((255:Nat):Int)
theorem partQ_bd {p:Nat}(h:p≤255):0≤partQ p∧partQ p≤1:=by
 have e:partQ p*255=((p:Int):Rat):=by
  unfold partQ;rw[Rat.divInt_eq_div];exact Rat.div_mul_cancel (by decide)
 have h0:(0:Rat)≤((p:Int):Rat):=Rat.intCast_le_intCast.2 (show (0:Int)≤p by omega);have h1:((p:Int):Rat)≤((255:Int):Rat):=Rat.intCast_le_intCast.2 (by omega);have h2:((255:Int):Rat)=255:=rfl;rw[h2] at h1;generalize partQ p=t at e⊢;generalize ((p:Int):Rat)=z at e h0 h1;exact ⟨by grind,by grind⟩
theorem lwithin_calls (x0 x1:Rat)(p:Nat)(w:World)(hp:p≤255)(b0:RFB 56 x0)(b1:RFB 56 x1):Calls prog 47 #[.agg #[.string (rs x0),.string (rs x1)],.int .u8 (p:Int)] w (RetS w (x0+partQ p*(x1 - x0))):=by
 have aa:=fun W=>(rof_calls (p:Int) 255 W (by omega) (by omega) (by omega) (by omega)).mono fun e w' h=>RetS.to rfl h;have bp:RFB 10 (partQ p):=RFB.divInt (by rw[Int.natAbs_natCast];exact Nat.lt_of_le_of_lt hp (by decide)) (by decide) (by decide);have bd:=b1.sub b0;have ae:=fun W=>(rsubQ_calls 56 56 x1 x0 W b1 b0 (by omega)).mono fun e w' h=>RetS.to rfl h;have ad:=fun W=>(rmulQ_calls 10 113 (partQ p) (x1 - x0) W bp bd (by omega)).mono fun e w' h=>RetS.to rfl h;have ac:=fun W=>(raddQ_calls 56 123 x0 (partQ p*(x1 - x0)) W b0 (bp.mul bd) (by omega)).mono fun e w' h=>RetS.to rfl h;unfold RetS;obtain ⟨X,hX⟩:∃ X,rs x0=X:=⟨_,rfl⟩;obtain ⟨Y,hY⟩:∃ X,rs x1=X:=⟨_,rfl⟩;obtain ⟨T,hT⟩:∃ X,rs (partQ p)=X:=⟨_,rfl⟩;obtain ⟨D,hD⟩:∃ X,rs (x1 - x0)=X:=⟨_,rfl⟩;obtain ⟨M,hM⟩:∃ X,rs (partQ p*(x1 - x0))=X:=⟨_,rfl⟩;obtain ⟨R,hR⟩:∃ X,rs (x0+partQ p*(x1 - x0))=X:=⟨_,rfl⟩;have af:rs (Rat.divInt (p:Int) ((255:Nat):Int))=T:=hT;have ab:((255:Nat):Int)=255:=rfl;simp only[af] at aa;simp only[ab] at aa;simp only[hX,hY,hD] at ae;simp only[hT,hD,hM] at ad;simp only[hX,hM,hR] at ac;rw[hX,hY,hR];clear hX hY hT af hD hM hR ab bp bd b0 b1
 have ak:(p:Int)≤255:=by omega
 have al:IntKind.i64.wrap (p:Int)=(p:Int):=by rw[IntKind.wrap_i64] <;> omega
 clear hp;refine zh4 ?_ aa ae ad ac;clear aa ae ad ac;intro ai aj ah ag;go_in;go_upto_region 1 with (fail);obtain ⟨BA,HN⟩:=lay1 w 53 #[.string X,.string Y];have pa:=BA.out.two;clear pa;refine zR 12 13 (fun W=>zC W w.heap.size (.string X) (.string Y)) ?_;refine zT 0 (cW2 BA) ?_;refine zT 1 (cW2 BA) ?_;refine zT 2 (cW2 BA) ?_;refine zT 3 (cW2 BA) ?_;refine zT 5 (cW2 BA) ?_;refine zT 6 (cW2 BA) ?_;refine zT 7 (cW2 BA) ?_;refine zT 8 (cW2 BA) ?_;refine tk1 4 fun K hK=>?_;go_simp;refine zM (ai _) fun w3 hn=>?_;obtain ⟨HN,BA⟩:=zn2 hn.undrew HN BA.new;clear hn;refine zK hK (cW2 BA) ?_;clear hK K;refine tk1 9 fun K hK=>?_;go_simp;refine zM (aj _) fun w4 hn=>?_;obtain ⟨HN,BA⟩:=zn2 hn HN BA.new;clear hn;refine zK hK (cW2 BA) ?_;clear hK K;refine tk1 10 fun K hK=>?_;go_simp;refine zM (ah _) fun w5 hn=>?_;obtain ⟨HN,BA⟩:=zn2 hn HN BA.new;clear hn;refine zK hK (cW2 BA) ?_;clear hK K;refine tk1 11 fun K hK=>?_;go_simp;refine zM (ag _) fun w6 hn=>?_;obtain ⟨HN,BA⟩:=zn2 hn HN BA.new;clear hn;refine zK hK (cW2 BA) ?_;clear hK K;refine tlW ?_;obtain ⟨am,an,ao,ap,aq⟩:=BA.out.two;go_wp2_with fail;go_ret;exact ⟨rfl,HN⟩
end Go.Proofs.YtnjonlnemagomaaGreatDoor
