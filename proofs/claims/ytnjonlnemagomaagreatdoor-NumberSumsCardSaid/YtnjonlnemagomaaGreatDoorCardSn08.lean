/- Part CardSn08. -/
import Derived.Test.YtnjonlnemagomaaGreatDoorB37
import Derived.Test.YtnjonlnemagomaaGreatDoorCardSn07
namespace Go.Proofs.YtnjonlnemagomaaGreatDoor
open Go.RowKit Big Go.Lib Go.Proofs.Tryz
set_option maxRecDepth 100000
set_option maxHeartbeats 8000000
set_option linter.all false
theorem rs_isz (q:Rat)(w:World)(b:Bool)(hb:((rs q).toList==[48])=b):Calls prog 81 #[.string (rs q)] w fun e w'=>e=.returned (.bool b)∧New w w':=by
 obtain ⟨s,hs⟩:∃ s,rs q=s:=⟨_,rfl⟩;rw[hs] at hb⊢;clear hs;go_in;go_wp2_with fail;go_ret;exact ⟨rfl,New.refl _⟩
theorem isz_val (q:Rat):((rs q).toList==[48])=decide (q.num=0):=by
 rcases Int.lt_trichotomy q.num 0 with h1 | h1 | h1
 ·obtain ⟨s,hs,hb, -⟩:=rs_facts_neg h1;rw[hs,hb,decide_eq_false (by omega)]
 ·rw[rat_zero h1,rs_zero,ByteArray.toList_eq];rfl
 ·obtain ⟨s,hs,hb, -⟩:=rs_facts_pos h1;rw[hs,hb,decide_eq_false (by omega)]
theorem firstZ_two (a b:Int):firstZ [a,b]=if a=0 then b else a:=by
 show (if a=0 then (if b=0 then 0 else b) else a)=_;split
 ·split
  ·rename_i h;rw[h]
  ·rfl
 ·rfl
abbrev GvS (w:World)(v:Value)(e:Ending)(w':World):Prop:=e=.returned v∧New w w'
abbrev numS (s:ByteArray)(e b:Int)(r:ByteArray):Prop:=∀ W,Calls prog 21 #[.string s,.int .i64 e,.int .i64 b,.string r] W (GvS W (.bool true))
abbrev intS (n e b m:Int):Prop:=∀ W,Calls prog 57 #[.int .i64 n,.int .i64 e,.int .i64 b,.int .i64 m] W (GvS W (.bool true))
abbrev opS (f:Nat)(x y s:ByteArray)(e:Int):Prop:=∀ W,Env W→Calls prog f #[.string x,.string y] W (GvS W (.tuple #[.string s,.int .i64 e]))
abbrev refS (f:Nat)(x y r:ByteArray):Prop:=∀ W,Calls prog f #[.string x,.string y] W (GvS W (.string r))
structure SuAll (x y:ByteArray)(E1 E2 bad:Int)(SA SS SM SD RA RS RM RD:ByteArray)(EA ES EM ED C OC OE:Int)(zb:Bool):Prop where
 cx:∀ W,Calls prog 18 #[.string x] W (GvS W (.int .i64 E1))
 cy:∀ W,Calls prog 18 #[.string y] W (GvS W (.int .i64 E2))
 px:∀ W,Env W→Calls prog 75 #[.string x] W (GvS W (.int .i64 E1))
 fz:firstZ [E1,E2]=bad
 pa:opS 76 x y SA EA
 ps:opS 77 x y SS ES
 pm:opS 78 x y SM EM
 pd:opS 79 x y SD ED
 po:∀ W,Env W→Calls prog 80 #[.string x,.string y] W (GvS W (.tuple #[.int .i64 OC,.int .i64 OE]))
 bx:bad≠0→numS SA EA bad ⟨#[]⟩∧numS SS ES bad ⟨#[]⟩∧numS SM EM bad ⟨#[]⟩∧numS SD ED bad ⟨#[]⟩∧intS OC OE bad 0
 ok:bad=0→refS 45 x y RA∧numS SA EA 0 RA∧refS 38 x y RS∧numS SS ES 0 RS∧refS 32 x y RM∧numS SM EM 0 RM∧
  (∀ W,Calls prog 37 #[.string x,.string y] W (GvS W (.int .i64 C)))∧intS OC OE 0 C∧∀ W,Calls prog 81 #[.string y] W (GvS W (.bool zb))
 zero:bad=0→zb=true→numS SD ED 6 ⟨#[]⟩
 div:bad=0→zb=false→refS 65 x y RD∧numS SD ED 0 RD
theorem sums_walk (x y SA SS SM SD RA RS RM RD:ByteArray)(E1 E2 bd EA ES EM ED C OC OE:Int)(zb:Bool)(w:World)(he:Env w)(hxi:(x.size:Int)≤9223372036854775807)(hyi:(y.size:Int)≤9223372036854775807)(hall:(x.size:Int)≤1300→(y.size:Int)≤1300→SuAll x y E1 E2 bd SA SS SM SD RA RS RM RD EA ES EM ED C OC OE zb):
  Calls prog 12 #[.string x,.string y] w fun e w'=>e=.returned (.bool true)∧New w w':=by
 refine zh3 ?_ (New.refl w) he hall;clear he hall;intro HN HE ae;go_in;go_wp2_with fail;refine zM (awake_calls _ (HE.new HN)) fun w1 hn=>?_;replace HN:=tW HN hn;clear hn;by_cases g1:(1300:Int) < (x.size:Int)
 ·have d1:=decide_eq_true g1;clear g1;go_wp2_with fail;refine zM (awake_calls _ (HE.new HN)) fun w2 hn=>?_;replace HN:=tW HN hn;clear hn;go_wp2_with fail;go_ret;exact ⟨rfl,HN⟩
 have d1:=decide_eq_false g1;by_cases g2:(1300:Int) < (y.size:Int)
 ·have d2:=decide_eq_true g2;clear g1 g2;go_wp2_with fail;refine zM (awake_calls _ (HE.new HN)) fun w2 hn=>?_;replace HN:=tW HN hn;clear hn;go_wp2_with fail;go_ret;exact ⟨rfl,HN⟩
 have d2:=decide_eq_false g2;obtain ⟨av,aw,az,ax,af,aj,ah,ag,ai,au,ay,ad,ac⟩:=ae.out (by omega) (by omega)
 have d3:(E1 != E1)=false:=by simp
 clear ae g1 g2;refine zh12 ?_ av aw az ax af aj ah ag ai au ay ad;intro an a1 a3 a2 am ar ap ao aq ak al ab;have aa:=hid ac;clear av aw az ax af aj ah ag ai au ay ad ac;go_wp2_with fail;refine zM (an _) fun w2 hn=>?_;replace HN:=tW HN hn;clear hn;go_wp2_with fail;refine zM (a1 _) fun w3 hn=>?_;replace HN:=tW HN hn;clear hn;go_wp2_with fail;obtain ⟨BG,hn⟩:=lay1 w3 3 #[.int .i64 E1,.int .i64 E2];replace HN:=tW HN hn;clear hn;refine zM (lfirst_calls _ _ 2 [E1,E2] _ rfl (by omega) BG.rdl) fun w4 hn=>?_;rw[a2.out];clear BG;replace HN:=tW HN hn;clear hn;go_wp2_with fail;refine zM (a3 _ (HE.new HN)) fun w5 hn=>?_;replace HN:=tW HN hn;clear hn;go_wp2_with fail;refine zM (an _) fun w6 hn=>?_;replace HN:=tW HN hn;clear hn;go_wp2_with fail;refine zM (am _ (HE.new HN)) fun w7 hn=>?_;replace HN:=tW HN hn;clear hn;go_wp2_with fail;refine zM (ar _ (HE.new HN)) fun w8 hn=>?_;replace HN:=tW HN hn;clear hn;go_wp2_with fail;refine zM (ap _ (HE.new HN)) fun w9 hn=>?_;replace HN:=tW HN hn;clear hn;go_wp2_with fail;refine zM (ao _ (HE.new HN)) fun bk hn=>?_;replace HN:=tW HN hn;clear hn;go_wp2_with fail;refine zM (aq _ (HE.new HN)) fun bl hn=>?_;replace HN:=tW HN hn;clear hn;by_cases h0:bd=0
 case neg=>
  obtain ⟨ha,hs,hm,hd,ho⟩:=ak.out h0
  have d4:(bd != 0)=true:=by simpa using h0
  clear h0 ak al ab aa;refine zh5 ?_ ha hs hm hd ho;clear ha hs hm hd ho;intro HA HS HM HD HO;go_wp2_with fail;refine zM (HA _) fun be hn=>?_;replace HN:=tW HN hn;clear hn;go_wp2_with fail;refine zM (HS _) fun bf hn=>?_;replace HN:=tW HN hn;clear hn;go_wp2_with fail;refine zM (HM _) fun bg hn=>?_;replace HN:=tW HN hn;clear hn;go_wp2_with fail;refine zM (HD _) fun bh hn=>?_;replace HN:=tW HN hn;clear hn;go_wp2_with fail;refine zM (HO _) fun bi hn=>?_;replace HN:=tW HN hn;clear hn;go_wp2_with fail;go_ret;exact ⟨rfl,HN⟩
 obtain ⟨ra,na,a0,ns,rm,nm,rc,ic,iz⟩:=al.out h0;have ad:=ab.out h0;have ac:=aa.out h0;clear ak al ab aa;subst h0;refine zh11 ?_ ra na a0 ns rm nm rc ic iz ad ac;clear ra na a0 ns rm nm rc ic iz ad ac;intro a9 a6 bc a8 bb a7 ba a4 a5 ab aa;go_wp2_with fail;refine zM (a9 _) fun be hn=>?_;replace HN:=tW HN hn;clear hn;go_wp2_with fail;refine zM (a6 _) fun bf hn=>?_;replace HN:=tW HN hn;clear hn;go_wp2_with fail;refine zM (bc _) fun bg hn=>?_;replace HN:=tW HN hn;clear hn;go_wp2_with fail;refine zM (a8 _) fun bh hn=>?_;replace HN:=tW HN hn;clear hn;go_wp2_with fail;refine zM (bb _) fun bi hn=>?_;replace HN:=tW HN hn;clear hn;go_wp2_with fail;refine zM (a7 _) fun bm hn=>?_;replace HN:=tW HN hn;clear hn;go_wp2_with fail;refine zM (ba _) fun bn hn=>?_;replace HN:=tW HN hn;clear hn;go_wp2_with fail;refine zM (a4 _) fun bo hn=>?_;replace HN:=tW HN hn;clear hn;go_wp2_with fail;refine zM (a5 _) fun bp hn=>?_;replace HN:=tW HN hn;clear hn
 cases zb with
 | true=>
  have hz:=ab.out rfl;replace hz:=hid hz;go_wp2_with fail;refine zM (hz _) fun bj hn=>?_;replace HN:=tW HN hn;clear hn;go_wp2_with fail;go_ret;exact ⟨rfl,HN⟩
 | false=>
  obtain ⟨rd,nd⟩:=aa.out rfl;replace rd:=hid rd;replace nd:=hid nd;go_wp2_with fail;refine zM (rd _) fun bj hn=>?_;replace HN:=tW HN hn;clear hn;go_wp2_with fail;refine zM (nd _) fun bq hn=>?_;replace HN:=tW HN hn;clear hn;go_wp2_with fail;go_ret;exact ⟨rfl,HN⟩
theorem sums_bad (x y:ByteArray)(hx:x.size≤1300)(hy:y.size≤1300)(h0:err2 x y≠0):SuAll x y (ratErr x.data.toList) (ratErr y.data.toList) (err2 x y) ⟨#[]⟩ ⟨#[]⟩ ⟨#[]⟩ ⟨#[]⟩ ⟨#[]⟩ ⟨#[]⟩ ⟨#[]⟩ ⟨#[]⟩ (err2 x y) (err2 x y) (err2 x y) (err2 x y) 0 0 (err2 x y) false where
 cx:=fun W=>rcheck_calls x W (by omega)
 cy:=fun W=>rcheck_calls y W (by omega)
 px:=fun W hW=>check_calls x W hW (by omega)
 fz:=firstZ_two _ _
 pa:=fun W hW=>nadd_calls x y ⟨#[]⟩ _ (fun W hW=>noperate_err x y _ _ rfl h0 (by omega) (by omega) W hW) W hW
 ps:=fun W hW=>nsub_calls x y ⟨#[]⟩ _ (fun W hW=>noperate_err x y _ _ rfl h0 (by omega) (by omega) W hW) W hW
 pm:=fun W hW=>nmul_calls x y ⟨#[]⟩ _ (fun W hW=>noperate_err x y _ _ rfl h0 (by omega) (by omega) W hW) W hW
 pd:=fun W hW=>ndiv_err x y _ _ (if (y.toList==[48])=true then 6 else 0) _ rfl rfl rfl (by rw[if_neg h0]) h0 (by omega) (by omega) W hW
 po:=fun W hW=>norder_err x y _ rfl h0 (by omega) (by omega) W hW
 bx:=fun h=>⟨fun W=>lnum_bad _ _ W h,fun W=>lnum_bad _ _ W h,fun W=>lnum_bad _ _ W h,fun W=>lnum_bad _ _ W h,fun W=>linteger_bad _ 0 W h⟩
 ok:=fun h=>absurd h h0
 zero:=fun h=>absurd h h0
 div:=fun h=>absurd h h0
theorem sums_fit (p q:Rat)(fp:Fits p)(fq:Fits q)(hx:(rs p).size≤1300)(hy:(rs q).size≤1300):∃ (SD RD:ByteArray) (ED:Int),SuAll (rs p) (rs q) 0 0 0 (resS (p+q)) (resS (p - q)) (resS (p*q)) SD (rs (p+q)) (rs (p - q)) (rs (p*q)) RD (resE (p+q)) (resE (p - q)) (resE (p*q)) ED (p - q).num.sign (p - q).num.sign 0 (decide (q.num=0)):=by
 have ab:=fun W=>rcheck_calls (rs p) W (by omega);have ac:=fun W=>rcheck_calls (rs q) W (by omega);have ad:=fun W hW=>check_calls (rs p) W hW (by omega);rw[rs_list,ratErr_ratText fp] at ab ad;rw[rs_list,ratErr_ratText fq] at ac
 have aa:err2 (rs p) (rs q)=0:=by unfold err2;rw[rs_list,rs_list,ratErr_ratText fp,ratErr_ratText fq];rfl
 have bp:=Fits.fb fp;have bq:=Fits.fb fq;have rp:=RFB.of bp;have rq:=RFB.of bq;have op:=fun (r:Rat) (fn:Nat) (hc:∀ (args:Array Value) (W:World),Sem.run prog (callFunc fn args) W=.ok (.enter fn args) W) (ho:∀ W va vb,IsFrac W va p→IsFrac W vb q→Calls prog fn #[va,vb] W (FracPost W r)) (hb:FB 5000 r) W hW=>noperate_ok (rs p) (rs q) p q r fn (rs_list _) (rs_list _) fp fq (by omega) (by omega) hc ho (hb.mono (by omega)) W hW;have ba:=(bp.add bq).mono (show 2000+2000+1≤5000 by omega);have ae:=(bp.sub bq).mono (show 2000+2000+1≤5000 by omega);have bm:=(bp.mul bq).mono (show 2000+2000≤5000 by omega);have nu:∀ r:Rat,FB 5000 r→numS (resS r) (resE r) 0 (rs r):=fun r hb W=>lnum_ok (bigQ r) (rs r) W fun W' _=>rlargeQ_calls 5000 r W' (RFB.of hb) (by omega)
 have ag:refS 45 (rs p) (rs q) (rs (p+q))∧numS (resS (p+q)) (resE (p+q)) 0 (rs (p+q))∧refS 38 (rs p) (rs q) (rs (p - q))∧numS (resS (p - q)) (resE (p - q)) 0 (rs (p - q))∧refS 32 (rs p) (rs q) (rs (p*q))∧numS (resS (p*q)) (resE (p*q)) 0 (rs (p*q))∧
  (∀ W,Calls prog 37 #[.string (rs p),.string (rs q)] W (GvS W (.int .i64 (p - q).num.sign)))∧intS (p - q).num.sign 0 0 (p - q).num.sign∧∀ W,Calls prog 81 #[.string (rs q)] W (GvS W (.bool (decide (q.num=0)))):=
  ⟨fun W=>(raddQ_calls 2000 2000 p q W rp rq (by omega)).mono fun e w' h=>RetS.to rfl h,nu _ ba,fun W=>(rsubQ_calls 2000 2000 p q W rp rq (by omega)).mono fun e w' h=>RetS.to rfl h,nu _ ae,fun W=>(rmulQ_calls 2000 2000 p q W rp rq (by omega)).mono fun e w' h=>RetS.to rfl h,nu _ bm,fun W=>rcmpQ_calls 2000 2000 p q W rp rq (by omega),fun W=>linteger_ok _ W,fun W=>rs_isz q W _ (isz_val q)⟩
 have pa:=fun W hW=>nadd_calls (rs p) (rs q) _ _ (op _ _ enter_add (fun W va vb h1 h2=>fadd_calls va vb p q 2000 2000 W h1 h2 bp bq (by omega)) ba) W hW;have ps:=fun W hW=>nsub_calls (rs p) (rs q) _ _ (op _ _ enter_sub (fun W va vb h1 h2=>fsub_calls va vb p q 2000 2000 W h1 h2 bp bq (by omega)) ae) W hW;have pm:=fun W hW=>nmul_calls (rs p) (rs q) _ _ (op _ _ enter_mul (fun W va vb h1 h2=>fmul_calls va vb p q 2000 2000 W h1 h2 bp bq (by omega)) bm) W hW;have po:=fun W hW=>norder_ok p q fp fq (by omega) (by omega) W hW;by_cases h0:q.num=0
 ·exact ⟨⟨#[]⟩,⟨#[]⟩,6,⟨ab,ac,ad,rfl,pa,ps,pm,fun W hW=>ndiv_err (rs p) (rs q) 0 6 6 true aa (by rw[isz_val,decide_eq_true h0]) rfl rfl (by decide) (by omega) (by omega) W hW,po,fun h=>absurd rfl h,fun _=>ag,fun _ _ W=>lnum_bad 6 _ W (by decide),fun _ h=>absurd (h.symm.trans (decide_eq_true h0)) (by decide)⟩⟩
 ·have af:q≠0:=fun e=>h0 (by rw[e];rfl);have bd:=(bp.div bq af).mono (show 2000+2000≤5000 by omega);exact ⟨_,rs (p / q),_,⟨ab,ac,ad,rfl,pa,ps,pm,fun W hW=>ndiv_ok (rs p) (rs q) _ 0 _ 0 rfl rfl aa (by rw[isz_val,decide_eq_false h0]) (op _ _ enter_div (fun W va vb h1 h2=>fdiv_calls va vb p q 2000 2000 W h1 h2 bp bq (by omega) af) bd) (by omega) (by omega) W hW,po,fun h=>absurd rfl h,fun _=>ag,fun _ h=>absurd (h.symm.trans (decide_eq_false h0)) (by decide),fun _ _=>⟨fun W=>(rdivZ_calls 2000 2000 p q W rp rq (by omega) h0).mono fun e w' h=>RetS.to rfl h,nu _ bd⟩⟩⟩
theorem sums_law (x y:ByteArray)(w:World)(he:Env w)(hx:x.size≤9223372036854775807)(hy:y.size≤9223372036854775807):
  Calls prog 12 #[.string x,.string y] w fun e w'=>e=.returned (.bool true)∧New w w':=by
 by_cases g:x.size≤1300∧y.size≤1300
 ·by_cases g3:err2 x y=0
  ·obtain ⟨p,q,rfl,rfl,fp,fq⟩:=err2_ok g3;obtain ⟨SD,RD,ED,h⟩:=sums_fit p q fp fq g.1 g.2;exact sums_walk _ _ _ _ _ _ _ _ _ _ _ _ _ _ _ _ _ _ _ _ _ w he (by omega) (by omega) fun _ _=>h
  ·exact sums_walk _ _ _ _ _ _ _ _ _ _ _ _ _ _ _ _ _ _ _ _ _ w he (by omega) (by omega) fun _ _=>sums_bad x y g.1 g.2 g3
 ·exact sums_walk x y ⟨#[]⟩ ⟨#[]⟩ ⟨#[]⟩ ⟨#[]⟩ ⟨#[]⟩ ⟨#[]⟩ ⟨#[]⟩ ⟨#[]⟩ 0 0 0 0 0 0 0 0 0 0 false w he (by omega) (by omega) fun _ _=>absurd (by omega) g
end Go.Proofs.YtnjonlnemagomaaGreatDoor
