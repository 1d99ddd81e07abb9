/- Part CardPn08. -/
import Derived.Deep.DeepCutAuto
import Derived.Test.YtnjonlnemagomaaGreatDoorB37
import Derived.Test.YtnjonlnemagomaaGreatDoorCardPn07
namespace Go.Proofs.YtnjonlnemagomaaGreatDoor
open Go.RowKit Big Go.Lib Go.Proofs.Tryz
set_option maxRecDepth 100000
set_option maxHeartbeats 8000000
set_option linter.all false
abbrev Gv (w:World)(v:Value)(e:Ending)(w':World):Prop:=e=.returned v∧New w w'
abbrev spv (x y:ByteArray):Value:=.agg #[.string x,.string y]
structure SpRoot (xa:ByteArray)(o1 c0 s:Int)(RL RH:ByteArray):Prop where
 f_root:∀ W,Env W→Calls prog 31 #[.string xa] W (Gv W (.tuple #[spv RL RH,.int .i64 o1]))
 f_chk:∀ W,Calls prog 18 #[.string xa] W (Gv W (.int .i64 c0))
 f_sgn:c0=0→∀ W,Calls prog 35 #[.string xa] W (Gv W (.int .i64 s))
 f_one:o1=if c0=0 then (if s < 0 then 3 else 0) else c0
 f_bad:o1≠0→RL=⟨#[]⟩∧RH=⟨#[]⟩
 f_ref:o1=0→∀ W,Calls prog 50 #[.string xa] W (Gv W (spv RL RH))
 f_big:o1=0→∀ W,Calls prog 137 #[spv RL RH] W (RetNew W 0)
structure SpAll (xa ya xb yb:ByteArray)(CA CB bad cc E nn ord:Int)(PL PH ML MH TL TH OL OH:ByteArray)(eo:Int)(hzb:Bool):Prop where
 f_na:∀ W,Env W→Calls prog 51 #[spv xa ya] W (Gv W (.int .i64 CA))
 f_ra:∀ W,Calls prog 36 #[spv xa ya] W (Gv W (.int .i64 CA))
 f_rb:∀ W,Calls prog 36 #[spv xb yb] W (Gv W (.int .i64 CB))
 f_hb:bad=if CA=0 then CB else CA
 f_p:∀ W,Env W→Calls prog 52 #[spv xa ya,spv xb yb] W (Gv W (.tuple #[spv PL PH,.int .i64 bad]))
 f_m:∀ W,Env W→Calls prog 53 #[spv xa ya,spv xb yb] W (Gv W (.tuple #[spv ML MH,.int .i64 bad]))
 f_t:∀ W,Env W→Calls prog 54 #[spv xa ya,spv xb yb] W (Gv W (.tuple #[spv TL TH,.int .i64 bad]))
 f_o:∀ W,Env W→Calls prog 55 #[spv xa ya,spv xb yb] W (Gv W (.tuple #[spv OL OH,.int .i64 eo]))
 f_c:∀ W,Env W→Calls prog 56 #[spv xa ya,spv xb yb] W (Gv W (.tuple #[.int .i64 cc,.int .i64 E]))
 f_n1:bad≠0→PL=⟨#[]⟩∧PH=⟨#[]⟩∧ML=⟨#[]⟩∧MH=⟨#[]⟩∧TL=⟨#[]⟩∧TH=⟨#[]⟩∧OL=⟨#[]⟩∧OH=⟨#[]⟩∧eo=bad∧cc=0∧E=bad
 f_rc:bad=0→∀ W,Calls prog 58 #[spv xa ya,spv xb yb] W (Gv W (.tuple #[.int .i64 ord,.int .i64 nn]))
 f_ci:bad=0→∀ W,Calls prog 57 #[.int .i64 cc,.int .i64 E,.int .i64 nn,.int .i64 ord] W (Gv W (.bool true))
 f_rp:bad=0→∀ W,Calls prog 59 #[spv xa ya,spv xb yb] W (Gv W (spv PL PH))
 f_rm:bad=0→∀ W,Calls prog 60 #[spv xa ya,spv xb yb] W (Gv W (spv ML MH))
 f_rt:bad=0→∀ W,Calls prog 61 #[spv xa ya,spv xb yb] W (Gv W (spv TL TH))
 f_bp:bad=0→∀ W,Calls prog 137 #[spv PL PH] W (RetNew W 0)
 f_bm:bad=0→∀ W,Calls prog 137 #[spv ML MH] W (RetNew W 0)
 f_bt:bad=0→∀ W,Calls prog 137 #[spv TL TH] W (RetNew W 0)
 f_hz:bad=0→∀ W,Calls prog 62 #[spv xb yb,.string ⟨#[48]⟩] W (Gv W (.bool hzb))
 f_z:bad=0→hzb=true→OL=⟨#[]⟩∧OH=⟨#[]⟩∧eo=6
 f_ro:bad=0→hzb=false→∀ W,Calls prog 63 #[spv xa ya,spv xb yb] W (Gv W (spv OL OH))
 f_bo:bad=0→hzb=false→∀ W,Calls prog 137 #[spv OL OH] W (RetNew W 0)
 f_e0:bad=0→hzb=false→eo=0
theorem box_strs4 {w:World}{B:Nat}{t:TypeId}{x y z u:ByteArray}(h:Box w B t #[.string x,.string y,.string z,.string u]):RdL w (some ⟨B,0,none⟩) (strs [x,y,z,u]):=fun i hi=>by
 refine ⟨B,0,rfl,?_⟩;rw[h.cell]
 match i,hi with
 | 0,_=>rfl
 | 1,_=>rfl
 | 2,_=>rfl
 | 3,_=>rfl
theorem spans_walk (xa ya xb yb RL RH PL PH ML MH TL TH OL OH:ByteArray) (o1 c0 s CA CB bad cc E nn ord eo:Int) (hzb:Bool) (w:World) (he:Env w)
  (hsz:xa.size≤9223372036854775807∧ya.size≤9223372036854775807∧xb.size≤9223372036854775807∧yb.size≤9223372036854775807)
  (hall:xa.size≤60→ya.size≤60→xb.size≤60→yb.size≤60→SpRoot xa o1 c0 s RL RH∧SpAll xa ya xb yb CA CB bad cc E nn ord PL PH ML MH TL TH OL OH eo hzb):
  Calls prog 8 #[.agg #[.string xa,.string ya],.agg #[.string xb,.string yb]] w fun e w'=>e=.returned (.bool true)∧New w w':=by
 have bg:=fun (W:World) (B cap:Nat) (t:TypeId) (hB:Box W B t #[.string xa,.string ya,.string xb,.string yb])=>lwide_calls (some ⟨B,0,none⟩) cap 4 [xa,ya,xb,yb] W rfl (by omega) (box_strs4 hB) (fun k h1=>by
  match k,h1 with
  | 0,_=>exact hsz.1
  | 1,_=>exact hsz.2.1
  | 2,_=>exact hsz.2.2.1
  | 3,_=>exact hsz.2.2.2)
 clear hsz;refine zh3 ?_ he hall bg;clear he hall bg;intro HE bk bc;go_in;go_upto_region 1 with (fail);obtain ⟨BA,BB,HN⟩:=lay2 w 53 #[.string xa,.string ya] 53 #[.string xb,.string yb];go_wp2_with fail;refine zM (awake_calls _ (HE.new HN)) fun w1 hn=>?_;obtain ⟨HN,BA,BB⟩:=zn3 hn HN BA.new BB.new;clear hn;obtain ⟨aa,ab,ao,ap,aq⟩:=BA.out.two;obtain ⟨ac,ad,ar,au,av⟩:=BB.out.two;go_wp2_with fail;clear aa ab ao ap aq ac ad ar au av;obtain ⟨BG,hn⟩:=lay1 w1 23 #[.string xa,.string ya,.string xb,.string yb];obtain ⟨HN,BA,BB⟩:=zn3 hn HN BA.new BB.new;clear hn;refine (bc _ _ _ _ BG).mono ?_;rintro e w2 ⟨⟨t1,rfl,b5⟩,hn⟩;clear BG bc;obtain ⟨HN,BA,BB⟩:=zn3 hn HN BA.new BB.new;clear hn
 cases t1 with
 | true=>
  clear b5;go_wp2_with fail;refine zM (awake_calls _ (HE.new HN)) fun d7 hn=>?_;replace HN:=tW HN hn;clear hn;go_wp2_with fail;go_ret;exact ⟨rfl,HN⟩
 | false=>
  have hs:=b5 rfl;obtain ⟨a8,bf⟩:=bk.out (hs 0 (by simp)) (hs 1 (by simp)) (hs 2 (by simp)) (hs 3 (by simp));clear b5 bk hs;have cj:=a8.f_root;have ck:=a8.f_chk;refine zh4 ?_ a8 bf cj ck;clear a8 bf cj ck;intro a6 ag bi cb;have pa:=BA.out.two;go_wp2_with fail;refine zM (bi _ (HE.new HN)) fun w3 hn=>?_;clear pa;obtain ⟨HN,BA,BB⟩:=zn3 hn HN BA.new BB.new;clear hn;go_upto_region 4 with (fail);obtain ⟨B5,hn⟩:=lay1 w3 53 #[.string RL,.string RH];obtain ⟨HN,BA,BB⟩:=zn3 hn HN BA.new BB.new;clear hn;obtain ⟨w4,c4⟩:∃ u,w3.alloc (.cells #[.string RL,.string RH] 53)=u:=⟨_,rfl⟩;rw[c4] at B5 BA BB HN⊢;clear c4;obtain ⟨P5,ci⟩:∃ u,w3.heap.size=u:=⟨_,rfl⟩;rw[ci] at B5⊢;clear ci;obtain ⟨aa,ab,ao,ap,aq⟩:=BA.out.two;go_wp2_with fail;refine zM (cb _) fun w5 hn=>?_;clear aa ab ao ap aq;obtain ⟨HN,BA,BB,B5⟩:=zn4 hn HN BA.new BB.new B5.new;clear hn;have cd:=HN;clear HN;have HN:=hid (New.refl w5);have bl:w.heap.size < w5.heap.size:=BA.out.lt;have bm:w.heap.size+1 < w5.heap.size:=BB.out.lt;replace bl:=hid bl;replace bm:=hid bm;go_upto_if 46 with (fail)
  go_cut [7] (fun v wx=>v=.int .i64 o1∧Hid (New w5 wx))
  case first=>
   have ho:=a6.out.f_one;by_cases h0:c0=0
   ·have hb:(c0==0)=true:=by rw[h0];rfl
    have b4:=a6.out.f_sgn h0;rw[if_pos h0] at ho
    have be:(if decide (s < 0)=true then (3:Int) else 0)=o1:=by
     rw[ho];by_cases h1:s < 0
     ·rw[if_pos h1,if_pos (decide_eq_true h1)]
     ·rw[if_neg h1,if_neg (by rw[decide_eq_true_iff];exact h1)]
    clear ho h0;replace b4:=hid b4;replace be:=hid be;have pa:=BA.out.two;go_wp2_with fail;refine zM (b4 _) fun w6 hn=>?_;clear pa;replace HN:=tW HN hn;clear hn;go_wp2_with fail;refine zM (lwhen_calls _ 3 _) fun w7 hn=>?_;rw[be.out];replace HN:=tW HN hn;clear hn;go_wp2_with fail
    go_meet
    exact ⟨rfl,HN⟩
   ·have hb:(c0==0)=false:=by simpa using h0
    rw[if_neg h0]at ho;clear h0;replace ho:=hid ho;go_wp2_with fail
    go_meet
    exact ⟨by rw[ho.out],HN⟩
  case rest=>
   obtain ⟨rfl,HX⟩:=hcut;obtain ⟨w8,c5⟩:∃ x,x=wc:=⟨_,rfl⟩;rw[←c5] at HX⊢;clear c5;have hn:=HX.out;clear HX HN;have HN:=cd;clear cd;obtain ⟨HN,BA,BB,B5⟩:=zn4 hn HN BA.new BB.new B5.new;clear hn;have ce:=HN;clear HN;have HN:=hid (New.refl w8);go_upto_region 7 with (fail)
   go_cut [74] (fun v wx=>v=.bool false∧Hid (New w8 wx))
   case first=>
    by_cases h1:o1=0
    ·have e1:(o1 != 0)=false:=by rw[h1];rfl
     have e2:(o1==0)=true:=by rw[h1];rfl
     have b3:=a6.out.f_ref h1;have b1:=a6.out.f_big h1;subst h1;replace b3:=hid b3;replace b1:=hid b1;have pa:=BA.out.two;have pe:=B5.out.two;clear pa;clear pe;refine zR 22 23 (fun W=>zC W w.heap.size (.string xa) (.string ya)∧zC W P5 (.string RL) (.string RH)) ?_;refine zTE 0 ⟨cW2 BA,cW2 B5⟩ ?_;refine zTE 1 ⟨cW2 BA,cW2 B5⟩ ?_;refine zTE 2 ⟨cW2 BA,cW2 B5⟩ ?_;refine zVE 3 ⟨cW2 BA,cW2 B5⟩ ?_;refine zVE 4 ⟨cW2 BA,cW2 B5⟩ ?_;refine zVE 5 ⟨cW2 BA,cW2 B5⟩ ?_;refine zVE 6 ⟨cW2 BA,cW2 B5⟩ ?_;refine zVE 7 ⟨cW2 BA,cW2 B5⟩ ?_;refine zVE 8 ⟨cW2 BA,cW2 B5⟩ ?_;refine zTE 9 ⟨cW2 BA,cW2 B5⟩ ?_;refine zTE 10 ⟨cW2 BA,cW2 B5⟩ ?_;refine zTE 11 ⟨cW2 BA,cW2 B5⟩ ?_;refine zTE 12 ⟨cW2 BA,cW2 B5⟩ ?_;refine zTE 13 ⟨cW2 BA,cW2 B5⟩ ?_;refine zTE 14 ⟨cW2 BA,cW2 B5⟩ ?_;refine zTE 15 ⟨cW2 BA,cW2 B5⟩ ?_;refine zTE 16 ⟨cW2 BA,cW2 B5⟩ ?_;refine zTE 17 ⟨cW2 BA,cW2 B5⟩ ?_;refine tk1 18 fun K hK=>?_
     try simp only[PE]
     go_simp;refine zM (b3 _) fun w9 hn=>?_;obtain ⟨HN,BA,B5⟩:=zn3 hn.undrew HN BA.new B5.new;clear hn;refine zKE hK ⟨cW2 BA,cW2 B5⟩ ?_;clear hK K;refine tk1 19 fun K hK=>?_
     try simp only[PE]
     go_simp;refine zM (lspans_ok RL RH _ b1) fun dq hn=>?_;obtain ⟨HN,BA,B5⟩:=zn3 hn HN BA.new B5.new;clear hn;refine zKE hK ⟨cW2 BA,cW2 B5⟩ ?_;clear hK K;refine zTE 20 ⟨cW2 BA,cW2 B5⟩ ?_;refine zTE 21 ⟨cW2 BA,cW2 B5⟩ ?_;refine tlW ?_;obtain ⟨aa,ab,ao,ap,aq⟩:=BA.out.two;obtain ⟨ah,ai,a0,a1,a2⟩:=B5.out.two;go_wp2_with fail
     go_meet
     exact ⟨rfl,HN⟩
    ·have e1:(o1 != 0)=true:=by simpa using h1
     have e2:(o1==0)=false:=by simpa using h1
     obtain ⟨rfl,rfl⟩:=a6.out.f_bad h1;have aw:=fun W=>lspans_bad o1 xa ya W h1;clear h1;have c6:=hid aw;clear aw;have pa:=BA.out.two;have pe:=B5.out.two;clear pa;clear pe;refine zR 22 23 (fun W=>zC W w.heap.size (.string xa) (.string ya)∧zC W P5 (.string ⟨#[]⟩) (.string ⟨#[]⟩)) ?_;refine zTE 0 ⟨cW2 BA,cW2 B5⟩ ?_;refine zTE 1 ⟨cW2 BA,cW2 B5⟩ ?_;refine zTE 2 ⟨cW2 BA,cW2 B5⟩ ?_;refine zTE 3 ⟨cW2 BA,cW2 B5⟩ ?_;refine zTE 4 ⟨cW2 BA,cW2 B5⟩ ?_;refine zTE 5 ⟨cW2 BA,cW2 B5⟩ ?_;refine zTE 6 ⟨cW2 BA,cW2 B5⟩ ?_;refine tk1 7 fun K hK=>?_
     try simp only[PE]
     go_simp;refine zM (c6 _) fun w9 hn=>?_;obtain ⟨HN,BA,B5⟩:=zn3 hn.undrew HN BA.new B5.new;clear hn;refine zKE hK ⟨cW2 BA,cW2 B5⟩ ?_;clear hK K;refine zTE 8 ⟨cW2 BA,cW2 B5⟩ ?_;refine zTE 9 ⟨cW2 BA,cW2 B5⟩ ?_;refine zTE 10 ⟨cW2 BA,cW2 B5⟩ ?_;refine zTE 11 ⟨cW2 BA,cW2 B5⟩ ?_;refine zTE 12 ⟨cW2 BA,cW2 B5⟩ ?_;refine zTE 13 ⟨cW2 BA,cW2 B5⟩ ?_;refine zVE 14 ⟨cW2 BA,cW2 B5⟩ ?_;refine zVE 15 ⟨cW2 BA,cW2 B5⟩ ?_;refine zVE 16 ⟨cW2 BA,cW2 B5⟩ ?_;refine zVE 17 ⟨cW2 BA,cW2 B5⟩ ?_;refine zVE 18 ⟨cW2 BA,cW2 B5⟩ ?_;refine zVE 19 ⟨cW2 BA,cW2 B5⟩ ?_;refine zVE 20 ⟨cW2 BA,cW2 B5⟩ ?_;refine zTE 21 ⟨cW2 BA,cW2 B5⟩ ?_;refine tlW ?_;obtain ⟨aa,ab,ao,ap,aq⟩:=BA.out.two;obtain ⟨ah,ai,a0,a1,a2⟩:=B5.out.two;go_wp2_with fail
     go_meet
     exact ⟨rfl,HN⟩
   case rest=>
    obtain ⟨rfl,HX⟩:=hcut;obtain ⟨dr,bn⟩:∃ x,x=wc:=⟨_,rfl⟩;rw[←bn] at HX⊢;clear bn;have hn:=HX.out;clear HX HN a6 bi cb B5;have HN:=ce;clear ce;obtain ⟨HN,BA,BB⟩:=zn3 hn HN BA.new BB.new;clear hn;have cx:=ag.out.f_ra;have cy:=ag.out.f_rb;have cr:=ag.out.f_na;have cv:=ag.out.f_p;have ct:=ag.out.f_m;have cw:=ag.out.f_t;have cu:=ag.out.f_o;have cs:=ag.out.f_c
    have cp:firstZ [CA,CB]=bad:=by
     rw[ag.out.f_hb];show (if CA=0 then (if CB=0 then 0 else CB) else CA)=_;by_cases h1:CA=0
     ·rw[if_pos h1,if_pos h1];by_cases h2:CB=0
      ·rw[if_pos h2,h2]
      ·rw[if_neg h2]
     ·rw[if_neg h1,if_neg h1]
    have dp:(CA != CA)=false:=by simp
    refine zh9 ?_ cx cy cr cv ct cw cu cs cp;clear cx cy cr cv ct cw cu cs cp;intro bh b0 bt bx bv bz bw bu db;have pa:=BA.out.two;have pb:=BB.out.two;go_upto_region 9 with (fail);clear pa;clear pb;refine zR 6 7 (fun W=>zC W w.heap.size (.string xa) (.string ya)∧zC W (w.heap.size+1) (.string xb) (.string yb)) ?_;refine zT 0 ⟨cW2 BA,cW2 BB⟩ ?_;refine zT 2 ⟨cW2 BA,cW2 BB⟩ ?_;refine tk1 1 fun K hK=>?_;go_simp;refine zM (bh _) fun dt hn=>?_;obtain ⟨HN,BA,BB⟩:=zn3 hn.undrew HN BA.new BB.new;clear hn;refine zK hK ⟨cW2 BA,cW2 BB⟩ ?_;clear hK K;refine tk1 3 fun K hK=>?_;go_simp;refine zM (b0 _) fun dh hn=>?_;obtain ⟨HN,BA,BB⟩:=zn3 hn HN BA.new BB.new;clear hn;refine zK hK ⟨cW2 BA,cW2 BB⟩ ?_;clear hK K;refine tk1 4 fun K hK=>?_;go_simp;obtain ⟨BG,hn⟩:=lay1 dh 3 #[.int .i64 CA,.int .i64 CB];obtain ⟨HN,BA,BB⟩:=zn3 hn HN BA.new BB.new;clear hn;refine zK hK ⟨cW2 BA,cW2 BB⟩ ?_;clear hK K;refine tk1 5 fun K hK=>?_;go_simp;refine zM (lfirst_calls _ _ 2 [CA,CB] _ rfl (by omega) BG.rdl) fun du hn=>?_;rw[db.out];clear BG;obtain ⟨HN,BA,BB⟩:=zn3 hn HN BA.new BB.new;clear hn;refine zK hK ⟨cW2 BA,cW2 BB⟩ ?_;clear hK K;refine tlW ?_;have pa:=BA.out.two;have pb:=BB.out.two;go_upto_region 10 with (fail);clear pa;clear pb;refine zR 4 5 (fun W=>zC W w.heap.size (.string xa) (.string ya)∧zC W (w.heap.size+1) (.string xb) (.string yb)) ?_;refine zT 0 ⟨cW2 BA,cW2 BB⟩ ?_;refine zT 2 ⟨cW2 BA,cW2 BB⟩ ?_;refine tk1 1 fun K hK=>?_;go_simp;refine zM (bt _ (HE.new HN.drew)) fun dv hn=>?_;obtain ⟨HN,BA,BB⟩:=zn3 hn.undrew HN BA.new BB.new;clear hn;refine zK hK ⟨cW2 BA,cW2 BB⟩ ?_;clear hK K;refine tk1 3 fun K hK=>?_;go_simp;refine zM (bh _) fun dw hn=>?_;obtain ⟨HN,BA,BB⟩:=zn3 hn HN BA.new BB.new;clear hn;refine zK hK ⟨cW2 BA,cW2 BB⟩ ?_;clear hK K;refine tlW ?_;have pa:=BA.out.two;have pb:=BB.out.two;go_wp2_with fail;refine zM (bx _ (HE.new HN)) fun b6 hn=>?_;clear pa pb;obtain ⟨HN,BA,BB⟩:=zn3 hn HN BA.new BB.new;clear hn;go_upto_region 13 with (fail);obtain ⟨B9,hn⟩:=lay1 b6 53 #[.string PL,.string PH];obtain ⟨HN,BA,BB⟩:=zn3 hn HN BA.new BB.new;clear hn;obtain ⟨dx,bo⟩:∃ u,b6.alloc (.cells #[.string PL,.string PH] 53)=u:=⟨_,rfl⟩;rw[bo] at B9 BA BB HN⊢;clear bo;obtain ⟨P9,a7⟩:∃ u,b6.heap.size=u:=⟨_,rfl⟩;rw[a7] at B9⊢;clear a7;have pa:=BA.out.two;have pb:=BB.out.two;go_wp2_with fail;refine zM (bv _ (HE.new HN)) fun b7 hn=>?_;clear pa pb;obtain ⟨HN,BA,BB,B9⟩:=zn4 hn HN BA.new BB.new B9.new;clear hn;go_upto_region 14 with (fail);obtain ⟨al,hn⟩:=lay1 b7 53 #[.string ML,.string MH];obtain ⟨HN,BA,BB,B9⟩:=zn4 hn HN BA.new BB.new B9.new;clear hn;obtain ⟨dy,bp⟩:∃ u,b7.alloc (.cells #[.string ML,.string MH] 53)=u:=⟨_,rfl⟩;rw[bp] at al BA BB B9 HN⊢;clear bp;obtain ⟨dg,a7⟩:∃ u,b7.heap.size=u:=⟨_,rfl⟩;rw[a7] at al⊢;clear a7;have pa:=BA.out.two;have pb:=BB.out.two;go_wp2_with fail;refine zM (bz _ (HE.new HN)) fun b8 hn=>?_;clear pa pb;obtain ⟨HN,BA,BB,B9,al⟩:=zn5 hn HN BA.new BB.new B9.new al.new;clear hn;go_upto_region 15 with (fail);obtain ⟨am,hn⟩:=lay1 b8 53 #[.string TL,.string TH];obtain ⟨HN,BA,BB,B9,al⟩:=zn5 hn HN BA.new BB.new B9.new al.new;clear hn;obtain ⟨dz,bq⟩:∃ u,b8.alloc (.cells #[.string TL,.string TH] 53)=u:=⟨_,rfl⟩;rw[bq] at am BA BB B9 al HN⊢;clear bq;obtain ⟨cg,a7⟩:∃ u,b8.heap.size=u:=⟨_,rfl⟩;rw[a7] at am⊢;clear a7;have pa:=BA.out.two;have pb:=BB.out.two;go_wp2_with fail;refine zM (bw _ (HE.new HN)) fun b9 hn=>?_;clear pa pb;obtain ⟨HN,BA,BB,B9,al,am⟩:=zn6 hn HN BA.new BB.new B9.new al.new am.new;clear hn;go_upto_region 16 with (fail);obtain ⟨an,hn⟩:=lay1 b9 53 #[.string OL,.string OH];obtain ⟨HN,BA,BB,B9,al,am⟩:=zn6 hn HN BA.new BB.new B9.new al.new am.new;clear hn;obtain ⟨d0,br⟩:∃ u,b9.alloc (.cells #[.string OL,.string OH] 53)=u:=⟨_,rfl⟩;rw[br] at an BA BB B9 al am HN⊢;clear br;obtain ⟨ch,a7⟩:∃ u,b9.heap.size=u:=⟨_,rfl⟩;rw[a7] at an⊢;clear a7;obtain ⟨aa,ab,ao,ap,aq⟩:=BA.out.two;obtain ⟨ac,ad,ar,au,av⟩:=BB.out.two;go_wp2_with fail;refine zM (bu _ (HE.new HN)) fun d1 hn=>?_;clear aa ab ao ap aq ac ad ar au av;obtain ⟨HN,BA,BB,B9,al,am,an⟩:=zn7 hn HN BA.new BB.new B9.new al.new am.new an.new;clear hn;by_cases aw:bad=0
    case neg=>
     obtain ⟨rfl,rfl,rfl,rfl,rfl,rfl,rfl,rfl,rfl,rfl,rfl⟩:=ag.out.f_n1 aw
     have e1:(E != 0)=true:=by simpa using aw
     have bb:=fun W=>lspans_bad E xa ya W aw;have b2:=fun W=>linteger_bad E 0 W aw;clear aw ag bh b0 bt bx bv bz bw bu;replace bb:=hid bb;replace b2:=hid b2;have pa:=BA.out.two;have pd:=B9.out.two;go_wp2_with fail;refine zM (bb _) fun di hn=>?_;clear pa pd;obtain ⟨HN,BA,al,am,an⟩:=zn5 hn HN BA.new al.new am.new an.new;clear hn;have pa:=BA.out.two;have pd:=al.out.two;go_wp2_with fail;refine zM (bb _) fun dj hn=>?_;clear pa pd;obtain ⟨HN,BA,am,an⟩:=zn4 hn HN BA.new am.new an.new;clear hn;have pa:=BA.out.two;have pd:=am.out.two;go_wp2_with fail;refine zM (bb _) fun dk hn=>?_;clear pa pd;obtain ⟨HN,BA,an⟩:=zn3 hn HN BA.new an.new;clear hn;have pa:=BA.out.two;have pd:=an.out.two;go_wp2_with fail;refine zM (bb _) fun dl hn=>?_;clear pa pd;replace HN:=tW HN hn;clear hn;go_wp2_with fail;refine zM (b2 _) fun dm hn=>?_;replace HN:=tW HN hn;clear hn;go_wp2_with fail;go_ret;exact ⟨rfl,HN⟩
    case pos=>
     have e1:(bad != 0)=false:=by rw[aw];rfl
     have cz:=ag.out.f_rc aw;have co:=ag.out.f_ci aw;have c2:=ag.out.f_rp aw;have c1:=ag.out.f_rm aw;have c3:=ag.out.f_rt aw;have cm:=ag.out.f_bp aw;have cl:=ag.out.f_bm aw;have cn:=ag.out.f_bt aw;have cq:=ag.out.f_hz aw;have hz:=ag.out.f_z aw;have ba:=ag.out.f_ro aw;have a9:=ag.out.f_bo aw;have bj:=ag.out.f_e0 aw;clear ag bh b0 bt bx bv bz bw bu;subst aw;refine zh12 ?_ cz co c2 c1 c3 cm cl cn cq hz ba a9;intro dd da df de bi c8 c7 c9 dc HZ cf ca;replace bj:=hid bj;clear cz co c2 c1 c3 cm cl cn cq hz ba a9;have pa:=BA.out.two;have pb:=BB.out.two;go_wp2_with fail;refine zM (dd _) fun d2 hn=>?_;clear pa pb;obtain ⟨HN,BA,BB,B9,al,am,an⟩:=zn7 hn HN BA.new BB.new B9.new al.new am.new an.new;clear hn;go_upto_region 20 with (fail);obtain ⟨aa,ab,ao,ap,aq⟩:=BA.out.two;obtain ⟨ac,ad,ar,au,av⟩:=BB.out.two;obtain ⟨ae,af,ax,ay,az⟩:=B9.out.two;obtain ⟨ah,ai,a0,a1,a2⟩:=al.out.two;obtain ⟨aj,ak,a3,a4,a5⟩:=am.out.two;refine zR 32 33 (fun W=>zC W w.heap.size (.string xa) (.string ya)∧zC W (w.heap.size+1) (.string xb) (.string yb)∧zC W P9 (.string PL) (.string PH)∧zC W dg (.string ML) (.string MH)∧W.cell? ⟨cg,0,none⟩=some (.string TL)∧W.cell? ⟨cg,1,none⟩=some (.string TH)) ?_;refine zTE 0 ⟨⟨aa,ab⟩,⟨ac,ad⟩,⟨ae,af⟩,⟨ah,ai⟩,aj,ak⟩ ?_;refine zTE 1 ⟨⟨aa,ab⟩,⟨ac,ad⟩,⟨ae,af⟩,⟨ah,ai⟩,aj,ak⟩ ?_;refine zTE 2 ⟨⟨aa,ab⟩,⟨ac,ad⟩,⟨ae,af⟩,⟨ah,ai⟩,aj,ak⟩ ?_;refine zTE 3 ⟨⟨aa,ab⟩,⟨ac,ad⟩,⟨ae,af⟩,⟨ah,ai⟩,aj,ak⟩ ?_;refine tk1 4 fun K hK=>?_
     try simp only[PE]
     go_simp;refine zM (df _) fun di hn=>?_;have hn:=hn.undrew;clear aa ab ao ap aq ac ad ar au av ae af ax ay az ah ai a0 a1 a2 aj ak a3 a4 a5;obtain ⟨HN,BA,BB,B9,al,am,an⟩:=zn7 hn HN BA.new BB.new B9.new al.new am.new an.new;clear hn;obtain ⟨aa,ab,ao,ap,aq⟩:=BA.out.two;obtain ⟨ac,ad,ar,au,av⟩:=BB.out.two;obtain ⟨ae,af,ax,ay,az⟩:=B9.out.two;obtain ⟨ah,ai,a0,a1,a2⟩:=al.out.two;obtain ⟨aj,ak,a3,a4,a5⟩:=am.out.two;refine zKE hK ⟨⟨aa,ab⟩,⟨ac,ad⟩,⟨ae,af⟩,⟨ah,ai⟩,aj,ak⟩ ?_;clear hK K;refine tk1 5 fun K hK=>?_
     try simp only[PE]
     go_simp;refine zM (lspans_ok PL PH _ c8) fun dj hn=>?_;clear aa ab ao ap aq ac ad ar au av ae af ax ay az ah ai a0 a1 a2 aj ak a3 a4 a5;obtain ⟨HN,BA,BB,B9,al,am,an⟩:=zn7 hn HN BA.new BB.new B9.new al.new am.new an.new;clear hn;obtain ⟨aa,ab,ao,ap,aq⟩:=BA.out.two;obtain ⟨ac,ad,ar,au,av⟩:=BB.out.two;obtain ⟨ae,af,ax,ay,az⟩:=B9.out.two;obtain ⟨ah,ai,a0,a1,a2⟩:=al.out.two;obtain ⟨aj,ak,a3,a4,a5⟩:=am.out.two;refine zKE hK ⟨⟨aa,ab⟩,⟨ac,ad⟩,⟨ae,af⟩,⟨ah,ai⟩,aj,ak⟩ ?_;clear hK K;refine zTE 6 ⟨⟨aa,ab⟩,⟨ac,ad⟩,⟨ae,af⟩,⟨ah,ai⟩,aj,ak⟩ ?_;refine zTE 7 ⟨⟨aa,ab⟩,⟨ac,ad⟩,⟨ae,af⟩,⟨ah,ai⟩,aj,ak⟩ ?_;refine zTE 8 ⟨⟨aa,ab⟩,⟨ac,ad⟩,⟨ae,af⟩,⟨ah,ai⟩,aj,ak⟩ ?_;refine zTE 9 ⟨⟨aa,ab⟩,⟨ac,ad⟩,⟨ae,af⟩,⟨ah,ai⟩,aj,ak⟩ ?_;refine zTE 10 ⟨⟨aa,ab⟩,⟨ac,ad⟩,⟨ae,af⟩,⟨ah,ai⟩,aj,ak⟩ ?_;refine zTE 11 ⟨⟨aa,ab⟩,⟨ac,ad⟩,⟨ae,af⟩,⟨ah,ai⟩,aj,ak⟩ ?_;refine tk1 12 fun K hK=>?_
     try simp only[PE]
     go_simp;refine zM (de _) fun dk hn=>?_;clear aa ab ao ap aq ac ad ar au av ae af ax ay az ah ai a0 a1 a2 aj ak a3 a4 a5;obtain ⟨HN,BA,BB,B9,al,am,an⟩:=zn7 hn HN BA.new BB.new B9.new al.new am.new an.new;clear hn;obtain ⟨aa,ab,ao,ap,aq⟩:=BA.out.two;obtain ⟨ac,ad,ar,au,av⟩:=BB.out.two;obtain ⟨ae,af,ax,ay,az⟩:=B9.out.two;obtain ⟨ah,ai,a0,a1,a2⟩:=al.out.two;obtain ⟨aj,ak,a3,a4,a5⟩:=am.out.two;refine zKE hK ⟨⟨aa,ab⟩,⟨ac,ad⟩,⟨ae,af⟩,⟨ah,ai⟩,aj,ak⟩ ?_;clear hK K;refine tk1 13 fun K hK=>?_
     try simp only[PE]
     go_simp;refine zM (lspans_ok ML MH _ c7) fun dl hn=>?_;clear aa ab ao ap aq ac ad ar au av ae af ax ay az ah ai a0 a1 a2 aj ak a3 a4 a5;obtain ⟨HN,BA,BB,B9,al,am,an⟩:=zn7 hn HN BA.new BB.new B9.new al.new am.new an.new;clear hn;obtain ⟨aa,ab,ao,ap,aq⟩:=BA.out.two;obtain ⟨ac,ad,ar,au,av⟩:=BB.out.two;obtain ⟨ae,af,ax,ay,az⟩:=B9.out.two;obtain ⟨ah,ai,a0,a1,a2⟩:=al.out.two;obtain ⟨aj,ak,a3,a4,a5⟩:=am.out.two;refine zKE hK ⟨⟨aa,ab⟩,⟨ac,ad⟩,⟨ae,af⟩,⟨ah,ai⟩,aj,ak⟩ ?_;clear hK K;refine zTE 14 ⟨⟨aa,ab⟩,⟨ac,ad⟩,⟨ae,af⟩,⟨ah,ai⟩,aj,ak⟩ ?_;refine zTE 15 ⟨⟨aa,ab⟩,⟨ac,ad⟩,⟨ae,af⟩,⟨ah,ai⟩,aj,ak⟩ ?_;refine zTE 16 ⟨⟨aa,ab⟩,⟨ac,ad⟩,⟨ae,af⟩,⟨ah,ai⟩,aj,ak⟩ ?_;refine zTE 17 ⟨⟨aa,ab⟩,⟨ac,ad⟩,⟨ae,af⟩,⟨ah,ai⟩,aj,ak⟩ ?_;refine zTE 18 ⟨⟨aa,ab⟩,⟨ac,ad⟩,⟨ae,af⟩,⟨ah,ai⟩,aj,ak⟩ ?_;refine zTE 19 ⟨⟨aa,ab⟩,⟨ac,ad⟩,⟨ae,af⟩,⟨ah,ai⟩,aj,ak⟩ ?_;refine zTE 20 ⟨⟨aa,ab⟩,⟨ac,ad⟩,⟨ae,af⟩,⟨ah,ai⟩,aj,ak⟩ ?_;refine tk1 21 fun K hK=>?_
     try simp only[PE]
     go_simp;refine zM (bi _) fun dm hn=>?_;clear aa ab ao ap aq ac ad ar au av ae af ax ay az ah ai a0 a1 a2 aj ak a3 a4 a5;obtain ⟨HN,BA,BB,B9,al,am,an⟩:=zn7 hn HN BA.new BB.new B9.new al.new am.new an.new;clear hn;obtain ⟨aa,ab,ao,ap,aq⟩:=BA.out.two;obtain ⟨ac,ad,ar,au,av⟩:=BB.out.two;obtain ⟨ae,af,ax,ay,az⟩:=B9.out.two;obtain ⟨ah,ai,a0,a1,a2⟩:=al.out.two;obtain ⟨aj,ak,a3,a4,a5⟩:=am.out.two;refine zKE hK ⟨⟨aa,ab⟩,⟨ac,ad⟩,⟨ae,af⟩,⟨ah,ai⟩,aj,ak⟩ ?_;clear hK K;refine tk1 22 fun K hK=>?_
     try simp only[PE]
     go_simp;refine zM (lspans_ok TL TH _ c9) fun d3 hn=>?_;clear aa ab ao ap aq ac ad ar au av ae af ax ay az ah ai a0 a1 a2 aj ak a3 a4 a5;obtain ⟨HN,BA,BB,B9,al,am,an⟩:=zn7 hn HN BA.new BB.new B9.new al.new am.new an.new;clear hn;obtain ⟨aa,ab,ao,ap,aq⟩:=BA.out.two;obtain ⟨ac,ad,ar,au,av⟩:=BB.out.two;obtain ⟨ae,af,ax,ay,az⟩:=B9.out.two;obtain ⟨ah,ai,a0,a1,a2⟩:=al.out.two;obtain ⟨aj,ak,a3,a4,a5⟩:=am.out.two;refine zKE hK ⟨⟨aa,ab⟩,⟨ac,ad⟩,⟨ae,af⟩,⟨ah,ai⟩,aj,ak⟩ ?_;clear hK K;refine zTE 23 ⟨⟨aa,ab⟩,⟨ac,ad⟩,⟨ae,af⟩,⟨ah,ai⟩,aj,ak⟩ ?_;refine zTE 24 ⟨⟨aa,ab⟩,⟨ac,ad⟩,⟨ae,af⟩,⟨ah,ai⟩,aj,ak⟩ ?_;refine zTE 25 ⟨⟨aa,ab⟩,⟨ac,ad⟩,⟨ae,af⟩,⟨ah,ai⟩,aj,ak⟩ ?_;refine zTE 26 ⟨⟨aa,ab⟩,⟨ac,ad⟩,⟨ae,af⟩,⟨ah,ai⟩,aj,ak⟩ ?_;refine zTE 27 ⟨⟨aa,ab⟩,⟨ac,ad⟩,⟨ae,af⟩,⟨ah,ai⟩,aj,ak⟩ ?_;refine zTE 28 ⟨⟨aa,ab⟩,⟨ac,ad⟩,⟨ae,af⟩,⟨ah,ai⟩,aj,ak⟩ ?_;refine zTE 29 ⟨⟨aa,ab⟩,⟨ac,ad⟩,⟨ae,af⟩,⟨ah,ai⟩,aj,ak⟩ ?_;refine tk1 30 fun K hK=>?_
     try simp only[PE]
     go_simp;refine zM (da _) fun d4 hn=>?_;clear aa ab ao ap aq ac ad ar au av ae af ax ay az ah ai a0 a1 a2 aj ak a3 a4 a5;obtain ⟨HN,BA,BB,B9,al,am,an⟩:=zn7 hn HN BA.new BB.new B9.new al.new am.new an.new;clear hn;obtain ⟨aa,ab,ao,ap,aq⟩:=BA.out.two;obtain ⟨ac,ad,ar,au,av⟩:=BB.out.two;obtain ⟨ae,af,ax,ay,az⟩:=B9.out.two;obtain ⟨ah,ai,a0,a1,a2⟩:=al.out.two;obtain ⟨aj,ak,a3,a4,a5⟩:=am.out.two;refine zKE hK ⟨⟨aa,ab⟩,⟨ac,ad⟩,⟨ae,af⟩,⟨ah,ai⟩,aj,ak⟩ ?_;clear hK K;refine zTE 31 ⟨⟨aa,ab⟩,⟨ac,ad⟩,⟨ae,af⟩,⟨ah,ai⟩,aj,ak⟩ ?_;refine tlW ?_;clear ae af ax ay az ah ai a0 a1 a2 aj ak a3 a4 a5;clear B9 al am;go_wp2_with fail;refine zM (dc _) fun d5 hn=>?_;clear aa ab ao ap aq ac ad ar au av;obtain ⟨HN,BA,BB,an⟩:=zn4 hn HN BA.new BB.new an.new;clear hn
     cases hzb with
     | true=>
      obtain ⟨rfl,rfl,rfl⟩:=HZ.out rfl;have pa:=BA.out.two;have pd:=an.out.two;go_wp2_with fail;refine zM (lspans_bad 6 xa ya _ (by decide)) fun dn hn=>?_;clear pa pd;replace HN:=tW HN hn;clear hn;go_wp2_with fail;go_ret;exact ⟨rfl,HN⟩
     | false=>
      have ba:=cf.out rfl;have a9:=ca.out rfl;obtain rfl:=bj.out rfl;clear cf ca bj HZ;replace ba:=hid ba;replace a9:=hid a9;obtain ⟨aa,ab,ao,ap,aq⟩:=BA.out.two;obtain ⟨ac,ad,ar,au,av⟩:=BB.out.two;obtain ⟨ae,af,ax,ay,az⟩:=an.out.two;go_upto_region 24 with (fail);refine zR 6 7 (fun W=>zC W w.heap.size (.string xa) (.string ya)∧zC W (w.heap.size+1) (.string xb) (.string yb)∧W.cell? ⟨ch,0,none⟩=some (.string OL)∧W.cell? ⟨ch,1,none⟩=some (.string OH)) ?_;refine zT 0 ⟨⟨aa,ab⟩,⟨ac,ad⟩,ae,af⟩ ?_;refine zT 1 ⟨⟨aa,ab⟩,⟨ac,ad⟩,ae,af⟩ ?_;refine zT 2 ⟨⟨aa,ab⟩,⟨ac,ad⟩,ae,af⟩ ?_;refine zT 3 ⟨⟨aa,ab⟩,⟨ac,ad⟩,ae,af⟩ ?_;refine tk1 4 fun K hK=>?_;go_simp;refine zM (ba _) fun dn hn=>?_;have hn:=hn.undrew;clear aa ab ao ap aq ac ad ar au av ae af ax ay az;obtain ⟨HN,BA,BB,an⟩:=zn4 hn HN BA.new BB.new an.new;clear hn;obtain ⟨aa,ab,ao,ap,aq⟩:=BA.out.two;obtain ⟨ac,ad,ar,au,av⟩:=BB.out.two;obtain ⟨ae,af,ax,ay,az⟩:=an.out.two;refine zK hK ⟨⟨aa,ab⟩,⟨ac,ad⟩,ae,af⟩ ?_;clear hK K;refine tk1 5 fun K hK=>?_;go_simp;refine zM (lspans_ok OL OH _ a9) fun d6 hn=>?_;clear aa ab ao ap aq ac ad ar au av ae af ax ay az;obtain ⟨HN,BA,BB,an⟩:=zn4 hn HN BA.new BB.new an.new;clear hn;obtain ⟨aa,ab,ao,ap,aq⟩:=BA.out.two;obtain ⟨ac,ad,ar,au,av⟩:=BB.out.two;obtain ⟨ae,af,ax,ay,az⟩:=an.out.two;refine zK hK ⟨⟨aa,ab⟩,⟨ac,ad⟩,ae,af⟩ ?_;clear hK K;refine tlW ?_;go_wp2_with fail;go_ret;exact ⟨rfl,HN⟩
end Go.Proofs.YtnjonlnemagomaaGreatDoor
