/- Part CardLn08. -/
import Derived.Maps.OwnOps
import Derived.Test.YtnjonlnemagomaaGreatDoorB37
import Derived.Test.YtnjonlnemagomaaGreatDoorCardLn07
namespace Go.Proofs.YtnjonlnemagomaaGreatDoor
open Go.RowKit Big Go.Lib Go.Proofs.Tryz
set_option maxRecDepth 100000
set_option maxHeartbeats 8000000
set_option linter.all false
abbrev GvF (w:World)(v:Value)(e:Ending)(w':World):Prop:=e=.returned v∧New w w'
theorem box_strs1 {w:World}{B:Nat}{t:TypeId}{x:ByteArray}(h:Box w B t #[.string x]):RdL w (some ⟨B,0,none⟩) (strs [x]):=fun i hi=>by
 refine ⟨B,0,rfl,?_⟩;rw[h.cell]
 match i,hi with
 | 0,_=>rfl
structure FlRow (fb:Nat)(a:Option Addr)(n cap:Nat)(fl:List Value)(X Y:ByteArray)(E C:Int)(t:Bool):Prop where
 ex:∀ W,Env W→Calls prog 40 #[.float .f32 fb] W (GvF W (.tuple #[.string X,.int .i64 E]))
 fi:∀ W,Calls prog 39 #[.float .f32 fb] W (GvF W (.bool t))
 n1:t=false→∀ W,Calls prog 21 #[.string X,.int .i64 E,.int .i64 1,.string ⟨#[]⟩] W (GvF W (.bool true))
 re:t=true→∀ W,Calls prog 46 #[.float .f32 fb] W (GvF W (.string Y))
 n2:t=true→∀ W,Calls prog 21 #[.string X,.int .i64 E,.int .i64 0,.string Y] W (GvF W (.bool true))
 c1:∀ W,RdL W a fl→Calls prog 66 #[.slice a n cap] W (GvF W (.int .i64 C))
 c2:∀ W,RdL W a fl→Calls prog 67 #[.slice a n cap] W (GvF W (.int .i64 C))
structure FlNum (x:ByteArray)(g want:Nat)(e bad:Int)(is:Bool):Prop where
 f:∀ W,Env W→Calls prog 41 #[.string x] W (GvF W (.tuple #[.float .f32 g,.int .i64 e]))
 ck:∀ W,Calls prog 18 #[.string x] W (GvF W (.int .i64 bad))
 b:bad≠0→g=0∧e=bad
 rf:bad=0→∀ W,Calls prog 68 #[.string x] W (GvF W (.tuple #[.float .f32 want,.bool is]))
 no:bad=0→is=false→g=0∧e=4
 yes:bad=0→is=true→e=0∧g=want∧(FloatKind.f32.format.order g g==some .eq)=true∧(g=0∨(FloatKind.f32.format.order g 0 != some .eq)=true)
theorem zero_eqF:(FloatKind.f32.format.order 0 0==some .eq)=true:=by decide +kernel
theorem zero_neF:(FloatKind.f32.format.order 0 0 != some .eq)=false:=by decide +kernel
theorem inf_gtF:(FloatKind.f32.format.order 2139095040 0==some .gt)=true:=by decide +kernel
theorem fin_sw {x:Nat}(hx:x < 4294967296)(h:isFin x=true):∃ (s:Bool) (y:Nat),y < 2139095040∧x=Flo.sw s y:=by
 have hr:x % 2147483648 < 2139095040:=by
  unfold isFin Ieee.Format.read at h;simp only[Flo.ssw,Flo.sbin,Flo.sinf] at h;split at h
  ·rename_i hh;split at hh
   ·omega
   ·split at hh
    ·assumption
    ·split at hh <;> cases hh
  ·cases h
 by_cases h1:x < 2147483648
 ·exact ⟨false,x,by omega,rfl⟩
 ·exact ⟨true,x - 2147483648,by omega,by show x=2147483648+_;omega⟩
theorem fq_rfbF {x:Nat}(hx:x < 4294967296)(h:isFin x=true):RFB 280 (fq x):=by
 obtain ⟨s,y,hy,rfl⟩:=fin_sw hx h;exact RFB.of (fq_fb s hy)
theorem flt_same (s:Bool){R:Nat}(h:R < 2139095040):(FloatKind.f32.format.order (fltBits s R) (fltBits s R)==some .eq)=true∧(fltBits s R=0∨(FloatKind.f32.format.order (fltBits s R) 0 != some .eq)=true):=by
 have e:fltBits s R=if (s && R != 0)=true then Flo.sw true R else R:=by
  unfold fltBits Flo.sw;rw[if_pos h,if_pos rfl,Nat.add_comm]
 have hF:Flo.Fin Ieee.single (fltBits s R)∧Flo.sval Ieee.single (fltBits s R)=if (s && R != 0)=true then -(Flo.V Ieee.single R:Int) else (Flo.V Ieee.single R:Int):=by
  rw[e];by_cases hs:(s && R != 0)=true
  ·rw[if_pos hs,if_pos hs];obtain ⟨-, -,a,b⟩:=Flo.sw_fin true h;exact ⟨a,by rw[b,if_pos rfl]⟩
  ·rw[if_neg hs,if_neg hs];obtain ⟨-, -,a,b⟩:=pos_float h;exact ⟨a,b⟩
 refine ⟨?_,?_⟩
 ·show (Ieee.single.order _ _==_)=true;rw[Flo.order_eq_iff hF.1 hF.1];exact decide_eq_true rfl
 ·by_cases h0:R=0
  ·subst h0;left
   cases s <;> rfl
  ·right;have hz:=pos_float (show 0 < 2139095040 by decide);have hV:=Flo.V_lt Ieee.single (r:=0) (r':=R) (by omega);show (Ieee.single.order _ 0 != _)=true;unfold bne;rw[Flo.order_eq_iff hF.1 hz.2.2.1,hF.2,hz.2.2.2];rw[Flo.V_zero] at hV⊢
   have:¬(if (s && R != 0)=true then -(Flo.V Ieee.single R:Int) else (Flo.V Ieee.single R:Int))=((0:Nat):Int):=by
    split <;> omega
   rw[decide_eq_false this];rfl
theorem floats_walk (fb:Nat) (x:ByteArray) (a:Option Addr) (n cap:Nat) (fl:List Value) (X Y:ByteArray) (E C er bad:Int) (g want:Nat) (t is:Bool) (w:World) (he:Env w) (hr:RdL w a fl) (hsz:x.size≤9223372036854775807) (hn:n≤9223372036854775807)
  (hrow:FlRow fb a n cap fl X Y E C t) (ac:x.size≤60→FlNum x g want er bad is):
  Calls prog 10 #[.float .f32 fb,.string x,.slice a n cap] w fun e w'=>e=.returned (.bool true)∧New w w':=by
 have ao:=fun (W:World) (B cap:Nat) (t:TypeId) (hB:Box W B t #[.string x])=>lwide_calls (some ⟨B,0,none⟩) cap 1 [x] W rfl (by omega) (box_strs1 hB) (fun k h1=>by
  match k,h1 with
  | 0,_=>exact hsz)
 have a5:=hrow.ex;have a6:=hrow.fi;have al:=hrow.n1;have ai:=hrow.re;have ah:=hrow.n2;have a2:=hrow.c1;have a3:=hrow.c2;have z1:=zero_eqF;have z2:=zero_neF;have z3:=inf_gtF;have z4:=fun W=>run_float_arith (P:=prog) W .quo 62 .f32 1065353216 0 2139095040 (by decide +kernel)
 have a8:(n:Int)≤9223372036854775807:=by omega
 have cE:(C != C)=false:=bne_self_eq_false' (a:=C);clear hsz hrow hn;refine zh12 ?_ (New.refl w) he hr ac ao a5 a6 al ai ah a2 a3;clear he hr ac ao a5 a6 al ai ah a2 a3;intro HN HE HR au an a0 a1 af ak aj ap aq;go_in;go_wp2_with fail;refine zM (awake_calls _ (HE.new HN)) fun w1 hn=>?_;replace HN:=tW HN hn;clear hn;go_wp2_with fail;obtain ⟨BG,hn⟩:=lay1 w1 23 #[.string x];replace HN:=tW HN hn;clear hn;refine (an _ _ _ _ BG).mono ?_;rintro e w2 ⟨⟨t1,rfl,ay⟩,hn⟩;clear BG an;replace HN:=tW HN hn;clear hn
 cases t1 with
 | true=>
  clear ay;go_wp2_with fail;refine zM (awake_calls _ (HE.new HN)) fun a7 hn=>?_;replace HN:=tW HN hn;clear hn;go_wp2_with fail;go_ret;exact ⟨rfl,HN⟩
 | false=>
  have ac:=au.out (ay rfl 0 (by simp));have hf:=ac.f;have a4:=ac.ck
  have ab:(bad≠0∧g=0∧er=bad)∨(bad=0∧(∀ W,Calls prog 68 #[.string x] W (GvF W (.tuple #[.float .f32 want,.bool is])))∧((is=false∧g=0∧er=4)∨(is=true∧er=0∧want=g∧(FloatKind.f32.format.order g g==some .eq)=true∧(g=0∨(FloatKind.f32.format.order g 0 != some .eq)=true)))):=by
   by_cases h:bad=0
   ·refine .inr ⟨h,ac.rf h,?_⟩
    cases hi:is
    ·exact .inl ⟨rfl,ac.no h hi⟩
    ·obtain ⟨k1,k2,k3,k4⟩:=ac.yes h hi;exact .inr ⟨rfl,k1,k2.symm,k3,k4⟩
   ·exact .inl ⟨h,ac.b h⟩
  clear ay au ac;refine zh3 ?_ hf a4 ab;clear hf a4 ab;intro HF ar ag;by_cases h40:n≤40
  case neg=>
   by_cases h41:n≤4096
   ·have d1:decide ((40:Int) < (n:Int))=true:=decide_eq_true (by omega);have d2:decide ((n:Int)≤4096)=true:=decide_eq_true (by omega);clear h40 h41;go_wp2_with fail;refine zM (awake_calls _ (HE.new HN)) fun a7 hn=>?_;replace HN:=tW HN hn;clear hn;go_wp2_with fail;go_ret;exact ⟨rfl,HN⟩
   ·have d1:decide ((40:Int) < (n:Int))=true:=decide_eq_true (by omega);have d2:decide ((n:Int)≤4096)=false:=decide_eq_false (by omega);by_cases h42:n≤4098
    ·have d3:decide ((4098:Int) < (n:Int))=false:=decide_eq_false (by omega);clear h40 h41 h42;go_wp2_with fail;refine zM (a0 _ (HE.new HN)) fun w3 hn=>?_;replace HN:=tW HN hn;clear hn;go_wp2_with fail;refine zM (a1 _) fun w4 hn=>?_;replace HN:=tW HN hn;clear hn
     cases t with
     | false=>
      have al:=af.out rfl;clear af ak aj;have af:=hid al;clear al;go_wp2_with fail;refine zM (af _) fun w5 hn=>?_;replace HN:=tW HN hn;clear hn;go_wp2_with fail;refine zM (ap _ (HR.new HN)) fun w7 hn=>?_;replace HN:=tW HN hn;clear hn;go_wp2_with fail;refine zM (aq _ (HR.new HN)) fun w8 hn=>?_;replace HN:=tW HN hn;clear hn;go_wp2_with fail;refine zM (HF _ (HE.new HN)) fun w9 hn=>?_;replace HN:=tW HN hn;clear hn;go_wp2_with fail;refine zM (ar _) fun az hn=>?_;replace HN:=tW HN hn;clear hn;rcases ag.out with ⟨hb,rfl,rfl⟩ | ⟨rfl,aa,ab⟩
      ·have av:(er==0)=false:=beq_false_of_ne hb;have ax:(er != 0)=true:=bne_iff_ne.2 hb;have aw:(er==er)=true:=beq_self_eq_true er;clear hb;go_wp2_with fail;go_ret;exact ⟨rfl,HN⟩
      ·replace aa:=hid aa;rcases ab with ⟨rfl,rfl,rfl⟩ | ⟨rfl,rfl,rfl,am,ad⟩
       ·go_wp2_with fail;refine zM (aa _) fun ae hn=>?_;replace HN:=tW HN hn;clear hn;go_wp2_with fail;go_ret;exact ⟨rfl,HN⟩
       ·rcases ad with rfl | ad
        ·clear am;go_wp2_with fail;refine zM (aa _) fun ae hn=>?_;replace HN:=tW HN hn;clear hn;go_wp2_with fail;go_ret;exact ⟨rfl,HN⟩
        ·go_wp2_with fail;refine zM (aa _) fun ae hn=>?_;replace HN:=tW HN hn;clear hn;go_wp2_with fail;go_ret;exact ⟨rfl,HN⟩
     | true=>
      have ai:=ak.out rfl;have ah:=aj.out rfl;clear af ak aj;have ak:=hid ai;have aj:=hid ah;clear ai ah;go_wp2_with fail;refine zM (ak _) fun w5 hn=>?_;replace HN:=tW HN hn;clear hn;go_wp2_with fail;refine zM (aj _) fun w6 hn=>?_;replace HN:=tW HN hn;clear hn;go_wp2_with fail;refine zM (ap _ (HR.new HN)) fun w7 hn=>?_;replace HN:=tW HN hn;clear hn;go_wp2_with fail;refine zM (aq _ (HR.new HN)) fun w8 hn=>?_;replace HN:=tW HN hn;clear hn;go_wp2_with fail;refine zM (HF _ (HE.new HN)) fun w9 hn=>?_;replace HN:=tW HN hn;clear hn;go_wp2_with fail;refine zM (ar _) fun az hn=>?_;replace HN:=tW HN hn;clear hn;rcases ag.out with ⟨hb,rfl,rfl⟩ | ⟨rfl,aa,ab⟩
      ·have av:(er==0)=false:=beq_false_of_ne hb;have ax:(er != 0)=true:=bne_iff_ne.2 hb;have aw:(er==er)=true:=beq_self_eq_true er;clear hb;go_wp2_with fail;go_ret;exact ⟨rfl,HN⟩
      ·replace aa:=hid aa;rcases ab with ⟨rfl,rfl,rfl⟩ | ⟨rfl,rfl,rfl,am,ad⟩
       ·go_wp2_with fail;refine zM (aa _) fun ae hn=>?_;replace HN:=tW HN hn;clear hn;go_wp2_with fail;go_ret;exact ⟨rfl,HN⟩
       ·rcases ad with rfl | ad
        ·clear am;go_wp2_with fail;refine zM (aa _) fun ae hn=>?_;replace HN:=tW HN hn;clear hn;go_wp2_with fail;go_ret;exact ⟨rfl,HN⟩
        ·go_wp2_with fail;refine zM (aa _) fun ae hn=>?_;replace HN:=tW HN hn;clear hn;go_wp2_with fail;go_ret;exact ⟨rfl,HN⟩
    ·have d3:decide ((4098:Int) < (n:Int))=true:=decide_eq_true (by omega);clear h40 h41 h42;go_wp2_with fail;refine zM (awake_calls _ (HE.new HN)) fun a7 hn=>?_;replace HN:=tW HN hn;clear hn;go_wp2_with fail;go_ret;exact ⟨rfl,HN⟩
  case pos=>
   have d1:decide ((40:Int) < (n:Int))=false:=decide_eq_false (by omega);have d3:decide ((4098:Int) < (n:Int))=false:=decide_eq_false (by omega);clear h40;go_wp2_with fail;refine zM (a0 _ (HE.new HN)) fun w3 hn=>?_;replace HN:=tW HN hn;clear hn;go_wp2_with fail;refine zM (a1 _) fun w4 hn=>?_;replace HN:=tW HN hn;clear hn
   cases t with
   | false=>
    have al:=af.out rfl;clear af ak aj;have af:=hid al;clear al;go_wp2_with fail;refine zM (af _) fun w5 hn=>?_;replace HN:=tW HN hn;clear hn;go_wp2_with fail;refine zM (ap _ (HR.new HN)) fun w7 hn=>?_;replace HN:=tW HN hn;clear hn;go_wp2_with fail;refine zM (aq _ (HR.new HN)) fun w8 hn=>?_;replace HN:=tW HN hn;clear hn;go_wp2_with fail;refine zM (HF _ (HE.new HN)) fun w9 hn=>?_;replace HN:=tW HN hn;clear hn;go_wp2_with fail;refine zM (ar _) fun az hn=>?_;replace HN:=tW HN hn;clear hn;rcases ag.out with ⟨hb,rfl,rfl⟩ | ⟨rfl,aa,ab⟩
    ·have av:(er==0)=false:=beq_false_of_ne hb;have ax:(er != 0)=true:=bne_iff_ne.2 hb;have aw:(er==er)=true:=beq_self_eq_true er;clear hb;go_wp2_with fail;go_ret;exact ⟨rfl,HN⟩
    ·replace aa:=hid aa;rcases ab with ⟨rfl,rfl,rfl⟩ | ⟨rfl,rfl,rfl,am,ad⟩
     ·go_wp2_with fail;refine zM (aa _) fun ae hn=>?_;replace HN:=tW HN hn;clear hn;go_wp2_with fail;go_ret;exact ⟨rfl,HN⟩
     ·rcases ad with rfl | ad
      ·clear am;go_wp2_with fail;refine zM (aa _) fun ae hn=>?_;replace HN:=tW HN hn;clear hn;go_wp2_with fail;go_ret;exact ⟨rfl,HN⟩
      ·go_wp2_with fail;refine zM (aa _) fun ae hn=>?_;replace HN:=tW HN hn;clear hn;go_wp2_with fail;go_ret;exact ⟨rfl,HN⟩
   | true=>
    have ai:=ak.out rfl;have ah:=aj.out rfl;clear af ak aj;replace ai:=hid ai;replace ah:=hid ah;go_wp2_with fail;refine zM (ai _) fun w5 hn=>?_;replace HN:=tW HN hn;clear hn;go_wp2_with fail;refine zM (ah _) fun w6 hn=>?_;replace HN:=tW HN hn;clear hn;go_wp2_with fail;refine zM (ap _ (HR.new HN)) fun w7 hn=>?_;replace HN:=tW HN hn;clear hn;go_wp2_with fail;refine zM (aq _ (HR.new HN)) fun w8 hn=>?_;replace HN:=tW HN hn;clear hn;go_wp2_with fail;refine zM (HF _ (HE.new HN)) fun w9 hn=>?_;replace HN:=tW HN hn;clear hn;go_wp2_with fail;refine zM (ar _) fun az hn=>?_;replace HN:=tW HN hn;clear hn;rcases ag.out with ⟨hb,rfl,rfl⟩ | ⟨rfl,aa,ab⟩
    ·have av:(er==0)=false:=beq_false_of_ne hb;have ax:(er != 0)=true:=bne_iff_ne.2 hb;have aw:(er==er)=true:=beq_self_eq_true er;clear hb;go_wp2_with fail;go_ret;exact ⟨rfl,HN⟩
    ·replace aa:=hid aa;rcases ab with ⟨rfl,rfl,rfl⟩ | ⟨rfl,rfl,rfl,am,ad⟩
     ·go_wp2_with fail;refine zM (aa _) fun ae hn=>?_;replace HN:=tW HN hn;clear hn;go_wp2_with fail;go_ret;exact ⟨rfl,HN⟩
     ·rcases ad with rfl | ad
      ·clear am;go_wp2_with fail;refine zM (aa _) fun ae hn=>?_;replace HN:=tW HN hn;clear hn;go_wp2_with fail;go_ret;exact ⟨rfl,HN⟩
      ·go_wp2_with fail;refine zM (aa _) fun ae hn=>?_;replace HN:=tW HN hn;clear hn;go_wp2_with fail;go_ret;exact ⟨rfl,HN⟩
theorem floats_law (fb:Nat)(x:ByteArray)(a:Option Addr)(cap:Nat)(l:List Nat)(w:World)(he:Env w)(hfb:fb < 4294967296)(hsz:x.size≤9223372036854775807)(hr:RdL w a (flts l))(hl:l.length≤9223372036854775807):
  Calls prog 10 #[.float .f32 fb,.string x,.slice a l.length cap] w fun e w'=>e=.returned (.bool true)∧New w w':=by
 have ag:=fun W (h:RdL W a (flts l))=>samples_new a cap l W hl h;have ah:=fun W (h:RdL W a (flts l))=>rsamples_calls a cap l W hl h
 have al:x.size≤60→∃ (g ab:Nat) (e ae:Int) (is:Bool),FlNum x g ab e ae is:=fun ac=>by
  have af:=fun W=>rcheck_calls x W (by omega);by_cases hb:ratErr x.data.toList=0
  ·obtain ⟨q,rfl,hf⟩:=short_num (n:=60) ac hb (by omega);have hf:=hf.mono (show 4*60≤240 by omega);have ai:=hf.fitsN (by omega);have aj:=fbs_len hf (by omega);obtain ⟨R,hR⟩:=nearF_ex q;rw[hb] at af;have an:=fun W=>rfloatQ_calls q 240 R W (RFB.of hf) (by omega) hR
   have am:R < 2139095040→fltErr R=0:=fun h=>by unfold fltErr;rw[if_pos h]
   have ak:¬R < 2139095040→fltErr R=4∧fltBits (decide (q.num < 0)) R=0:=fun h=>by
    unfold fltErr fltBits;rw[if_neg h,if_neg h];exact ⟨rfl,rfl⟩
   refine ⟨fltBits (decide (q.num < 0)) R,fltBits (decide (q.num < 0)) R,fltErr R,0,decide (R < 2139095040),⟨fun W hW=>?_,af,fun h=>absurd rfl h,fun _=>an,fun _ h=>?_,fun _ h=>?_⟩⟩
   ·by_cases h0:q.num=0
    ·have e0:q=0:=Rat.num_eq_zero.1 h0;subst e0;obtain rfl:=hR.zero;exact nfloat_zero (rs 0) 0 (rs_list _) ai aj h0 W hW
    ·exact nfloat_calls (rs q) q R (rs_list _) ai aj h0 hR W hW
   ·exact ⟨(ak (of_decide_eq_false h)).2,(ak (of_decide_eq_false h)).1⟩
   ·have hr:=of_decide_eq_true h;obtain ⟨k1,k2⟩:=flt_same (decide (q.num < 0)) hr;exact ⟨am hr,rfl,k1,k2⟩
  ·exact ⟨0,0,ratErr x.data.toList,ratErr x.data.toList,false,⟨fun W hW=>nfloat_err x _ rfl hb (by omega) W hW,af,fun _=>⟨rfl,rfl⟩,fun h=>absurd h hb,fun h=>absurd h hb,fun h=>absurd h hb⟩⟩
 have aa:∃ (X Y:ByteArray) (E:Int) (t:Bool),FlRow fb a l.length cap (flts l) X Y E (samplesErr l) t:=by
  have ad:=fun W=>rfin_new fb W
  cases hfin:isFin fb with
  | true=>
   rw[hfin]at ad;refine ⟨rs (fq fb),rs (fq fb),0,true,⟨fun W hW=>nexact_calls fb hfb hfin W hW,ad,(fun h=>by cases h),fun _ W=>(rexact_calls fb W hfb hfin).mono fun e w' h=>RetS.to rfl h,fun _ W=>?_,ag,ah⟩⟩;exact lnum_ok false (rs (fq fb)) W fun W' _=>rlarge_calls 280 (fq fb) W' (fq_rfbF hfb hfin) (by omega)
  | false=>
   rw[hfin]at ad;refine ⟨⟨#[]⟩,⟨#[]⟩,1,false,⟨fun W hW=>nexact_err fb hfin W,ad,fun _ W=>lnum_bad 1 ⟨#[]⟩ W (by decide),(fun h=>by cases h),(fun h=>by cases h),ag,ah⟩⟩
 obtain ⟨X,Y,E,t,aa⟩:=aa;by_cases ac:x.size≤60
 ·obtain ⟨g,ab,e,ae,is,hn⟩:=al ac;exact floats_walk fb x a l.length cap (flts l) X Y E (samplesErr l) e ae g ab t is w he hr hsz hl aa fun _=>hn
 ·exact floats_walk fb x a l.length cap (flts l) X Y E (samplesErr l) 0 0 0 0 t false w he hr hsz hl aa fun h=>absurd h ac
end Go.Proofs.YtnjonlnemagomaaGreatDoor
