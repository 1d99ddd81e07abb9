/- Part CardRn08. -/
import Derived.Deep.DeepCutAuto
import Derived.Test.YtnjonlnemagomaaGreatDoorB37
import Derived.Test.YtnjonlnemagomaaGreatDoorCardRn07
namespace Go.Proofs.YtnjonlnemagomaaGreatDoor
open Go.RowKit Big Go.Lib Go.Proofs.Tryz
set_option maxRecDepth 100000
set_option maxHeartbeats 8000000
set_option linter.all false
abbrev GvR (w:World)(v:Value)(e:Ending)(w':World):Prop:=e=.returned v∧New w w'
theorem neg_run {P:Program}{F G:Nat}(h:Op.negFloat .f32 F=G)(W:World):Sem.run P (Op.unary .neg (.float .f32 F)) W=.ok (.float .f32 G) W:=by
 rw[←h];rfl
structure RoA (x y:ByteArray)(z bk f g:Nat)(OW:ByteArray)(e3 e4:Int):Prop where
 ex:∀ W,Env W→Calls prog 40 #[.float .f32 z] W (GvR W (.tuple #[.string OW,.int .i64 0]))
 ck:∀ W,Calls prog 18 #[.string OW] W (GvR W (.int .i64 0))
 fo:∀ W,Env W→Calls prog 41 #[.string OW] W (GvR W (.tuple #[.float .f32 bk,.int .i64 0]))
 bz:(FloatKind.f32.format.order bk z != some .eq)=false
 fa:∀ W,Env W→Calls prog 41 #[.string x] W (GvR W (.tuple #[.float .f32 f,.int .i64 e3]))
 fb:∀ W,Env W→Calls prog 41 #[.string y] W (GvR W (.tuple #[.float .f32 g,.int .i64 e4]))
 e3:e3=0∨e3=4
 e4:e4=0∨e4=4
structure RoB (x y:ByteArray)(f g o nf:Nat)(OW X D1 D2 D3 D4 NA:ByteArray)(c1 c2:Int)(s:Bool):Prop where
 f1:∀ W,Calls prog 39 #[.float .f32 f] W (GvR W (.bool true))
 f2:∀ W,Calls prog 39 #[.float .f32 g] W (GvR W (.bool true))
 ex:∀ W,Env W→Calls prog 40 #[.float .f32 f] W (GvR W (.tuple #[.string X,.int .i64 0]))
 ck:∀ W,Calls prog 18 #[.string X] W (GvR W (.int .i64 0))
 s1:∀ W,Calls prog 38 #[.string x,.string X] W (GvR W (.string D1))
 a1:∀ W,Calls prog 34 #[.string D1] W (GvR W (.string D2))
 s2:∀ W,Calls prog 38 #[.string x,.string OW] W (GvR W (.string D3))
 a2:∀ W,Calls prog 34 #[.string D3] W (GvR W (.string D4))
 cm:∀ W,Calls prog 37 #[.string D2,.string D4] W (GvR W (.int .i64 c1))
 c1:c1≤0
 cc:∀ W,Calls prog 37 #[.string x,.string y] W (GvR W (.int .i64 c2))
 le:c2≤0→(FloatKind.f32.format.order f g==some .gt)=false
 ge:0≤c2→(FloatKind.f32.format.order f g==some .lt)=false
 ng:∀ W,Calls prog 42 #[.string x] W (GvR W (.string NA))
 fn:∀ W,Env W→Calls prog 41 #[.string NA] W (GvR W (.tuple #[.float .f32 o,.int .i64 0]))
 fnf:Op.negFloat .f32 f=nf
 on:(FloatKind.f32.format.order o nf != some .eq)=false
 lt:(FloatKind.f32.format.order f 0==some .lt)=s
structure RoC (x:ByteArray)(f:Nat)(X:ByteArray):Prop where
 up:∀ W,Calls prog 43 #[.float .f32 f] W fun e w'=>(e=.returned (.tuple #[.float .f32 0,.bool false])∨∃ (r:Nat) (Y S M:ByteArray) (c3:Int),e=.returned (.tuple #[.float .f32 r,.bool true])∧c3≤0∧
  (∀ W,Calls prog 46 #[.float .f32 r] W (GvR W (.string Y)))∧(∀ W,Calls prog 45 #[.string X,.string Y] W (GvR W (.string S)))∧
  (∀ W,Calls prog 44 #[.string S] W (GvR W (.string M)))∧∀ W,Calls prog 37 #[.string x,.string M] W (GvR W (.int .i64 c3)))∧New W w'
theorem rounds_walk (x y:ByteArray) (z:Nat) (t3:Bool) (w:World) (he:Env w) (hfx:∀ W,Calls prog 30 #[.string x,.int .i64 40] W (FewP40 x W)) (hfy:∀ W,Calls prog 30 #[.string y,.int .i64 40] W (FewP40 y W))
  (hfz:∀ W,Calls prog 39 #[.float .f32 z] W (GvR W (.bool t3)))
  (hall:(x.size≤82∧ratErr x.data.toList=0)→(y.size≤82∧ratErr y.data.toList=0)→t3=true→∃ (bk f g:Nat) (OW:ByteArray) (e3 e4:Int),RoA x y z bk f g OW e3 e4∧(e3=0→e4=0→∃ (o nf:Nat) (X D1 D2 D3 D4 NA:ByteArray) (c1 c2:Int) (s:Bool),RoB x y f g o nf OW X D1 D2 D3 D4 NA c1 c2 s∧(s=false→RoC x f X))):
  Calls prog 5 #[.string x,.string y,.float .f32 z] w fun e w'=>e=.returned (.bool true)∧New w w':=by
 unfold FewP40 at hfx hfy;refine zh6 ?_ (New.refl w) he hfx hfy hfz hall;clear he hfx hfy hfz hall;intro HN HE a6 a7 a8 am;go_in;go_wp2_with fail;refine zM (awake_calls _ (HE.new HN)) fun w1 hn=>?_;replace HN:=tW HN hn;clear hn;go_wp2_with fail;refine (a6 _).mono ?_;rintro e w2 ⟨⟨t1,rfl,ap⟩,hn⟩;replace HN:=tW HN hn;clear hn
 cases t1 with
 | false=>
  clear ap;go_wp2_with fail;refine zM (awake_calls _ (HE.new HN)) fun bv hn=>?_;replace HN:=tW HN hn;clear hn;go_wp2_with fail;go_ret;exact ⟨rfl,HN⟩
 | true=>
 have ak:=ap rfl;clear ap;replace ak:=hid ak;go_wp2_with fail;refine (a7 _).mono ?_;rintro e w3 ⟨⟨t2,rfl,aq⟩,hn⟩;replace HN:=tW HN hn;clear hn
 cases t2 with
 | false=>
  clear aq;go_wp2_with fail;refine zM (awake_calls _ (HE.new HN)) fun bv hn=>?_;replace HN:=tW HN hn;clear hn;go_wp2_with fail;go_ret;exact ⟨rfl,HN⟩
 | true=>
 have al:=aq rfl;clear aq;replace al:=hid al;go_wp2_with fail;refine zM (a8 _) fun w4 hn=>?_;replace HN:=tW HN hn;clear hn
 cases t3 with
 | false=>
  go_wp2_with fail;refine zM (awake_calls _ (HE.new HN)) fun bv hn=>?_;replace HN:=tW HN hn;clear hn;go_wp2_with fail;go_ret;exact ⟨rfl,HN⟩
 | true=>
 obtain ⟨bk,f,g,OW,e3,e4,KA,KB⟩:=am.out ak.out al.out rfl;have bm:=KA.ex;have bi:=KA.ck;have bp:=KA.fo;have bw:=KA.bz;have bn:=KA.fa;have bo:=KA.fb;have bj:=KA.e3;have bl:=KA.e4;clear am ak al a6 a7 a8 KA;refine zh8 ?_ bm bi bp bn bo bj bl KB;clear bm bi bp bn bo bj bl KB;intro a0 az a5 a3 a4 ab ac ad;go_wp2_with fail;refine zM (a0 _ (HE.new HN)) fun w5 hn=>?_;replace HN:=tW HN hn;clear hn;go_wp2_with fail;refine zM (az _) fun w6 hn=>?_;replace HN:=tW HN hn;clear hn;go_wp2_with fail;refine zM (a5 _ (HE.new HN)) fun w7 hn=>?_;replace HN:=tW HN hn;clear hn;go_wp2_with fail;refine zM (a3 _ (HE.new HN)) fun w8 hn=>?_;replace HN:=tW HN hn;clear hn;go_wp2_with fail;refine zM (a4 _ (HE.new HN)) fun w9 hn=>?_;replace HN:=tW HN hn;clear hn;clear bw a0 az a5 a3 a4;by_cases h0:e3=0∧e4=0
 case neg=>
  rcases ab.out with rfl | rfl <;> rcases ac.out with rfl | rfl
  ·exact absurd ⟨rfl,rfl⟩ h0
  ·clear h0 ad ab ac;go_wp2_with fail;go_ret;exact ⟨rfl,HN⟩
  ·clear h0 ad ab ac;go_wp2_with fail;go_ret;exact ⟨rfl,HN⟩
  ·clear h0 ad ab ac;go_wp2_with fail;go_ret;exact ⟨rfl,HN⟩
 case pos=>
 obtain ⟨rfl,rfl⟩:=h0;obtain ⟨o,nf,X,D1,D2,D3,D4,NA,c1,c2,s,K,KC⟩:=ad.out rfl rfl;have h1:=K.f1;have h2:=K.f2;have h3:=K.ex;have h4:=K.ck;have h5:=K.s1;have h6:=K.a1;have h7:=K.s2;have h8:=K.a2;have h9:=K.cm;have ae:decide (0 < c1)=false:=decide_eq_false (by have:=K.c1;omega);have ag:decide (c1 > 0)=false:=ae;have bb:=K.cc;have bc:=K.le;have be:=K.ge;have bf:=K.ng;have bg:=K.fn;have ah:=fun W=>neg_run (P:=prog) K.fnf W;have ai:=K.on;have aj:=K.lt;clear K ab ac ad;refine zh12 ?_ h1 h2 h3 h4 h5 h6 h7 h8 h9 bb bc be;intro H1 H2 H3 H4 H5 H6 H7 H8 H9 aa ar ao;refine zh6 ?_ bf bg ah ai aj KC;clear h1 h2 h3 h4 h5 h6 h7 h8 h9 bb bc be bf bg ah ai aj KC;intro au av aw ax ay a9;go_wp2_with fail;refine zM (H1 _) fun bx hn=>?_;replace HN:=tW HN hn;clear hn;go_wp2_with fail;refine zM (H2 _) fun b0 hn=>?_;replace HN:=tW HN hn;clear hn;go_wp2_with fail;refine zM (H3 _ (HE.new HN)) fun b1 hn=>?_;replace HN:=tW HN hn;clear hn;go_wp2_with fail;refine zM (H4 _) fun b2 hn=>?_;replace HN:=tW HN hn;clear hn;go_wp2_with fail;refine zM (H5 _) fun b3 hn=>?_;replace HN:=tW HN hn;clear hn;go_wp2_with fail;refine zM (H6 _) fun b4 hn=>?_;replace HN:=tW HN hn;clear hn;go_wp2_with fail;refine zM (H7 _) fun b5 hn=>?_;replace HN:=tW HN hn;clear hn;go_wp2_with fail;refine zM (H8 _) fun b6 hn=>?_;replace HN:=tW HN hn;clear hn;go_wp2_with fail;refine zM (H9 _) fun br hn=>?_;replace HN:=tW HN hn;clear hn;clear H1 H2 H3 H4 H5 H6 H7 H8 H9;have ba:=HN;clear HN;have HN:=hid (New.refl br);go_upto_region 18 with (fail)
 go_cut [145] from 126 to 145 (fun x wx=>x=.bool false∧Hid (New br wx))
 case first=>
  by_cases hc:c2≤0
  ·have d1:decide (c2≤0)=true:=decide_eq_true hc;have d3:=ar.out hc;by_cases hd:0≤c2
   ·have d2:decide (c2 ≥ 0)=true:=decide_eq_true hd;have d4:=ao.out hd;clear hc hd ae ag;go_wp2_with fail;refine zM (aa _) fun bt hn=>?_;replace HN:=tW HN hn;clear hn;go_wp2_with fail;refine zM (aa _) fun bu hn=>?_;replace HN:=tW HN hn;clear hn;go_wp2_with fail
    go_meet
    exact ⟨rfl,HN⟩
   ·have d2:decide (c2 ≥ 0)=false:=decide_eq_false hd;clear hc hd ae ag;go_wp2_with fail;refine zM (aa _) fun bt hn=>?_;replace HN:=tW HN hn;clear hn;go_wp2_with fail;refine zM (aa _) fun bu hn=>?_;replace HN:=tW HN hn;clear hn;go_wp2_with fail
    go_meet
    exact ⟨rfl,HN⟩
  ·have d1:decide (c2≤0)=false:=decide_eq_false hc
   have hd:0≤c2:=by omega
   have d2:decide (c2 ≥ 0)=true:=decide_eq_true hd;have d4:=ao.out hd;clear hc hd ae ag;go_wp2_with fail;refine zM (aa _) fun bt hn=>?_;replace HN:=tW HN hn;clear hn;go_wp2_with fail;refine zM (aa _) fun bu hn=>?_;replace HN:=tW HN hn;clear hn;go_wp2_with fail
   go_meet
   exact ⟨rfl,HN⟩
 case rest=>
  clear ae ag aa ar ao HN;obtain ⟨rfl,bq⟩:=hcut;have HN:=hid (ba.trans bq.out);obtain ⟨b7,an⟩:∃ u,u=wc:=⟨_,rfl⟩;rw[←an] at HN⊢;clear an bq ba
  go_step
  go_wp2_with fail;refine zM (au _) fun b8 hn=>?_;replace HN:=tW HN hn;clear hn;go_wp2_with fail;refine zM (av _ (HE.new HN)) fun b9 hn=>?_;replace HN:=tW HN hn;clear hn;have ah:=aw.out;have ai:=ax.out;have aj:=ay.out
  cases s with
  | true=>
   go_wp2_with fail;go_ret;exact ⟨rfl,HN⟩
  | false=>
  have af:=(a9.out rfl).up;clear a9;replace af:=hid af;go_wp2_with fail;clear ah ai aj au av aw ax ay;refine (af _).mono ?_;rintro e ca ⟨rfl | ⟨r,Y,S,M,c3,rfl,bh,k1,k2,k3,k4⟩,hn⟩
  ·replace HN:=tW HN hn;clear hn;clear af;go_wp2_with fail;go_ret;exact ⟨rfl,HN⟩
  ·replace HN:=tW HN hn;clear hn;clear af;have d1:decide (c3≤0)=true:=decide_eq_true bh;clear bh;refine zh4 ?_ k1 k2 k3 k4;clear k1 k2 k3 k4;intro K1 K2 K3 K4;go_wp2_with fail;refine zM (K1 _) fun cb hn=>?_;replace HN:=tW HN hn;clear hn;go_wp2_with fail;refine zM (K2 _) fun cd hn=>?_;replace HN:=tW HN hn;clear hn;go_wp2_with fail;refine zM (K3 _) fun ce hn=>?_;replace HN:=tW HN hn;clear hn;go_wp2_with fail;refine zM (K4 _) fun cf hn=>?_;replace HN:=tW HN hn;clear hn;go_wp2_with fail;go_ret;exact ⟨rfl,HN⟩
end Go.Proofs.YtnjonlnemagomaaGreatDoor
