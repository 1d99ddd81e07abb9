/- Part CardBn05. -/
import Derived.OpenShut
import Derived.WideShapes
import Derived.Deep.Slices
import Derived.Laws.Cover2
import Derived.Carry
import Derived.RowKit
import Derived.Lib.SmallJoins
import Derived.Maps.AppendAt
import Derived.Laws.AppendOwnNone
import Derived.Deep.DeepCutAuto
import Derived.Deep.SlicePairs
import Derived.Test.YtnjonlnemagomaaGreatDoorB20
import Derived.Test.YtnjonlnemagomaaGreatDoorB25
import Derived.Test.YtnjonlnemagomaaGreatDoorB28
import Derived.Test.YtnjonlnemagomaaGreatDoorB31
import Derived.Test.YtnjonlnemagomaaGreatDoorCardBn04
namespace Go.Proofs.YtnjonlnemagomaaGreatDoor
open Go.RowKit Go.ChangeShapes Go.WideShapes Go.Deep Big Go.Lib Go.Joins Go.Proofs.Tryz
set_option maxRecDepth 100000
set_option maxHeartbeats 8000000
set_option linter.all false
section
variable {H:Type} {enc:TypeId × Value→H} {P:Program} {w:World} {base:Nat} {sp:Nat→Bool} {held:Bool}
theorem spot_none {a:Addr}{v:Value}(h:w.cell? a=some v):a=⟨a.block,a.off,none⟩:=by
 obtain ⟨b,o,s⟩:=a
 cases s with
 | none=>rfl
 | some s=>
  unfold World.cell? at h;split at h
  ·simp at h
  ·cases h
theorem slice_cells {t e:TypeId}{r:Reach}{b0:Nat}{v:Value}(ht:P.underlying t=some (.slice e))(hval:Value.okWide P w r b0 t v):v.cells.toList=[v]:=by
 obtain ⟨a,l,c,rfl⟩:=okWide_slice ht hval;rfl
theorem trod_int' {t:TypeId}{k:IntKind}{fuel:Nat}{v:Value}{y:DataW H × List MemPlace}(ht:P.underlying t=some (.int k))(h:DataW.trod enc P w base sp held fuel t [v]=some y):∃ n,v=.int k n∧(Lit.int k n).wf=true:=by
 obtain ⟨n,h1,_,hw⟩:=DataW.trod_int ht h;exact ⟨n,by simpa using h1,hw⟩
end
theorem rrow_wide (a:Option Addr)(cap n:Nat)(vs:List ByteArray)(E:Int)(w:World)(hn0:vs.length=n)(hl:n≤4096)(hr:RdL w a (strs vs))(hE:rowErr vs=E)(hsz:∀ (k:Nat) (h1:k < vs.length),(vs[k]).size≤9223372036854775807):
  Calls prog 85 #[.slice a n cap] w (RetNew w E):=by
 have aj:∀ (k:Nat) (h1:k < vs.length) (W:World),Calls prog 18 #[.string vs[k]] W fun e w'=>e=.returned (.int .i64 (ratErr vs[k].data.toList))∧New W w':=fun k h1 W=>rcheck_wide vs[k] W (hsz k h1)
 have an:(n:Int)≤4096:=by omega
 clear hsz hl;refine zh4 ?_ aj hr hE hn0;clear aj hr hE hn0;intro ak HR al ai;go_in;go_wp2_with fail;go_loopw [3] (fun i wr=>∃ (k:Nat),k≤n∧i=.int .i64 (k:Int)∧Hid (rowErr (vs.drop k)=E)∧Hid (New w wr)) (fun i _=>n - (RowKit.intOf i).toNat)
 case atStart=>exact ⟨0,Nat.zero_le _,rfl,al,hid (New.refl _)⟩
 case round=>
  obtain ⟨k,hk,rfl,HP,HN⟩:=hrel;by_cases hlt:k < n
  ·have ae:k < vs.length:=by rw[ai.out];exact hlt
   obtain ⟨b1,ao,rfl,ab⟩:=HR.out.str k ae;have ab:=HN.out.cell ab;have aa:=ak.out k ae;have ac:=rowErr_drop vs k ae;rw[HP.out] at ac;obtain ⟨x,hx⟩:∃ x,vs[k]=x:=⟨_,rfl⟩;rw[hx] at ab ac;simp only[hx] at aa;obtain ⟨r,hr⟩:∃ r,ratErr x.data.toList=r:=⟨_,rfl⟩;rw[hr] at ac;simp only[hr] at aa;by_cases hr0:r=0
   ·subst hr0;rw[if_pos rfl] at ac;refine zh4 ?_ aa hx ac hr;clear aa hx ac hr;intro ad HX af am;go_wp2_with fail;refine zM (ad _) fun w4 hn=>?_;clear ab;replace HN:=tW HN hn;clear hn;go_wp2_with fail;go_roundw
    case rel=>exact ⟨k+1,by omega,by go_num,hid af.out.symm,HN⟩
    case measure=>simp[RowKit.intOf];omega
   ·rw[if_neg hr0] at ac
    have ht:(r != 0)=true:=by simpa using hr0
    refine zh4 ?_ aa hx ac hr;clear aa hx ac hr;intro ad HX af am;clear hr0;go_wp2_with fail;refine zM (ad _) fun w4 hn=>?_;clear ab;replace HN:=tW HN hn;clear hn;go_wp2_with fail;go_ret;exact ⟨by rw[←af.out];rfl,HN.out⟩
  ·have ah:k=n:=by omega
   have ag:E=0:=by
    rw[←HP.out,ah,←ai.out,List.drop_length];rfl
   replace ah:=hid ah;replace ag:=hid ag;go_wp2_with fail;go_ret;exact ⟨by rw[ag.out];rfl,HN.out⟩
section
variable {H:Type} {enc:TypeId × Value→H} {P:Program} {w:World} {base:Nat} {sp:Nat→Bool} {held:Bool}
theorem trod_str' {t:TypeId}{fuel:Nat}{v:Value}{y:DataW H × List MemPlace}(ht:P.underlying t=some .string)(h:DataW.trod enc P w base sp held fuel t [v]=some y):∃ s:ByteArray,v=.string s∧s.size≤9223372036854775807:=by
 obtain ⟨s,h1,_,hs⟩:=DataW.trod_string ht h;exact ⟨s,by simpa using h1,hs⟩
end
theorem bigQ_false {q:Rat}:bigQ q=false ↔ Fits q:=by
 unfold bigQ Fits;simp
theorem blend_high (pts:List (ByteArray × ByteArray))(xs ys:Nat→Rat)(ht:TabOk pts xs ys)(h0:0 < pts.length)(hl:pts.length≤64)(s:ByteArray)(q:Rat)(hs:TxtIs s q)(hq:∀ j,j < pts.length→xs j < q)(a:Option Addr)(cap:Nat)(w:World)(he:Env w)(hr:RdP w a pts):
  Calls prog 16 #[.slice a pts.length cap,.string s] w (TxtPost w ⟨#[]⟩ 3):=by
 have ac:=fun W h1 (h2:RdP W a pts)=>checkTable_calls pts xs ys ht h0 hl a cap W h1 h2;have ab:=fun W hW=>check_calls s W hW hs.2.2;rw[hs.1,ratErr_ratText hs.2.1] at ab;have af:=fun W hW=>from_calls s q W hW hs.1 (by have:=hs.2.2;omega);have ad:=fun P u t b d l c m k W h1 h2 h3 (h4:RdP W a pts)=>indexp_calls pts xs ht.x hl q (Fits.fb hs.2.1) P u t b d l c m k a cap W h1 h2 h3 h4;have HN:=hid (New.refl w);obtain ⟨n,hn⟩:∃ n,pts.length=n:=⟨_,rfl⟩;rw[hn] at h0 hl ac ad hq⊢;clear ht hs hl hn h0;refine zh7 ?_ he hr ac ab af ad hq;clear he hr ac ab af ad hq;intro HE HR ai ah aj ak HQ;go_in;go_wp2_with fail;refine zM (ai _ (HE.new HN) (HR.new HN)) fun w1 hn=>?_;replace HN:=tW HN hn;clear hn;go_wp2_with fail;refine zM (ah _ (HE.new HN)) fun w2 hn=>?_;replace HN:=tW HN hn;clear hn;go_wp2_with fail;obtain ⟨BG,hn⟩:=lay1 w2 32 #[.int .i64 0,.int .i64 0];replace HN:=tW HN hn;clear hn;refine zM (nfirst2_new 0 0 _ _ 32 _ BG) fun w3 hn=>?_;clear BG;replace HN:=tW HN hn;clear hn;go_wp2_with fail;refine zS (aj _ (HE.new HN)) fun w4 s4 a4 l4 c4 t4 d4 m4 k4 hn hf=>?_;have aa:=hid hf;clear hf;replace HN:=tW HN hn;clear hn;go_upto_region 5 with (fail);obtain ⟨BT,hn⟩:=lay1 w4 115 #[.int .i64 s4,.slice a4 l4 c4,.int .i64 t4,.slice d4 m4 k4];obtain ⟨HN,aa⟩:=zn2 hn HN aa.new;clear hn;obtain ⟨w5,ag⟩:∃ u,w4.alloc (.cells #[.int .i64 s4,.slice a4 l4 c4,.int .i64 t4,.slice d4 m4 k4] 115)=u:=⟨_,rfl⟩;rw[ag] at BT HN aa⊢;clear ag;go_wp2_with fail;refine zN (ak _ _ _ _ _ _ _ _ _ _ (HE.new HN) BT aa (HR.new HN)) fun w6 r hn ae=>?_;obtain ⟨HN,BT,aa⟩:=zn3 hn HN BT.new aa.new;clear hn;obtain rfl:=ae.none HQ.out;clear ae;go_wp2_with fail;go_ret2;exact ⟨rfl,HN⟩
theorem blend_low (pts:List (ByteArray × ByteArray))(xs ys:Nat→Rat)(ht:TabOk pts xs ys)(h0:0 < pts.length)(hl:pts.length≤64)(s:ByteArray)(q:Rat)(hs:TxtIs s q)(hq:q < xs 0)(a:Option Addr)(cap:Nat)(w:World)(he:Env w)(hr:RdP w a pts):
  Calls prog 16 #[.slice a pts.length cap,.string s] w (TxtPost w ⟨#[]⟩ 3):=by
 have ac:=fun W h1 (h2:RdP W a pts)=>checkTable_calls pts xs ys ht h0 hl a cap W h1 h2;have ab:=fun W hW=>check_calls s W hW hs.2.2;rw[hs.1,ratErr_ratText hs.2.1] at ab;have af:=fun W hW=>from_calls s q W hW hs.1 (by have:=hs.2.2;omega);have ad:=fun P u t b d l c m k W h1 h2 h3 (h4:RdP W a pts)=>indexp_calls pts xs ht.x hl q (Fits.fb hs.2.1) P u t b d l c m k a cap W h1 h2 h3 h4;have HN:=hid (New.refl w);obtain ⟨b,an,e,h1,h2⟩:=hr 0 h0;have al:=hs.ne (ht.x 0 h0) (fun e=>by rw[e] at hq;exact Rat.lt_irrefl hq);obtain ⟨X,hX⟩:∃ X,pts[0].1=X:=⟨_,rfl⟩;rw[hX] at h1 al;obtain ⟨n,hn⟩:∃ n,pts.length=n:=⟨_,rfl⟩;rw[hn] at h0 hl ac ad⊢
 have am:(0:Int) < n:=by omega
 subst e;clear ht hs hl hn hX h2;refine zh7 ?_ he hr ac ab af ad hq;clear he hr ac ab af ad hq;intro HE HR ai ah aj ak HQ;go_in;go_wp2_with fail;refine zM (ai _ (HE.new HN) (HR.new HN)) fun w1 hn=>?_;replace HN:=tW HN hn;clear hn;go_wp2_with fail;refine zM (ah _ (HE.new HN)) fun w2 hn=>?_;replace HN:=tW HN hn;clear hn;go_wp2_with fail;obtain ⟨BG,hn⟩:=lay1 w2 32 #[.int .i64 0,.int .i64 0];replace HN:=tW HN hn;clear hn;refine zM (nfirst2_new 0 0 _ _ 32 _ BG) fun w3 hn=>?_;clear BG;replace HN:=tW HN hn;clear hn;go_wp2_with fail;refine zS (aj _ (HE.new HN)) fun w4 s4 a4 l4 c4 t4 d4 m4 k4 hn hf=>?_;have aa:=hid hf;clear hf;replace HN:=tW HN hn;clear hn;go_upto_region 5 with (fail);obtain ⟨BT,hn⟩:=lay1 w4 115 #[.int .i64 s4,.slice a4 l4 c4,.int .i64 t4,.slice d4 m4 k4];obtain ⟨HN,aa⟩:=zn2 hn HN aa.new;clear hn;obtain ⟨w5,ag⟩:∃ u,w4.alloc (.cells #[.int .i64 s4,.slice a4 l4 c4,.int .i64 t4,.slice d4 m4 k4] 115)=u:=⟨_,rfl⟩;rw[ag] at BT HN aa⊢;clear ag;go_wp2_with fail;refine zN (ak _ _ _ _ _ _ _ _ _ _ (HE.new HN) BT aa (HR.new HN)) fun w6 r hn ae=>?_;obtain ⟨HN,BT,aa⟩:=zn3 hn HN BT.new aa.new;clear hn;obtain rfl:=ae.eq h0 (Rat.le_of_lt HQ.out) (fun j hj=>by omega);clear ae;replace h1:=HN.cell h1;simp only[Nat.zero_mul,Nat.add_zero] at h1;go_wp2_with fail;go_ret2;exact ⟨rfl,HN⟩
theorem blend_at (pts:List (ByteArray × ByteArray))(xs ys:Nat→Rat)(ht:TabOk pts xs ys)(hl:pts.length≤64)(i:Nat)(hi:i < pts.length)(s:ByteArray)(hs:TxtIs s (xs i))(hlow:∀ j,j < i→xs j < xs i)(a:Option Addr)(cap:Nat)(w:World)(he:Env w)(hr:RdP w a pts):
  Calls prog 16 #[.slice a pts.length cap,.string s] w (TxtPost w pts[i].2 0):=by
 have h0:0 < pts.length:=by omega
 obtain ⟨q,hq⟩:∃ q,xs i=q:=⟨_,rfl⟩;have ah:=ht.x i hi;rw[hq] at hs hlow ah;have af:=fun W h1 (h2:RdP W a pts)=>checkTable_calls pts xs ys ht h0 hl a cap W h1 h2;have ae:=fun W hW=>check_calls s W hW hs.2.2;rw[hs.1,ratErr_ratText hs.2.1] at ae;have an:=fun W hW=>from_calls s q W hW hs.1 (by have:=hs.2.2;omega);have ag:=fun P u t b d l c m k W h1 h2 h3 (h4:RdP W a pts)=>indexp_calls pts xs ht.x hl q (Fits.fb hs.2.1) P u t b d l c m k a cap W h1 h2 h3 h4;have HN:=hid (New.refl w);obtain ⟨b,av,e,h1,h2⟩:=hr i hi;have ap:=hs.same ah;obtain ⟨X,hX⟩:∃ X,pts[i].1=X:=⟨_,rfl⟩;obtain ⟨Y,hY⟩:∃ X,pts[i].2=X:=⟨_,rfl⟩;rw[hX] at h1 ap;rw[hY] at h2⊢;obtain ⟨n,hn⟩:∃ n,pts.length=n:=⟨_,rfl⟩;rw[hn] at h0 hi af ag⊢
 have au:(0:Int) < n:=by omega
 have ar:(i:Int) < n:=by omega
 have ao:q≤xs i:=by rw[hq];exact Rat.le_refl
 subst e;clear ht hs hl hn hX hY ah hq;refine zh8 ?_ he hr af ae an ag hlow ao;clear he hr af ae an ag hlow ao;intro HE HR aj ai ak al ad am;rcases Nat.eq_zero_or_pos i with hz | hz
 ·subst hz;go_in;go_wp2_with fail;refine zM (aj _ (HE.new HN) (HR.new HN)) fun w1 hn=>?_;replace HN:=tW HN hn;clear hn;go_wp2_with fail;refine zM (ai _ (HE.new HN)) fun w2 hn=>?_;replace HN:=tW HN hn;clear hn;go_wp2_with fail;obtain ⟨BG,hn⟩:=lay1 w2 32 #[.int .i64 0,.int .i64 0];replace HN:=tW HN hn;clear hn;refine zM (nfirst2_new 0 0 _ _ 32 _ BG) fun w3 hn=>?_;clear BG;replace HN:=tW HN hn;clear hn;go_wp2_with fail;refine zS (ak _ (HE.new HN)) fun w4 s4 a4 l4 c4 t4 d4 m4 k4 hn hf=>?_;have aa:=hid hf;clear hf;replace HN:=tW HN hn;clear hn;go_upto_region 5 with (fail);obtain ⟨BT,hn⟩:=lay1 w4 115 #[.int .i64 s4,.slice a4 l4 c4,.int .i64 t4,.slice d4 m4 k4];obtain ⟨HN,aa⟩:=zn2 hn HN aa.new;clear hn;obtain ⟨w5,ac⟩:∃ u,w4.alloc (.cells #[.int .i64 s4,.slice a4 l4 c4,.int .i64 t4,.slice d4 m4 k4] 115)=u:=⟨_,rfl⟩;rw[ac] at BT HN aa⊢;clear ac;go_wp2_with fail;refine zN (al _ _ _ _ _ _ _ _ _ _ (HE.new HN) BT aa (HR.new HN)) fun w6 r hn ab=>?_;obtain ⟨HN,BT,aa⟩:=zn3 hn HN BT.new aa.new;clear hn;obtain rfl:=ab.eq hi am.out ad.out;clear ab;replace h1:=HN.cell h1;replace h2:=HN.cell h2;simp only[Nat.zero_mul,Nat.add_zero] at h1 h2;go_wp2_with fail;go_ret2;exact ⟨rfl,HN⟩
 ·have aq:((i:Int)==0)=false:=beq_false_of_ne (by omega);go_in;go_wp2_with fail;refine zM (aj _ (HE.new HN) (HR.new HN)) fun w1 hn=>?_;replace HN:=tW HN hn;clear hn;go_wp2_with fail;refine zM (ai _ (HE.new HN)) fun w2 hn=>?_;replace HN:=tW HN hn;clear hn;go_wp2_with fail;obtain ⟨BG,hn⟩:=lay1 w2 32 #[.int .i64 0,.int .i64 0];replace HN:=tW HN hn;clear hn;refine zM (nfirst2_new 0 0 _ _ 32 _ BG) fun w3 hn=>?_;clear BG;replace HN:=tW HN hn;clear hn;go_wp2_with fail;refine zS (ak _ (HE.new HN)) fun w4 s4 a4 l4 c4 t4 d4 m4 k4 hn hf=>?_;have aa:=hid hf;clear hf;replace HN:=tW HN hn;clear hn;go_upto_region 5 with (fail);obtain ⟨BT,hn⟩:=lay1 w4 115 #[.int .i64 s4,.slice a4 l4 c4,.int .i64 t4,.slice d4 m4 k4];obtain ⟨HN,aa⟩:=zn2 hn HN aa.new;clear hn;obtain ⟨w5,ac⟩:∃ u,w4.alloc (.cells #[.int .i64 s4,.slice a4 l4 c4,.int .i64 t4,.slice d4 m4 k4] 115)=u:=⟨_,rfl⟩;rw[ac] at BT HN aa⊢;clear ac;go_wp2_with fail;refine zN (al _ _ _ _ _ _ _ _ _ _ (HE.new HN) BT aa (HR.new HN)) fun w6 r hn ab=>?_;obtain ⟨HN,BT,aa⟩:=zn3 hn HN BT.new aa.new;clear hn;obtain rfl:=ab.eq hi am.out ad.out;clear ab;replace h1:=HN.cell h1;replace h2:=HN.cell h2;go_wp2_with fail;go_ret2;exact ⟨rfl,HN⟩
theorem rden_calls (s:ByteArray)(w:World)(hl:s.size≤1000000):Calls prog 111 #[.string s] w fun e w'=>(∃ d:ByteArray,d.size≤1000000∧e=.returned (.string d))∧New w w':=by
 have aa:=fun W=>rslash_calls s W hl;have ac:=sl_len s.data.toList
 have ad:s.data.toList.length=s.size:=by simp
 rw[ad]at ac;obtain ⟨m,hm⟩:∃ m,(upTo s.data.toList).length=m:=⟨_,rfl⟩;rw[hm] at ac;simp only[hm] at aa;clear hm ad;by_cases h:m=s.size
 ·have hb:((m:Int)==(s.size:Int))=true:=by rw[h];exact beq_self_eq_true _
  clear ac;have af:=hid aa;have H:=hid h;clear aa h;go_in;go_wp2_with fail;refine (af _).mono ?_;rintro e w1 ⟨rfl,ab⟩;rw[ab];clear ab;go_wp2_with fail;go_ret;exact ⟨⟨_,by decide,rfl⟩,New.refl _⟩
 ·have hb:((m:Int)==(s.size:Int))=false:=beq_false_of_ne (by omega);obtain ⟨m1,ag⟩:∃ z,m+1=z:=⟨_,rfl⟩
  have ah:(m:Int)+1=(m1:Int):=by omega
  have ai:(m1:Int)≤(s.size:Int):=by omega
  have aj:(s.size:Int)≤1000000:=by omega
  have ak:IntKind.i64.wrap (m1:Int)=(m1:Int):=by rw[IntKind.wrap_i64];omega
  have ae:(s.extract m1 s.size).size≤1000000:=by simp;omega
  clear ac h ag;replace aa:=hid aa;replace ae:=hid ae;go_in;go_wp2_with fail;refine (aa _).mono ?_;rintro e w1 ⟨rfl,ab⟩;rw[ab];clear ab;go_wp2_with fail;go_ret;exact ⟨⟨_,ae,rfl⟩,New.refl _⟩
theorem box_strs {w:World}{B:Nat}{t:TypeId}{x y:ByteArray}(h:Box w B t #[.string x,.string y]):RdL w (some ⟨B,0,none⟩) (strs [x,y]):=fun i hi=>by
 refine ⟨B,0,rfl,?_⟩;rw[h.cell]
 match i,hi with
 | 0,_=>rfl
 | 1,_=>rfl
theorem eight_tenN {k n:Nat}(h:k≤3*n):2^k≤10^n:=Nat.le_trans (Nat.pow_le_pow_right (by omega) h) (by
 rw[Nat.pow_mul]
 exact Nat.pow_le_pow_left (by decide) n)
theorem fitsN_of {k n:Nat}{q:Rat}(h:FB k q)(hk:k≤3*n):q.num.natAbs < 10^n∧q.den < 10^n:=by
 have h3:q.num.natAbs < 2^k:=h.num
 have h4:q.den < 2^k:=by simpa[BdK] using h.den
 exact ⟨Nat.lt_of_lt_of_le h3 (eight_tenN hk),Nat.lt_of_lt_of_le h4 (eight_tenN hk)⟩
theorem FB.fitsN {k:Nat}{q:Rat}(h:FB k q)(hk:k≤1800):Fits q:=Fits.iff.2 (fitsN_of (n:=600) h (by omega))
def FewP6 (v:ByteArray)(w:World)(e:Ending)(w':World):Prop:=(∃ t:Bool,e=.returned (.bool t)∧(t=true→v.size≤14∧ratErr v.data.toList=0))∧New w w'
theorem rfew6_calls (v:ByteArray)(w:World)(hl:(v.size:Int)≤9223372036854775807):Calls prog 30 #[.string v,.int .i64 6] w (FewP6 v w):=by
 by_cases h1:v.size≤14
 ·have ac:(v.size:Int)≤14:=by omega
  have al:decide ((v.size:Int)≤14)=true:=decide_eq_true ac;have aa:=fun W=>rcheck_calls v W (by omega);have HS:=hid h1;obtain ⟨r,hr⟩:∃ r,ratErr v.data.toList=r:=⟨_,rfl⟩;simp only[hr] at aa;by_cases h0:r=0
  ·subst h0;obtain ⟨q,hf,hv⟩:=ratText_of_err hr
   have ag:v=rs q:=by
    apply ByteArray.ext;apply Array.toList_inj.1;rw[hv,rs_list]
   have hb:RFB 2000 q:=RFB.of (Fits.fb hf);have ab:RFB 2000 ((q.num:Int):Rat):=rfb_int hb.num (by omega);have ae:=fun W=>(rnum_calls 2000 q W hb (by omega)).mono fun e w' h=>RetS.to rfl h;have ad:=fun W=>(rabs_calls ((q.num:Int):Rat) W (by have:=ab.len;omega)).mono fun e w' h=>RetS.to rfl h;have af:=fun W=>rden_calls v W (by omega);obtain ⟨B,hB⟩:∃ B,rs ((q.num:Int):Rat)=B:=⟨_,rfl⟩;obtain ⟨D,hD⟩:∃ B,rs (absQ ((q.num:Int):Rat))=B:=⟨_,rfl⟩
   have an:D.size≤10000:=by
    rw[←hD]
    have:RFB 2000 (absQ ((q.num:Int):Rat)):=by
     unfold absQ;split
     ·exact ab.neg
     ·exact ab
    have:=this.len;omega
   have ap:(D.size:Int)≤10000:=by omega
   simp only[←ag,hB]at ae;simp only[hB,hD] at ad;clear hB hD hb ab ag hf hv an h1;refine zh6 ?_ (New.refl w) aa ae ad af hr;clear aa ae ad af hr;intro HN ai ak ah aj HR;go_in;go_wp2_with fail;refine zM (ai _) fun w1 hn=>?_;replace HN:=tW HN hn;clear hn;go_wp2_with fail;refine zM (ak _) fun w2 hn=>?_;replace HN:=tW HN hn;clear hn;go_wp2_with fail;refine zM (ah _) fun w3 hn=>?_;replace HN:=tW HN hn;clear hn;by_cases h2:(D.size:Int)≤6
   ·have am:decide ((D.size:Int)≤6)=true:=decide_eq_true h2;go_wp2_with fail;refine (aj _).mono ?_;rintro e w4 ⟨⟨d,hd,rfl⟩,hn⟩
    have aq:(d.size:Int)≤1000000:=by omega
    clear hd;replace HN:=tW HN hn;clear hn;go_wp2_with fail;go_ret;exact ⟨⟨_,rfl,fun _=>⟨HS,HR⟩⟩,HN⟩
   ·have am:decide ((D.size:Int)≤6)=false:=decide_eq_false h2;go_wp2_with fail;go_ret;exact ⟨⟨_,rfl,fun h=>by cases h⟩,HN⟩
  ·have ao:(r==0)=false:=beq_false_of_ne h0;have HN:=hid (New.refl w);clear hr h0 h1;replace aa:=hid aa;go_in;go_wp2_with fail;refine zM (aa _) fun w1 hn=>?_;replace HN:=tW HN hn;clear hn;go_wp2_with fail;go_ret;exact ⟨⟨_,rfl,fun h=>by cases h⟩,HN⟩
 ·have ac:¬(v.size:Int)≤14:=by omega
  have al:decide ((v.size:Int)≤14)=false:=decide_eq_false ac;clear h1;go_in;go_wp2_with fail;go_ret;exact ⟨⟨_,rfl,fun h=>by cases h⟩,New.refl _⟩
theorem fbs_len {x:Rat}{k:Nat}(h:FB k x)(hk:k≤1800):(rs x).size≤100000:=by have:=(RFB.of h).len;omega
theorem TxtIs.rs {q:Rat}{k:Nat}(h:FB k q)(hk:k≤1800):TxtIs (rs q) q:=⟨rs_list _,h.fitsN hk,fbs_len h hk⟩
theorem lt_tr {a b c:Rat}(h:a < b)(g:b < c):a < c:=by grind
theorem blendQ_low (y z p r:Rat):blendQ y z p p r=y:=by
 unfold blendQ;rw[show p - p=0 by rw[Rat.sub_eq_add_neg,Rat.add_neg_cancel],Rat.mul_zero,Rat.div_def,Rat.zero_mul,Rat.add_zero]
theorem blendQ_high (y z p r:Rat)(h:r - p≠0):blendQ y z r p r=z:=by
 unfold blendQ;rw[Rat.div_def,Rat.mul_assoc,Rat.mul_inv_cancel _ h,Rat.mul_one,Rat.sub_eq_add_neg,Rat.add_comm z,←Rat.add_assoc,Rat.add_neg_cancel,Rat.zero_add]
theorem blendQ_slope (y z q p r:Rat)(h:r - p≠0):(blendQ y z q p r - y)*(r - p)=(z - y)*(q - p):=by
 unfold blendQ;rw[Rat.sub_eq_add_neg,Rat.add_comm (y+_),←Rat.add_assoc,Rat.add_comm (-y),Rat.add_neg_cancel,Rat.zero_add,Rat.div_def,Rat.mul_assoc,Rat.mul_comm (r - p)⁻¹,Rat.mul_inv_cancel _ h,Rat.mul_one]
theorem sub_ne {p r:Rat}(h:p < r):r - p≠0:=fun e=>by
 have:r=p:=by
  have h1:r - p+p=p:=by rw[e,Rat.zero_add]
  rwa [Rat.sub_eq_add_neg,Rat.add_assoc,Rat.add_comm (-p),Rat.add_neg_cancel,Rat.add_zero] at h1
 exact Rat.lt_irrefl (this ▸ h)
theorem blendQ_mean (y z p r:Rat)(h:p < r):blendQ y z ((p+r)*(1 / 2)) p r=(y+z)*(1 / 2):=by
 have h1:r - p≠0:=sub_ne h;unfold blendQ
 have e:(p+r)*(1 / 2) - p=(r - p)*(1 / 2):=by grind
 rw[e,←Rat.mul_assoc,Rat.div_def,Rat.mul_assoc _ (1 / 2),Rat.mul_comm (1 / 2) (r - p)⁻¹,←Rat.mul_assoc,Rat.mul_assoc (z - y),Rat.mul_inv_cancel _ h1,Rat.mul_one]
 grind
theorem blend_any (pts:List (ByteArray × ByteArray)) (xs ys:Nat→Rat) (hP:∀ (k:Nat) (h:k < pts.length),pts[k].1=rs (xs k)∧pts[k].2=rs (ys k)∧FB 60 (xs k)∧FB 60 (ys k)) (hinc:∀ k,k+1 < pts.length→xs k < xs (k+1)) (hl:pts.length≤64) (i:Nat) (hi:i+1 < pts.length) (q:Rat) (hq:FB 200 q)
  (h1:xs i≤q) (h2:q≤xs (i+1)) (a:Option Addr) (cap:Nat) (w:World) (he:Env w) (hr:RdP w a pts):
  Calls prog 16 #[.slice a pts.length cap,.string (rs q)] w (TxtPost w (rs (blendQ (ys i) (ys (i+1)) q (xs i) (xs (i+1)))) 0):=by
 have ht:TabOk pts xs ys:=⟨fun k hk=>by rw[(hP k hk).1];exact TxtIs.rs (hP k hk).2.2.1 (by omega),fun k hk=>by rw[(hP k hk).2.1];exact TxtIs.rs (hP k hk).2.2.2 (by omega),hinc⟩
 have aa:∀ j k,j < k→k < pts.length→xs j < xs k:=by
  intro j k ae hk
  induction k with
  | zero=>omega
  | succ k ih=>
   by_cases e:j=k
   ·rw[e];exact hinc k hk
   ·exact lt_tr (ih (by omega) (by omega)) (hinc k hk)
 have ad:=hinc i hi;have ac:=sub_ne ad;by_cases e1:q=xs i
 ·subst e1;rw[blendQ_low];have h:=blend_at pts xs ys ht hl i (by omega) (rs (xs i)) (TxtIs.rs hq (by omega)) (fun j hj=>aa j i hj (by omega)) a cap w he hr
  rwa [(hP i (by omega)).2.1] at h
 by_cases e2:q=xs (i+1)
 ·subst e2;rw[blendQ_high _ _ _ _ ac];have h:=blend_at pts xs ys ht hl (i+1) hi (rs (xs (i+1))) (TxtIs.rs hq (by omega)) (fun j hj=>aa j (i+1) hj hi) a cap w he hr
  rwa [(hP (i+1) hi).2.1] at h
 have hb:bigQ (blendQ (ys i) (ys (i+1)) q (xs i) (xs (i+1)))=false:=by
  have f0:=hP i (by omega);have f1:=hP (i+1) hi;have hf:FB 800 (blendQ (ys i) (ys (i+1)) q (xs i) (xs (i+1))):=(f0.2.2.2.add (((f1.2.2.2.sub f0.2.2.2).mul (hq.sub f0.2.2.1)).div (f1.2.2.1.sub f0.2.2.1) ac)).mono (by omega);exact bigQ_false.2 (hf.fitsN (by omega))
 have ab:∀ j,j < i+1→xs j < q:=fun j hj=>by
  have h3:xs i < q:=Rat.lt_of_le_of_ne h1 (Ne.symm e1);by_cases e:j=i
  ·rw[e];exact h3
  ·exact lt_tr (aa j i (by omega) (by omega)) h3
 have h:=blend_mid pts xs ys ht hl i hi (rs q) q (TxtIs.rs hq (by omega)) ab (Rat.lt_of_le_of_ne h2 e2) a cap w he hr;unfold resS resE at h;rw[hb] at h;exact h
theorem fbl_of_len {q:Rat}{n k:Nat}(h:(ratText q).length≤n)(hk:4*n≤k)(hk1:1≤k):FB k q:=by
 have ab:∀ m,10^m≤2^(4*m):=fun m=>by
  rw[Nat.pow_mul];exact Nat.pow_le_pow_left (by decide) m
 have aa:∀ m,m≤n→10^m≤2^k:=fun m hm=>Nat.le_trans (ab m) (Nat.pow_le_pow_right (by omega) (by omega))
 have dl:∀ u:Nat,(decDigits u).length≤n→u < 2^k:=fun u hu=>by
  have h0:u < 10^(decDigits u).length:=by
   rw[decDigits_length];exact (nDigits_le_iff (k:=nDigits u) (by rw[←decDigits_length];exact List.length_pos_iff.2 (decDigits_ne_nil u))).1 (Nat.le_refl _)
  exact Nat.lt_of_lt_of_le h0 (aa _ hu)
 have il:(decDigits q.num.natAbs).length≤(itoa q.num).length:=by
  rcases Int.lt_or_le q.num 0 with hz | hz
  ·rw[show q.num= -(q.num.natAbs:Int) by omega,Big.itoa_neg (by omega)];simp
  ·rw[show q.num=(q.num.natAbs:Int) by omega,Big.itoa_nonneg];simp
 unfold ratText at h;split at h
 ·rename_i hd;exact ⟨dl _ (by omega),by unfold BdK;rw[hd];exact Nat.one_lt_two_pow (by omega)⟩
 ·rw[List.length_append,List.length_cons] at h;exact ⟨dl _ (by omega),by unfold BdK;rw[Int.natAbs_natCast];exact dl _ (by omega)⟩
theorem short_num {s:ByteArray}{n:Nat}(hl:s.size≤n)(he:ratErr s.data.toList=0)(h1:1≤n):∃ q:Rat,s=rs q∧FB (4*n) q:=by
 obtain ⟨q,hf,hq⟩:=ratText_of_err he;refine ⟨q,?_,fbl_of_len (n:=n) ?_ (Nat.le_refl _) (by omega)⟩
 ·apply ByteArray.ext;apply Array.toList_inj.1;rw[hq,rs_list]
 ·rw[←hq,Array.length_toList];exact hl
def BrkUp (pts:List (ByteArray × ByteArray))(k:Nat):Prop:=∃ xs ys:Nat→Rat,(∀ (j:Nat) (h:j < pts.length),j < k→pts[j].1=rs (xs j)∧pts[j].2=rs (ys j)∧Fits (xs j)∧Fits (ys j))∧∀ j,j+1 < k→xs j < xs (j+1)
theorem rs_of_err {s:ByteArray}(he:ratErr s.data.toList=0):∃ q:Rat,s=rs q∧Fits q:=by
 obtain ⟨q,hf,hq⟩:=ratText_of_err he;refine ⟨q,?_,hf⟩;apply ByteArray.ext;apply Array.toList_inj.1;rw[hq,rs_list]
theorem rs_inj {p q:Rat}(h:rs p=rs q):p=q:=by
 refine ratText_inj ?_;rw[←rs_list,←rs_list,h]
theorem BrkUp.zero (pts:List (ByteArray × ByteArray)):BrkUp pts 0:=⟨fun _=>0,fun _=>0,fun _ _ h=>absurd h (Nat.not_lt_zero _),fun _ h=>absurd h (Nat.not_lt_zero _)⟩
theorem BrkUp.step {pts:List (ByteArray × ByteArray)} {k:Nat} (h:BrkUp pts k) (hk:k < pts.length) {p q:Rat} (hp:pts[k].1=rs p) (hq:pts[k].2=rs q) (fp:Fits p) (fq:Fits q)
  (hlt:∀ (j:Nat) (hj:j+1=k) (p0:Rat),pts[j].1=rs p0→p0 < p):BrkUp pts (k+1):=by
 obtain ⟨xs,ys,h1,h2⟩:=h;refine ⟨fun i=>if i=k then p else xs i,fun i=>if i=k then q else ys i,fun j hj aa=>?_,fun j hj=>?_⟩
 ·show pts[j].1=rs (if j=k then p else xs j)∧pts[j].2=rs (if j=k then q else ys j)∧Fits (if j=k then p else xs j)∧Fits (if j=k then q else ys j);by_cases e:j=k
  ·subst e;rw[if_pos rfl,if_pos rfl];exact ⟨hp,hq,fp,fq⟩
  ·rw[if_neg e,if_neg e];exact h1 j hj (by omega)
 ·show (if j=k then p else xs j) < if j+1=k then p else xs (j+1)
  rw[if_neg (by omega)];by_cases e:j+1=k
  ·rw[if_pos e];exact hlt j e _ (h1 j (by omega) (by omega)).1
  ·rw[if_neg e];exact h2 j (by omega)
theorem err2_zero {x y:ByteArray}(h:err2 x y=0):ratErr x.data.toList=0∧ratErr y.data.toList=0:=by
 unfold err2 at h;by_cases e:ratErr x.data.toList=0
 ·simp only[e] at h⊢;exact ⟨trivial,by simpa using h⟩
 ·simp[e] at h
theorem rbreaks_calls (pts:List (ByteArray × ByteArray))(a:Option Addr)(cap n:Nat)(w:World)(hn0:pts.length=n)(hl:n≤6)(hr:RdP w a pts)(hsz:∀ (k:Nat) (h:k < pts.length),pts[k].1.size≤9223372036854775807∧pts[k].2.size≤9223372036854775807):
  Calls prog 15 #[.slice a n cap] w fun e w'=>(∃ E:Int,e=.returned (.int .i64 E)∧(E=0→0 < n∧BrkUp pts n))∧New w w':=by
 have ad:∀ (k:Nat) (h:k < pts.length) (W:World) (B c2:Nat) (t:TypeId),Box W B t #[.string pts[k].1,.string pts[k].2]→Calls prog 85 #[.slice (some ⟨B,0,none⟩) 2 c2] W (RetNew W (err2 pts[k].1 pts[k].2)):=fun k h W B c2 t hB=>
  rrow_wide (some ⟨B,0,none⟩) c2 2 [pts[k].1,pts[k].2] _ W rfl (by omega) (box_strs hB) (rowErr_two _ _) (fun i h1=>by
   match i,h1 with
   | 0,_=>exact (hsz k h).1
   | 1,_=>exact (hsz k h).2)
 have bw:(n:Int)≤6:=by omega
 have ab:∀ p q:Rat,Fits p→Fits q→∀ W,Calls prog 37 #[.string (rs p),.string (rs q)] W fun e w'=>e=.returned (.int .i64 (p - q).num.sign)∧New W w':=fun p q hp hq W=>rcmpQ_calls 2000 2000 p q W (RFB.of (Fits.fb hp)) (RFB.of (Fits.fb hq)) (by omega);by_cases hn:n=0
 ·subst hn;clear ad ab hr hsz hn0;go_in;go_wp2_with fail;go_ret;exact ⟨⟨_,rfl,fun h=>absurd h (by decide)⟩,New.refl _⟩
 have bm:((n:Int)==0)=false:=beq_false_of_ne (by omega)
 have bn:¬(64:Int) < (n:Int):=by omega
 clear hsz;refine zh4 ?_ hr hn0 ad ab;clear hr hn0 ad ab;intro HR ba aw a7;go_in;go_wp2_with fail;go_loopw [3] (fun i wr=>∃ (k:Nat),k≤n∧i=.int .i64 (k:Int)∧Hid (BrkUp pts k)∧Hid (New w wr)) (fun i _=>n - (RowKit.intOf i).toNat)
 case atStart=>exact ⟨0,Nat.zero_le _,rfl,hid (BrkUp.zero _),hid (New.refl _)⟩
 case round=>
  obtain ⟨k,hk,rfl,HU,HN⟩:=hrel;by_cases hlt:k < n
  ·have ac:k < pts.length:=by rw[ba.out];exact hlt
   obtain ⟨b,ar,rfl,hX,hY⟩:=HR.out k ac;have aa:=aw.out k ac;obtain ⟨X,ah⟩:∃ x,pts[k].1=x:=⟨_,rfl⟩;obtain ⟨Y,ai⟩:∃ x,pts[k].2=x:=⟨_,rfl⟩;rw[ah] at hX;rw[ai] at hY;have bb:=hid hX;replace hX:=HN.cell hX;replace hY:=HN.cell hY;simp only[ah,ai] at aa;obtain ⟨E,hE⟩:∃ E,err2 X Y=E:=⟨_,rfl⟩;simp only[hE] at aa
   have be:(0:Int)≤(k:Int)∧(k:Int) < n:=by omega
   have bf:(0:Int)≤(k:Int):=by omega
   have bg:(k:Int) < n:=by omega
   have ak:=ac;refine zh5 ?_ aa hE ah ai ak;clear aa hE ah ai ak;intro al a9 ay az ag;have ax:=hid hX;have bc:=hid hY;go_upto_region 8 with (fail);refine zR 12 13 (fun W=>W.cell? ⟨b,ar+k*2,none⟩=some (.string X)∧W.cell? ⟨b,ar+k*2+1,none⟩=some (.string Y)) ?_;refine zT 0 ⟨hX,hY⟩ ?_;refine zT 1 ⟨hX,hY⟩ ?_;refine zT 2 ⟨hX,hY⟩ ?_;refine zT 3 ⟨hX,hY⟩ ?_;refine zT 4 ⟨hX,hY⟩ ?_;refine zT 5 ⟨hX,hY⟩ ?_;refine zT 6 ⟨hX,hY⟩ ?_;refine zT 7 ⟨hX,hY⟩ ?_;refine zT 8 ⟨hX,hY⟩ ?_;refine zT 9 ⟨hX,hY⟩ ?_;refine tk1 10 fun K hK=>?_;go_simp;obtain ⟨BG,hm⟩:=lay1 wr 23 #[.string X,.string Y];replace hX:=hm.out.drew.cell hX;replace hY:=hm.out.drew.cell hY;refine zK hK ⟨hX,hY⟩ ?_;clear hK K;refine tk1 11 fun K hK=>?_;go_simp;refine zM (al _ _ _ _ (Box.drew BG)) fun w8 hn=>?_;have hn:=hm.out.trans hn.undrew;replace hX:=hn.cell ax;replace hY:=hn.cell bc;replace HN:=tW HN hn;clear BG hm hn;refine zK hK ⟨hX,hY⟩ ?_;clear hK K;refine tlW ?_;by_cases hE0:E=0
   case neg=>
    have hb:(E != 0)=true:=by simpa using hE0
    have a8:=hid hE0;clear hE0;go_wp2_with fail;go_ret;exact ⟨⟨E,rfl,fun h=>absurd h a8⟩,HN⟩
   subst hE0;obtain ⟨a5,a6⟩:=err2_zero a9;obtain ⟨p,hp,fp⟩:=rs_of_err a5;obtain ⟨q,hq,fq⟩:=rs_of_err a6;clear a5 a6;refine zh4 ?_ hp hq fp fq;clear hp hq fp fq;intro HP HQ am av;by_cases hk0:k=0
   case pos=>
    subst hk0;have ao:=hid (HU.step ag (ay.trans HP) (az.trans HQ) am av (fun j hj=>absurd hj (Nat.succ_ne_zero j)));go_wp2_with fail
    go_quiet (fail)
    go_wp2_with fail;go_roundw
    case rel=>exact ⟨1,by omega,by go_num,ao,hid (HN.out.drewN _)⟩
    case measure=>simp[RowKit.intOf];omega
   obtain ⟨j,rfl⟩:∃ j,k=j+1:=⟨k - 1,by omega⟩;obtain ⟨b',af,a0,hZ, -⟩:=HR.out j (by have:=ag.out;omega)
   obtain ⟨rfl,rfl⟩:b'=b∧af=ar:=by
    injection a0 with h;injection h with h1 h2;exact ⟨h1.symm,h2.symm⟩
   obtain ⟨xs,ys,a4,a1⟩:=HU.out
   have a2:j < pts.length:=by have:=ag.out;omega
   have hz:=(a4 j a2 (by omega));obtain ⟨Z,aj⟩:∃ x,pts[j].1=x:=⟨_,rfl⟩;rw[aj] at hZ
   have aq:Z=rs (xs j):=by rw[←aj];exact hz.1
   have ab:=a7.out p (xs j) am.out hz.2.2.1;obtain ⟨r,hr⟩:∃ r,(p - xs j).num.sign=r:=⟨_,rfl⟩;simp only[←HP.out,←aq,hr] at ab;have hX:=HN.out.cell bb.out;replace hZ:=HN.cell hZ
   have ae:0 < r→BrkUp pts (j+1+1):=fun h0=>HU.out.step ag.out (ay.out.trans HP.out) (az.out.trans HQ.out) am.out av.out (fun j' bo p0 bj=>by
    obtain rfl:j'=j:=by omega
    have e:xs j'=p0:=rs_inj (by rw[←aq,←aj];exact bj);rw[←e];refine Rat.not_le.1 fun bi=>?_;have:=sign_le.2 bi
    omega)
   have bl:IntKind.i64.wrap (j:Int)=j:=by rw[IntKind.wrap_i64] <;> omega
   have a3:decide ((0:Int) < (j:Int)+1)=true:=decide_eq_true (by omega)
   have bp:(0:Int)≤(j:Int)∧(j:Int) < n:=by omega
   have bq:(0:Int)≤(j:Int):=by omega
   have br:(j:Int) < n:=by omega
   have bt:(0:Int)≤(j:Int)+1∧(j:Int)+1 < n:=by omega
   have bu:(0:Int)≤(j:Int)+1:=by omega
   have bv:(j:Int)+1 < n:=by omega
   clear a0 a4 a1 hz aq hr a2 aj be bf bg hk0;rw[show (((j+1:Nat)):Int)=(j:Int)+1 by omega];refine zh3 ?_ hX ab ae;clear ab ae;intro ax au an;go_upto_region 11 with (fail);refine zR 16 17 (fun W=>W.cell? ⟨b',af+(j+1)*2,none⟩=some (.string X)∧W.cell? ⟨b',af+j*2,none⟩=some (.string Z)) ?_;refine zT 0 ⟨hX,hZ⟩ ?_;refine zT 1 (hy:=by (intro W hW;(try dsimp only at hW);(go_simp;try simp only[a3]);try with_reducible rfl)) ⟨hX,hZ⟩ ?_;refine zT 2 ⟨hX,hZ⟩ ?_;refine zT 3 ⟨hX,hZ⟩ ?_;refine zT 4 ⟨hX,hZ⟩ ?_;refine zT 5 ⟨hX,hZ⟩ ?_;refine zT 6 ⟨hX,hZ⟩ ?_;refine zT 7 ⟨hX,hZ⟩ ?_;refine zT 8 ⟨hX,hZ⟩ ?_;refine zT 9 ⟨hX,hZ⟩ ?_;refine zT 10 (hy:=by (intro W hW;(try dsimp only at hW);(go_simp;try simp only[bl]);try with_reducible rfl)) ⟨hX,hZ⟩ ?_;refine zT 11 ⟨hX,hZ⟩ ?_;refine zT 12 ⟨hX,hZ⟩ ?_;refine zT 13 ⟨hX,hZ⟩ ?_;refine tk1 14 fun K hK=>?_;go_simp;refine zM (au _) fun w9 hn=>?_;have hn:=hn.undrew;replace hX:=hn.cell hX;replace hZ:=hn.cell hZ;replace HN:=tW HN hn;clear hn;refine zK hK ⟨hX,hZ⟩ ?_;clear hK K;refine zT 15 ⟨hX,hZ⟩ ?_;refine tlW ?_;by_cases hr0:0 < r
   ·have ao:=hid (an hr0);have bk:decide (r≤0)=false:=decide_eq_false (by omega);go_wp2_with fail;go_roundw
    case rel=>exact ⟨j+1+1,by omega,by go_num,ao,HN⟩
    case measure=>simp[RowKit.intOf];omega
   ·have bk:decide (r≤0)=true:=decide_eq_true (by omega);go_wp2_with fail;go_ret;exact ⟨⟨_,rfl,fun h=>absurd h (by decide)⟩,HN⟩
  ·have bh:k=n:=by omega
   have ap:0 < n:=by omega
   subst bh;replace ap:=hid ap;go_wp2_with fail;go_ret;exact ⟨⟨0,rfl,fun _=>⟨ap,HU⟩⟩,HN⟩
theorem RFB.sub {j k:Nat}{a b:Rat}(ha:RFB j a)(hb:RFB k b):RFB (j+k+1) (a - b):=by
 rw[Rat.sub_eq_add_neg];exact ha.add hb.neg
abbrev partQ (p:Nat):Rat:=Rat.divInt (p:Int) ((255:Nat):Int)
theorem partQ_bd {p:Nat}(h:p≤255):0≤partQ p∧partQ p≤1:=by
 have e:partQ p*255=((p:Int):Rat):=by
  unfold partQ;rw[Rat.divInt_eq_div];exact Rat.div_mul_cancel (by decide)
 have h0:(0:Rat)≤((p:Int):Rat):=Rat.intCast_le_intCast.2 (show (0:Int)≤p by omega);have h1:((p:Int):Rat)≤((255:Int):Rat):=Rat.intCast_le_intCast.2 (by omega);have h2:((255:Int):Rat)=255:=rfl;rw[h2] at h1;generalize partQ p=t at e⊢;generalize ((p:Int):Rat)=z at e h0 h1;exact ⟨by grind,by grind⟩
theorem lwithin_calls (x0 x1:Rat)(p:Nat)(w:World)(hp:p≤255)(b0:RFB 56 x0)(b1:RFB 56 x1):Calls prog 47 #[.agg #[.string (rs x0),.string (rs x1)],.int .u8 (p:Int)] w (RetS w (x0+partQ p*(x1 - x0))):=by
 have aa:=fun W=>(rof_calls (p:Int) 255 W (by omega) (by omega) (by omega) (by omega)).mono fun e w' h=>RetS.to rfl h;have bp:RFB 10 (partQ p):=RFB.divInt (by rw[Int.natAbs_natCast];exact Nat.lt_of_le_of_lt hp (by decide)) (by decide) (by decide);have bd:=b1.sub b0;have ae:=fun W=>(rsubQ_calls 56 56 x1 x0 W b1 b0 (by omega)).mono fun e w' h=>RetS.to rfl h;have ad:=fun W=>(rmulQ_calls 10 113 (partQ p) (x1 - x0) W bp bd (by omega)).mono fun e w' h=>RetS.to rfl h;have ac:=fun W=>(raddQ_calls 56 123 x0 (partQ p*(x1 - x0)) W b0 (bp.mul bd) (by omega)).mono fun e w' h=>RetS.to rfl h;unfold RetS;obtain ⟨X,hX⟩:∃ X,rs x0=X:=⟨_,rfl⟩;obtain ⟨Y,hY⟩:∃ X,rs x1=X:=⟨_,rfl⟩;obtain ⟨T,hT⟩:∃ X,rs (partQ p)=X:=⟨_,rfl⟩;obtain ⟨D,hD⟩:∃ X,rs (x1 - x0)=X:=⟨_,rfl⟩;obtain ⟨M,hM⟩:∃ X,rs (partQ p*(x1 - x0))=X:=⟨_,rfl⟩;obtain ⟨R,hR⟩:∃ X,rs (x0+partQ p*(x1 - x0))=X:=⟨_,rfl⟩;have af:rs (Rat.divInt (p:Int) ((255:Nat):Int))=T:=hT;have ab:((255:Nat):Int)=255:=rfl;simp only[af] at aa;simp only[ab] at aa;simp only[hX,hY,hD] at ae;simp only[hT,hD,hM] at ad;simp only[hX,hM,hR] at ac;rw[hX,hY,hR];clear hX hY hT af hD hM hR ab bp bd b0 b1
 have ak:(p:Int)≤255:=by omega
 have al:IntKind.i64.wrap (p:Int)=(p:Int):=by rw[IntKind.wrap_i64] <;> omega
 clear hp;refine zh4 ?_ aa ae ad ac;clear aa ae ad ac;intro ai aj ah ag;go_in;go_upto_region 1 with (fail);obtain ⟨BA,HN⟩:=lay1 w 53 #[.string X,.string Y];have pa:=BA.out.two;clear pa;refine zR 12 13 (fun W=>zC W w.heap.size (.string X) (.string Y)) ?_;refine zT 0 (cW2 BA) ?_;refine zT 1 (cW2 BA) ?_;refine zT 2 (cW2 BA) ?_;refine zT 3 (cW2 BA) ?_;refine zT 5 (cW2 BA) ?_;refine zT 6 (cW2 BA) ?_;refine zT 7 (cW2 BA) ?_;refine zT 8 (cW2 BA) ?_;refine tk1 4 fun K hK=>?_;go_simp;refine zM (ai _) fun w3 hn=>?_;obtain ⟨HN,BA⟩:=zn2 hn.undrew HN BA.new;clear hn;refine zK hK (cW2 BA) ?_;clear hK K;refine tk1 9 fun K hK=>?_;go_simp;refine zM (aj _) fun w4 hn=>?_;obtain ⟨HN,BA⟩:=zn2 hn HN BA.new;clear hn;refine zK hK (cW2 BA) ?_;clear hK K;refine tk1 10 fun K hK=>?_;go_simp;refine zM (ah _) fun w5 hn=>?_;obtain ⟨HN,BA⟩:=zn2 hn HN BA.new;clear hn;refine zK hK (cW2 BA) ?_;clear hK K;refine tk1 11 fun K hK=>?_;go_simp;refine zM (ag _) fun w6 hn=>?_;obtain ⟨HN,BA⟩:=zn2 hn HN BA.new;clear hn;refine zK hK (cW2 BA) ?_;clear hK K;refine tlW ?_;obtain ⟨am,an,ao,ap,aq⟩:=BA.out.two;go_wp2_with fail;go_ret;exact ⟨rfl,HN⟩
def strOf:Value→ByteArray
 | .string x=>x
 | _=>⟨#[]⟩
section
variable {H:Type} {enc:TypeId × Value→H} {P:Program} {w:World} {base:Nat} {sp:Nat→Bool} {held:Bool}
theorem in_points {t e:TypeId} {f0 f1:Field} {r:Reach} {b0:Nat} {v:Value} {d:DataW H} {p:List MemPlace} (ht:P.underlying t=some (.slice e)) (he:P.underlying e=some (.struct #[f0,f1]))
  (ce:P.cellsOf e=2) (o0:f0.offset=0) (o1:f1.offset=1) (c0:P.cellsOf f0.type=1) (c1:P.cellsOf f1.type=1) (s0:P.underlying f0.type=some .string) (s1:P.underlying f1.type=some .string) (hval:Value.okWide P w r b0 t v) (h:DataW.Trod enc P w base sp held t v d p):
  ∃ (a:Option Addr) (ac:Nat) (pts:List (ByteArray × ByteArray)),v=.slice a pts.length ac∧RdP w a pts∧∀ (k:Nat) (h:k < pts.length),pts[k].1.size≤9223372036854775807∧pts[k].2.size≤9223372036854775807:=by
 obtain ⟨af,hf⟩:=h;rw[slice_cells ht hval] at hf;rcases open_slice_pairs ht he ce o0 o1 c0 c1 hf with ⟨h0,_⟩ | ⟨a,len,ac,m,n,V0,V1,D0,D1,P0,P1,h0,hb,hl,hm,ae,_,ad⟩
 ·exact ⟨none,0,[],by simpa using h0,fun k hk=>absurd hk (Nat.not_lt_zero _),fun k hk=>absurd hk (Nat.not_lt_zero _)⟩
 have ag:len≤m:=by rw[ae];split <;> omega
 have hs:∀ i,i < len→(V0 i=.string (strOf (V0 i))∧(strOf (V0 i)).size≤9223372036854775807)∧V1 i=.string (strOf (V1 i))∧(strOf (V1 i)).size≤9223372036854775807:=fun i hi=>by
  obtain ⟨-, -,t0,t1⟩:=ad i (by omega);obtain ⟨x,ex,hx⟩:=trod_str' s0 t0;obtain ⟨y,ey,hy⟩:=trod_str' s1 t1;rw[ex,ey];exact ⟨⟨rfl,hx⟩,rfl,hy⟩
 refine ⟨some a,ac,(List.range len).map fun i=>(strOf (V0 i),strOf (V1 i)),by simpa using h0,fun k hk=>?_,fun k hk=>?_⟩
 ·have aa:k < len:=by simpa using hk
  obtain ⟨q0, -⟩:=ad 0 (by omega)
  have ha:a=⟨a.block,a.off,none⟩:=by
   have e0:a.add (0*2)=a:=rfl;rw[e0] at q0;exact spot_none q0
  have ab:∀ i,a.add i=⟨a.block,a.off+i,none⟩:=fun i=>by
   unfold Addr.add;split
   ·rename_i hz;rw[hz];exact ha
   ·rw[ha]
  obtain ⟨g0,g1, -⟩:=ad k (by omega);rw[ab,(hs k aa).1.1] at g0;rw[ab,(hs k aa).2.1] at g1;refine ⟨a.block,a.off,by rw[←ha],?_,?_⟩
  ·rw[g0];simp
  ·rw[Nat.add_assoc,g1];simp
 ·have aa:k < len:=by simpa using hk
  obtain ⟨⟨-,g0⟩, -,g1⟩:=hs k aa;simp only[List.getElem_map,List.getElem_range];exact ⟨g0,g1⟩
theorem in_u8 {t:TypeId}{r:Reach}{b0:Nat}{v:Value}{d:DataW H}{p:List MemPlace}(ht:P.underlying t=some (.int .u8))(hval:Value.okWide P w r b0 t v)(hd:DataW.Trod enc P w base sp held t v d p):∃ x:Nat,v=.int .u8 (x:Int)∧x≤255:=by
 obtain ⟨n,rfl⟩:=okWide_int ht hval;obtain ⟨aa,hf⟩:=hd;obtain ⟨n',e,hw⟩:=trod_int' ht hf;injection e with _ e;subst e;have k:=bounds_u8 hw;exact ⟨n.toNat,by rw[Int.toNat_of_nonneg k.1],by omega⟩
end
end Go.Proofs.YtnjonlnemagomaaGreatDoor
