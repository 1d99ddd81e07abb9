/- Part B27. -/
import Derived.Deep.DeepCutAuto
import Derived.Test.YtnjonlnemagomaaGreatDoorB23
import Derived.Test.YtnjonlnemagomaaGreatDoorB26
namespace Go.Proofs.YtnjonlnemagomaaGreatDoor
open Go.RowKit Big Tryz
open Go.Lib (hid)
set_option maxRecDepth 100000
set_option maxHeartbeats 8000000
set_option linter.all false
def RdP (w:World)(a:Option Addr)(pts:List (ByteArray × ByteArray)):Prop:=∀ (k:Nat) (h:k < pts.length),∃ b off,a=some ⟨b,off,none⟩∧w.cell? ⟨b,off+k*2,none⟩=some (.string pts[k].1)∧w.cell? ⟨b,off+k*2+1,none⟩=some (.string pts[k].2)
theorem RdP.new {w w':World}{a:Option Addr}{pts:List (ByteArray × ByteArray)}(h:RdP w a pts)(hn:New w w'):RdP w' a pts:=fun k hk=>by
 obtain ⟨b,off,e,h1,h2⟩:=h k hk;exact ⟨b,off,e,hn.cell h1,hn.cell h2⟩
def TxtIs (s:ByteArray)(q:Rat):Prop:=s.data.toList=ratText q∧Fits q∧s.size≤100000
structure TabOk (pts:List (ByteArray × ByteArray))(xs ys:Nat→Rat):Prop where
 x:∀ (k:Nat) (h:k < pts.length),TxtIs pts[k].1 (xs k)
 y:∀ (k:Nat) (h:k < pts.length),TxtIs pts[k].2 (ys k)
 inc:∀ k,k+1 < pts.length→xs k < xs (k+1)
theorem TxtIs.err {s t:ByteArray}{p q:Rat}(h:TxtIs s p)(g:TxtIs t q):err2 s t=0:=by
 unfold err2;rw[h.1,g.1,ratErr_ratText h.2.1,ratErr_ratText g.2.1];rfl
theorem tabchk_zero (X Y:ByteArray)(x y:Rat)(hx:TxtIs X x)(hy:TxtIs Y y)(p:Nat)(a:Option Addr)(n cap:Nat)(w:World)(he:Env w)(_htp:w.cell? ⟨p,0,none⟩=some (.slice a n cap)):Calls prog 102 #[.int .i64 0,.agg #[.string X,.string Y],.pointer (some ⟨p,0,none⟩)] w (RetNew w 0):=by
 have aa:=ncheckAll_two X Y hx.2.2 hy.2.2;rw[hx.err hy] at aa;clear hx hy _htp;replace he:=hid he;replace aa:=hid aa;go_in;go_upto_region 1 with (fail);obtain ⟨BA,HN⟩:=lay1 w 30 #[.string X,.string Y];obtain ⟨w0,ab⟩:∃ u,w.alloc (.cells #[.string X,.string Y] 30)=u:=⟨_,rfl⟩;rw[ab] at BA HN⊢;clear ab;have pa:=BA.out.two;go_wp2_with fail;clear pa;obtain ⟨BG,hn⟩:=lay1 w0 23 #[.string X,.string Y];obtain ⟨HN,BA⟩:=zn2 hn HN BA.new;clear hn;refine zM (aa _ _ _ _ (he.new HN) BG) fun w2 hn=>?_;clear BG;obtain ⟨HN,BA⟩:=zn2 hn HN BA.new;clear hn;go_wp2_with fail;go_ret;exact ⟨rfl,HN⟩
theorem tabchk_next (X Y Z:ByteArray)(x y z:Rat)(hx:TxtIs X x)(hy:TxtIs Y y)(hz:TxtIs Z z)(hlt:z < x)(p k b off:Nat)(n cap:Nat)(hk:k+1 < n)(hk2:n≤100000)(w:World)(he:Env w)(aa:w.cell? ⟨p,0,none⟩=some (.slice (some ⟨b,off,none⟩) n cap))(hc:w.cell? ⟨b,off+k*2,none⟩=some (.string Z)):
  Calls prog 102 #[.int .i64 ((k:Int)+1),.agg #[.string X,.string Y],.pointer (some ⟨p,0,none⟩)] w (RetNew w 0):=by
 have ab:=ncheckAll_two X Y hx.2.2 hy.2.2;rw[hx.err hy] at ab;have af:=fun W hW=>from_calls X x W hW hx.1 (by have:=hx.2.2;omega);have ag:=fun W hW=>from_calls Z z W hW hz.1 (by have:=hz.2.2;omega);have ad:=fun va vb W h1 h2=>fcmp_calls va vb x z 2000 2000 W h1 h2 (Fits.fb hx.2.1) (Fits.fb hz.2.1) (by omega);unfold SignPost at ad;obtain ⟨t,ht,al⟩:∃ t,(crossed x z).sign=t∧0 < t:=⟨_,rfl,crossed_pos.2 hlt⟩;rw[ht] at ad;have aq:decide (t≤0)=false:=decide_eq_false (by omega);have am:((k:Int)+1==0)=false:=beq_false_of_ne (by omega)
 have ar:IntKind.i64.wrap (k:Int)=k:=by rw[IntKind.wrap_i64];omega
 have an:(0:Int)≤k∧(k:Int) < n:=by omega
 have ao:(0:Int)≤k:=by omega
 have ap:(k:Int) < n:=by omega
 clear hx hy hz hlt ht al hk hk2;refine zh5 ?_ he ab af ag ad;clear he ab af ag ad;intro HE ae aj ak ai;go_in;go_upto_region 1 with (fail);obtain ⟨BA,HN⟩:=lay1 w 30 #[.string X,.string Y];obtain ⟨w0,ah⟩:∃ u,w.alloc (.cells #[.string X,.string Y] 30)=u:=⟨_,rfl⟩;rw[ah] at BA HN⊢;clear ah;have pa:=BA.out.two;go_wp2_with fail;clear pa;obtain ⟨BG,hn⟩:=lay1 w0 23 #[.string X,.string Y];obtain ⟨HN,BA⟩:=zn2 hn HN BA.new;clear hn;refine zM (ae _ _ _ _ (HE.new HN) BG) fun w2 hn=>?_;clear BG;obtain ⟨HN,BA⟩:=zn2 hn HN BA.new;clear hn;replace aa:=HN.cell aa;replace hc:=HN.cell hc;go_upto_region 4 with (fail);have pa:=BA.out.two;clear pa;refine zR 13 14 (fun W=>zC W w.heap.size (.string X) (.string Y)∧W.cell? ⟨p,0,none⟩=some (.slice (some ⟨b,off,none⟩) n cap)∧W.cell? ⟨b,off+k*2,none⟩=some (.string Z)) ?_;refine zT 0 ⟨cW2 BA,aa,hc⟩ ?_;refine zT 1 ⟨cW2 BA,aa,hc⟩ ?_;refine zT 3 ⟨cW2 BA,aa,hc⟩ ?_;refine zT 4 ⟨cW2 BA,aa,hc⟩ ?_;refine zT 5 ⟨cW2 BA,aa,hc⟩ ?_;refine zT 6 ⟨cW2 BA,aa,hc⟩ ?_;refine zT 7 ⟨cW2 BA,aa,hc⟩ ?_;refine zT 8 ⟨cW2 BA,aa,hc⟩ ?_;refine tk1 2 fun K hK=>?_;go_simp;refine zN (aj _ (HE.new HN.drew)) fun w3 v3 hn hf=>?_;have hn:=hn.undrew;replace aa:=hn.cell aa;replace hc:=hn.cell hc;have ac:=hid hf;clear hf;obtain ⟨HN,BA⟩:=zn2 hn HN BA.new;clear hn;refine zK hK ⟨cW2 BA,aa,hc⟩ ?_;clear hK K;refine tk1 9 fun K hK=>?_;go_simp;refine zN (ak _ (HE.new HN)) fun w4 v4 hn hf=>?_;replace aa:=hn.cell aa;replace hc:=hn.cell hc;replace hf:=hid hf;obtain ⟨HN,BA,ac⟩:=zn3 hn HN BA.new ac.new;clear hn;refine zK hK ⟨cW2 BA,aa,hc⟩ ?_;clear hK K;refine tk1 10 fun K hK=>?_;go_simp;refine zM (ai _ _ _ ac hf) fun w5 hn=>?_;replace aa:=hn.cell aa;replace hc:=hn.cell hc;clear ac hf;obtain ⟨HN,BA⟩:=zn2 hn HN BA.new;clear hn;refine zK hK ⟨cW2 BA,aa,hc⟩ ?_;clear hK K;refine zT 11 ⟨cW2 BA,aa,hc⟩ ?_;refine tk1 12 fun K hK=>?_;go_simp;refine (nwhen_calls false 11 _).mono ?_;rintro e w6 ⟨rfl,hw⟩;have hn:=New.of_eq hw;replace aa:=hn.cell aa;replace hc:=hn.cell hc;clear hw;obtain ⟨HN,BA⟩:=zn2 hn HN BA.new;clear hn;refine zK hK ⟨cW2 BA,aa,hc⟩ ?_;clear hK K;refine tlW ?_;have pa:=BA.out.two;clear pa;go_wp2_with fail;go_ret;exact ⟨rfl,HN⟩
theorem eachp_calls (pts:List (ByteArray × ByteArray))(xs ys:Nat→Rat)(ht:TabOk pts xs ys)(hl:pts.length≤64)(p:Nat)(a:Option Addr)(cap:Nat)(w:World)(he:Env w)(htp:w.cell? ⟨p,0,none⟩=some (.slice a pts.length cap))(hr:RdP w a pts):
  Calls prog 101 #[.slice a pts.length cap,.func (.func 102) #[] #[.pointer (some ⟨p,0,none⟩)]] w (RetNew w 0):=by
 have ab:∀ (k:Nat) (hk:k < pts.length) (W:World),New w W→Calls prog 102 #[.int .i64 (k:Int),.agg #[.string pts[k].1,.string pts[k].2],.pointer (some ⟨p,0,none⟩)] W (RetNew W 0):=fun k hk W hn=>by
  rcases Nat.eq_zero_or_pos k with h0 | h0
  ·subst h0;exact tabchk_zero _ _ _ _ (ht.x 0 hk) (ht.y 0 hk) p a _ cap W (he.new hn) (hn.cell htp)
  ·obtain ⟨j,rfl⟩:∃ j,k=j+1:=⟨k - 1,by omega⟩;obtain ⟨b,ac,e,h1,h2⟩:=hr j (by omega);have h:=tabchk_next _ _ _ _ _ _ (ht.x (j+1) hk) (ht.y (j+1) hk) (ht.x j (by omega)) (ht.inc j hk) p j b ac pts.length cap hk (by omega) W (he.new hn) (by rw[←e];exact hn.cell htp) (hn.cell h1);rw[show ((j+1:Nat):Int)=(j:Int)+1 by omega];exact h
 obtain ⟨n,hn⟩:∃ n,pts.length=n:=⟨_,rfl⟩;rw[hn]
 have af:(n:Int)≤64:=by omega
 clear ht htp he hl;refine zh3 ?_ hr ab hn;clear hr ab hn;intro HR ad aa;go_in;go_wp2_with fail;go_loopw [10] (fun i wr=>∃ k:Nat,k≤n∧i=.int .i64 (k:Int)∧Hid (New w wr)) (fun i _=>n - (intOf i).toNat)
 case atStart=>exact ⟨0,Nat.zero_le _,rfl,hid (New.refl _)⟩
 case round=>
  obtain ⟨k,hk,rfl,HN⟩:=hrel;by_cases hlt:k < n
  ·obtain ⟨b,ac,rfl,h1,h2⟩:=HR.out k (by rw[aa.out];exact hlt);have hc:=fun W hW=>ad.out k (by rw[aa.out];exact hlt) W hW;have h1:=HN.out.cell h1;have h2:=HN.out.cell h2;obtain ⟨X,hX⟩:∃ x,(pts[k]'(by rw[aa.out];exact hlt)).1=x:=⟨_,rfl⟩;obtain ⟨Y,hY⟩:∃ x,(pts[k]'(by rw[aa.out];exact hlt)).2=x:=⟨_,rfl⟩;rw[hX] at h1;rw[hY] at h2;simp only[hX,hY] at hc
   have ae:(k:Int) < n:=by omega
   clear hX hY;replace hc:=hid hc;go_upto_region 4 with (fail);obtain ⟨BE,hn⟩:=lay1 wr 30 #[.string X,.string Y];replace HN:=tW HN hn;clear hn;clear h1 h2;have pe:=BE.out.two;go_wp2_with fail;refine zM (hc _ HN) fun w4 hn=>?_;clear pe;clear BE;replace HN:=tW HN hn;clear hn;go_wp2_with fail;go_roundw
   case rel=>exact ⟨k+1,by omega,by go_num,HN⟩
   case measure=>simp[intOf];omega
  ·obtain rfl:k=n:=by omega
   go_wp2_with fail;go_ret;exact ⟨rfl,HN⟩
theorem checkTable_calls (pts:List (ByteArray × ByteArray))(xs ys:Nat→Rat)(ht:TabOk pts xs ys)(h0:0 < pts.length)(hl:pts.length≤64)(a:Option Addr)(cap:Nat)(w:World)(he:Env w)(hr:RdP w a pts):
  Calls prog 20 #[.slice a pts.length cap] w (RetNew w 0):=by
 have ab:=fun p W (h1:Env W) h2 (h3:RdP W a pts)=>eachp_calls pts xs ys ht hl p a cap W h1 h2 h3;obtain ⟨n,hn⟩:∃ n,pts.length=n:=⟨_,rfl⟩;rw[hn] at h0 hl ab⊢
 have aj:(n:Int)≤64:=by omega
 have ag:((n:Int)==0)=false:=beq_false_of_ne (by omega);have ah:decide ((n:Int) > 64)=false:=decide_eq_false (by omega)
 have ai:¬(64:Int) < (n:Int):=by omega
 clear ht hn hl h0;refine zh3 ?_ he hr ab;clear he hr ab;intro HE HR af;go_in;go_upto_region 1 with (fail);obtain ⟨BA,HN⟩:=lay1 w 22 #[.slice a n cap];obtain ⟨w0,ae⟩:∃ u,w.alloc (.cells #[.slice a n cap] 22)=u:=⟨_,rfl⟩;rw[ae] at BA HN⊢;clear ae;obtain ⟨aa,ac,ad⟩:=BA.out.one;clear aa ac ad;refine zR 10 11 (fun W=>W.cell? ⟨w.heap.size,0,none⟩=some (.slice a n cap)) ?_;refine zT 0 (cW1 BA) ?_;refine zT 1 (cW1 BA) ?_;refine zT 2 (cW1 BA) ?_;refine zT 4 (cW1 BA) ?_;refine zT 5 (cW1 BA) ?_;refine zT 6 (cW1 BA) ?_;refine tk1 3 fun K hK=>?_;go_simp;refine (nwhen_calls false 12 _).mono ?_;rintro e w1 ⟨rfl,hw⟩;have hn:=((New.refl w0).drew).trans (.of_eq hw);clear hw;obtain ⟨HN,BA⟩:=zn2 hn HN BA.new;clear hn;refine zK hK (cW1 BA) ?_;clear hK K;refine tk1 7 fun K hK=>?_;go_simp;refine (nwhen_calls false 5 _).mono ?_;rintro e w2 ⟨rfl,hw⟩;have hn:=New.of_eq hw;clear hw;obtain ⟨HN,BA⟩:=zn2 hn HN BA.new;clear hn;refine zK hK (cW1 BA) ?_;clear hK K;refine tk1 8 fun K hK=>?_;go_simp;obtain ⟨BG,hn⟩:=lay1 w2 32 #[.int .i64 0,.int .i64 0];obtain ⟨HN,BA⟩:=zn2 hn HN BA.new;clear hn;refine zK hK (cW1 BA) ?_;clear hK K;refine tk1 9 fun K hK=>?_;go_simp;refine zM (nfirst2_new 0 0 _ _ 32 _ BG) fun w3 hn=>?_;clear BG;obtain ⟨HN,BA⟩:=zn2 hn HN BA.new;clear hn;refine zK hK (cW1 BA) ?_;clear hK K;refine tlW ?_;obtain ⟨aa,ac,ad⟩:=BA.out.one;go_wp2_with fail;refine zM (af _ _ (HE.new HN) aa (HR.new HN)) fun w4 hn=>?_;clear aa ac ad;replace HN:=tW HN hn;clear hn;go_wp2_with fail;go_ret;exact ⟨rfl,HN⟩
theorem blendf_calls (X Y:ByteArray)(x q:Rat)(hx:TxtIs X x)(hq:FB 2000 q)(P:Nat)(s t:Int)(a d:Option Addr)(l c m k:Nat)(w:World)(he:Env w)(hb:Box w P 115 #[.int .i64 s,.slice a l c,.int .i64 t,.slice d m k])(hf:IsFrac w (.agg #[.int .i64 s,.slice a l c,.int .i64 t,.slice d m k]) q):
  Calls prog 89 #[.agg #[.string X,.string Y],.pointer (some ⟨P,0,none⟩)] w fun e w'=>e=.returned (.bool (decide (q≤x)))∧New w w':=by
 have ab:=fun W hW=>from_calls X x W hW hx.1 (by have:=hx.2.2;omega);have aa:=fun va vb W h1 h2=>fcmp_calls va vb x q 2000 2000 W h1 h2 (Fits.fb hx.2.1) hq (by omega);unfold SignPost at aa;obtain ⟨r,hr⟩:∃ r,(crossed x q).sign=r:=⟨_,rfl⟩
 have hd:decide (r ≥ 0)=decide (q≤x):=by
  rw[decide_eq_decide,←hr];constructor
  ·intro h
   exact Rat.not_lt.1 fun h2=>by have:=crossed_neg.2 h2;omega
  ·intro h;rcases Int.lt_or_le (crossed x q).sign 0 with h2 | h2
   ·exact absurd (crossed_neg.1 h2) (Rat.not_lt.2 h)
   ·exact h2
 rw[hr]at aa;obtain ⟨u,hu⟩:∃ u,decide (q≤x)=u:=⟨_,rfl⟩;rw[hu] at hd⊢;clear hx hq hr hu;refine zh5 ?_ he ab aa hb hf;clear he ab aa hb hf;intro HE ae ad BB HF;go_in;go_upto_region 1 with (fail);obtain ⟨BA,HN⟩:=lay1 w 30 #[.string X,.string Y];obtain ⟨BB,HF⟩:=zm2 HN BB.new HF.new;obtain ⟨w0,ac⟩:∃ u,w.alloc (.cells #[.string X,.string Y] 30)=u:=⟨_,rfl⟩;rw[ac] at BA HN BB HF⊢;clear ac;have pa:=BA.out.two;have pb:=BB.out.four;clear pa;clear pb;refine zR 6 7 (fun W=>zC W w.heap.size (.string X) (.string Y)∧zF W P s a l c t d m k) ?_;refine zT 0 ⟨cW2 BA,cW4 BB⟩ ?_;refine zT 1 ⟨cW2 BA,cW4 BB⟩ ?_;refine zT 3 ⟨cW2 BA,cW4 BB⟩ ?_;refine tk1 2 fun K hK=>?_;go_simp;refine zN (ae _ (HE.new HN.drew)) fun w3 v3 hn hf=>?_;have hn:=hn.undrew;replace hf:=hid hf;obtain ⟨HN,BA,BB,HF⟩:=zn4 hn HN BA.new BB.new HF.new;clear hn;refine zK hK ⟨cW2 BA,cW4 BB⟩ ?_;clear hK K;refine tk1 4 fun K hK=>?_;go_simp;refine zM (ad _ _ _ hf HF) fun w4 hn=>?_;clear hf;obtain ⟨HN,BA,BB,HF⟩:=zn4 hn HN BA.new BB.new HF.new;clear hn;refine zK hK ⟨cW2 BA,cW4 BB⟩ ?_;clear hK K;refine zT 5 ⟨cW2 BA,cW4 BB⟩ ?_;refine tlW ?_;have pa:=BA.out.two;have pb:=BB.out.four;clear pa;clear pb;go_wp2_with fail;go_ret;exact ⟨rfl,HN⟩
def FirstAt (n:Nat)(xs:Nat→Rat)(q:Rat)(r:Int):Prop:=(∃ i:Nat,i < n∧r=(i:Int)∧q≤xs i∧∀ j,j < i→xs j < q)∨(r= -1∧∀ j,j < n→xs j < q)
theorem indexp_calls (pts:List (ByteArray × ByteArray))(xs:Nat→Rat)(hx:∀ (k:Nat) (h:k < pts.length),TxtIs pts[k].1 (xs k))(hl:pts.length≤64)(q:Rat)(hq:FB 2000 q)(P:Nat)(s t:Int)(a d:Option Addr)(l c m k:Nat)(ar:Option Addr)(cap:Nat)(w:World)(he:Env w)(hb:Box w P 115 #[.int .i64 s,.slice a l c,.int .i64 t,.slice d m k])(hf:IsFrac w (.agg #[.int .i64 s,.slice a l c,.int .i64 t,.slice d m k]) q)(hr:RdP w ar pts):
  Calls prog 88 #[.slice ar pts.length cap,.func (.func 89) #[] #[.pointer (some ⟨P,0,none⟩)]] w fun e w'=>∃ r,e=.returned (.int .i64 r)∧New w w'∧FirstAt pts.length xs q r:=by
 have ac:∀ (j:Nat) (hj:j < pts.length) (W:World),New w W→Calls prog 89 #[.agg #[.string pts[j].1,.string pts[j].2],.pointer (some ⟨P,0,none⟩)] W fun e w'=>e=.returned (.bool (decide (q≤xs j)))∧New W w':=fun j hj W hn=>
  blendf_calls _ _ (xs j) q (hx j hj) hq P s t a d l c m k W (he.new hn) (hb.new hn) (hf.new hn)
 obtain ⟨n,hn⟩:∃ n,pts.length=n:=⟨_,rfl⟩;rw[hn]
 have af:(n:Int)≤64:=by omega
 clear hx hq he hl hb hf;refine zh3 ?_ hr ac hn;clear hr ac hn;intro HR ad ab;go_in;go_wp2_with fail;go_loopw [8] (fun i wr=>∃ j:Nat,j≤n∧i=.int .i64 (j:Int)∧Hid (∀ u,u < j→xs u < q)∧Hid (New w wr)) (fun i _=>n - (intOf i).toNat)
 case atStart=>exact ⟨0,Nat.zero_le _,rfl,hid (fun u h=>by omega),hid (New.refl _)⟩
 case round=>
  obtain ⟨j,hj,rfl,HB,HN⟩:=hrel;by_cases hlt:j < n
  ·obtain ⟨b,ag,rfl,h1,h2⟩:=HR.out j (by rw[ab.out];exact hlt);have hc:=fun W hW=>ad.out j (by rw[ab.out];exact hlt) W hW;have h1:=HN.out.cell h1;have h2:=HN.out.cell h2;obtain ⟨X,hX⟩:∃ x,(pts[j]'(by rw[ab.out];exact hlt)).1=x:=⟨_,rfl⟩;obtain ⟨Y,hY⟩:∃ x,(pts[j]'(by rw[ab.out];exact hlt)).2=x:=⟨_,rfl⟩;rw[hX] at h1;rw[hY] at h2;simp only[hX,hY] at hc
   have ae:(j:Int) < n:=by omega
   clear hX hY;by_cases hle:q≤xs j
   ·rw[decide_eq_true hle] at hc;have aa:FirstAt n xs q (j:Int):=.inl ⟨j,hlt,rfl,hle,HB.out⟩;clear hle;have HC:=hid hc;replace aa:=hid aa;clear hc;go_wp2_with fail;refine zM (HC _ HN) fun w4 hn=>?_;replace HN:=tW HN hn;clear hn;go_wp2_with fail;go_ret;exact ⟨_,rfl,HN,aa⟩
   ·rw[decide_eq_false hle] at hc
    have hb:∀ u,u < j+1→xs u < q:=fun u hu=>by
     rcases Nat.lt_or_ge u j with h | h
     ·exact HB u h
     ·have:u=j:=by omega
      rw[this];exact Rat.not_le.1 hle
    clear hle;replace hc:=hid hc;replace hb:=hid hb;go_wp2_with fail;refine zM (hc _ HN) fun w4 hn=>?_;clear h1 h2;replace HN:=tW HN hn;clear hn;go_wp2_with fail;go_roundw
    case rel=>exact ⟨j+1,by omega,by go_num,hb,HN⟩
    case measure=>simp[intOf];omega
  ·obtain rfl:j=n:=by omega
   go_wp2_with fail;go_ret;exact ⟨_,rfl,HN,.inr ⟨rfl,HB⟩⟩
end Go.Proofs.YtnjonlnemagomaaGreatDoor
namespace Go.Proofs.YtnjonlnemagomaaGreatDoor
open Go.RowKit Big Go.Lib Tryz
set_option maxRecDepth 100000
set_option maxHeartbeats 8000000
set_option linter.all false
theorem ratText_inj {p q:Rat}(h:ratText p=ratText q):p=q:=by
 have aa:∀ r:Rat,upTo (unsigned (ratText r))=decDigits r.num.natAbs∧behind (unsigned (ratText r))=if r.den=1 then [] else decDigits r.den:=fun r=>by
  rw[unsigned_ratText];by_cases hd:r.den=1
  ·rw[if_pos hd,if_pos hd];exact ⟨upTo_plain _,behind_plain _⟩
  ·rw[if_neg hd,if_neg hd];exact ⟨upTo_slash _ _,behind_slash _ _⟩
 have h1:=(aa p).1.symm.trans ((congrArg (fun l=>upTo (unsigned l)) h).trans (aa q).1);have h2:=(aa p).2.symm.trans ((congrArg (fun l=>behind (unsigned l)) h).trans (aa q).2);have hn:=decDigits_inj h1;have hs:=head_ratText p;rw[h,head_ratText q] at hs;have ab:q.num < 0 ↔ p.num < 0:=decide_eq_decide.1 hs
 have hd:p.den=q.den:=by
  by_cases d1:p.den=1
  ·by_cases d2:q.den=1
   ·rw[d1,d2]
   ·rw[if_pos d1,if_neg d2] at h2;exact absurd h2.symm (decDigits_ne_nil _)
  ·by_cases d2:q.den=1
   ·rw[if_neg d1,if_pos d2] at h2;exact absurd h2 (decDigits_ne_nil _)
   ·rw[if_neg d1,if_neg d2] at h2;exact decDigits_inj h2
 exact Rat.ext (by omega) hd
theorem TxtIs.ne {s t:ByteArray}{p q:Rat}(h:TxtIs s p)(g:TxtIs t q)(hne:p≠q):(s.toList==t.toList)=false:=by
 rw[beq_eq_false_iff_ne,ByteArray.toList_eq,ByteArray.toList_eq,h.1,g.1];exact fun e=>hne (ratText_inj e)
theorem TxtIs.same {s t:ByteArray}{q:Rat}(h:TxtIs s q)(g:TxtIs t q):(s.toList==t.toList)=true:=by
 rw[beq_iff_eq,ByteArray.toList_eq,ByteArray.toList_eq,h.1,g.1]
theorem FirstAt.eq {n:Nat}{xs:Nat→Rat}{q:Rat}{r:Int}(h:FirstAt n xs q r){i:Nat}(hi:i < n)(h1:q≤xs i)(h2:∀ j,j < i→xs j < q):r=(i:Int):=by
 rcases h with ⟨k,hk,rfl,h3,h4⟩ | ⟨-,h3⟩
 ·rcases Nat.lt_trichotomy k i with h5 | h5 | h5
  ·exact absurd (h2 k h5) (Rat.not_lt.2 h3)
  ·rw[h5]
  ·exact absurd (h4 i h5) (Rat.not_lt.2 h1)
 ·exact absurd (h3 i hi) (Rat.not_lt.2 h1)
theorem FirstAt.none {n:Nat}{xs:Nat→Rat}{q:Rat}{r:Int}(h:FirstAt n xs q r)(h2:∀ j,j < n→xs j < q):r= -1:=by
 rcases h with ⟨k,hk,rfl,h3,h4⟩ | ⟨h3, -⟩
 ·exact absurd (h2 k hk) (Rat.not_lt.2 h3)
 ·exact h3
end Go.Proofs.YtnjonlnemagomaaGreatDoor
