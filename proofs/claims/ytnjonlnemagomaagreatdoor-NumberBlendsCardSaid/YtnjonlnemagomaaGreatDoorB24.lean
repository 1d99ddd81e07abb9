/- Part B24. -/
import Derived.Test.YtnjonlnemagomaaGreatDoorB16
import Derived.Test.YtnjonlnemagomaaGreatDoorB21
import Derived.Test.YtnjonlnemagomaaGreatDoorB22
namespace Go.Proofs.YtnjonlnemagomaaGreatDoor
open Go.RowKit Big Go.Lib Tryz
set_option maxRecDepth 100000
set_option maxHeartbeats 8000000
set_option linter.all false
theorem ncheckAll_calls (a:Option Addr)(cap n:Nat)(vs:List ByteArray)(E:Int)(w:World)(he:Env w)(hn0:vs.length=n)(hl:n≤4096)(hr:RdL w a (strs vs))(hE:rowErr vs=E)(hsz:∀ (k:Nat) (h1:k < vs.length),(vs[k]).size≤100000):
  Calls prog 103 #[.slice a n cap] w (RetNew w E):=by
 have aj:∀ (k:Nat) (h1:k < vs.length) (W:World),Env W→Calls prog 75 #[.string vs[k]] W fun e w'=>e=.returned (.int .i64 (ratErr vs[k].data.toList))∧New W w':=fun k h1 W hW=>check_calls vs[k] W hW (hsz k h1)
 have an:(n:Int)≤4096:=by omega
 clear hsz hl;refine zh5 ?_ he aj hr hE hn0;clear he aj hr hE hn0;intro HE ak HR al ai;go_in;go_wp2_with fail;go_loopw [8] (fun i wr=>∃ (k:Nat),k≤n∧i=.int .i64 (k:Int)∧Hid (rowErr (vs.drop k)=E)∧Hid (New w wr)) (fun i _=>n - (RowKit.intOf i).toNat)
 case atStart=>exact ⟨0,Nat.zero_le _,rfl,al,hid (New.refl _)⟩
 case round=>
  obtain ⟨k,hk,rfl,HP,HN⟩:=hrel;by_cases hlt:k < n
  ·have ae:k < vs.length:=by rw[ai.out];exact hlt
   obtain ⟨b1,ao,rfl,ab⟩:=HR.out.str k ae;have ab:=HN.out.cell ab;have aa:=ak.out k ae;have ac:=rowErr_drop vs k ae;rw[HP.out] at ac;obtain ⟨x,hx⟩:∃ x,vs[k]=x:=⟨_,rfl⟩;rw[hx] at ab ac;simp only[hx] at aa;obtain ⟨r,hr⟩:∃ r,ratErr x.data.toList=r:=⟨_,rfl⟩;rw[hr] at ac;simp only[hr] at aa;by_cases hr0:r=0
   ·subst hr0;rw[if_pos rfl] at ac;refine zh4 ?_ aa hx ac hr;clear aa hx ac hr;intro ad HX af am;go_wp2_with fail;refine zM (ad _ (HE.new HN)) fun w4 hn=>?_;clear ab;replace HN:=tW HN hn;clear hn;go_wp2_with fail;go_roundw
    case rel=>exact ⟨k+1,by omega,by go_num,hid af.out.symm,HN⟩
    case measure=>simp[RowKit.intOf];omega
   ·rw[if_neg hr0] at ac
    have ht:(r != 0)=true:=by simpa using hr0
    refine zh4 ?_ aa hx ac hr;clear aa hx ac hr;intro ad HX af am;clear hr0;go_wp2_with fail;refine zM (ad _ (HE.new HN)) fun w4 hn=>?_;clear ab;replace HN:=tW HN hn;clear hn;go_wp2_with fail;go_ret;exact ⟨by rw[←af.out];rfl,HN.out⟩
  ·have ah:k=n:=by omega
   have ag:E=0:=by
    rw[←HP.out,ah,←ai.out,List.drop_length];rfl
   replace ah:=hid ah;replace ag:=hid ag;go_wp2_with fail;go_ret;exact ⟨by rw[ag.out];rfl,HN.out⟩
def err2 (x y:ByteArray):Int:=if ratErr x.data.toList=0 then ratErr y.data.toList else ratErr x.data.toList
theorem rowErr_two (x y:ByteArray):rowErr [x,y]=err2 x y:=by
 unfold err2;show (if ratErr x.data.toList=0 then (if ratErr y.data.toList=0 then 0 else ratErr y.data.toList) else ratErr x.data.toList)=_;split
 ·split
  ·rename_i h;rw[h]
  ·rfl
 ·rfl
theorem box_strs2 {w:World}{B:Nat}{t:TypeId}{x y:ByteArray}(h:Box w B t #[.string x,.string y]):RdL w (some ⟨B,0,none⟩) (strs [x,y]):=fun i hi=>by
 refine ⟨B,0,rfl,?_⟩;rw[h.cell]
 match i,hi with
 | 0,_=>rfl
 | 1,_=>rfl
theorem ncheckAll_two (x y:ByteArray)(hx:x.size≤100000)(hy:y.size≤100000)(B cap:Nat)(t:TypeId)(W:World)(he:Env W)(hB:Box W B t #[.string x,.string y]):Calls prog 103 #[.slice (some ⟨B,0,none⟩) 2 cap] W (RetNew W (err2 x y)):=
 ncheckAll_calls (some ⟨B,0,none⟩) cap 2 [x,y] _ W he rfl (by omega) (box_strs2 hB) (rowErr_two x y) fun k h1=>by
  match k,h1 with
  | 0,_=>exact hx
  | 1,_=>exact hy
theorem ncheckSpan_ok (p q:Rat)(x y:ByteArray)(hp:x.data.toList=ratText p)(hq:y.data.toList=ratText q)(fp:Fits p)(fq:Fits q)(hx:x.size≤100000)(hy:y.size≤100000)(w:World)(he:Env w):Calls prog 51 #[.agg #[.string x,.string y]] w (RetNew w (if q < p then 11 else 0)):=by
 have aa:=ncheckAll_two x y hx hy;rw[show err2 x y=0 by unfold err2;rw[hp,hq,ratErr_ratText fp,ratErr_ratText fq];rfl] at aa;have ag:=fun W hW=>from_calls x p W hW hp (by omega);have ah:=fun W hW=>from_calls y q W hW hq (by omega);have ac:=fun va vb W h1 h2=>fcmp_calls va vb p q 2000 2000 W h1 h2 (Fits.fb fp) (Fits.fb fq) (by omega);obtain ⟨r,hr⟩:∃ r,(crossed p q).sign=r:=⟨_,rfl⟩
 have ad:0 < r ↔ q < p:=by rw[←hr];exact crossed_pos
 unfold SignPost at ac;simp only[hr] at ac;obtain ⟨E,hE⟩:∃ E:Int,(if q < p then 11 else 0)=E:=⟨_,rfl⟩;rw[hE]
 have af:(if decide (0 < r)=true then (11:Int) else 0)=E:=by
  rw[←hE];by_cases h:q < p
  ·rw[if_pos h,if_pos (decide_eq_true (ad.2 h))]
  ·rw[if_neg h,if_neg (by rw[decide_eq_true_iff];exact fun h2=>h (ad.1 h2))]
 clear hr ad hE hp hq fp fq hx hy;refine zh6 ?_ he aa ag ah ac af;clear he aa ag ah ac af;intro HE ae al am aj ak;go_in;go_upto_region 1 with (fail);obtain ⟨BA,HN⟩:=lay1 w 53 #[.string x,.string y];obtain ⟨w8,ai⟩:∃ u,w.alloc (.cells #[.string x,.string y] 53)=u:=⟨_,rfl⟩;rw[ai] at BA HN⊢;clear ai;have pa:=BA.out.two;go_wp2_with fail;clear pa;obtain ⟨BG,hn⟩:=lay1 w8 23 #[.string x,.string y];obtain ⟨HN,BA⟩:=zn2 hn HN BA.new;clear hn;refine zM (ae _ _ _ _ (HE.new HN) BG) fun w2 hn=>?_;clear BG;obtain ⟨HN,BA⟩:=zn2 hn HN BA.new;clear hn;go_wp2_with fail;have pa:=BA.out.two;clear pa;refine zR 9 10 (fun W=>zC W w.heap.size (.string x) (.string y)) ?_;refine zT 0 (cW2 BA) ?_;refine zT 1 (cW2 BA) ?_;refine zT 3 (cW2 BA) ?_;refine zT 4 (cW2 BA) ?_;refine tk1 2 fun K hK=>?_;go_simp;refine zN (al _ (HE.new HN.drew)) fun w3 v3 hn hf=>?_;have hn:=hn.undrew;have ab:=hid hf;clear hf;obtain ⟨HN,BA⟩:=zn2 hn HN BA.new;clear hn;refine zK hK (cW2 BA) ?_;clear hK K;refine tk1 5 fun K hK=>?_;go_simp;refine zN (am _ (HE.new HN)) fun w4 v4 hn hf=>?_;replace hf:=hid hf;obtain ⟨HN,BA,ab⟩:=zn3 hn HN BA.new ab.new;clear hn;refine zK hK (cW2 BA) ?_;clear hK K;refine tk1 6 fun K hK=>?_;go_simp;refine zM (aj _ _ _ ab hf) fun w5 hn=>?_;clear ab hf;obtain ⟨HN,BA⟩:=zn2 hn HN BA.new;clear hn;refine zK hK (cW2 BA) ?_;clear hK K;refine zT 7 (cW2 BA) ?_;refine tk1 8 fun K hK=>?_;go_simp;refine (nwhen_calls _ 11 _).mono ?_;rintro e w6 ⟨rfl,an⟩;subst an;rw[ak.out];refine zK hK (cW2 BA) ?_;clear hK K;refine tlW ?_;obtain ⟨ao,ap,aq,ar,au⟩:=BA.out.two;go_wp2_with fail;go_ret;exact ⟨rfl,HN⟩
def TxtPost (w:World)(s:ByteArray)(n:Int)(e:Ending)(w':World):Prop:=e=.returned (.tuple #[.string s,.int .i64 n])∧New w w'
theorem nresult_calls (va:Value)(q:Rat)(w:World)(hx:IsFrac w va q)(hb:FB 1800 q)(he:Env w):Calls prog 91 #[va] w (TxtPost w (rs q) 0):=by
 obtain ⟨sa,aa,la,ca,ta,ba,ma,na,rfl⟩:=hx.shape;have ab:=fun (W:World) v h hW=>text_calls v q W h (hb.mono (by omega)) hW;have ad:=fun (W:World) v h=>large_calls v q W h hb;obtain ⟨X,hX⟩:∃ X:ByteArray,rs q=X:=⟨_,rfl⟩;have ac:(⟨(ratText q).toArray⟩:ByteArray)=X:=hX;simp only[ac] at ab;rw[hX];clear hb hX ac;unfold TxtPost;refine zh4 ?_ hx he ab ad;clear hx he ab ad;intro HX HE af ae;go_in;go_upto_region 1 with (fail);obtain ⟨BA,HN⟩:=lay1 w 115 #[.int .i64 sa,.slice aa la ca,.int .i64 ta,.slice ba ma na];have pa:=BA.out.four;go_wp2_with fail;refine zM (ae _ _ (HX.new HN)) fun w1 hn=>?_;clear pa;obtain ⟨HN,BA⟩:=zn2 hn HN BA.new;clear hn;have pa:=BA.out.four;go_wp2_with fail;refine zM (af _ _ (HX.new HN) (HE.new HN)) fun w2 hn=>?_;clear pa;replace HN:=tW HN hn;clear hn;go_wp2_with fail;refine bodyPost_ret (v:=.tuple #[.string X,.int .i64 0]) (by simp[results,results91,go_sem]) rfl ?_;exact ⟨rfl,HN⟩
def SpPost (w:World)(x y:ByteArray)(n:Int)(e:Ending)(w':World):Prop:=e=.returned (.tuple #[.agg #[.string x,.string y],.int .i64 n])∧New w w'
theorem nspan_calls (va vb:Value)(x y:Rat)(w:World)(hx:IsFrac w va x)(hy:IsFrac w vb y)(sx:FB 1800 x)(sy:FB 1800 y)(he:Env w):Calls prog 114 #[va,vb] w (SpPost w (rs x) (rs y) 0):=by
 obtain ⟨sa,aa,la,ca,ta,ba,ma,na,rfl⟩:=hx.shape;obtain ⟨sb,ab,lb,cb,tb,bb,mb,nb,rfl⟩:=hy.shape;unfold SpPost;have ac:=fun (W:World) v h hW=>text_calls v x W h (sx.mono (by omega)) hW;have ad:=fun (W:World) v h hW=>text_calls v y W h (sy.mono (by omega)) hW;obtain ⟨X,hX⟩:∃ X:ByteArray,rs x=X:=⟨_,rfl⟩;obtain ⟨Y,hY⟩:∃ Y:ByteArray,rs y=Y:=⟨_,rfl⟩;have ae:(⟨(ratText x).toArray⟩:ByteArray)=X:=hX;have af:(⟨(ratText y).toArray⟩:ByteArray)=Y:=hY;simp only[ae] at ac;simp only[af] at ad;rw[hX,hY];clear hX hY ae af;refine zh7 ?_ hx hy sx sy he ac ad;clear hx hy sx sy he ac ad;intro HX HY SX SY HE ag ah;go_in;go_upto_region 1 with (fail);obtain ⟨BA,BB,BP,HN⟩:=lay3 w 115 #[.int .i64 sa,.slice aa la ca,.int .i64 ta,.slice ba ma na] 115 #[.int .i64 sb,.slice ab lb cb,.int .i64 tb,.slice bb mb nb] 53 #[.string ⟨#[]⟩,.string ⟨#[]⟩];have pa:=BA.out.four;go_wp2_with fail;refine zM (large_calls _ x _ (HX.new HN) SX) fun w1 hn=>?_;clear pa;obtain ⟨HN,BA,BB,BP⟩:=zn4 hn HN BA.new BB.new BP.new;clear hn;have pa:=BA.out.four;have pb:=BB.out.four;go_wp2_with fail;refine zM (large_calls _ y _ (HY.new HN) SY) fun w2 hn=>?_;clear pa pb;obtain ⟨HN,BA,BB,BP⟩:=zn4 hn HN BA.new BB.new BP.new;clear hn;have pa:=BA.out.four;have pb:=BB.out.four;go_wp2_with fail;clear pa;clear pb;refine zR 5 7 (fun W=>zF W w.heap.size sa aa la ca ta ba ma na∧zF W (w.heap.size+1) sb ab lb cb tb bb mb nb) ?_;refine zT 0 ⟨cW4 BA,cW4 BB⟩ ?_;refine zT 2 ⟨cW4 BA,cW4 BB⟩ ?_;refine tk1 1 fun K hK=>?_;go_simp;refine zM (ag _ _ (HX.new HN.drew) (HE.new HN.drew)) fun w3 hn=>?_;obtain ⟨HN,BA,BB,BP⟩:=zn4 hn.undrew HN BA.new BB.new BP.new;clear hn;refine zK hK ⟨cW4 BA,cW4 BB⟩ ?_;clear hK K;refine tk1 3 fun K hK=>?_;go_simp;refine zM (ah _ _ (HY.new HN) (HE.new HN)) fun w4 hn=>?_;obtain ⟨HN,BA,BB,BP⟩:=zn4 hn HN BA.new BB.new BP.new;clear hn;refine zK hK ⟨cW4 BA,cW4 BB⟩ ?_;clear hK K;refine zT 4 ⟨cW4 BA,cW4 BB⟩ ?_;refine tlW ?_;obtain ⟨⟨ai,aj,ak,al⟩,am,an,ao,ap,aq⟩:=BA.out.four;obtain ⟨⟨ar,au,av,aw⟩,ax,ay,az,a0,a1⟩:=BB.out.four;obtain ⟨p0,p1,p2,p3,p4⟩:=BP.out.two;go_wp2_with fail;refine bodyPost_ret (v:=.tuple #[.agg #[.string X,.string Y],.int .i64 0]) (by simp[results,results114,go_sem,p0,p1]) rfl ?_;exact ⟨rfl,HN.putAt BP (by omega) _ _⟩
theorem pow_eight_ten {k n:Nat}(h:k≤3*n):2^k≤10^n:=Nat.le_trans (Nat.pow_le_pow_right (by omega) h) (by
 rw[Nat.pow_mul]
 exact Nat.pow_le_pow_left (by decide) n)
theorem trim_itoa (x:Int):Lib.trimPrefix (Lib.itoa x) [45]=decDigits x.natAbs:=by
 rcases Int.lt_or_le x 0 with h | h
 ·rw[show x= -(x.natAbs:Int) by omega,Big.itoa_neg (by omega)];unfold Lib.trimPrefix Lib.hasPrefix;simp
 ·rw[show x=(x.natAbs:Int) by omega,Big.itoa_nonneg];unfold Lib.trimPrefix Lib.hasPrefix;rw[if_neg,Int.natAbs_natCast];intro hp
  cases hl:decDigits x.natAbs with
  | nil=>exact decDigits_ne_nil _ hl
  | cons c l=>
   rw[hl]at hp
   have hc:45=c:=by simpa using hp
   exact decDigits_no x.natAbs (c:=45) (by decide) (by rw[hl,hc];exact List.mem_cons_self ..)
theorem nlong_calls (va:Value)(x:Int)(w:World)(hx:IsInt w va x)(hs:BdK 40000 x)(he:Env w):Calls prog 218 #[va] w fun e w'=>e=.returned (.bool (decide (600 < nDigits x.natAbs)))∧New w w':=by
 obtain ⟨sa,aa,la,ca,rfl⟩:=hx.shape;have bx:Bd x:=⟨40000,by omega,hs⟩;have ac:=fun W va hx hW=>string_calls va x W hx hs hW;obtain ⟨r,hr⟩:∃ r,decide (600 < nDigits x.natAbs)=r:=⟨_,rfl⟩
 have af:∀ b:Nat,IsBits x.natAbs b→b≤1800→r=false:=fun b hb h=>by
  rw[←hr];have h1:x.natAbs < 10^600:=Nat.lt_of_lt_of_le hb.lt (pow_eight_ten (n:=600) (by omega));have:=(nDigits_le_iff (k:=600) (by omega)).2 h1;exact decide_eq_false (by omega)
 obtain ⟨D,hD⟩:∃ D:ByteArray,⟨(decDigits x.natAbs).toArray⟩=D:=⟨_,rfl⟩
 have ae:D.size=nDigits x.natAbs:=by rw[←hD,←decDigits_length];simp[ByteArray.size]
 obtain ⟨S,hS⟩:∃ S:ByteArray,⟨(Lib.itoa x).toArray⟩=S:=⟨_,rfl⟩
 have ag:(⟨(Lib.trimPrefix S.data.toList (⟨#[45]⟩:ByteArray).data.toList).toArray⟩:ByteArray)=D:=by
  rw[←hS,←hD,←trim_itoa]
 have ab:decide ((600:Int) < (D.size:Int))=r:=by
  rw[←hr,ae];exact decide_eq_decide.2 (by omega)
 simp only[hS]at ac;rw[hr];clear hr hs hD ae hS;refine zh7 ?_ hx bx he ac af ag ab;clear hx bx he ac af ag ab;intro HX BX HE ai ah aj ad;go_in;go_wp2_with fail;obtain ⟨BA,HN⟩:=lay1 w 113 #[.int .i64 sa,.slice aa la ca];refine zN (bits_calls _ x _ (HX.new HN) BX) fun w1 b hn hb=>?_;obtain ⟨HN,BA⟩:=zn2 hn HN BA.new;clear hn;by_cases h:b≤1800
 ·have hr:=ah.out b hb h
  have hi:¬(1800:Int) < (b:Int):=by omega
  have hd:decide ((1800:Int) < (b:Int))=false:=decide_eq_false hi;clear h hb;replace hr:=hid hr;go_wp2_with fail;go_ret;exact ⟨by rw[hr.out];rfl,HN.out⟩
 ·have hi:(1800:Int) < (b:Int):=by omega
  have hd:decide ((1800:Int) < (b:Int))=true:=decide_eq_true hi;clear h hb;have pa:=BA.out.two;go_wp2_with fail;refine zM (ai _ _ (HX.new HN) (HE.new HN)) fun w2 hn=>?_;clear pa;replace HN:=tW HN hn;clear hn;go_wp2_with fail;refine (Tryz.strings_TrimPrefix S _ _).mono ?_;rintro e w' ⟨rfl,hw⟩;subst hw;rw[aj.out];have ab:=ad.out;go_wp2_with fail;go_ret;exact ⟨rfl,HN⟩
def bigQ (q:Rat):Bool:=decide (600 < nDigits q.num.natAbs) || decide (600 < nDigits q.den)
theorem nlarge_calls (va:Value)(q:Rat)(w:World)(hx:IsFrac w va q)(hb:FB 40000 q)(he:Env w):Calls prog 165 #[va] w fun e w'=>e=.returned (.bool (bigQ q))∧New w w':=by
 obtain ⟨s,a,l,c,s',a',l',c',rfl,h1,h2⟩:=hx;have ab:=fun W va hx hW=>nlong_calls va q.num W hx hb.num hW;have aa:=fun W va hx hW=>nlong_calls va (q.den:Int) W hx hb.den hW;rw[Int.natAbs_natCast] at aa;unfold bigQ;obtain ⟨r1,ac⟩:∃ r,decide (600 < nDigits q.num.natAbs)=r:=⟨_,rfl⟩;obtain ⟨r2,ad⟩:∃ r,decide (600 < nDigits q.den)=r:=⟨_,rfl⟩;simp only[ac] at ab;simp only[ad] at aa;rw[ac,ad];clear ac ad hb;refine zh5 ?_ h1 h2 he ab aa;clear h1 h2 he ab aa;intro H1 H2 HE ae af;go_in;go_wp2_with fail;obtain ⟨BA,HN⟩:=lay1 w 115 #[.int .i64 s,.slice a l c,.int .i64 s',.slice a' l' c'];refine zM (ae _ _ (H1.new HN) (HE.new HN)) fun w2 hn=>?_;obtain ⟨HN,BA⟩:=zn2 hn HN BA.new;clear hn
 cases r1 with
 | true=>
  go_wp2_with fail;go_ret;exact ⟨rfl,HN⟩
 | false=>
  have pa:=BA.out.four;go_wp2_with fail;refine zM (af _ _ (H2.new HN) (HE.new HN)) fun w3 hn=>?_;clear pa;replace HN:=tW HN hn;clear hn;go_wp2_with fail;go_ret;exact ⟨rfl,HN⟩
def resS (q:Rat):ByteArray:=if bigQ q then ⟨#[]⟩ else rs q
def resE (q:Rat):Int:=if bigQ q then 4 else 0
theorem nresult_gen (va:Value)(q:Rat)(w:World)(hx:IsFrac w va q)(hb:FB 40000 q)(he:Env w):Calls prog 91 #[va] w (TxtPost w (resS q) (resE q)):=by
 obtain ⟨sa,aa,la,ca,ta,ba,ma,na,rfl⟩:=hx.shape;have ac:=fun (W:World) v h hW=>text_calls v q W h hb hW;have ab:=fun (W:World) v h hW=>nlarge_calls v q W h hb hW;obtain ⟨X,hX⟩:∃ X:ByteArray,rs q=X:=⟨_,rfl⟩;have ad:(⟨(ratText q).toArray⟩:ByteArray)=X:=hX;obtain ⟨r,hr⟩:∃ r,bigQ q=r:=⟨_,rfl⟩;simp only[ad] at ac;simp only[hr] at ab;unfold TxtPost resS resE;rw[hX,hr];clear hb hX ad hr;refine zh4 ?_ hx he ac ab;clear hx he ac ab;intro HX HE af ae;go_in;go_upto_region 1 with (fail);obtain ⟨BA,HN⟩:=lay1 w 115 #[.int .i64 sa,.slice aa la ca,.int .i64 ta,.slice ba ma na];have pa:=BA.out.four;go_wp2_with fail;refine zM (ae _ _ (HX.new HN) (HE.new HN)) fun w1 hn=>?_;clear pa;obtain ⟨HN,BA⟩:=zn2 hn HN BA.new;clear hn;have pa:=BA.out.four
 cases r with
 | true=>
  go_wp2_with fail;refine bodyPost_ret (v:=.tuple #[.string ⟨#[]⟩,.int .i64 4]) (by simp[results,results91,go_sem]) rfl ?_;exact ⟨rfl,HN⟩
 | false=>
  go_wp2_with fail;refine zM (af _ _ (HX.new HN) (HE.new HN)) fun w2 hn=>?_;clear pa;replace HN:=tW HN hn;clear hn;go_wp2_with fail;refine bodyPost_ret (v:=.tuple #[.string X,.int .i64 0]) (by simp[results,results91,go_sem]) rfl ?_;exact ⟨rfl,HN⟩
theorem nof_calls (n d:Int)(w:World)(he:Env w)(hd:d≠0)(bn:n.natAbs≤999999999)(bd:d.natAbs≤999999999):Calls prog 69 #[.int .i64 n,.int .i64 d] w (TxtPost w (rs (Rat.divInt n d)) 0):=by
 have kn:BdK 62 n:=Nat.lt_of_le_of_lt bn (by decide);have kd:BdK 62 d:=Nat.lt_of_le_of_lt bd (by decide);have aa:=fun W va vb h1 h2=>make_calls va vb n d W h1 h2 (kn.bd (by omega)) (kd.bd (by omega)) hd;have ab:=fun W v h hW=>nresult_calls v (Rat.divInt n d) W h ((FB.divInt kn kd hd).mono (by omega)) hW;obtain ⟨q,hq⟩:∃ q,Rat.divInt n d=q:=⟨_,rfl⟩;obtain ⟨X,hX⟩:∃ X,rs q=X:=⟨_,rfl⟩;simp only[hq,hX] at aa ab;rw[hq,hX];have hb:(d==0)=false:=beq_false_of_ne hd;have s1:∀ W,IsInt W (.agg #[.int .i64 n,.slice none 0 0]) n:=fun W=>.small rfl (by omega) (by omega);have s2:∀ W,IsInt W (.agg #[.int .i64 d,.slice none 0 0]) d:=fun W=>.small rfl (by omega) (by omega);unfold TxtPost at *;clear hq hX kn kd bn bd hd;refine zh6 ?_ (New.refl w) he aa ab s1 s2;clear he aa ab s1 s2;intro HN HE ac ad S1 S2;go_in;go_wp2_with fail;refine zM (of_calls n _) fun w1 hn=>?_;replace HN:=tW HN hn;clear hn;go_wp2_with fail;refine zM (of_calls d _) fun w2 hn=>?_;replace HN:=tW HN hn;clear hn;go_wp2_with fail;refine zN (ac _ _ _ (S1 _) (S2 _)) fun w3 v hn hf=>?_;replace hf:=hid hf;replace HN:=tW HN hn;clear hn;go_wp2_with fail;refine zM (ad _ _ hf (HE.new HN)) fun w4 hn=>?_;replace HN:=tW HN hn;clear hn;go_wp2_with fail;refine bodyPost_ret (v:=.tuple #[.string X,.int .i64 0]) (by simp[results,results69,go_sem]) rfl ?_;exact ⟨rfl,HN⟩
theorem floor_fb {q:Rat}{k:Nat}(h:FB k q)(hk:1≤k):FB (k+1) ((q.floor:Int):Rat):=by
 refine FB.int ?_ (by omega);have h1:q.num.natAbs < 2^k:=h.num;have hd:=q.den_pos;unfold BdK;rw[Rat.floor_def];have h2:=Int.natAbs_ediv_le_natAbs q.num (q.den:Int);have:2^k≤2^(k+1):=Nat.pow_le_pow_right (by omega) (by omega);omega
theorem nfloor_ok (s:ByteArray)(q:Rat)(hs:s.data.toList=ratText q)(hf:Fits q)(hl:s.size≤100000)(w:World)(he:Env w):Calls prog 70 #[.string s] w (TxtPost w (resS ((q.floor:Int):Rat)) (resE ((q.floor:Int):Rat))):=by
 have ac:=fun W hW=>check_calls s W hW hl;rw[hs,ratErr_ratText hf] at ac;have fb:=Fits.fb hf;have ae:=fun W hW=>from_calls s q W hW hs (by omega);have ad:=fun W v h=>floor_calls v q 2000 W h fb (by omega);have ab:=fun W v h=>whole_calls v q.floor W h;have aa:=fun W v h hW=>nresult_gen v ((q.floor:Int):Rat) W h ((floor_fb fb (by omega)).mono (by omega)) hW;obtain ⟨z,hz⟩:∃ z,q.floor=z:=⟨_,rfl⟩;simp only[hz] at ad ab aa;rw[hz];obtain ⟨p,hp⟩:∃ p:Rat,((z:Int):Rat)=p:=⟨_,rfl⟩;simp only[hp] at ab aa;rw[hp];obtain ⟨X,hX⟩:∃ X,resS p=X:=⟨_,rfl⟩;obtain ⟨E,hE⟩:∃ X,resE p=X:=⟨_,rfl⟩;simp only[hX,hE] at aa;rw[hX,hE];unfold TxtPost at *;clear hX hE hp hz hs hf hl fb;refine zh7 ?_ (New.refl w) he ac ae ad ab aa;clear he ac ae ad ab aa;intro HN HE af aj ai al ak;go_in;go_wp2_with fail;refine zM (af _ (HE.new HN)) fun w1 hn=>?_;replace HN:=tW HN hn;clear hn;go_wp2_with fail;refine zN (aj _ (HE.new HN)) fun w2 v2 hn hf=>?_;have ag:=hid hf;clear hf;replace HN:=tW HN hn;clear hn;go_wp2_with fail;refine zN (ai _ _ ag) fun w3 v3 hn hf=>?_;have ah:=hid hf;clear hf;replace HN:=tW HN hn;clear hn;go_wp2_with fail;refine zN (al _ _ ah) fun w4 v4 hn hf=>?_;replace hf:=hid hf;replace HN:=tW HN hn;clear hn;go_wp2_with fail;refine zM (ak _ _ hf (HE.new HN)) fun w5 hn=>?_;replace HN:=tW HN hn;clear hn;go_wp2_with fail;refine bodyPost_ret (v:=.tuple #[.string X,.int .i64 E]) (by simp[results,results70,go_sem]) rfl ?_;exact ⟨rfl,HN⟩
end Go.Proofs.YtnjonlnemagomaaGreatDoor
