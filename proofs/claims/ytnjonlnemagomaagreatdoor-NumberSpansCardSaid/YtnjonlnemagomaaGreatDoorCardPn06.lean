/- Part CardPn06. -/
import Derived.Lib.SmallJoins
import Derived.Maps.AppendAt
import Derived.Laws.AppendOwnNone
import Derived.Test.YtnjonlnemagomaaGreatDoorB31
import Derived.Test.YtnjonlnemagomaaGreatDoorB35
import Derived.Test.YtnjonlnemagomaaGreatDoorCardPn05
namespace Go.Proofs.YtnjonlnemagomaaGreatDoor
open Go.RowKit Big Go.Lib Go.ChangeShapes Go.WideShapes Go.Deep Go.Joins Go.Proofs.Tryz
set_option maxRecDepth 100000
set_option maxHeartbeats 8000000
set_option linter.all false
theorem rrow_calls (a:Option Addr)(cap n:Nat)(vs:List ByteArray)(E:Int)(w:World)(hn0:vs.length=n)(hl:n≤4096)(hr:RdL w a (strs vs))(hE:rowErr vs=E)(hsz:∀ (k:Nat) (h1:k < vs.length),(vs[k]).size≤100000):
  Calls prog 85 #[.slice a n cap] w (RetNew w E):=by
 have aj:∀ (k:Nat) (h1:k < vs.length) (W:World),Calls prog 18 #[.string vs[k]] W fun e w'=>e=.returned (.int .i64 (ratErr vs[k].data.toList))∧New W w':=fun k h1 W=>rcheck_calls vs[k] W (by have:=hsz k h1;omega)
 have an:(n:Int)≤4096:=by omega
 clear hsz hl;refine zh4 ?_ aj hr hE hn0;clear aj hr hE hn0;intro ak HR al ai;go_in;go_wp2_with fail;go_loopw [3] (fun i wr=>∃ (k:Nat),k≤n∧i=.int .i64 (k:Int)∧Hid (rowErr (vs.drop k)=E)∧Hid (New w wr)) (fun i _=>n - (RowKit.intOf i).toNat)
 case atStart=>exact ⟨0,Nat.zero_le _,rfl,al,hid (New.refl _)⟩
 case round=>
  obtain ⟨k,hk,rfl,HP,HN⟩:=hrel;by_cases hlt:k < n
  ·have ae:k < vs.length:=by rw[ai.out];exact hlt
   obtain ⟨b1,ao,rfl,ab⟩:=HR.out.str k ae;have ab:=HN.out.cell ab;have aa:=ak.out k ae;have ac:=rowErr_drop vs k ae;rw[HP.out] at ac;obtain ⟨x,hx⟩:∃ x,vs[k]=x:=⟨_,rfl⟩;rw[hx] at ab ac;simp only[hx] at aa;obtain ⟨r,hr⟩:∃ r,ratErr x.data.toList=r:=⟨_,rfl⟩;rw[hr] at ac;simp only[hr] at aa;by_cases hr0:r=0
   ·subst hr0;rw[if_pos rfl] at ac;refine zh4 ?_ aa hx ac hr;clear aa hx ac hr;intro ad HX af am;go_wp2_with fail;refine zM (ad _) fun w4 hn=>?_;clear ab;replace HN:=tW HN hn;clear hn;go_wp2_with fail;go_roundw
    case rel=>exact ⟨k+1,by omega,by go_num,hid af.out.symm,HN⟩
    case measure=>simp[RowKit.intOf];omega
   ·rw[if_neg hr0] at ac
    have ht:(r != 0)=true:=by simpa using hr0
    refine zh4 ?_ aa hx ac hr;clear aa hx ac hr;intro ad HX af am;clear hr0;go_wp2_with fail;refine zM (ad _) fun w4 hn=>?_;clear ab;replace HN:=tW HN hn;clear hn;go_wp2_with fail;go_ret;exact ⟨by rw[←af.out];rfl,HN.out⟩
  ·have ah:k=n:=by omega
   have ag:E=0:=by
    rw[←HP.out,ah,←ai.out,List.drop_length];rfl
   replace ah:=hid ah;replace ag:=hid ag;go_wp2_with fail;go_ret;exact ⟨by rw[ag.out];rfl,HN.out⟩
section
variable {H:Type} {enc:TypeId × Value→H} {P:Program} {w:World} {base:Nat} {sp:Nat→Bool} {held:Bool}
theorem trod_str' {t:TypeId}{fuel:Nat}{v:Value}{y:DataW H × List MemPlace}(ht:P.underlying t=some .string)(h:DataW.trod enc P w base sp held fuel t [v]=some y):∃ s:ByteArray,v=.string s∧s.size≤9223372036854775807:=by
 obtain ⟨s,h1,_,hs⟩:=DataW.trod_string ht h;exact ⟨s,by simpa using h1,hs⟩
end
section
variable {H:Type} {enc:TypeId × Value→H} {P:Program} {w:World} {base:Nat} {sp:Nat→Bool} {held:Bool}
end
theorem in_span {H:Type}{enc:TypeId × Value→H}{w:World}{base:Nat}{sp:Nat→Bool}{held:Bool}{r:Reach}{b0:Nat}{v:Value}{d:DataW H}{p:List MemPlace}(hval:Value.okWide prog w r b0 53 v)(h:DataW.Trod enc prog w base sp held 53 v d p):
  ∃ (x y:ByteArray),v=.agg #[.string x,.string y]∧x.size≤9223372036854775807∧y.size≤9223372036854775807:=by
 obtain ⟨v0,v1,y0,y1,n,rfl,_,_,h0,h1⟩:=Joins.open_agg2 underlying53 (by kernel_rfl) (by kernel_rfl) hval h;obtain ⟨c,rfl,hc⟩:=trod_str' underlying23 h0;obtain ⟨t,rfl,ht⟩:=trod_str' underlying23 h1;exact ⟨c,t,rfl,hc,ht⟩
theorem ncheckSpan_err (x y:ByteArray)(E:Int)(hE:err2 x y=E)(h0:E≠0)(hx:x.size≤100000)(hy:y.size≤100000)(w:World)(he:Env w):Calls prog 51 #[.agg #[.string x,.string y]] w (RetNew w E):=by
 have aa:=ncheckAll_two x y hx hy;rw[hE] at aa
 have ht:(E != 0)=true:=by simpa using h0
 clear h0 hE hx hy;replace he:=hid he;replace aa:=hid aa;go_in;go_upto_region 1 with (fail);obtain ⟨BA,HN⟩:=lay1 w 53 #[.string x,.string y];obtain ⟨w8,ab⟩:∃ u,w.alloc (.cells #[.string x,.string y] 53)=u:=⟨_,rfl⟩;rw[ab] at BA HN⊢;clear ab;have pa:=BA.out.two;go_wp2_with fail;clear pa;obtain ⟨BG,hn⟩:=lay1 w8 23 #[.string x,.string y];obtain ⟨HN,BA⟩:=zn2 hn HN BA.new;clear hn;refine zM (aa _ _ _ _ (he.new HN) BG) fun w2 hn=>?_;clear BG;obtain ⟨HN,BA⟩:=zn2 hn HN BA.new;clear hn;go_wp2_with fail;go_ret;exact ⟨rfl,HN⟩
theorem nroot_err (s:ByteArray)(E:Int)(hE:ratErr s.data.toList=E)(h0:E≠0)(hl:s.size≤100000)(w:World)(he:Env w):Calls prog 31 #[.string s] w (SpPost w ⟨#[]⟩ ⟨#[]⟩ E):=by
 have aa:=fun W hW=>check_calls s W hW hl;rw[hE] at aa
 have ht:(E != 0)=true:=by simpa using h0
 clear hE h0 hl;unfold SpPost;replace he:=hid he;replace aa:=hid aa;go_in;go_upto_region 1 with (fail);obtain ⟨BP,HN⟩:=lay1 w 53 #[.string ⟨#[]⟩,.string ⟨#[]⟩];go_wp2_with fail;refine zM (aa _ (he.new HN)) fun w1 hn=>?_;obtain ⟨HN,BP⟩:=zn2 hn HN BP.new;clear hn;obtain ⟨p0,p1,p2,p3,p4⟩:=BP.out.two;go_wp2_with fail;refine bodyPost_ret (v:=.tuple #[.agg #[.string ⟨#[]⟩,.string ⟨#[]⟩],.int .i64 E]) (by simp[results,results31,go_sem,p0,p1]) rfl ?_;exact ⟨rfl,HN.putAt BP (by omega) _ _⟩
theorem nroot_neg (s:ByteArray)(q:Rat)(hs:s.data.toList=ratText q)(hf:Fits q)(hl:s.size≤100000)(h0:q.num < 0)(w:World)(he:Env w):Calls prog 31 #[.string s] w (SpPost w ⟨#[]⟩ ⟨#[]⟩ 3):=by
 have aa:=fun W hW=>check_calls s W hW hl;rw[hs,ratErr_ratText hf] at aa;have ab:=fun W hW=>from_calls s q W hW hs (by omega);obtain ⟨t,ht,af⟩:∃ t,q.num.sign=t∧t < 0:=⟨_,rfl,Int.sign_neg_iff.2 h0⟩;have ag:decide (t < 0)=true:=decide_eq_true af;clear hs hf hl h0;unfold SpPost;refine zh4 ?_ he aa ab ht;clear he aa ab ht;intro HE ac ad ae;go_in;go_upto_region 1 with (fail);obtain ⟨BP,HN⟩:=lay1 w 53 #[.string ⟨#[]⟩,.string ⟨#[]⟩];go_wp2_with fail;refine zM (ac _ (HE.new HN)) fun w1 hn=>?_;obtain ⟨HN,BP⟩:=zn2 hn HN BP.new;clear hn;go_upto_region 4 with (fail);go_wp2_with fail;refine zS (ad _ (HE.new HN)) fun w2 s2 a2 l2 c2 t2 d2 m2 k2 hn hf=>?_;have HF:=hid hf;clear hf;obtain ⟨HN,BP⟩:=zn2 hn HN BP.new;clear hn;go_upto_region 5 with (fail);obtain ⟨BX,hn⟩:=lay1 w2 115 #[.int .i64 s2,.slice a2 l2 c2,.int .i64 t2,.slice d2 m2 k2];obtain ⟨HN,BP,HF⟩:=zn3 hn HN BP.new HF.new;clear hn;have pa:=BX.out.four;go_wp2_with fail;refine zM (fsign_calls _ q _ HF) fun w3 hn=>?_;rw[ae.out];clear pa;obtain ⟨HN,BP,BX,HF⟩:=zn4 hn HN BP.new BX.new HF.new;clear hn;obtain ⟨p0,p1,p2,p3,p4⟩:=BP.out.two;go_wp2_with fail;refine bodyPost_ret (v:=.tuple #[.agg #[.string ⟨#[]⟩,.string ⟨#[]⟩],.int .i64 3]) (by simp[results,results31,go_sem,p0,p1]) rfl ?_;exact ⟨rfl,HN.putAt BP (by omega) _ _⟩
theorem frac_of {W:World}{s s':Int}{a a':Option Addr}{l c l' c':Nat}{q:Rat}{n d:Int}(h1:IsInt W (.agg #[.int .i64 s,.slice a l c]) n)(h2:IsInt W (.agg #[.int .i64 s',.slice a' l' c']) d)(hn:n*n=q.num)(hd:d*d=q.den)(hd0:0 < d):IsFrac W (.agg #[.int .i64 s,.slice a l c,.int .i64 s',.slice a' l' c']) (Rat.divInt n d):=by
 have hc:Nat.gcd (n.natAbs) (d.natAbs)=1:=by
  have h3:=q.reduced
  have e1:q.num.natAbs=n.natAbs*n.natAbs:=by rw[←hn,Int.natAbs_mul]
  have e2:q.den=d.natAbs*d.natAbs:=by
   have:=congrArg Int.natAbs hd;rw[Int.natAbs_mul,Int.natAbs_natCast] at this;exact this.symm
  rw[Nat.Coprime,e1,e2]at h3;exact Nat.Coprime.coprime_mul_right (Nat.Coprime.coprime_mul_right_right h3)
 have e3:(Rat.divInt n d).num=n∧((Rat.divInt n d).den:Int)=d:=by
  rw[Rat.num_divInt,Rat.den_divInt,if_neg (by omega)]
  have hg:d.gcd n=1:=by rw[Int.gcd_comm];exact hc
  rw[hg];have hs:d.sign=1:=Int.sign_eq_one_of_pos hd0;rw[hs];simp;omega
 exact ⟨_,_,_,_,_,_,_,_,rfl,by rw[e3.1];exact h1,by rw[e3.2];exact h2⟩
theorem nroot_exact (s:ByteArray)(q:Rat)(n d:Int)(hs:s.data.toList=ratText q)(hf:Fits q)(hb:FB 700 q)(hl:s.size≤100000)(n0:0≤n)(d0:0 < d)(hn:n*n=q.num)(hd:d*d=q.den)(w:World)(he:Env w):Calls prog 31 #[.string s] w (SpPost w (rs (Rat.divInt n d)) (rs (Rat.divInt n d)) 0):=by
 have ad:=fun W hW=>check_calls s W hW hl;rw[hs,ratErr_ratText hf] at ad;have aj:=fun W hW=>from_calls s q W hW hs (by omega)
 have q0:0≤q.num:=by rw[←hn];exact Int.mul_nonneg n0 n0
 obtain ⟨t,ht,ar⟩:∃ t,q.num.sign=t∧¬t < 0:=⟨_,rfl,fun h=>by have:=Int.sign_neg_iff.1 h;omega⟩;have au:decide (t < 0)=false:=decide_eq_false ar;have ah:IsRt q.num n:=⟨n0,by omega,by rw[←hn];exact sq_lt n0 (by omega)⟩;have ag:IsRt q.den d:=⟨by omega,by omega,by rw[←hd];exact sq_lt (by omega) (by omega)⟩;have af:=fun W va hx=>fsqrt_calls va q n d 700 W hx q0 ah ag hb (by omega);rw[decide_eq_true hn,decide_eq_true hd] at af;have bn:=rt_bd ah hb.num;have bd:=rt_bd ag hb.den;have ae:=fun (W:World) (s s':Int) (a a':Option Addr) (l c l' c':Nat) h1 h2=>frac_of (W:=W) (s:=s) (s':=s') (a:=a) (a':=a') (l:=l) (c:=c) (l':=l') (c':=c') (q:=q) h1 h2 hn hd d0;have fb:FB 1800 (Rat.divInt n d):=(FB.divInt bn bd (by omega)).mono (by omega);have aa:=fun W va vb h1 h2 hW=>nspan_calls va vb (Rat.divInt n d) (Rat.divInt n d) W h1 h2 fb fb hW;obtain ⟨p,hp⟩:∃ p,Rat.divInt n d=p:=⟨_,rfl⟩;obtain ⟨X,hX⟩:∃ X,rs p=X:=⟨_,rfl⟩;unfold SpPost at aa⊢;simp only[hp] at ae aa;rw[hX] at aa;rw[hp,hX];clear hp hX fb bn bd hs hf hb hl n0 d0 hn hd q0 ah ag;refine zh7 ?_ he ad aj ht af aa ae;clear he ad aj ht af aa ae;intro HE am an ao aq ap ai;go_in;go_upto_region 1 with (fail);obtain ⟨BP,HN⟩:=lay1 w 53 #[.string ⟨#[]⟩,.string ⟨#[]⟩];go_wp2_with fail;refine zM (am _ (HE.new HN)) fun w1 hn=>?_;obtain ⟨HN,BP⟩:=zn2 hn HN BP.new;clear hn;go_upto_region 4 with (fail);go_wp2_with fail;refine zS (an _ (HE.new HN)) fun w2 s2 a2 l2 c2 t2 d2 m2 k2 hn hf=>?_;have HF:=hid hf;clear hf;obtain ⟨HN,BP⟩:=zn2 hn HN BP.new;clear hn;go_upto_region 5 with (fail);obtain ⟨BX,hn⟩:=lay1 w2 115 #[.int .i64 s2,.slice a2 l2 c2,.int .i64 t2,.slice d2 m2 k2];obtain ⟨HN,BP,HF⟩:=zn3 hn HN BP.new HF.new;clear hn;have pa:=BX.out.four;go_wp2_with fail;refine zM (fsign_calls _ q _ HF) fun w3 hn=>?_;rw[ao.out];clear pa;obtain ⟨HN,BP,BX,HF⟩:=zn4 hn HN BP.new BX.new HF.new;clear hn;go_upto_region 7 with (fail);have pa:=BX.out.four;go_wp2_with fail;refine (aq _ _ HF).mono ?_;rintro e w4 ⟨s5,a5,l5,c5,t5,d5,m5,k5,rfl,hn,ak,al⟩;clear pa;have ab:=hid ak;have ac:=hid al;clear ak al;obtain ⟨HN,BP,BX,HF⟩:=zn4 hn HN BP.new BX.new HF.new;clear hn;go_upto_region 8 with (fail);obtain ⟨BR,hn⟩:=lay1 w4 115 #[.int .i64 s5,.slice a5 l5 c5,.int .i64 t5,.slice d5 m5 k5];obtain ⟨HN,BP,BX,HF,ab,ac⟩:=zn6 hn HN BP.new BX.new HF.new ab.new ac.new;clear hn;have pa:=BR.out.four;go_wp2_with fail;refine zM (ap _ _ _ (ai _ _ _ _ _ _ _ _ _ ab ac) (ai _ _ _ _ _ _ _ _ _ ab ac) (HE.new HN)) fun w5 hn=>?_;clear pa;obtain ⟨HN,BP⟩:=zn2 hn HN BP.new;clear hn;obtain ⟨p0,p1,p2,p3,p4⟩:=BP.out.two;go_wp2_with fail;refine bodyPost_ret (v:=.tuple #[.agg #[.string X,.string X],.int .i64 0]) (by simp[results,results31,go_sem,p0,p1]) rfl ?_;exact ⟨rfl,HN.putAt BP (by omega) _ _⟩
theorem nplus_calls (xa ya xb yb U V:ByteArray)(r:Int)(aa:∀ W,Env W→Calls prog 140 #[.agg #[.string xa,.string ya],.agg #[.string xb,.string yb],.func (.func 92) #[] #[]] W (SpPost W U V r))(w:World)(he:Env w):
  Calls prog 52 #[.agg #[.string xa,.string ya],.agg #[.string xb,.string yb]] w (SpPost w U V r):=by
 unfold SpPost at *;replace he:=hid he;replace aa:=hid aa;go_in;go_upto_region 1 with (fail);obtain ⟨BA,BB,BP,HN⟩:=lay3 w 53 #[.string xa,.string ya] 53 #[.string xb,.string yb] 53 #[.string ⟨#[]⟩,.string ⟨#[]⟩];obtain ⟨ab,ac,ad,ae,af⟩:=BA.out.two;obtain ⟨ag,ah,ai,aj,ak⟩:=BB.out.two;go_wp2_with fail;refine zM (aa _ (he.new HN)) fun w4 hn=>?_;clear ab ac ad ae af ag ah ai aj ak;obtain ⟨HN,BP⟩:=zn2 hn HN BP.new;clear hn;obtain ⟨p0,p1,p2,p3,p4⟩:=BP.out.two;go_wp2_with fail;refine bodyPost_ret (v:=.tuple #[.agg #[.string U,.string V],.int .i64 r]) (by simp[results,results52,go_sem,p0,p1]) rfl ?_;exact ⟨rfl,HN.putAt BP (by omega) _ _⟩
theorem nminus_calls (xa ya xb yb U V:ByteArray)(r:Int)(aa:∀ W,Env W→Calls prog 140 #[.agg #[.string xa,.string ya],.agg #[.string xb,.string yb],.func (.func 93) #[] #[]] W (SpPost W U V r))(w:World)(he:Env w):
  Calls prog 53 #[.agg #[.string xa,.string ya],.agg #[.string xb,.string yb]] w (SpPost w U V r):=by
 unfold SpPost at *;replace he:=hid he;replace aa:=hid aa;go_in;go_upto_region 1 with (fail);obtain ⟨BA,BB,BP,HN⟩:=lay3 w 53 #[.string xa,.string ya] 53 #[.string xb,.string yb] 53 #[.string ⟨#[]⟩,.string ⟨#[]⟩];obtain ⟨ab,ac,ad,ae,af⟩:=BA.out.two;obtain ⟨ag,ah,ai,aj,ak⟩:=BB.out.two;go_wp2_with fail;refine zM (aa _ (he.new HN)) fun w4 hn=>?_;clear ab ac ad ae af ag ah ai aj ak;obtain ⟨HN,BP⟩:=zn2 hn HN BP.new;clear hn;obtain ⟨p0,p1,p2,p3,p4⟩:=BP.out.two;go_wp2_with fail;refine bodyPost_ret (v:=.tuple #[.agg #[.string U,.string V],.int .i64 r]) (by simp[results,results53,go_sem,p0,p1]) rfl ?_;exact ⟨rfl,HN.putAt BP (by omega) _ _⟩
theorem ncompare_err (xa ya xb yb:ByteArray)(ea eb r:Int)(hr:(if ea=0 then eb else ea)=r)(h0:r≠0)(hca:∀ W,Env W→Calls prog 51 #[.agg #[.string xa,.string ya]] W (RetNew W ea))(hcb:∀ W,Env W→Calls prog 51 #[.agg #[.string xb,.string yb]] W (RetNew W eb))(w:World)(he:Env w):
  Calls prog 56 #[.agg #[.string xa,.string ya],.agg #[.string xb,.string yb]] w (NCmpPost w 0 r):=by
 have ht:(r != 0)=true:=by simpa using h0
 clear h0;unfold NCmpPost;refine zh4 ?_ he hca hcb hr;clear he hca hcb hr;intro HE aa ab HR;go_in;go_upto_region 1 with (fail);obtain ⟨BA,BB,HN⟩:=lay2 w 53 #[.string xa,.string ya] 53 #[.string xb,.string yb];have pa:=BA.out.two;have pb:=BB.out.two;clear pa;clear pb;refine zR 6 7 (fun W=>zC W w.heap.size (.string xa) (.string ya)∧zC W (w.heap.size+1) (.string xb) (.string yb)) ?_;refine zT 0 ⟨cW2 BA,cW2 BB⟩ ?_;refine zT 2 ⟨cW2 BA,cW2 BB⟩ ?_;refine tk1 1 fun K hK=>?_;go_simp;refine zM (aa _ (HE.new HN.drew)) fun w1 hn=>?_;obtain ⟨HN,BA,BB⟩:=zn3 hn.undrew HN BA.new BB.new;clear hn;refine zK hK ⟨cW2 BA,cW2 BB⟩ ?_;clear hK K;refine tk1 3 fun K hK=>?_;go_simp;refine zM (ab _ (HE.new HN)) fun w2 hn=>?_;obtain ⟨HN,BA,BB⟩:=zn3 hn HN BA.new BB.new;clear hn;refine zK hK ⟨cW2 BA,cW2 BB⟩ ?_;clear hK K;refine tk1 4 fun K hK=>?_;go_simp;obtain ⟨BG,hn⟩:=lay1 w2 32 #[.int .i64 ea,.int .i64 eb];obtain ⟨HN,BA,BB⟩:=zn3 hn HN BA.new BB.new;clear hn;refine zK hK ⟨cW2 BA,cW2 BB⟩ ?_;clear hK K;refine tk1 5 fun K hK=>?_;go_simp;refine zM (nfirst2_new ea eb _ _ 32 _ BG) fun w3 hn=>?_;rw[HR.out];clear BG;obtain ⟨HN,BA,BB⟩:=zn3 hn HN BA.new BB.new;clear hn;refine zK hK ⟨cW2 BA,cW2 BB⟩ ?_;clear hK K;refine tlW ?_;obtain ⟨ac,ad,ae,af,ag⟩:=BA.out.two;obtain ⟨ah,ai,aj,ak,al⟩:=BB.out.two;go_wp2_with fail;go_ret2;exact ⟨rfl,HN⟩
theorem box_strs {w:World}{B:Nat}{t:TypeId}{x y:ByteArray}(h:Box w B t #[.string x,.string y]):RdL w (some ⟨B,0,none⟩) (strs [x,y]):=fun i hi=>by
 refine ⟨B,0,rfl,?_⟩;rw[h.cell]
 match i,hi with
 | 0,_=>rfl
 | 1,_=>rfl
theorem rspan_calls (x y:Rat)(w:World)(hx:Fits x)(hy:Fits y)(hxy:x≤y)(hsx:(rs x).size≤100000)(hsy:(rs y).size≤100000):Calls prog 36 #[.agg #[.string (rs x),.string (rs y)]] w (RetNew w 0):=by
 have ab:=fun W=>rcmpQ_calls 2000 2000 x y W (RFB.of (Fits.fb hx)) (RFB.of (Fits.fb hy)) (by omega);have hs:=sign_le.2 hxy;obtain ⟨r,hr⟩:∃ r,(x - y).num.sign=r:=⟨_,rfl⟩;simp only[hr] at ab;rw[hr] at hs;have ad:decide (0 < r)=false:=decide_eq_false (by omega)
 have aa:=fun (W:World) (B cap:Nat) (t:TypeId) (hB:Box W B t #[.string (rs x),.string (rs y)])=>rrow_calls (some ⟨B,0,none⟩) cap 2 [rs x,rs y] 0 W rfl (by omega) (box_strs hB) (by
  show (if ratErr (rs x).data.toList=0 then (if ratErr (rs y).data.toList=0 then 0 else ratErr (rs y).data.toList) else ratErr (rs x).data.toList)=0
  rw[rs_list,rs_list,ratErr_ratText hx,ratErr_ratText hy];rfl) (fun k h1=>by
   match k,h1 with
   | 0,_=>exact hsx
   | 1,_=>exact hsy)
 obtain ⟨X,hX⟩:∃ X,rs x=X:=⟨_,rfl⟩;obtain ⟨Y,hY⟩:∃ X,rs y=X:=⟨_,rfl⟩;rw[hX,hY] at aa⊢;simp only[hX,hY] at ab;clear hX hY hx hy hxy hsx hsy hr;replace ab:=hid ab;replace aa:=hid aa;go_in;go_upto_region 1 with (fail);obtain ⟨BA,HN⟩:=lay1 w 53 #[.string X,.string Y];obtain ⟨w8,ac⟩:∃ x,w.alloc (.cells #[.string X,.string Y] 53)=x:=⟨_,rfl⟩;rw[ac] at BA HN⊢;clear ac;have pa:=BA.out.two;go_wp2_with fail;clear pa;obtain ⟨BG,hn⟩:=lay1 w8 23 #[.string X,.string Y];obtain ⟨HN,BA⟩:=zn2 hn HN BA.new;clear hn;refine zM (aa _ _ _ _ BG) fun w2 hn=>?_;clear BG;obtain ⟨HN,BA⟩:=zn2 hn HN BA.new;clear hn;have pa:=BA.out.two;go_wp2_with fail;refine zM (ab _) fun w3 hn=>?_;clear pa;replace HN:=tW HN hn;clear hn;go_wp2_with fail;go_ret;exact ⟨rfl,HN⟩
theorem rhas_calls (x y q:Rat)(w:World)(k:Nat)(hk:k≤10000)(hx:RFB k x)(hy:RFB k y)(hq:RFB k q)(h1:x≤q)(h2:q≤y):Calls prog 62 #[.agg #[.string (rs x),.string (rs y)],.string (rs q)] w fun e w'=>e=.returned (.bool true)∧New w w':=by
 have aa:=fun W=>rcmpQ_calls k k x q W hx hq (by omega);have ab:=fun W=>rcmpQ_calls k k q y W hq hy (by omega);have ae:=sign_le.2 h1;have af:=sign_le.2 h2;obtain ⟨r1,ac⟩:∃ r,(x - q).num.sign=r:=⟨_,rfl⟩;obtain ⟨r2,ad⟩:∃ r,(q - y).num.sign=r:=⟨_,rfl⟩;simp only[ac] at aa;simp only[ad] at ab;rw[ac] at ae;rw[ad] at af;have ag:decide (r1≤0)=true:=decide_eq_true ae;have ah:decide (r2≤0)=true:=decide_eq_true af;obtain ⟨X,hX⟩:∃ X,rs x=X:=⟨_,rfl⟩;obtain ⟨Y,hY⟩:∃ X,rs y=X:=⟨_,rfl⟩;obtain ⟨Q,hQ⟩:∃ X,rs q=X:=⟨_,rfl⟩;rw[hX,hY,hQ];simp only[hX,hQ] at aa;simp only[hY,hQ] at ab;clear hX hY hQ hx hy hq h1 h2 ac ad;replace aa:=hid aa;replace ab:=hid ab;go_in;go_upto_region 1 with (fail);obtain ⟨BA,HN⟩:=lay1 w 53 #[.string X,.string Y];have pa:=BA.out.two;go_wp2_with fail;refine zM (aa _) fun w2 hn=>?_;clear pa;obtain ⟨HN,BA⟩:=zn2 hn HN BA.new;clear hn;have pa:=BA.out.two;go_wp2_with fail;refine zM (ab _) fun w3 hn=>?_;clear pa;replace HN:=tW HN hn;clear hn;go_wp2_with fail;go_ret;exact ⟨rfl,HN⟩
theorem eight_tenN {k n:Nat}(h:k≤3*n):2^k≤10^n:=Nat.le_trans (Nat.pow_le_pow_right (by omega) h) (by
 rw[Nat.pow_mul]
 exact Nat.pow_le_pow_left (by decide) n)
theorem fitsN_of {k n:Nat}{q:Rat}(h:FB k q)(hk:k≤3*n):q.num.natAbs < 10^n∧q.den < 10^n:=by
 have h3:q.num.natAbs < 2^k:=h.num
 have h4:q.den < 2^k:=by simpa[BdK] using h.den
 exact ⟨Nat.lt_of_lt_of_le h3 (eight_tenN hk),Nat.lt_of_lt_of_le h4 (eight_tenN hk)⟩
theorem FB.fitsN {k:Nat}{q:Rat}(h:FB k q)(hk:k≤1800):Fits q:=Fits.iff.2 (fitsN_of (n:=600) h (by omega))
theorem minR_l (x y:Rat):minR x y≤x:=by unfold minR;split <;> grind
theorem minR_r (x y:Rat):minR x y≤y:=by unfold minR;split <;> grind
theorem maxR_l (x y:Rat):x≤maxR x y:=by unfold maxR;split <;> grind
theorem maxR_r (x y:Rat):y≤maxR x y:=by unfold maxR;split <;> grind
def min4 (a b c d:Rat):Rat:=minR (minR (minR a b) c) d
def max4 (a b c d:Rat):Rat:=maxR (maxR (maxR a b) c) d
theorem min4_le (a b c d:Rat):min4 a b c d≤a∧min4 a b c d≤b∧min4 a b c d≤c∧min4 a b c d≤d:=by
 unfold min4;have h1:=minR_l a b;have h2:=minR_r a b;have h3:=minR_l (minR a b) c;have h4:=minR_r (minR a b) c;have h5:=minR_l (minR (minR a b) c) d;have h6:=minR_r (minR (minR a b) c) d;exact ⟨Rat.le_trans h5 (Rat.le_trans h3 h1),Rat.le_trans h5 (Rat.le_trans h3 h2),Rat.le_trans h5 h4,h6⟩
theorem max4_ge (a b c d:Rat):a≤max4 a b c d∧b≤max4 a b c d∧c≤max4 a b c d∧d≤max4 a b c d:=by
 unfold max4;have h1:=maxR_l a b;have h2:=maxR_r a b;have h3:=maxR_l (maxR a b) c;have h4:=maxR_r (maxR a b) c;have h5:=maxR_l (maxR (maxR a b) c) d;have h6:=maxR_r (maxR (maxR a b) c) d;exact ⟨Rat.le_trans h1 (Rat.le_trans h3 h5),Rat.le_trans h2 (Rat.le_trans h3 h5),Rat.le_trans h4 h5,h6⟩
theorem csgn_lt {x y:Rat}(h:x < y):(x - y).num.sign= -1:=by
 have h1:¬(y - x).num.sign≤0:=by rw[sign_le];exact Rat.not_le.2 h
 have h2:(x - y).num= -(y - x).num:=by rw[←Rat.neg_sub,Rat.neg_num]
 rw[h2,Int.sign_neg];rcases Int.lt_trichotomy (y - x).num 0 with h3 | h3 | h3
 ·rw[Int.sign_eq_neg_one_of_neg h3] at h1;omega
 ·rw[h3] at h1;exact absurd (by decide) h1
 ·rw[Int.sign_eq_one_of_pos h3]
theorem rdenQ_calls (k:Nat)(q:Rat)(w:World)(hq:RFB k q)(hk:k≤40000):Calls prog 111 #[.string (rs q)] w (RetS w ((q.den:Int):Rat)):=by
 have ad:=hq.len;have aa:=fun W=>rslash_calls (rs q) W (by omega);by_cases hd:q.den=1
 ·have e1:upTo (rs q).data.toList=(rs q).data.toList:=by
   rw[rs_list];unfold ratText;rw[if_pos hd];exact (split_plain (slashed_itoa' _)).1
  have hr:rs (((1:Nat):Int):Rat)=⟨#[49]⟩:=by
   unfold rs;rw[ratText_int,Big.itoa_nonneg,decDigits_one'];rfl
  rw[hd];unfold RetS;rw[hr];rw[e1] at aa;obtain ⟨s,hs⟩:∃ s,rs q=s:=⟨_,rfl⟩;simp only[hs] at aa
  have aa:∀ W,Calls prog 96 #[.string s] W fun e w'=>e=.returned (.int .i64 (s.size:Nat))∧w'=W:=fun W=>(aa W).mono fun e w' h=>by
   rw[h.1,Array.length_toList];exact ⟨rfl,h.2⟩
  rw[hs];clear e1 hr hs ad hq hk hd;have hb:((s.size:Int)==(s.size:Int))=true:=beq_self_eq_true _;have ag:=hid aa;clear aa;go_in;go_wp2_with fail;refine (ag _).mono ?_;rintro e w1 ⟨rfl,ab⟩;rw[ab];clear ab;go_wp2_with fail;go_ret;exact ⟨rfl,New.refl _⟩
 ·have e1:upTo (rs q).data.toList=itoa q.num:=by
   rw[rs_list];unfold ratText;rw[if_neg hd];exact (parts_itoa' _ _).1
  have ac:(rs q).data.toList=itoa q.num ++ 47::decDigits q.den:=by
   rw[rs_list];unfold ratText;rw[if_neg hd]
  have hr:rs ((q.den:Int):Rat)=(rs q).extract ((itoa q.num).length+1) (rs q).size:=by
   apply ByteArray.ext;apply Array.toList_inj.1;rw[rs_list,ratText_int,Big.itoa_nonneg,Lib.extract_to_end,ac];rw[List.drop_append,List.drop_of_length_le (by omega)];simp
  have ae:(itoa q.num).length+1≤(rs q).size:=by
   have:(rs q).data.toList.length=(rs q).size:=by simp
   rw[←this,ac,List.length_append,List.length_cons];omega
  rw[e1]at aa;unfold RetS;rw[hr];obtain ⟨m,hm⟩:∃ m,(itoa q.num).length=m:=⟨_,rfl⟩;obtain ⟨s,hs⟩:∃ s,rs q=s:=⟨_,rfl⟩;rw[hm,hs] at ae;simp only[hm,hs] at aa;rw[hm,hs];rw[hs] at ad;have hb:((m:Int)==(s.size:Int))=false:=beq_false_of_ne (by omega);obtain ⟨m1,af⟩:∃ z,m+1=z:=⟨_,rfl⟩;rw[af]
  have ah:(m:Int)+1=(m1:Int):=by omega
  have ai:(m1:Int)≤(s.size:Int):=by omega
  have aj:(s.size:Int)≤1000000:=by omega
  have ak:IntKind.i64.wrap (m1:Int)=(m1:Int):=by rw[IntKind.wrap_i64];omega
  clear hs hm e1 hr hq hk ad ae hd ac af;replace aa:=hid aa;go_in;go_wp2_with fail;refine (aa _).mono ?_;rintro e w1 ⟨rfl,ab⟩;rw[ab];clear ab;go_wp2_with fail;go_ret;exact ⟨rfl,New.refl _⟩
theorem dig_of_pow {u k m:Nat}(h:u < 2^k)(hk:k≤3*m)(hm:1≤m):(decDigits u).length≤m:=by
 rw[decDigits_length,nDigits_le_iff hm];refine Nat.lt_of_lt_of_le h (Nat.le_trans (Nat.pow_le_pow_right (by omega) hk) ?_);rw[Nat.pow_mul];exact Nat.pow_le_pow_left (by decide) m
theorem rs_nat (n:Nat):(rs ((n:Int):Rat)).size=(decDigits n).length:=by
 unfold rs;rw[ratText_int,Big.itoa_nonneg,bs_size]
theorem rlarge_calls (k:Nat)(q:Rat)(w:World)(hq:RFB k q)(hk:k≤1800):Calls prog 104 #[.string (rs q)] w (RetNew w 0):=by
 have hn:=fun W=>rnum_calls k q W hq (by omega);have aa:RFB (k+1) ((q.num:Int):Rat):=rfb_int (Nat.lt_of_lt_of_le hq.num (Nat.pow_le_pow_right (by omega) (by omega))) (by omega);have ha:=fun W=>rabs_calls ((q.num:Int):Rat) W (by have:=aa.len;omega);have hd:=fun W=>rdenQ_calls k q W hq (by omega)
 have e1:absQ ((q.num:Int):Rat)=((q.num.natAbs:Int):Rat):=by
  unfold absQ;rw[Rat.num_intCast];split
  ·rw[←Rat.intCast_neg,show -q.num=(q.num.natAbs:Int) by omega]
  ·rw[show (q.num.natAbs:Int)=q.num by omega]
 rw[e1]at ha;have s1:=rs_nat q.num.natAbs;have s2:=rs_nat q.den;have d1:=dig_of_pow (m:=600) hq.num (by omega) (by omega);have d2:=dig_of_pow (m:=600) hq.den (by omega) (by omega);obtain ⟨N,hN⟩:∃ X,rs ((q.num:Int):Rat)=X:=⟨_,rfl⟩;obtain ⟨A,hA⟩:∃ X,rs ((q.num.natAbs:Int):Rat)=X:=⟨_,rfl⟩;obtain ⟨D,hD⟩:∃ X,rs ((q.den:Int):Rat)=X:=⟨_,rfl⟩;have hn:=fun W=>(hn W).mono fun e w' h=>RetS.to hN h;have ha:=fun W=>(ha W).mono fun e w' h=>RetS.to hA h;have hd:=fun W=>(hd W).mono fun e w' h=>RetS.to hD h;simp only[hN] at ha;rw[hA] at s1;rw[hD] at s2
 have i1:¬(600:Int) < (A.size:Int):=by omega
 have i2:¬(600:Int) < (D.size:Int):=by omega
 have b1:decide ((600:Int) < (A.size:Int))=false:=decide_eq_false i1;have b2:decide ((600:Int) < (D.size:Int))=false:=decide_eq_false i2;obtain ⟨s,hs⟩:∃ s,rs q=s:=⟨_,rfl⟩;simp only[hs] at hn hd;rw[hs];clear hN hA hD hs s1 s2 d1 d2 e1 aa hq hk;refine zh3 ?_ hn ha hd;clear hn ha hd;intro ad ab ac;go_in;go_wp2_with fail;refine zM (ad _) fun w1 hn=>?_;have HN:=hid hn;clear hn;go_wp2_with fail;refine zM (ab _) fun w2 hn=>?_;replace HN:=tW HN hn;clear hn;go_wp2_with fail;refine zM (ac _) fun w3 hn=>?_;replace HN:=tW HN hn;clear hn;go_wp2_with fail;go_ret;exact ⟨rfl,HN⟩
theorem rlargeRow_calls (k:Nat)(a:Option Addr)(cap:Nat)(x y:Rat)(w:World)(hx:RFB k x)(hy:RFB k y)(hk:k≤1800)(hr:RdL w a (strs [rs x,rs y])):
  Calls prog 199 #[.slice a 2 cap] w (RetNew w 0):=by
 obtain ⟨b1,o1,rfl,aa⟩:=hr.str 0 (by simp);obtain ⟨b2,o2,e2,ab⟩:=hr.str 1 (by simp)
 cases e2
 have h0:([rs x,rs y]:List ByteArray)[0]=rs x:=rfl;have h1:([rs x,rs y]:List ByteArray)[1]=rs y:=rfl;rw[h0,Nat.add_zero] at aa;rw[h1] at ab;have ac:=fun W=>rlarge_calls k x W hx hk;have ad:=fun W=>rlarge_calls k y W hy hk;obtain ⟨X,hX⟩:∃ X,rs x=X:=⟨_,rfl⟩;obtain ⟨Y,hY⟩:∃ Y,rs y=Y:=⟨_,rfl⟩;simp only[hX] at ac;simp only[hY] at ad;rw[hX] at aa;rw[hY] at ab;clear hX hY h0 h1 hr hx hy hk;refine zh4 ?_ ac ad aa ab;clear ac ad aa ab;intro ag ah ae af;go_in;go_wp2_with fail;go_loopw [3] (fun i wr=>∃ j:Nat,j≤2∧i=.int .i64 (j:Int)∧Hid (New w wr)) (fun i _=>2 - (RowKit.intOf i).toNat)
 case atStart=>exact ⟨0,by omega,rfl,hid (New.refl _)⟩
 case round=>
  obtain ⟨j,hj,rfl,HN⟩:=hrel;by_cases hlt:j < 2
  ·obtain rfl | rfl:j=0∨j=1:=by omega
   ·have hc:=HN.out.cell ae.out;go_wp2_with fail;refine zM (ag _) fun w2 hn=>?_;clear hc;replace HN:=tW HN hn;clear hn;go_wp2_with fail;go_roundw
    case rel=>exact ⟨1,by omega,rfl,HN⟩
    case measure=>simp[RowKit.intOf]
   ·have hc:=HN.out.cell af.out;go_wp2_with fail;refine zM (ah _) fun w2 hn=>?_;clear hc;replace HN:=tW HN hn;clear hn;go_wp2_with fail;go_roundw
    case rel=>exact ⟨2,by omega,rfl,HN⟩
    case measure=>simp[RowKit.intOf]
  ·obtain rfl:j=2:=by omega
   go_wp2_with fail;go_ret;exact ⟨rfl,HN⟩
theorem linteger_bad (bad want:Int)(w:World)(h:bad≠0):Calls prog 57 #[.int .i64 0,.int .i64 bad,.int .i64 bad,.int .i64 want] w fun e w'=>e=.returned (.bool true)∧New w w':=by
 have hb:(bad==0)=false:=beq_false_of_ne h;have aa:(bad != 0)=true:=bne_iff_ne.2 h;clear h;go_in;go_wp2_with fail;go_ret;exact ⟨rfl,New.refl _⟩
theorem linteger_ok (want:Int)(w:World):Calls prog 57 #[.int .i64 want,.int .i64 0,.int .i64 0,.int .i64 want] w fun e w'=>e=.returned (.bool true)∧New w w':=by
 have hb:(want==want)=true:=beq_self_eq_true want;go_in;go_wp2_with fail;go_ret;exact ⟨rfl,New.refl _⟩
theorem lwhen_calls (c:Bool)(n:Int)(w:World):Calls prog 23 #[.bool c,.int .i64 n] w fun e w'=>e=.returned (.int .i64 (if c=true then n else 0))∧New w w':=by
 cases c with
 | true=>
  go_in;go_wp2_with fail;go_ret;exact ⟨rfl,New.refl _⟩
 | false=>
  go_in;go_wp2_with fail;go_ret;exact ⟨rfl,New.refl _⟩
theorem rmin_calls (k:Nat)(x y:Rat)(w:World)(hx:RFB k x)(hy:RFB k y)(hk:k≤20000):Calls prog 203 #[.string (rs x),.string (rs y)] w (RetS w (minR x y)):=by
 have ab:=fun W=>rcmpQ_calls k k x y W hx hy (by omega);obtain ⟨r,hr⟩:∃ r,(x - y).num.sign=r:=⟨_,rfl⟩
 have ac:r≤0 ↔ x≤y:=by rw[←hr];exact sign_le
 have ad:0≤r ↔ y≤x:=by
  rw[←hr];have h:=sign_le (x:=y) (y:=x)
  have e:(x - y).num.sign= -(y - x).num.sign:=by rw[←Rat.neg_sub,Rat.neg_num,Int.sign_neg]
  rw[e,←h];omega
 simp only[hr]at ab;unfold RetS;obtain ⟨X,hX⟩:∃ X,rs x=X:=⟨_,rfl⟩;obtain ⟨Y,hY⟩:∃ X,rs y=X:=⟨_,rfl⟩;simp only[hX,hY] at ab;by_cases h:r≤0
 ·have hb:decide (r≤0)=true:=decide_eq_true h
  have aa:rs (minR x y)=X:=by
   rw[←hX];congr 1;unfold minR;split
   ·(rename_i h2;exact absurd (ac.1 h) (Rat.not_le.2 h2))
   ·rfl
  rw[aa,hX,hY];clear hX hY hr ac ad hx hy hk aa h;have ae:=hid ab;clear ab;go_in;go_wp2_with fail;refine zM (ae _) fun w1 hn=>?_;have HN:=hid hn;go_wp2_with fail;go_ret;exact ⟨rfl,HN⟩
 ·have hb:decide (r≤0)=false:=decide_eq_false h
  have aa:rs (minR x y)=Y:=by
   rw[←hY];congr 1;unfold minR;split
   ·rfl
   ·(rename_i h2;exact absurd (ac.2 (Rat.not_lt.1 h2)) h)
  rw[aa,hX,hY];clear hX hY hr ac ad hx hy hk aa h;replace ab:=hid ab;go_in;go_wp2_with fail;refine zM (ab _) fun w1 hn=>?_;have HN:=hid hn;go_wp2_with fail;go_ret;exact ⟨rfl,HN⟩
theorem rmax_calls (k:Nat)(x y:Rat)(w:World)(hx:RFB k x)(hy:RFB k y)(hk:k≤20000):Calls prog 204 #[.string (rs x),.string (rs y)] w (RetS w (maxR x y)):=by
 have ab:=fun W=>rcmpQ_calls k k x y W hx hy (by omega);obtain ⟨r,hr⟩:∃ r,(x - y).num.sign=r:=⟨_,rfl⟩
 have ad:r≤0 ↔ x≤y:=by rw[←hr];exact sign_le
 have ac:0≤r ↔ y≤x:=by
  rw[←hr];have h:=sign_le (x:=y) (y:=x)
  have e:(x - y).num.sign= -(y - x).num.sign:=by rw[←Rat.neg_sub,Rat.neg_num,Int.sign_neg]
  rw[e,←h];omega
 simp only[hr]at ab;unfold RetS;obtain ⟨X,hX⟩:∃ X,rs x=X:=⟨_,rfl⟩;obtain ⟨Y,hY⟩:∃ X,rs y=X:=⟨_,rfl⟩;simp only[hX,hY] at ab;by_cases h:r ≥ 0
 ·have hb:decide (r ≥ 0)=true:=decide_eq_true h
  have aa:rs (maxR x y)=X:=by
   rw[←hX];congr 1;unfold maxR;split
   ·(rename_i h2;exact absurd (ac.1 h) (Rat.not_le.2 h2))
   ·rfl
  rw[aa,hX,hY];clear hX hY hr ad ac hx hy hk aa h;have ae:=hid ab;clear ab;go_in;go_wp2_with fail;refine zM (ae _) fun w1 hn=>?_;have HN:=hid hn;go_wp2_with fail;go_ret;exact ⟨rfl,HN⟩
 ·have hb:decide (r ≥ 0)=false:=decide_eq_false h
  have aa:rs (maxR x y)=Y:=by
   rw[←hY];congr 1;unfold maxR;split
   ·rfl
   ·(rename_i h2;exact absurd (ac.2 (Rat.not_lt.1 h2)) h)
  rw[aa,hX,hY];clear hX hY hr ad ac hx hy hk aa h;replace ab:=hid ab;go_in;go_wp2_with fail;refine zM (ab _) fun w1 hn=>?_;have HN:=hid hn;go_wp2_with fail;go_ret;exact ⟨rfl,HN⟩
theorem rplus_walk (XA YA XB YB U V:ByteArray)(w:World)(h0:∀ W,Calls prog 45 #[.string XA,.string XB] W fun e w'=>e=.returned (.string U)∧New W w')(h1:∀ W,Calls prog 45 #[.string YA,.string YB] W fun e w'=>e=.returned (.string V)∧New W w'):
  Calls prog 59 #[.agg #[.string XA,.string YA],.agg #[.string XB,.string YB]] w fun e w'=>e=.returned (.agg #[.string U,.string V])∧New w w':=by
 replace h0:=hid h0;replace h1:=hid h1;go_in;go_upto_region 1 with (fail);obtain ⟨BA,BB,BP,HN⟩:=lay3 w 53 #[.string XA,.string YA] 53 #[.string XB,.string YB] 53 #[.string ⟨#[]⟩,.string ⟨#[]⟩];have pa:=BA.out.two;have pb:=BB.out.two;clear pa;clear pb;refine zR 11 12 (fun W=>zC W w.heap.size (.string XA) (.string YA)∧zC W (w.heap.size+1) (.string XB) (.string YB)) ?_;refine zT 0 ⟨cW2 BA,cW2 BB⟩ ?_;refine zT 1 ⟨cW2 BA,cW2 BB⟩ ?_;refine zT 2 ⟨cW2 BA,cW2 BB⟩ ?_;refine zT 3 ⟨cW2 BA,cW2 BB⟩ ?_;refine zT 5 ⟨cW2 BA,cW2 BB⟩ ?_;refine zT 6 ⟨cW2 BA,cW2 BB⟩ ?_;refine zT 7 ⟨cW2 BA,cW2 BB⟩ ?_;refine zT 8 ⟨cW2 BA,cW2 BB⟩ ?_;refine tk1 4 fun K hK=>?_;go_simp;refine zM (h0 _) fun w1 hn=>?_;obtain ⟨HN,BA,BB,BP⟩:=zn4 hn.undrew HN BA.new BB.new BP.new;clear hn;refine zK hK ⟨cW2 BA,cW2 BB⟩ ?_;clear hK K;refine tk1 9 fun K hK=>?_;go_simp;refine zM (h1 _) fun w2 hn=>?_;obtain ⟨HN,BA,BB,BP⟩:=zn4 hn HN BA.new BB.new BP.new;clear hn;refine zK hK ⟨cW2 BA,cW2 BB⟩ ?_;clear hK K;refine zT 10 ⟨cW2 BA,cW2 BB⟩ ?_;refine tlW ?_;obtain ⟨aa,ab,ac,ad,ae⟩:=BA.out.two;obtain ⟨af,ag,ah,ai,aj⟩:=BB.out.two;obtain ⟨p0,p1,p2,p3,p4⟩:=BP.out.two;go_wp2_with fail;refine bodyPost_ret (v:=.agg #[.string U,.string V]) (by simp[results,results59,go_sem,p0,p1]) rfl ?_;exact ⟨rfl,HN.putAt BP (by omega) _ _⟩
theorem rminus_walk (XA YA XB YB U V:ByteArray)(w:World)(h0:∀ W,Calls prog 38 #[.string XA,.string YB] W fun e w'=>e=.returned (.string U)∧New W w')(h1:∀ W,Calls prog 38 #[.string YA,.string XB] W fun e w'=>e=.returned (.string V)∧New W w'):
  Calls prog 60 #[.agg #[.string XA,.string YA],.agg #[.string XB,.string YB]] w fun e w'=>e=.returned (.agg #[.string U,.string V])∧New w w':=by
 replace h0:=hid h0;replace h1:=hid h1;go_in;go_upto_region 1 with (fail);obtain ⟨BA,BB,BP,HN⟩:=lay3 w 53 #[.string XA,.string YA] 53 #[.string XB,.string YB] 53 #[.string ⟨#[]⟩,.string ⟨#[]⟩];have pa:=BA.out.two;have pb:=BB.out.two;clear pa;clear pb;refine zR 11 12 (fun W=>zC W w.heap.size (.string XA) (.string YA)∧zC W (w.heap.size+1) (.string XB) (.string YB)) ?_;refine zT 0 ⟨cW2 BA,cW2 BB⟩ ?_;refine zT 1 ⟨cW2 BA,cW2 BB⟩ ?_;refine zT 2 ⟨cW2 BA,cW2 BB⟩ ?_;refine zT 3 ⟨cW2 BA,cW2 BB⟩ ?_;refine zT 5 ⟨cW2 BA,cW2 BB⟩ ?_;refine zT 6 ⟨cW2 BA,cW2 BB⟩ ?_;refine zT 7 ⟨cW2 BA,cW2 BB⟩ ?_;refine zT 8 ⟨cW2 BA,cW2 BB⟩ ?_;refine tk1 4 fun K hK=>?_;go_simp;refine zM (h0 _) fun w1 hn=>?_;obtain ⟨HN,BA,BB,BP⟩:=zn4 hn.undrew HN BA.new BB.new BP.new;clear hn;refine zK hK ⟨cW2 BA,cW2 BB⟩ ?_;clear hK K;refine tk1 9 fun K hK=>?_;go_simp;refine zM (h1 _) fun w2 hn=>?_;obtain ⟨HN,BA,BB,BP⟩:=zn4 hn HN BA.new BB.new BP.new;clear hn;refine zK hK ⟨cW2 BA,cW2 BB⟩ ?_;clear hK K;refine zT 10 ⟨cW2 BA,cW2 BB⟩ ?_;refine tlW ?_;obtain ⟨aa,ab,ac,ad,ae⟩:=BA.out.two;obtain ⟨af,ag,ah,ai,aj⟩:=BB.out.two;obtain ⟨p0,p1,p2,p3,p4⟩:=BP.out.two;go_wp2_with fail;refine bodyPost_ret (v:=.agg #[.string U,.string V]) (by simp[results,results60,go_sem,p0,p1]) rfl ?_;exact ⟨rfl,HN.putAt BP (by omega) _ _⟩
theorem rlargeSpan_calls (k:Nat)(x y:Rat)(w:World)(hx:RFB k x)(hy:RFB k y)(hk:k≤1800):Calls prog 137 #[.agg #[.string (rs x),.string (rs y)]] w (RetNew w 0):=by
 have aa:=fun (W:World) (B cap:Nat) (t:TypeId) (hB:Box W B t #[.string (rs x),.string (rs y)])=>rlargeRow_calls k (some ⟨B,0,none⟩) cap x y W hx hy hk (box_strs hB);obtain ⟨X,hX⟩:∃ X,rs x=X:=⟨_,rfl⟩;obtain ⟨Y,hY⟩:∃ X,rs y=X:=⟨_,rfl⟩;rw[hX,hY] at aa⊢;clear hX hY hx hy hk;replace aa:=hid aa;go_in;go_upto_region 1 with (fail);obtain ⟨BA,HN⟩:=lay1 w 53 #[.string X,.string Y];obtain ⟨w8,ab⟩:∃ x,w.alloc (.cells #[.string X,.string Y] 53)=x:=⟨_,rfl⟩;rw[ab] at BA HN⊢;clear ab;have pa:=BA.out.two;go_wp2_with fail;clear pa;obtain ⟨BG,hn⟩:=lay1 w8 23 #[.string X,.string Y];obtain ⟨HN,BA⟩:=zn2 hn HN BA.new;clear hn;refine zM (aa _ _ _ _ BG) fun w2 hn=>?_;clear BG;replace HN:=tW HN hn;clear hn;go_wp2_with fail;go_ret;exact ⟨rfl,HN⟩
theorem rcompare_walk (XA YA XB YB:ByteArray) (r1 r2:Int) (w:World) (b1 b2 b3 b4:Bool) (hr1:decide (r1 < 0)=b1) (hr2:decide (r2 < 0)=b2) (h3:(XA.toList==YA.toList)=b3) (h4:(XA.toList==XB.toList && YA.toList==YB.toList)=b4)
  (aa:∀ W,Calls prog 37 #[.string YA,.string XB] W fun e w'=>e=.returned (.int .i64 r1)∧New W w') (ab:∀ W,Calls prog 37 #[.string YB,.string XA] W fun e w'=>e=.returned (.int .i64 r2)∧New W w'):
  Calls prog 58 #[.agg #[.string XA,.string YA],.agg #[.string XB,.string YB]] w fun e w'=>e=.returned (.tuple #[.int .i64 (if b1 then -1 else if b2 then 1 else 0),.int .i64 (if b1 then 0 else if b2 then 0 else if b3 && b4 then 0 else 24)])∧New w w':=by
 cases b1 with
 | true=>
  clear hr2 h3 h4;have ac:=hid aa;have ad:=hid ab;clear aa ab;go_in;go_upto_region 1 with (fail);obtain ⟨BA,BB,HN⟩:=lay2 w 53 #[.string XA,.string YA] 53 #[.string XB,.string YB];have pa:=BA.out.two;have pb:=BB.out.two;go_wp2_with fail;refine zM (ac _) fun w1 hn=>?_;clear pa pb;obtain ⟨HN,BA,BB⟩:=zn3 hn HN BA.new BB.new;clear hn;obtain ⟨ae,af,ag,ah,ai⟩:=BA.out.two;obtain ⟨aj,ak,al,am,an⟩:=BB.out.two;go_wp2_with fail;go_ret2;exact ⟨rfl,HN⟩
 | false=>
  cases b2 with
  | true=>
   clear h3 h4;have ac:=hid aa;have ad:=hid ab;clear aa ab;go_in;go_upto_region 1 with (fail);obtain ⟨BA,BB,HN⟩:=lay2 w 53 #[.string XA,.string YA] 53 #[.string XB,.string YB];have pa:=BA.out.two;have pb:=BB.out.two;go_wp2_with fail;refine zM (ac _) fun w1 hn=>?_;clear pa pb;obtain ⟨HN,BA,BB⟩:=zn3 hn HN BA.new BB.new;clear hn;have pa:=BA.out.two;have pb:=BB.out.two;go_wp2_with fail;refine zM (ad _) fun w2 hn=>?_;clear pa pb;obtain ⟨HN,BA,BB⟩:=zn3 hn HN BA.new BB.new;clear hn;obtain ⟨ae,af,ag,ah,ai⟩:=BA.out.two;obtain ⟨aj,ak,al,am,an⟩:=BB.out.two;go_wp2_with fail;go_ret2;exact ⟨rfl,HN⟩
  | false=>
   have ao:=fun W=>eql_spans XA YA XB YB W;rw[h4] at ao;clear h4
   cases b3 with
   | false=>
    have ac:=hid aa;have ad:=hid ab;clear aa ab;go_in;go_upto_region 1 with (fail);obtain ⟨BA,BB,HN⟩:=lay2 w 53 #[.string XA,.string YA] 53 #[.string XB,.string YB];have pa:=BA.out.two;have pb:=BB.out.two;go_wp2_with fail;refine zM (ac _) fun w1 hn=>?_;clear pa pb;obtain ⟨HN,BA,BB⟩:=zn3 hn HN BA.new BB.new;clear hn;have pa:=BA.out.two;have pb:=BB.out.two;go_wp2_with fail;refine zM (ad _) fun w2 hn=>?_;clear pa pb;obtain ⟨HN,BA,BB⟩:=zn3 hn HN BA.new BB.new;clear hn;obtain ⟨ae,af,ag,ah,ai⟩:=BA.out.two;obtain ⟨aj,ak,al,am,an⟩:=BB.out.two;go_wp2_with fail;go_ret2;exact ⟨rfl,HN⟩
   | true=>
    cases b4 with
    | true=>
     have ac:=hid aa;have ad:=hid ab;clear aa ab;go_in;go_upto_region 1 with (fail);obtain ⟨BA,BB,HN⟩:=lay2 w 53 #[.string XA,.string YA] 53 #[.string XB,.string YB];have pa:=BA.out.two;have pb:=BB.out.two;go_wp2_with fail;refine zM (ac _) fun w1 hn=>?_;clear pa pb;obtain ⟨HN,BA,BB⟩:=zn3 hn HN BA.new BB.new;clear hn;have pa:=BA.out.two;have pb:=BB.out.two;go_wp2_with fail;refine zM (ad _) fun w2 hn=>?_;clear pa pb;obtain ⟨HN,BA,BB⟩:=zn3 hn HN BA.new BB.new;clear hn;obtain ⟨ae,af,ag,ah,ai⟩:=BA.out.two;obtain ⟨aj,ak,al,am,an⟩:=BB.out.two;go_wp2_with fail;go_ret2;exact ⟨rfl,HN⟩
    | false=>
     replace aa:=hid aa;replace ab:=hid ab;go_in;go_upto_region 1 with (fail);obtain ⟨BA,BB,HN⟩:=lay2 w 53 #[.string XA,.string YA] 53 #[.string XB,.string YB];have pa:=BA.out.two;have pb:=BB.out.two;go_wp2_with fail;refine zM (aa _) fun w1 hn=>?_;clear pa pb;obtain ⟨HN,BA,BB⟩:=zn3 hn HN BA.new BB.new;clear hn;have pa:=BA.out.two;have pb:=BB.out.two;go_wp2_with fail;refine zM (ab _) fun w2 hn=>?_;clear pa pb;obtain ⟨HN,BA,BB⟩:=zn3 hn HN BA.new BB.new;clear hn;obtain ⟨ae,af,ag,ah,ai⟩:=BA.out.two;obtain ⟨aj,ak,al,am,an⟩:=BB.out.two;go_wp2_with fail;go_ret2;exact ⟨rfl,HN⟩
theorem lspans_bad (bad:Int)(X Y:ByteArray)(w:World)(h:bad≠0):Calls prog 49 #[.agg #[.string ⟨#[]⟩,.string ⟨#[]⟩],.int .i64 bad,.int .i64 bad,.agg #[.string X,.string Y]] w fun e w'=>e=.returned (.bool true)∧New w w':=by
 have hb:(bad==0)=false:=beq_false_of_ne h;have aa:(bad != 0)=true:=bne_iff_ne.2 h;have ab:(bad==bad)=true:=beq_self_eq_true bad;have ac:=fun W=>eql_span ⟨#[]⟩ ⟨#[]⟩ W;clear h;go_in;go_upto_region 1 with (fail);obtain ⟨BA,BB,HN⟩:=lay2 w 53 #[.string ⟨#[]⟩,.string ⟨#[]⟩] 53 #[.string X,.string Y];obtain ⟨ad,ae,af,ag,ah⟩:=BA.out.two;obtain ⟨ai,aj,ak,al,am⟩:=BB.out.two;go_wp2_with fail;go_ret;exact ⟨rfl,HN⟩
theorem lspans_ok (X Y:ByteArray)(w:World)(hL:∀ W,Calls prog 137 #[.agg #[.string X,.string Y]] W (RetNew W 0)):Calls prog 49 #[.agg #[.string X,.string Y],.int .i64 0,.int .i64 0,.agg #[.string X,.string Y]] w fun e w'=>e=.returned (.bool true)∧New w w':=by
 have aa:=fun W=>eql_span X Y W;replace hL:=hid hL;go_in;go_upto_region 1 with (fail);obtain ⟨BA,BB,HN⟩:=lay2 w 53 #[.string X,.string Y] 53 #[.string X,.string Y];have pb:=BB.out.two;go_wp2_with fail;refine zM (hL _) fun w1 hn=>?_;clear pb;obtain ⟨HN,BA,BB⟩:=zn3 hn HN BA.new BB.new;clear hn;obtain ⟨ab,ac,ad,ae,af⟩:=BA.out.two;obtain ⟨ag,ah,ai,aj,ak⟩:=BB.out.two;go_wp2_with fail;go_ret;exact ⟨rfl,HN⟩
theorem lwide_calls (a:Option Addr)(cap n:Nat)(vs:List ByteArray)(w:World)(hn0:vs.length=n)(hl:n≤1000)(hr:RdL w a (strs vs))(hsz:∀ (k:Nat) (h1:k < vs.length),(vs[k]).size≤9223372036854775807):
  Calls prog 14 #[.slice a n cap] w fun e w'=>(∃ t:Bool,e=.returned (.bool t)∧(t=false→∀ (k:Nat) (h1:k < vs.length),(vs[k]).size≤60))∧New w w':=by
 have af:(n:Int)≤1000:=by omega
 refine zh3 ?_ hr hn0 hsz;clear hr hn0 hsz;intro HR HL ad;go_in;go_wp2_with fail;go_loopw [3] (fun i wr=>∃ (k:Nat),k≤n∧i=.int .i64 (k:Int)∧Hid (∀ (j:Nat) (h:j < vs.length),j < k→(vs[j]).size≤60)∧Hid (New w wr)) (fun i _=>n - (RowKit.intOf i).toNat)
 case atStart=>exact ⟨0,Nat.zero_le _,rfl,hid (fun j h h2=>by omega),hid (New.refl _)⟩
 case round=>
  obtain ⟨k,hk,rfl,HP,HN⟩:=hrel;by_cases hlt:k < n
  ·have h1:k < vs.length:=by rw[HL.out];exact hlt
   obtain ⟨b1,ae,rfl,ab⟩:=HR.out.str k h1;have hs:=ad.out k h1
   have aa:(vs[k]).size≤60→∀ (j:Nat) (h:j < vs.length),j < k+1→(vs[j]).size≤60:=fun h0 j h h2=>by
    by_cases e:j=k
    ·subst e;exact h0
    ·exact HP j h (by omega)
   obtain ⟨x,hx⟩:∃ x,vs[k]=x:=⟨_,rfl⟩;rw[hx] at ab hs aa
   have ag:(x.size:Int)≤9223372036854775807:=by omega
   replace ab:=HN.cell ab;by_cases h0:x.size≤60
   ·have hp:=aa h0;have hb:decide ((60:Int) < (x.size:Int))=false:=decide_eq_false (by omega);clear hs aa h0;have HX:=hid hx;replace hp:=hid hp;clear hx;go_wp2_with fail;go_roundw
    case rel=>exact ⟨k+1,by omega,by go_num,hp,HN⟩
    case measure=>simp[RowKit.intOf];omega
   ·have hb:decide ((60:Int) < (x.size:Int))=true:=decide_eq_true (by omega);clear hs aa h0;replace hx:=hid hx;go_wp2_with fail;go_ret;exact ⟨⟨_,rfl,fun h=>by cases h⟩,HN⟩
  ·have ac:k=n:=by omega
   replace ac:=hid ac;go_wp2_with fail;go_ret;exact ⟨⟨_,rfl,fun _ j h=>HP j h (by rw[ac.out,←HL.out];exact h)⟩,HN⟩
end Go.Proofs.YtnjonlnemagomaaGreatDoor
namespace Go.Proofs.YtnjonlnemagomaaGreatDoor
open Go.RowKit Big Go.Proofs.Tryz
open Go.Lib (hid)
set_option maxRecDepth 100000
set_option maxHeartbeats 8000000
set_option linter.all false
def firstZ:List Int→Int
 | []=>0
 | x::l=>if x=0 then firstZ l else x
theorem firstZ_drop (l:List Int)(k:Nat)(h:k < l.length):firstZ (l.drop k)=if l[k]=0 then firstZ (l.drop (k+1)) else l[k]:=by
 rw[List.drop_eq_getElem_cons h];rfl
theorem lfirst_calls (a:Option Addr)(cap n:Nat)(l:List Int)(w:World)(hn:l.length=n)(hl:n≤1000000)(hr:RdL w a (ints l)):Calls prog 17 #[.slice a n cap] w fun e w'=>e=.returned (.int .i64 (firstZ l))∧New w w':=by
 have ae:(n:Int)≤1000000:=by omega
 replace hr:=hid hr;replace hn:=hid hn;go_in;go_wp2_with fail;go_loopw [3] (fun i wr=>∃ (k:Nat),k≤n∧i=.int .i64 (k:Int)∧Hid (firstZ l=firstZ (l.drop k))∧Hid (New w wr)) (fun i _=>n - (intOf i).toNat)
 case atStart=>exact ⟨0,Nat.zero_le _,rfl,hid rfl,hid (New.refl _)⟩
 case round=>
  obtain ⟨k,hk,rfl,HF,HN⟩:=hrel;by_cases hlt:k < n
  ·have h1:k < l.length:=by rw[hn.out];exact hlt
   obtain ⟨b1,ad,rfl,aa⟩:=hr.out.int k h1;have hf:=HF.out;rw[firstZ_drop l k h1] at hf;obtain ⟨x,hx⟩:∃ x,l[k]=x:=⟨_,rfl⟩;rw[hx] at aa hf;replace aa:=HN.cell aa;by_cases h0:x=0
   ·subst h0;rw[if_pos rfl] at hf;have HX:=hid hx;have ac:=hid hf;clear hx hf;go_wp2_with fail;go_roundw
    case rel=>exact ⟨k+1,by omega,by go_num,ac,HN⟩
    case measure=>simp[intOf];omega
   ·rw[if_neg h0] at hf;have hb:(x != 0)=true:=bne_iff_ne.2 h0;replace hx:=hid hx;replace hf:=hid hf;go_wp2_with fail;go_ret;exact ⟨by rw[hf.out];rfl,HN.out⟩
  ·have ab:k=n:=by omega
   have hf:=HF.out;rw[List.drop_eq_nil_of_le (by rw[hn.out];omega)] at hf;replace ab:=hid ab;replace hf:=hid hf;go_wp2_with fail;go_ret;exact ⟨by rw[hf.out];rfl,HN.out⟩
end Go.Proofs.YtnjonlnemagomaaGreatDoor
namespace Go.Proofs.YtnjonlnemagomaaGreatDoor
open Go.RowKit Big Go.Lib Go.Proofs.Tryz
set_option maxRecDepth 100000
set_option maxHeartbeats 8000000
set_option linter.all false
theorem fbl_of_len {q:Rat}{n k:Nat}(h:(ratText q).length≤n)(hk:4*n≤k)(hk1:1≤k):FB k q:=by
 have ab:∀ m,10^m≤2^(4*m):=fun m=>by
  rw[Nat.pow_mul];exact Nat.pow_le_pow_left (by decide) m
 have aa:∀ m,m≤n→10^m≤2^k:=fun m hm=>Nat.le_trans (ab m) (Nat.pow_le_pow_right (by omega) (by omega))
 have dl:∀ u:Nat,(decDigits u).length≤n→u < 2^k:=fun u hu=>by
  have h0:u < 10^(decDigits u).length:=by
   rw[decDigits_length];exact (nDigits_le_iff (k:=nDigits u) (by rw[←decDigits_length];exact List.length_pos_iff.2 (decDigits_ne_nil u))).1 (Nat.le_refl _)
  exact Nat.lt_of_lt_of_le h0 (aa _ hu)
 have il:(decDigits q.num.natAbs).length≤(itoa q.num).length:=by
  rcases Int.lt_or_le q.num 0 with hz | hz
  ·rw[show q.num= -(q.num.natAbs:Int) by omega,Big.itoa_neg (by omega)];simp
  ·rw[show q.num=(q.num.natAbs:Int) by omega,Big.itoa_nonneg];simp
 unfold ratText at h;split at h
 ·rename_i hd;exact ⟨dl _ (by omega),by unfold BdK;rw[hd];exact Nat.one_lt_two_pow (by omega)⟩
 ·rw[List.length_append,List.length_cons] at h;exact ⟨dl _ (by omega),by unfold BdK;rw[Int.natAbs_natCast];exact dl _ (by omega)⟩
theorem short_num {s:ByteArray}{n:Nat}(hl:s.size≤n)(he:ratErr s.data.toList=0)(h1:1≤n):∃ q:Rat,s=rs q∧FB (4*n) q:=by
 obtain ⟨q,hf,hq⟩:=ratText_of_err he;refine ⟨q,?_,fbl_of_len (n:=n) ?_ (Nat.le_refl _) (by omega)⟩
 ·apply ByteArray.ext;apply Array.toList_inj.1;rw[hq,rs_list]
 ·rw[←hq,Array.length_toList];exact hl
theorem rspan_bad (X Y:ByteArray)(E:Int)(w:World)(hE:err2 X Y=E)(h0:E≠0)(hsx:X.size≤100000)(hsy:Y.size≤100000):Calls prog 36 #[.agg #[.string X,.string Y]] w (RetNew w E):=by
 have aa:=fun (W:World) (B cap:Nat) (t:TypeId) (hB:Box W B t #[.string X,.string Y])=>rrow_calls (some ⟨B,0,none⟩) cap 2 [X,Y] E W rfl (by omega) (box_strs hB) (by rw[rowErr_two,hE]) (fun k h1=>by
   match k,h1 with
   | 0,_=>exact hsx
   | 1,_=>exact hsy)
 have hb:(E==0)=false:=beq_false_of_ne h0;clear hE h0 hsx hsy;have ab:=hid aa;clear aa;go_in;go_upto_region 1 with (fail);obtain ⟨BA,HN⟩:=lay1 w 53 #[.string X,.string Y];obtain ⟨w8,ac⟩:∃ x,w.alloc (.cells #[.string X,.string Y] 53)=x:=⟨_,rfl⟩;rw[ac] at BA HN⊢;clear ac;have pa:=BA.out.two;go_wp2_with fail;clear pa;obtain ⟨BG,hn⟩:=lay1 w8 23 #[.string X,.string Y];obtain ⟨HN,BA⟩:=zn2 hn HN BA.new;clear hn;refine zM (ab _ _ _ _ BG) fun w2 hn=>?_;clear BG;obtain ⟨HN,BA⟩:=zn2 hn HN BA.new;clear hn;have pa:=BA.out.two;go_wp2_with fail;clear pa;go_ret;exact ⟨rfl,HN⟩
theorem rspan_gen (x y:Rat)(w:World)(hx:Fits x)(hy:Fits y)(hsx:(rs x).size≤100000)(hsy:(rs y).size≤100000):Calls prog 36 #[.agg #[.string (rs x),.string (rs y)]] w (RetNew w (if y < x then 11 else 0)):=by
 by_cases hxy:y < x
 case neg=>
  rw[if_neg hxy];exact rspan_calls x y w hx hy (Rat.not_lt.1 hxy) hsx hsy
 rw[if_pos hxy];have ab:=fun W=>rcmpQ_calls 2000 2000 x y W (RFB.of (Fits.fb hx)) (RFB.of (Fits.fb hy)) (by omega)
 have hs:¬(x - y).num.sign≤0:=by rw[sign_le];exact Rat.not_le.2 hxy
 obtain ⟨r,hr⟩:∃ r,(x - y).num.sign=r:=⟨_,rfl⟩;simp only[hr] at ab;rw[hr] at hs;have af:decide (0 < r)=true:=decide_eq_true (by omega)
 have aa:=fun (W:World) (B cap:Nat) (t:TypeId) (hB:Box W B t #[.string (rs x),.string (rs y)])=>rrow_calls (some ⟨B,0,none⟩) cap 2 [rs x,rs y] 0 W rfl (by omega) (box_strs hB) (by
  show (if ratErr (rs x).data.toList=0 then (if ratErr (rs y).data.toList=0 then 0 else ratErr (rs y).data.toList) else ratErr (rs x).data.toList)=0
  rw[rs_list,rs_list,ratErr_ratText hx,ratErr_ratText hy];rfl) (fun k h1=>by
   match k,h1 with
   | 0,_=>exact hsx
   | 1,_=>exact hsy)
 obtain ⟨X,hX⟩:∃ X,rs x=X:=⟨_,rfl⟩;obtain ⟨Y,hY⟩:∃ X,rs y=X:=⟨_,rfl⟩;rw[hX,hY] at aa⊢;simp only[hX,hY] at ab;clear hX hY hx hy hxy hsx hsy hr;have ae:=hid ab;have ac:=hid aa;clear ab aa;go_in;go_upto_region 1 with (fail);obtain ⟨BA,HN⟩:=lay1 w 53 #[.string X,.string Y];obtain ⟨w8,ad⟩:∃ x,w.alloc (.cells #[.string X,.string Y] 53)=x:=⟨_,rfl⟩;rw[ad] at BA HN⊢;clear ad;have pa:=BA.out.two;go_wp2_with fail;clear pa;obtain ⟨BG,hn⟩:=lay1 w8 23 #[.string X,.string Y];obtain ⟨HN,BA⟩:=zn2 hn HN BA.new;clear hn;refine zM (ac _ _ _ _ BG) fun w2 hn=>?_;clear BG;obtain ⟨HN,BA⟩:=zn2 hn HN BA.new;clear hn;have pa:=BA.out.two;go_wp2_with fail;refine zM (ae _) fun w3 hn=>?_;clear pa;replace HN:=tW HN hn;clear hn;go_wp2_with fail;go_ret;exact ⟨rfl,HN⟩
theorem rhasB_calls (x y q:Rat)(w:World)(k:Nat)(hk:k≤10000)(hx:RFB k x)(hy:RFB k y)(hq:RFB k q):Calls prog 62 #[.agg #[.string (rs x),.string (rs y)],.string (rs q)] w fun e w'=>e=.returned (.bool (decide (x≤q) && decide (q≤y)))∧New w w':=by
 by_cases h1:x≤q
 case pos=>
  by_cases h2:q≤y
  case pos=>
   rw[decide_eq_true h1,decide_eq_true h2];exact rhas_calls x y q w k hk hx hy hq h1 h2
  rw[decide_eq_true h1,decide_eq_false h2];have aa:=fun W=>rcmpQ_calls k k x q W hx hq (by omega);have ad:=fun W=>rcmpQ_calls k k q y W hq hy (by omega);have ac:=sign_le.2 h1
  have ag:¬(q - y).num.sign≤0:=by rw[sign_le];exact h2
  obtain ⟨r1,ab⟩:∃ r,(x - q).num.sign=r:=⟨_,rfl⟩;obtain ⟨r2,af⟩:∃ r,(q - y).num.sign=r:=⟨_,rfl⟩;simp only[ab] at aa;simp only[af] at ad;rw[ab] at ac;rw[af] at ag;have ai:decide (r1≤0)=true:=decide_eq_true ac;have aj:decide (r2≤0)=false:=decide_eq_false ag;obtain ⟨X,hX⟩:∃ X,rs x=X:=⟨_,rfl⟩;obtain ⟨Y,hY⟩:∃ X,rs y=X:=⟨_,rfl⟩;obtain ⟨Q,hQ⟩:∃ X,rs q=X:=⟨_,rfl⟩;rw[hX,hY,hQ];simp only[hX,hQ] at aa;simp only[hY,hQ] at ad;clear hX hY hQ hx hy hq h1 h2 ab af;have ae:=hid aa;have ah:=hid ad;clear aa ad;go_in;go_upto_region 1 with (fail);obtain ⟨BA,HN⟩:=lay1 w 53 #[.string X,.string Y];have pa:=BA.out.two;go_wp2_with fail;refine zM (ae _) fun w2 hn=>?_;clear pa;obtain ⟨HN,BA⟩:=zn2 hn HN BA.new;clear hn;have pa:=BA.out.two;go_wp2_with fail;refine zM (ah _) fun w3 hn=>?_;clear pa;replace HN:=tW HN hn;clear hn;go_wp2_with fail;go_ret;exact ⟨rfl,HN⟩
 rw[decide_eq_false h1,Bool.false_and];have aa:=fun W=>rcmpQ_calls k k x q W hx hq (by omega)
 have ac:¬(x - q).num.sign≤0:=by rw[sign_le];exact h1
 obtain ⟨r1,ab⟩:∃ r,(x - q).num.sign=r:=⟨_,rfl⟩;simp only[ab] at aa;rw[ab] at ac;have ai:decide (r1≤0)=false:=decide_eq_false ac;obtain ⟨X,hX⟩:∃ X,rs x=X:=⟨_,rfl⟩;obtain ⟨Y,hY⟩:∃ X,rs y=X:=⟨_,rfl⟩;obtain ⟨Q,hQ⟩:∃ X,rs q=X:=⟨_,rfl⟩;rw[hX,hY,hQ];simp only[hX,hQ] at aa;clear hX hY hQ hx hy hq h1 ab;have ae:=hid aa;clear aa;go_in;go_upto_region 1 with (fail);obtain ⟨BA,HN⟩:=lay1 w 53 #[.string X,.string Y];have pa:=BA.out.two;go_wp2_with fail;refine zM (ae _) fun w2 hn=>?_;clear pa;replace HN:=tW HN hn;clear hn;go_wp2_with fail;go_ret;exact ⟨rfl,HN⟩
end Go.Proofs.YtnjonlnemagomaaGreatDoor
