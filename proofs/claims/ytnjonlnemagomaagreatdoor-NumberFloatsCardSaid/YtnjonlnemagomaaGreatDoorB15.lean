/- Part B15. -/
import Derived.Test.YtnjonlnemagomaaGreatDoorB07
import Derived.Test.YtnjonlnemagomaaGreatDoorB14
namespace Go.Proofs.YtnjonlnemagomaaGreatDoor
open Go.RowKit Big Go.Lib Tryz
set_option maxRecDepth 100000
set_option maxHeartbeats 8000000
set_option linter.all false
theorem radd_n (K:Nat)(va vb:Value)(x y:Nat)(w:World)(ha:IsD w va x)(hb:IsD w vb y)(hK:K≤90000)(hx:x < B9^K)(hy:y < B9^K):
  Calls prog 196 #[va,vb] w (RetN w (x+y)):=by
 obtain ⟨n,f,hf,ab⟩:=ha;obtain ⟨m,g,hg,ac⟩:=hb;have hn:=len_le hf.canon ab hx;have hm:=len_le hg.canon ac hy;have aa:=radd_calls va vb n m f g w hf.1 hg.1 (by omega) (by omega);rw[ab,ac] at aa;exact aa.mono fun e w' ⟨v,k,o,h1,h2,h3,h4,_⟩=>⟨v,h1,h2,k,o,h3,h4⟩
theorem rsub_n (K:Nat)(va vb:Value)(x y:Nat)(w:World)(ha:IsD w va x)(hb:IsD w vb y)(hK:K≤90000)(hx:x < B9^K)(hle:y≤x):
  Calls prog 198 #[va,vb] w (RetN w (x - y)):=by
 obtain ⟨n,f,hf,aa⟩:=ha;have hn:=len_le hf.canon aa hx;exact (rsub_calls va vb x y n f w hf aa hb (by omega) hle).mono fun e w' h=>RetD.n h
theorem rplus_pos (K:Nat)(a1 a2:Option Addr)(l1 l2 c1 c2:Nat)(x y:Nat)(w:World)(hda:IsD w (.slice a1 l1 c1) x)(hdb:IsD w (.slice a2 l2 c2) y)(hK:K≤90000)(hx:x < B9^K)(hy:y < B9^K):
  Calls prog 134 #[.agg #[.bool false,.slice a1 l1 c1],.agg #[.bool false,.slice a2 l2 c2]] w (RetZ w (sgnd false (x+y))):=by
 have hm:=fun W (hW:New w W)=>radd_n K _ _ x y W (hda.new hW) (hdb.new hW) hK hx hy;obtain ⟨z,hz⟩:∃ z,sgnd false (x+y)=z:=⟨_,rfl⟩;rw[hz];clear hda hdb hx hy hK;have HM:=hid hm;have HE:=hid hz;clear hm hz;go_in;go_wp2_with fail;obtain ⟨BA,BB,BP,HN⟩:=lay3 w 124 #[.bool false,.slice a1 l1 c1] 124 #[.bool false,.slice a2 l2 c2] 124 #[.bool false,.slice none 0 0];have pa:=BA.out.two;have pb:=BB.out.two;go_wp2_with fail;clear pa;clear pb;refine zR 8 9 (fun W=>zC W w.heap.size (.bool false) (.slice a1 l1 c1)∧zC W (w.heap.size+1) (.bool false) (.slice a2 l2 c2)) ?_;refine zT 0 ⟨cW2 BA,cW2 BB⟩ ?_;refine zT 1 ⟨cW2 BA,cW2 BB⟩ ?_;refine zT 2 ⟨cW2 BA,cW2 BB⟩ ?_;refine zT 3 ⟨cW2 BA,cW2 BB⟩ ?_;refine zT 4 ⟨cW2 BA,cW2 BB⟩ ?_;refine zT 5 ⟨cW2 BA,cW2 BB⟩ ?_;refine tk1 6 fun K hK=>?_;go_simp;refine zN (HM _ HN.drew) fun w8 v8 hn hi=>?_;have hn:=hn.undr;obtain ⟨a8,l8,c8,rfl⟩:=hi.shape;replace hi:=hid hi;obtain ⟨HN,BA,BB,BP⟩:=zn4 hn HN BA.new BB.new BP.new;clear hn;refine zK hK ⟨cW2 BA,cW2 BB⟩ ?_;clear hK K;refine tk1 7 fun K hK=>?_;go_simp;refine zN (rsigned_calls _ _ _ _ hi) fun w9 v9 hn hz=>?_
 replace hz:IsZ w9 v9 (z):=by first | (rw[HE.out] at hz;exact hz) | (have e:=HE.out;unfold bne at e;rw[e] at hz;exact hz)
 obtain ⟨b9,a9,l9,c9,rfl⟩:=hz.shape;replace hz:=hid hz;obtain ⟨HN,BA,BB,BP⟩:=zn4 hn HN BA.new BB.new BP.new;clear hn;refine zK hK ⟨cW2 BA,cW2 BB⟩ ?_;clear hK K;refine tlW ?_;obtain ⟨aa,ab,ac,ad,ae⟩:=BA.out.two;obtain ⟨af,ag,ah,ai,aj⟩:=BB.out.two;obtain ⟨p0,p1,p2,p3,p4⟩:=BP.out.two;go_wp2_with fail;refine bodyPost_ret (v:=.agg #[.bool b9,.slice a9 l9 c9]) (by simp[results,results134,go_sem,p0,p1]) rfl ?_;exact z_ret HN BP (by omega) hz
theorem rplus_neg (K:Nat)(a1 a2:Option Addr)(l1 l2 c1 c2:Nat)(x y:Nat)(w:World)(hda:IsD w (.slice a1 l1 c1) x)(hdb:IsD w (.slice a2 l2 c2) y)(hK:K≤90000)(hx:x < B9^K)(hy:y < B9^K):
  Calls prog 134 #[.agg #[.bool true,.slice a1 l1 c1],.agg #[.bool true,.slice a2 l2 c2]] w (RetZ w (sgnd true (x+y))):=by
 have hm:=fun W (hW:New w W)=>radd_n K _ _ x y W (hda.new hW) (hdb.new hW) hK hx hy;obtain ⟨z,hz⟩:∃ z,sgnd true (x+y)=z:=⟨_,rfl⟩;rw[hz];clear hda hdb hx hy hK;have HM:=hid hm;have HE:=hid hz;clear hm hz;go_in;go_wp2_with fail;obtain ⟨BA,BB,BP,HN⟩:=lay3 w 124 #[.bool true,.slice a1 l1 c1] 124 #[.bool true,.slice a2 l2 c2] 124 #[.bool false,.slice none 0 0];have pa:=BA.out.two;have pb:=BB.out.two;go_wp2_with fail;clear pa;clear pb;refine zR 8 9 (fun W=>zC W w.heap.size (.bool true) (.slice a1 l1 c1)∧zC W (w.heap.size+1) (.bool true) (.slice a2 l2 c2)) ?_;refine zT 0 ⟨cW2 BA,cW2 BB⟩ ?_;refine zT 1 ⟨cW2 BA,cW2 BB⟩ ?_;refine zT 2 ⟨cW2 BA,cW2 BB⟩ ?_;refine zT 3 ⟨cW2 BA,cW2 BB⟩ ?_;refine zT 4 ⟨cW2 BA,cW2 BB⟩ ?_;refine zT 5 ⟨cW2 BA,cW2 BB⟩ ?_;refine tk1 6 fun K hK=>?_;go_simp;refine zN (HM _ HN.drew) fun w8 v8 hn hi=>?_;have hn:=hn.undr;obtain ⟨a8,l8,c8,rfl⟩:=hi.shape;replace hi:=hid hi;obtain ⟨HN,BA,BB,BP⟩:=zn4 hn HN BA.new BB.new BP.new;clear hn;refine zK hK ⟨cW2 BA,cW2 BB⟩ ?_;clear hK K;refine tk1 7 fun K hK=>?_;go_simp;refine zN (rsigned_calls _ _ _ _ hi) fun w9 v9 hn hz=>?_
 replace hz:IsZ w9 v9 (z):=by first | (rw[HE.out] at hz;exact hz) | (have e:=HE.out;unfold bne at e;rw[e] at hz;exact hz)
 obtain ⟨b9,a9,l9,c9,rfl⟩:=hz.shape;replace hz:=hid hz;obtain ⟨HN,BA,BB,BP⟩:=zn4 hn HN BA.new BB.new BP.new;clear hn;refine zK hK ⟨cW2 BA,cW2 BB⟩ ?_;clear hK K;refine tlW ?_;obtain ⟨aa,ab,ac,ad,ae⟩:=BA.out.two;obtain ⟨af,ag,ah,ai,aj⟩:=BB.out.two;obtain ⟨p0,p1,p2,p3,p4⟩:=BP.out.two;go_wp2_with fail;refine bodyPost_ret (v:=.agg #[.bool b9,.slice a9 l9 c9]) (by simp[results,results134,go_sem,p0,p1]) rfl ?_;exact z_ret HN BP (by omega) hz
theorem rplus_pn_ge (K:Nat)(a1 a2:Option Addr)(l1 l2 c1 c2:Nat)(x y:Nat)(w:World)(hda:IsD w (.slice a1 l1 c1) x)(hdb:IsD w (.slice a2 l2 c2) y)(hK:K≤90000)(hx:x < B9^K)(hy:y < B9^K)(hle:y≤x):
  Calls prog 134 #[.agg #[.bool false,.slice a1 l1 c1],.agg #[.bool true,.slice a2 l2 c2]] w (RetZ w (sgnd false (x - y))):=by
 have aa:∀ W,New w W→Calls prog 197 #[.slice a1 l1 c1,.slice a2 l2 c2] W fun e w'=>New W w'∧e=.returned (.int .i64 (cmpNat x y)):=fun W hW=>by
  obtain ⟨n,f,hf,ab⟩:=hda.new hW;obtain ⟨m,g,hg,ac⟩:=hdb.new hW;have hn:=len_le hf.canon ab hx;have hm:=len_le hg.canon ac hy;have:=rcompare_calls _ _ n m f g W hf hg (by omega) (by omega);rw[ab,ac] at this;exact this
 have hm:=fun W (hW:New w W)=>rsub_n K _ _ _ _ W (hda.new hW) (hdb.new hW) hK hx (by omega);obtain ⟨c,hc⟩:∃ c,cmpNat x y=c:=⟨_,rfl⟩;rw[hc] at aa
 have ad:0≤c:=by
  rw[←hc];unfold cmpNat;split <;> (try split) <;> omega
 have ae:decide (0≤c)=true:=decide_eq_true ad;obtain ⟨z,hz⟩:∃ z,sgnd false (x - y)=z:=⟨_,rfl⟩;rw[hz];clear hda hdb hx hy hK hc;refine zh3 ?_ hm hz aa;clear hm hz aa;intro HM HE HC;go_in;go_wp2_with fail;obtain ⟨BA,BB,BP,HN⟩:=lay3 w 124 #[.bool false,.slice a1 l1 c1] 124 #[.bool true,.slice a2 l2 c2] 124 #[.bool false,.slice none 0 0];have pa:=BA.out.two;have pb:=BB.out.two;go_wp2_with fail;refine (HC _ HN).mono ?_;rintro e w5 ⟨hn,rfl⟩;clear pa pb;obtain ⟨HN,BA,BB,BP⟩:=zn4 hn HN BA.new BB.new BP.new;clear hn;have pa:=BA.out.two;have pb:=BB.out.two;go_wp2_with fail;clear pa;clear pb;refine zR 8 9 (fun W=>zC W w.heap.size (.bool false) (.slice a1 l1 c1)∧zC W (w.heap.size+1) (.bool true) (.slice a2 l2 c2)) ?_;refine zT 0 ⟨cW2 BA,cW2 BB⟩ ?_;refine zT 1 ⟨cW2 BA,cW2 BB⟩ ?_;refine zT 2 ⟨cW2 BA,cW2 BB⟩ ?_;refine zT 3 ⟨cW2 BA,cW2 BB⟩ ?_;refine zT 4 ⟨cW2 BA,cW2 BB⟩ ?_;refine zT 5 ⟨cW2 BA,cW2 BB⟩ ?_;refine tk1 6 fun K hK=>?_;go_simp;refine zN (HM _ HN.drew) fun w8 v8 hn hi=>?_;have hn:=hn.undr;obtain ⟨a8,l8,c8,rfl⟩:=hi.shape;replace hi:=hid hi;obtain ⟨HN,BA,BB,BP⟩:=zn4 hn HN BA.new BB.new BP.new;clear hn;refine zK hK ⟨cW2 BA,cW2 BB⟩ ?_;clear hK K;refine tk1 7 fun K hK=>?_;go_simp;refine zN (rsigned_calls _ _ _ _ hi) fun w9 v9 hn hz=>?_
 replace hz:IsZ w9 v9 (z):=by first | (rw[HE.out] at hz;exact hz) | (have e:=HE.out;unfold bne at e;rw[e] at hz;exact hz)
 obtain ⟨b9,a9,l9,c9,rfl⟩:=hz.shape;replace hz:=hid hz;obtain ⟨HN,BA,BB,BP⟩:=zn4 hn HN BA.new BB.new BP.new;clear hn;refine zK hK ⟨cW2 BA,cW2 BB⟩ ?_;clear hK K;refine tlW ?_;obtain ⟨af,ag,ah,ai,aj⟩:=BA.out.two;obtain ⟨ak,al,am,an,ao⟩:=BB.out.two;obtain ⟨p0,p1,p2,p3,p4⟩:=BP.out.two;go_wp2_with fail;refine bodyPost_ret (v:=.agg #[.bool b9,.slice a9 l9 c9]) (by simp[results,results134,go_sem,p0,p1]) rfl ?_;exact z_ret HN BP (by omega) hz
theorem rplus_pn_lt (K:Nat)(a1 a2:Option Addr)(l1 l2 c1 c2:Nat)(x y:Nat)(w:World)(hda:IsD w (.slice a1 l1 c1) x)(hdb:IsD w (.slice a2 l2 c2) y)(hK:K≤90000)(hx:x < B9^K)(hy:y < B9^K)(hle:x < y):
  Calls prog 134 #[.agg #[.bool false,.slice a1 l1 c1],.agg #[.bool true,.slice a2 l2 c2]] w (RetZ w (sgnd true (y - x))):=by
 have aa:∀ W,New w W→Calls prog 197 #[.slice a1 l1 c1,.slice a2 l2 c2] W fun e w'=>New W w'∧e=.returned (.int .i64 (cmpNat x y)):=fun W hW=>by
  obtain ⟨n,f,hf,ab⟩:=hda.new hW;obtain ⟨m,g,hg,ac⟩:=hdb.new hW;have hn:=len_le hf.canon ab hx;have hm:=len_le hg.canon ac hy;have:=rcompare_calls _ _ n m f g W hf hg (by omega) (by omega);rw[ab,ac] at this;exact this
 have hm:=fun W (hW:New w W)=>rsub_n K _ _ _ _ W (hdb.new hW) (hda.new hW) hK hy (by omega);obtain ⟨c,hc⟩:∃ c,cmpNat x y=c:=⟨_,rfl⟩;rw[hc] at aa
 have ad:¬0≤c:=by
  rw[←hc];unfold cmpNat;split <;> (try split) <;> omega
 have ae:decide (0≤c)=false:=decide_eq_false ad;obtain ⟨z,hz⟩:∃ z,sgnd true (y - x)=z:=⟨_,rfl⟩;rw[hz];clear hda hdb hx hy hK hc;refine zh3 ?_ hm hz aa;clear hm hz aa;intro HM HE HC;go_in;go_wp2_with fail;obtain ⟨BA,BB,BP,HN⟩:=lay3 w 124 #[.bool false,.slice a1 l1 c1] 124 #[.bool true,.slice a2 l2 c2] 124 #[.bool false,.slice none 0 0];have pa:=BA.out.two;have pb:=BB.out.two;go_wp2_with fail;refine (HC _ HN).mono ?_;rintro e w5 ⟨hn,rfl⟩;clear pa pb;obtain ⟨HN,BA,BB,BP⟩:=zn4 hn HN BA.new BB.new BP.new;clear hn;have pa:=BA.out.two;have pb:=BB.out.two;go_wp2_with fail;clear pa;clear pb;refine zR 8 9 (fun W=>zC W w.heap.size (.bool false) (.slice a1 l1 c1)∧zC W (w.heap.size+1) (.bool true) (.slice a2 l2 c2)) ?_;refine zT 0 ⟨cW2 BA,cW2 BB⟩ ?_;refine zT 1 ⟨cW2 BA,cW2 BB⟩ ?_;refine zT 2 ⟨cW2 BA,cW2 BB⟩ ?_;refine zT 3 ⟨cW2 BA,cW2 BB⟩ ?_;refine zT 4 ⟨cW2 BA,cW2 BB⟩ ?_;refine zT 5 ⟨cW2 BA,cW2 BB⟩ ?_;refine tk1 6 fun K hK=>?_;go_simp;refine zN (HM _ HN.drew) fun w8 v8 hn hi=>?_;have hn:=hn.undr;obtain ⟨a8,l8,c8,rfl⟩:=hi.shape;replace hi:=hid hi;obtain ⟨HN,BA,BB,BP⟩:=zn4 hn HN BA.new BB.new BP.new;clear hn;refine zK hK ⟨cW2 BA,cW2 BB⟩ ?_;clear hK K;refine tk1 7 fun K hK=>?_;go_simp;refine zN (rsigned_calls _ _ _ _ hi) fun w9 v9 hn hz=>?_
 replace hz:IsZ w9 v9 (z):=by first | (rw[HE.out] at hz;exact hz) | (have e:=HE.out;unfold bne at e;rw[e] at hz;exact hz)
 obtain ⟨b9,a9,l9,c9,rfl⟩:=hz.shape;replace hz:=hid hz;obtain ⟨HN,BA,BB,BP⟩:=zn4 hn HN BA.new BB.new BP.new;clear hn;refine zK hK ⟨cW2 BA,cW2 BB⟩ ?_;clear hK K;refine tlW ?_;obtain ⟨af,ag,ah,ai,aj⟩:=BA.out.two;obtain ⟨ak,al,am,an,ao⟩:=BB.out.two;obtain ⟨p0,p1,p2,p3,p4⟩:=BP.out.two;go_wp2_with fail;refine bodyPost_ret (v:=.agg #[.bool b9,.slice a9 l9 c9]) (by simp[results,results134,go_sem,p0,p1]) rfl ?_;exact z_ret HN BP (by omega) hz
theorem rplus_np_ge (K:Nat)(a1 a2:Option Addr)(l1 l2 c1 c2:Nat)(x y:Nat)(w:World)(hda:IsD w (.slice a1 l1 c1) x)(hdb:IsD w (.slice a2 l2 c2) y)(hK:K≤90000)(hx:x < B9^K)(hy:y < B9^K)(hle:y≤x):
  Calls prog 134 #[.agg #[.bool true,.slice a1 l1 c1],.agg #[.bool false,.slice a2 l2 c2]] w (RetZ w (sgnd true (x - y))):=by
 have aa:∀ W,New w W→Calls prog 197 #[.slice a1 l1 c1,.slice a2 l2 c2] W fun e w'=>New W w'∧e=.returned (.int .i64 (cmpNat x y)):=fun W hW=>by
  obtain ⟨n,f,hf,ab⟩:=hda.new hW;obtain ⟨m,g,hg,ac⟩:=hdb.new hW;have hn:=len_le hf.canon ab hx;have hm:=len_le hg.canon ac hy;have:=rcompare_calls _ _ n m f g W hf hg (by omega) (by omega);rw[ab,ac] at this;exact this
 have hm:=fun W (hW:New w W)=>rsub_n K _ _ _ _ W (hda.new hW) (hdb.new hW) hK hx (by omega);obtain ⟨c,hc⟩:∃ c,cmpNat x y=c:=⟨_,rfl⟩;rw[hc] at aa
 have ad:0≤c:=by
  rw[←hc];unfold cmpNat;split <;> (try split) <;> omega
 have ae:decide (0≤c)=true:=decide_eq_true ad;obtain ⟨z,hz⟩:∃ z,sgnd true (x - y)=z:=⟨_,rfl⟩;rw[hz];clear hda hdb hx hy hK hc;refine zh3 ?_ hm hz aa;clear hm hz aa;intro HM HE HC;go_in;go_wp2_with fail;obtain ⟨BA,BB,BP,HN⟩:=lay3 w 124 #[.bool true,.slice a1 l1 c1] 124 #[.bool false,.slice a2 l2 c2] 124 #[.bool false,.slice none 0 0];have pa:=BA.out.two;have pb:=BB.out.two;go_wp2_with fail;refine (HC _ HN).mono ?_;rintro e w5 ⟨hn,rfl⟩;clear pa pb;obtain ⟨HN,BA,BB,BP⟩:=zn4 hn HN BA.new BB.new BP.new;clear hn;have pa:=BA.out.two;have pb:=BB.out.two;go_wp2_with fail;clear pa;clear pb;refine zR 8 9 (fun W=>zC W w.heap.size (.bool true) (.slice a1 l1 c1)∧zC W (w.heap.size+1) (.bool false) (.slice a2 l2 c2)) ?_;refine zT 0 ⟨cW2 BA,cW2 BB⟩ ?_;refine zT 1 ⟨cW2 BA,cW2 BB⟩ ?_;refine zT 2 ⟨cW2 BA,cW2 BB⟩ ?_;refine zT 3 ⟨cW2 BA,cW2 BB⟩ ?_;refine zT 4 ⟨cW2 BA,cW2 BB⟩ ?_;refine zT 5 ⟨cW2 BA,cW2 BB⟩ ?_;refine tk1 6 fun K hK=>?_;go_simp;refine zN (HM _ HN.drew) fun w8 v8 hn hi=>?_;have hn:=hn.undr;obtain ⟨a8,l8,c8,rfl⟩:=hi.shape;replace hi:=hid hi;obtain ⟨HN,BA,BB,BP⟩:=zn4 hn HN BA.new BB.new BP.new;clear hn;refine zK hK ⟨cW2 BA,cW2 BB⟩ ?_;clear hK K;refine tk1 7 fun K hK=>?_;go_simp;refine zN (rsigned_calls _ _ _ _ hi) fun w9 v9 hn hz=>?_
 replace hz:IsZ w9 v9 (z):=by first | (rw[HE.out] at hz;exact hz) | (have e:=HE.out;unfold bne at e;rw[e] at hz;exact hz)
 obtain ⟨b9,a9,l9,c9,rfl⟩:=hz.shape;replace hz:=hid hz;obtain ⟨HN,BA,BB,BP⟩:=zn4 hn HN BA.new BB.new BP.new;clear hn;refine zK hK ⟨cW2 BA,cW2 BB⟩ ?_;clear hK K;refine tlW ?_;obtain ⟨af,ag,ah,ai,aj⟩:=BA.out.two;obtain ⟨ak,al,am,an,ao⟩:=BB.out.two;obtain ⟨p0,p1,p2,p3,p4⟩:=BP.out.two;go_wp2_with fail;refine bodyPost_ret (v:=.agg #[.bool b9,.slice a9 l9 c9]) (by simp[results,results134,go_sem,p0,p1]) rfl ?_;exact z_ret HN BP (by omega) hz
theorem rplus_np_lt (K:Nat)(a1 a2:Option Addr)(l1 l2 c1 c2:Nat)(x y:Nat)(w:World)(hda:IsD w (.slice a1 l1 c1) x)(hdb:IsD w (.slice a2 l2 c2) y)(hK:K≤90000)(hx:x < B9^K)(hy:y < B9^K)(hle:x < y):
  Calls prog 134 #[.agg #[.bool true,.slice a1 l1 c1],.agg #[.bool false,.slice a2 l2 c2]] w (RetZ w (sgnd false (y - x))):=by
 have aa:∀ W,New w W→Calls prog 197 #[.slice a1 l1 c1,.slice a2 l2 c2] W fun e w'=>New W w'∧e=.returned (.int .i64 (cmpNat x y)):=fun W hW=>by
  obtain ⟨n,f,hf,ab⟩:=hda.new hW;obtain ⟨m,g,hg,ac⟩:=hdb.new hW;have hn:=len_le hf.canon ab hx;have hm:=len_le hg.canon ac hy;have:=rcompare_calls _ _ n m f g W hf hg (by omega) (by omega);rw[ab,ac] at this;exact this
 have hm:=fun W (hW:New w W)=>rsub_n K _ _ _ _ W (hdb.new hW) (hda.new hW) hK hy (by omega);obtain ⟨c,hc⟩:∃ c,cmpNat x y=c:=⟨_,rfl⟩;rw[hc] at aa
 have ad:¬0≤c:=by
  rw[←hc];unfold cmpNat;split <;> (try split) <;> omega
 have ae:decide (0≤c)=false:=decide_eq_false ad;obtain ⟨z,hz⟩:∃ z,sgnd false (y - x)=z:=⟨_,rfl⟩;rw[hz];clear hda hdb hx hy hK hc;refine zh3 ?_ hm hz aa;clear hm hz aa;intro HM HE HC;go_in;go_wp2_with fail;obtain ⟨BA,BB,BP,HN⟩:=lay3 w 124 #[.bool true,.slice a1 l1 c1] 124 #[.bool false,.slice a2 l2 c2] 124 #[.bool false,.slice none 0 0];have pa:=BA.out.two;have pb:=BB.out.two;go_wp2_with fail;refine (HC _ HN).mono ?_;rintro e w5 ⟨hn,rfl⟩;clear pa pb;obtain ⟨HN,BA,BB,BP⟩:=zn4 hn HN BA.new BB.new BP.new;clear hn;have pa:=BA.out.two;have pb:=BB.out.two;go_wp2_with fail;clear pa;clear pb;refine zR 8 9 (fun W=>zC W w.heap.size (.bool true) (.slice a1 l1 c1)∧zC W (w.heap.size+1) (.bool false) (.slice a2 l2 c2)) ?_;refine zT 0 ⟨cW2 BA,cW2 BB⟩ ?_;refine zT 1 ⟨cW2 BA,cW2 BB⟩ ?_;refine zT 2 ⟨cW2 BA,cW2 BB⟩ ?_;refine zT 3 ⟨cW2 BA,cW2 BB⟩ ?_;refine zT 4 ⟨cW2 BA,cW2 BB⟩ ?_;refine zT 5 ⟨cW2 BA,cW2 BB⟩ ?_;refine tk1 6 fun K hK=>?_;go_simp;refine zN (HM _ HN.drew) fun w8 v8 hn hi=>?_;have hn:=hn.undr;obtain ⟨a8,l8,c8,rfl⟩:=hi.shape;replace hi:=hid hi;obtain ⟨HN,BA,BB,BP⟩:=zn4 hn HN BA.new BB.new BP.new;clear hn;refine zK hK ⟨cW2 BA,cW2 BB⟩ ?_;clear hK K;refine tk1 7 fun K hK=>?_;go_simp;refine zN (rsigned_calls _ _ _ _ hi) fun w9 v9 hn hz=>?_
 replace hz:IsZ w9 v9 (z):=by first | (rw[HE.out] at hz;exact hz) | (have e:=HE.out;unfold bne at e;rw[e] at hz;exact hz)
 obtain ⟨b9,a9,l9,c9,rfl⟩:=hz.shape;replace hz:=hid hz;obtain ⟨HN,BA,BB,BP⟩:=zn4 hn HN BA.new BB.new BP.new;clear hn;refine zK hK ⟨cW2 BA,cW2 BB⟩ ?_;clear hK K;refine tlW ?_;obtain ⟨af,ag,ah,ai,aj⟩:=BA.out.two;obtain ⟨ak,al,am,an,ao⟩:=BB.out.two;obtain ⟨p0,p1,p2,p3,p4⟩:=BP.out.two;go_wp2_with fail;refine bodyPost_ret (v:=.agg #[.bool b9,.slice a9 l9 c9]) (by simp[results,results134,go_sem,p0,p1]) rfl ?_;exact z_ret HN BP (by omega) hz
theorem rplus_calls (K:Nat)(va vb:Value)(x y:Int)(w:World)(ha:IsZ w va x)(hb:IsZ w vb y)(hK:K≤90000)(hx:x.natAbs < B9^K)(hy:y.natAbs < B9^K):
  Calls prog 134 #[va,vb] w (RetZ w (x+y)):=by
 obtain ⟨sA,a1,l1,c1,rfl⟩:=ha.shape;obtain ⟨sB,a2,l2,c2,rfl⟩:=hb.shape;obtain ⟨ac,aa⟩:=ha.parts;obtain ⟨ad,ab⟩:=hb.parts;rcases Int.lt_or_le x 0 with h1 | h1 <;> rcases Int.lt_or_le y 0 with h2 | h2
 ·rw[ac,ad,decide_eq_true h1,decide_eq_true h2];have:=rplus_neg K a1 a2 l1 l2 c1 c2 _ _ w aa ab hK hx hy;rw[show sgnd true (x.natAbs+y.natAbs)=x+y by unfold sgnd;simp;omega] at this;exact this
 ·rw[ac,ad,decide_eq_true h1,decide_eq_false (Int.not_lt.2 h2)];rcases Nat.lt_or_ge x.natAbs y.natAbs with h3 | h3
  ·have:=rplus_np_lt K a1 a2 l1 l2 c1 c2 _ _ w aa ab hK hx hy h3;rw[show sgnd false (y.natAbs - x.natAbs)=x+y by unfold sgnd;simp;omega] at this;exact this
  ·have:=rplus_np_ge K a1 a2 l1 l2 c1 c2 _ _ w aa ab hK hx hy h3;rw[show sgnd true (x.natAbs - y.natAbs)=x+y by unfold sgnd;simp;omega] at this;exact this
 ·rw[ac,ad,decide_eq_false (Int.not_lt.2 h1),decide_eq_true h2];rcases Nat.lt_or_ge x.natAbs y.natAbs with h3 | h3
  ·have:=rplus_pn_lt K a1 a2 l1 l2 c1 c2 _ _ w aa ab hK hx hy h3;rw[show sgnd true (y.natAbs - x.natAbs)=x+y by unfold sgnd;simp;omega] at this;exact this
  ·have:=rplus_pn_ge K a1 a2 l1 l2 c1 c2 _ _ w aa ab hK hx hy h3;rw[show sgnd false (x.natAbs - y.natAbs)=x+y by unfold sgnd;simp;omega] at this;exact this
 ·rw[ac,ad,decide_eq_false (Int.not_lt.2 h1),decide_eq_false (Int.not_lt.2 h2)];have:=rplus_pos K a1 a2 l1 l2 c1 c2 _ _ w aa ab hK hx hy;rw[show sgnd false (x.natAbs+y.natAbs)=x+y by unfold sgnd;simp;omega] at this;exact this
theorem rmul_divInt (a b:Rat):a*b=Rat.divInt (a.num*b.num) (a.den*b.den):=by
 rw[Rat.mul_def'];rfl
theorem radd_divInt (a b:Rat):a+b=Rat.divInt (a.num*b.den+b.num*a.den) (a.den*b.den):=by
 rw[Rat.add_def'];rfl
theorem pow_b9 {n j K:Nat}(h:n < 2^j)(hj:j≤K):n < B9^K:=by
 have h1:2^j≤B9^j:=Nat.pow_le_pow_left (by decide) j;have h2:B9^j≤B9^K:=Nat.pow_le_pow_right (by decide) hj;omega
theorem mul_small {a c:Int}{b d:Nat}(h1:a.natAbs < 1000000000)(h2:b < 1000000000)(h3:c.natAbs < 1000000000)(h4:d < 1000000000):
  -1000000000000000000 < a*c∧a*c < 1000000000000000000∧b*d < 1000000000000000000∧(a*d).natAbs < 1000000000000000000∧(c*b).natAbs < 1000000000000000000:=by
 have k1:(a*c).natAbs < 1000000000*1000000000:=by rw[Int.natAbs_mul];exact Nat.mul_lt_mul'' h1 h3
 have k2:b*d < 1000000000*1000000000:=Nat.mul_lt_mul'' h2 h4
 have k3:(a*(d:Int)).natAbs < 1000000000*1000000000:=by rw[Int.natAbs_mul];exact Nat.mul_lt_mul'' h1 (by simpa using h4)
 have k4:(c*(b:Int)).natAbs < 1000000000*1000000000:=by rw[Int.natAbs_mul];exact Nat.mul_lt_mul'' h3 (by simpa using h2)
 refine ⟨by omega,by omega,by omega,by omega,by omega⟩
theorem rmulQ_calls (j k:Nat)(x y:Rat)(w:World)(hx:RFB j x)(hy:RFB k y)(hjk:j+k≤40000):Calls prog 32 #[.string (rs x),.string (rs y)] w (RetS w (x*y)):=by
 have aq:=fun W=>rquick_calls j x W hx (by omega);have ar:=fun W=>rquick_calls k y W hy (by omega);have ao:=fun W=>rparts_calls j x W hx (by omega);have ap:=fun W=>rparts_calls k y W hy (by omega);have a8:=fun W va vb (ha:IsZ W va x.num) (hb:IsZ W vb y.num)=>rtimes_calls (j+k) va vb x.num y.num W ha hb (by omega) (pow_b9 hx.num (by omega)) (pow_b9 hy.num (by omega));have a9:=fun W va vb (ha:IsZ W va (x.den:Int)) (hb:IsZ W vb (y.den:Int))=>rtimes_calls (j+k) va vb x.den y.den W ha hb (by omega) (pow_b9 (by simpa using hx.den) (by omega)) (pow_b9 (by simpa using hy.den) (by omega))
 have an:=fun W va vb (ha:IsZ W va (x.num*y.num)) (hb:IsZ W vb ((x.den:Int)*(y.den:Int)))=>rfraction_pos (j+k) va vb _ _ W ha hb (by omega)
  (by rw[Int.natAbs_mul];exact pow_b9 (by rw[Nat.pow_add];exact Nat.mul_lt_mul'' hx.num hy.num) (Nat.le_refl _))
  (by rw[Int.natAbs_mul];exact pow_b9 (by rw[Nat.pow_add];exact Nat.mul_lt_mul'' (by simpa using hx.den) (by simpa using hy.den)) (Nat.le_refl _))
  (Int.mul_pos (by have:=x.den_nz;omega) (by have:=y.den_nz;omega))
 have ae:=fun (h1:x.num.natAbs < 1000000000) (h2:x.den < 1000000000) (h3:y.num.natAbs < 1000000000) (h4:y.den < 1000000000) W=>rof_calls (x.num*y.num) (x.den*y.den) W (by obtain ⟨p1,p2,p3,p4,p5⟩:=mul_small h1 h2 h3 h4;omega) (by obtain ⟨p1,p2,p3,p4,p5⟩:=mul_small h1 h2 h3 h4;omega)
  (Nat.mul_pos (Nat.pos_of_ne_zero x.den_nz) (Nat.pos_of_ne_zero y.den_nz)) (by obtain ⟨p1,p2,p3,p4,p5⟩:=mul_small h1 h2 h3 h4;omega)
 have a0:((x.den*y.den:Nat):Int)=(x.den:Int)*(y.den:Int):=Int.natCast_mul _ _;simp only[a0] at ae;rw[←rmul_divInt] at an;simp only[←rmul_divInt] at ae;obtain ⟨R,hR⟩:∃ R,x*y=R:=⟨_,rfl⟩;obtain ⟨A,hA⟩:∃ A,rs x=A:=⟨_,rfl⟩;obtain ⟨B,hB⟩:∃ B,rs y=B:=⟨_,rfl⟩;simp only[hA] at aq ao;simp only[hB] at ar ap;simp only[hR] at an ae;rw[hA,hB,hR];clear hA hB hx hy hjk a0;refine zh9 ?_ aq ar ao ap a8 a9 an hR ae;clear aq ar ao ap a8 a9 an hR ae;intro bb ax av aw ay az au HR ba;have a7:=New.refl w;have HN:=hid a7;clear a7;go_in;go_wp2_with fail;refine (bb _).mono ?_;rintro e w1 ⟨ac,rfl | ⟨h1,h2,rfl⟩⟩
 ·rw[ac];clear ac;go_wp2_with fail;refine (ax _).mono ?_;rintro e w1 ⟨ac,hq⟩
  obtain ⟨n2,d2,o2,rfl⟩:∃ n2 d2 o2,e=.returned (.tuple #[.int .i64 n2,.int .i64 d2,.bool o2]):=by
   rcases hq with rfl | ⟨_,_,rfl⟩
   ·exact ⟨_,_,_,rfl⟩
   ·exact ⟨_,_,_,rfl⟩
  rw[ac];clear ac hq;go_wp2_with fail;refine (av _).mono ?_;rintro e w1 ⟨v1,v2,rfl,hn,ah,ai⟩;obtain ⟨b1,a1,l1,c1,rfl⟩:=ah.shape;obtain ⟨b2,a2,l2,c2,rfl⟩:=ai.shape;have ab:=hid ah;have aa:=hid ai;clear ah ai;replace HN:=tW HN hn;clear hn;go_wp2_with fail;obtain ⟨BA,BB,hn⟩:=lay2 w1 124 #[.bool b1,.slice a1 l1 c1] 124 #[.bool b2,.slice a2 l2 c2];obtain ⟨HN,ab,aa⟩:=zn3 hn HN ab.new aa.new;clear hn;refine (aw _).mono ?_;rintro e w2 ⟨v3,v4,rfl,hn,aj,ak⟩;obtain ⟨b3,a3,l3,c3,rfl⟩:=aj.shape;obtain ⟨b4,a4,l4,c4,rfl⟩:=ak.shape;have af:=hid aj;have ad:=hid ak;clear aj ak;obtain ⟨HN,BA,BB,ab,aa⟩:=zn5 hn HN BA.new BB.new ab.new aa.new;clear hn;go_wp2_with fail;obtain ⟨BC,BD,hn⟩:=lay2 w2 124 #[.bool b3,.slice a3 l3 c3] 124 #[.bool b4,.slice a4 l4 c4];obtain ⟨HN,BA,BB,ab,aa,af,ad⟩:=zn7 hn HN BA.new BB.new ab.new aa.new af.new ad.new;clear hn;have pa:=BA.out.two;have pb:=BB.out.two;have pc:=BC.out.two;have pd:=BD.out.two;clear pa;clear pb;clear pc;clear pd;refine zR 7 8 (fun W=>zC W w1.heap.size (.bool b1) (.slice a1 l1 c1)∧zC W (w1.heap.size+1) (.bool b2) (.slice a2 l2 c2)∧zC W w2.heap.size (.bool b3) (.slice a3 l3 c3)∧zC W (w2.heap.size+1) (.bool b4) (.slice a4 l4 c4)) ?_;refine zT 0 ⟨cW2 BA,cW2 BB,cW2 BC,cW2 BD⟩ ?_;refine zT 1 ⟨cW2 BA,cW2 BB,cW2 BC,cW2 BD⟩ ?_;refine zT 3 ⟨cW2 BA,cW2 BB,cW2 BC,cW2 BD⟩ ?_;refine zT 4 ⟨cW2 BA,cW2 BB,cW2 BC,cW2 BD⟩ ?_;refine tk1 2 fun K hK=>?_;go_simp;refine zN (ay _ _ _ (ab.new ((New.refl _).drew)) (af.new ((New.refl _).drew))) fun w3 v5 hn al=>?_;have hn:=hn.undr;obtain ⟨b5,a5,l5,c5,rfl⟩:=al.shape;have ag:=hid al;clear al;obtain ⟨HN,BA,BB,BC,BD,aa,ad⟩:=zn7 hn HN BA.new BB.new BC.new BD.new aa.new ad.new;clear hn;refine zK hK ⟨cW2 BA,cW2 BB,cW2 BC,cW2 BD⟩ ?_;clear hK K;refine tk1 5 fun K hK=>?_;go_simp;refine zO (az _ _ _ aa ad) fun w4 b6 a6 l6 c6 hn am=>?_;have bc:=hid am;clear am;obtain ⟨HN,BA,BB,BC,BD,ag⟩:=zn6 hn HN BA.new BB.new BC.new BD.new ag.new;clear hn;refine zK hK ⟨cW2 BA,cW2 BB,cW2 BC,cW2 BD⟩ ?_;clear hK K;refine tk1 6 fun K hK=>?_;go_simp;refine zM (au _ _ _ ag bc) fun w5 hn=>?_;obtain ⟨HN,BA,BB,BC,BD⟩:=zn5 hn HN BA.new BB.new BC.new BD.new;clear hn;refine zK hK ⟨cW2 BA,cW2 BB,cW2 BC,cW2 BD⟩ ?_;clear hK K;refine tlW ?_;obtain ⟨bf,bg,bh,bi,bj⟩:=BA.out.two;obtain ⟨bk,bl,bm,bn,bo⟩:=BB.out.two;obtain ⟨bp,bq,br,bt,bu⟩:=BC.out.two;obtain ⟨bv,bw,bx,bz,b0⟩:=BD.out.two;go_wp2_with fail;go_ret;exact ⟨rfl,HN⟩
 ·rw[ac];clear ac;replace h1:=hid h1;replace h2:=hid h2;go_wp2_with fail;refine (ax _).mono ?_;rintro e w1 ⟨ac,rfl | ⟨h3,h4,rfl⟩⟩
  ·rw[ac];clear ac;go_wp2_with fail;refine (av _).mono ?_;rintro e w1 ⟨v1,v2,rfl,hn,ah,ai⟩;obtain ⟨b1,a1,l1,c1,rfl⟩:=ah.shape;obtain ⟨b2,a2,l2,c2,rfl⟩:=ai.shape;have ab:=hid ah;have aa:=hid ai;clear ah ai;replace HN:=tW HN hn;clear hn;go_wp2_with fail;obtain ⟨BA,BB,hn⟩:=lay2 w1 124 #[.bool b1,.slice a1 l1 c1] 124 #[.bool b2,.slice a2 l2 c2];obtain ⟨HN,ab,aa⟩:=zn3 hn HN ab.new aa.new;clear hn;refine (aw _).mono ?_;rintro e w2 ⟨v3,v4,rfl,hn,aj,ak⟩;obtain ⟨b3,a3,l3,c3,rfl⟩:=aj.shape;obtain ⟨b4,a4,l4,c4,rfl⟩:=ak.shape;have af:=hid aj;have ad:=hid ak;clear aj ak;obtain ⟨HN,BA,BB,ab,aa⟩:=zn5 hn HN BA.new BB.new ab.new aa.new;clear hn;go_wp2_with fail;obtain ⟨BC,BD,hn⟩:=lay2 w2 124 #[.bool b3,.slice a3 l3 c3] 124 #[.bool b4,.slice a4 l4 c4];obtain ⟨HN,BA,BB,ab,aa,af,ad⟩:=zn7 hn HN BA.new BB.new ab.new aa.new af.new ad.new;clear hn;have pa:=BA.out.two;have pb:=BB.out.two;have pc:=BC.out.two;have pd:=BD.out.two;clear pa;clear pb;clear pc;clear pd;refine zR 7 8 (fun W=>zC W w1.heap.size (.bool b1) (.slice a1 l1 c1)∧zC W (w1.heap.size+1) (.bool b2) (.slice a2 l2 c2)∧zC W w2.heap.size (.bool b3) (.slice a3 l3 c3)∧zC W (w2.heap.size+1) (.bool b4) (.slice a4 l4 c4)) ?_;refine zT 0 ⟨cW2 BA,cW2 BB,cW2 BC,cW2 BD⟩ ?_;refine zT 1 ⟨cW2 BA,cW2 BB,cW2 BC,cW2 BD⟩ ?_;refine zT 3 ⟨cW2 BA,cW2 BB,cW2 BC,cW2 BD⟩ ?_;refine zT 4 ⟨cW2 BA,cW2 BB,cW2 BC,cW2 BD⟩ ?_;refine tk1 2 fun K hK=>?_;go_simp;refine zN (ay _ _ _ (ab.new ((New.refl _).drew)) (af.new ((New.refl _).drew))) fun w3 v5 hn al=>?_;have hn:=hn.undr;obtain ⟨b5,a5,l5,c5,rfl⟩:=al.shape;have ag:=hid al;clear al;obtain ⟨HN,BA,BB,BC,BD,aa,ad⟩:=zn7 hn HN BA.new BB.new BC.new BD.new aa.new ad.new;clear hn;refine zK hK ⟨cW2 BA,cW2 BB,cW2 BC,cW2 BD⟩ ?_;clear hK K;refine tk1 5 fun K hK=>?_;go_simp;refine zO (az _ _ _ aa ad) fun w4 b6 a6 l6 c6 hn am=>?_;replace am:=hid am;obtain ⟨HN,BA,BB,BC,BD,ag⟩:=zn6 hn HN BA.new BB.new BC.new BD.new ag.new;clear hn;refine zK hK ⟨cW2 BA,cW2 BB,cW2 BC,cW2 BD⟩ ?_;clear hK K;refine tk1 6 fun K hK=>?_;go_simp;refine zM (au _ _ _ ag am) fun w5 hn=>?_;obtain ⟨HN,BA,BB,BC,BD⟩:=zn5 hn HN BA.new BB.new BC.new BD.new;clear hn;refine zK hK ⟨cW2 BA,cW2 BB,cW2 BC,cW2 BD⟩ ?_;clear hK K;refine tlW ?_;obtain ⟨bf,bg,bh,bi,bj⟩:=BA.out.two;obtain ⟨bk,bl,bm,bn,bo⟩:=BB.out.two;obtain ⟨bp,bq,br,bt,bu⟩:=BC.out.two;obtain ⟨bv,bw,bx,bz,b0⟩:=BD.out.two;go_wp2_with fail;go_ret;exact ⟨rfl,HN⟩
  ·rw[ac];clear ac;have ae:=ba.out h1.out h2.out h3 h4;obtain ⟨p1,p2,p3,p4,p5⟩:=mul_small h1 h2 h3 h4;obtain ⟨D,hD⟩:∃ D,x.den*y.den=D:=⟨_,rfl⟩;obtain ⟨P,hP⟩:∃ P,x.num*y.num=P:=⟨_,rfl⟩
   have be:(x.den:Int)*(y.den:Int)=(D:Int):=by rw[←hD,Int.natCast_mul]
   simp only[be,hP]at ae;rw[hD] at p3;rw[hP] at p1 p2
   have b7:(D:Int) < 1000000000000000000:=by omega
   clear h3 h4 p3 hD p4 p5 h1 h2;replace ae:=hid ae;go_wp2_with fail;refine zM (ae _) fun w2 hn=>?_;replace HN:=tW HN hn;clear hn;go_wp2_with fail;go_ret;exact ⟨rfl,HN⟩
theorem raddQ_calls (j k:Nat)(x y:Rat)(w:World)(hx:RFB j x)(hy:RFB k y)(hjk:j+k≤40000):Calls prog 45 #[.string (rs x),.string (rs y)] w (RetS w (x+y)):=by
 have ax:=fun W=>rquick_calls j x W hx (by omega);have ay:=fun W=>rquick_calls k y W hy (by omega);have av:=fun W=>rparts_calls j x W hx (by omega);have aw:=fun W=>rparts_calls k y W hy (by omega)
 have ap:((x.den:Int)).natAbs < 2^j:=by simpa using hx.den
 have aq:((y.den:Int)).natAbs < 2^k:=by simpa using hy.den
 have k1:(x.num*(y.den:Int)).natAbs < 2^(j+k):=by rw[Int.natAbs_mul,Nat.pow_add];exact Nat.mul_lt_mul'' hx.num aq
 have k2:(y.num*(x.den:Int)).natAbs < 2^(j+k):=by rw[Int.natAbs_mul,Nat.pow_add,Nat.mul_comm (2^j)];exact Nat.mul_lt_mul'' hy.num ap
 have k3:((x.den:Int)*(y.den:Int)).natAbs < 2^(j+k):=by rw[Int.natAbs_mul,Nat.pow_add];exact Nat.mul_lt_mul'' ap aq
 have k4:(x.num*(y.den:Int)+y.num*(x.den:Int)).natAbs < 2^(j+k+1):=by rw[Nat.pow_succ];omega
 have bj:=fun W va vb (ha:IsZ W va x.num) (hb:IsZ W vb (y.den:Int))=>rtimes_calls (j+k) va vb x.num y.den W ha hb (by omega) (pow_b9 hx.num (by omega)) (pow_b9 aq (by omega));have bk:=fun W va vb (ha:IsZ W va y.num) (hb:IsZ W vb (x.den:Int))=>rtimes_calls (j+k) va vb y.num x.den W ha hb (by omega) (pow_b9 hy.num (by omega)) (pow_b9 ap (by omega));have bl:=fun W va vb (ha:IsZ W va (x.den:Int)) (hb:IsZ W vb (y.den:Int))=>rtimes_calls (j+k) va vb x.den y.den W ha hb (by omega) (pow_b9 ap (by omega)) (pow_b9 aq (by omega));have bi:=fun W va vb (ha:IsZ W va (x.num*(y.den:Int))) (hb:IsZ W vb (y.num*(x.den:Int)))=>rplus_calls (j+k) va vb _ _ W ha hb (by omega) (pow_b9 k1 (Nat.le_refl _)) (pow_b9 k2 (Nat.le_refl _))
 have au:=fun W va vb (ha:IsZ W va (x.num*(y.den:Int)+y.num*(x.den:Int))) (hb:IsZ W vb ((x.den:Int)*(y.den:Int)))=>rfraction_pos (j+k+1) va vb _ _ W ha hb (by omega)
  (pow_b9 k4 (Nat.le_refl _)) (pow_b9 k3 (by omega)) (Int.mul_pos (by have:=x.den_nz;omega) (by have:=y.den_nz;omega))
 have af:=fun (h1:x.num.natAbs < 1000000000) (h2:x.den < 1000000000) (h3:y.num.natAbs < 1000000000) (h4:y.den < 1000000000) W=>rof_calls (x.num*(y.den:Int)+y.num*(x.den:Int)) (x.den*y.den) W (by obtain ⟨p1,p2,p3,p4,p5⟩:=mul_small h1 h2 h3 h4;omega) (by obtain ⟨p1,p2,p3,p4,p5⟩:=mul_small h1 h2 h3 h4;omega)
  (Nat.mul_pos (Nat.pos_of_ne_zero x.den_nz) (Nat.pos_of_ne_zero y.den_nz)) (by obtain ⟨p1,p2,p3,p4,p5⟩:=mul_small h1 h2 h3 h4;omega)
 have bg:((x.den*y.den:Nat):Int)=(x.den:Int)*(y.den:Int):=Int.natCast_mul _ _;simp only[bg] at af;rw[←radd_divInt] at au;simp only[←radd_divInt] at af;obtain ⟨R,hR⟩:∃ R,x+y=R:=⟨_,rfl⟩;obtain ⟨A,hA⟩:∃ A,rs x=A:=⟨_,rfl⟩;obtain ⟨B,hB⟩:∃ B,rs y=B:=⟨_,rfl⟩;simp only[hA] at ax av;simp only[hB] at ay aw;simp only[hR] at au af;rw[hA,hB,hR];clear hA hB hx hy hjk bg ap aq k1 k2 k3 k4;refine zh11 ?_ ax ay av aw bj bk bl bi au hR af;clear ax ay av aw bj bk bl bi au hR af;intro bn bb a9 ba bc be bf a0 az HR bm;have bh:=New.refl w;have HN:=hid bh;clear bh;go_in;go_wp2_with fail;refine (bn _).mono ?_;rintro e w1 ⟨ad,rfl | ⟨h1,h2,rfl⟩⟩
 ·rw[ad];clear ad;go_wp2_with fail;refine (bb _).mono ?_;rintro e w1 ⟨ad,hq⟩
  obtain ⟨n2,d2,o2,rfl⟩:∃ n2 d2 o2,e=.returned (.tuple #[.int .i64 n2,.int .i64 d2,.bool o2]):=by
   rcases hq with rfl | ⟨_,_,rfl⟩
   ·exact ⟨_,_,_,rfl⟩
   ·exact ⟨_,_,_,rfl⟩
  rw[ad];clear ad hq;go_wp2_with fail;refine (a9 _).mono ?_;rintro e w1 ⟨v1,v2,rfl,hn,ai,aj⟩;obtain ⟨b1,a1,l1,c1,rfl⟩:=ai.shape;obtain ⟨b2,a2,l2,c2,rfl⟩:=aj.shape;have ac:=hid ai;have aa:=hid aj;clear ai aj;replace HN:=tW HN hn;clear hn;go_wp2_with fail;obtain ⟨BA,BB,hn⟩:=lay2 w1 124 #[.bool b1,.slice a1 l1 c1] 124 #[.bool b2,.slice a2 l2 c2];obtain ⟨HN,ac,aa⟩:=zn3 hn HN ac.new aa.new;clear hn;refine (ba _).mono ?_;rintro e w2 ⟨v3,v4,rfl,hn,ak,al⟩;obtain ⟨b3,a3,l3,c3,rfl⟩:=ak.shape;obtain ⟨b4,a4,l4,c4,rfl⟩:=al.shape;have ae:=hid ak;have ab:=hid al;clear ak al;obtain ⟨HN,BA,BB,ac,aa⟩:=zn5 hn HN BA.new BB.new ac.new aa.new;clear hn;go_wp2_with fail;obtain ⟨BC,BD,hn⟩:=lay2 w2 124 #[.bool b3,.slice a3 l3 c3] 124 #[.bool b4,.slice a4 l4 c4];obtain ⟨HN,BA,BB,ac,aa,ae,ab⟩:=zn7 hn HN BA.new BB.new ac.new aa.new ae.new ab.new;clear hn;have pa:=BA.out.two;have pb:=BB.out.two;have pc:=BC.out.two;have pd:=BD.out.two;clear pa;clear pb;clear pc;clear pd;refine zR 11 12 (fun W=>zC W w1.heap.size (.bool b1) (.slice a1 l1 c1)∧zC W (w1.heap.size+1) (.bool b2) (.slice a2 l2 c2)∧zC W w2.heap.size (.bool b3) (.slice a3 l3 c3)∧zC W (w2.heap.size+1) (.bool b4) (.slice a4 l4 c4)) ?_;refine zT 0 ⟨cW2 BA,cW2 BB,cW2 BC,cW2 BD⟩ ?_;refine zT 1 ⟨cW2 BA,cW2 BB,cW2 BC,cW2 BD⟩ ?_;refine zT 3 ⟨cW2 BA,cW2 BB,cW2 BC,cW2 BD⟩ ?_;refine zT 4 ⟨cW2 BA,cW2 BB,cW2 BC,cW2 BD⟩ ?_;refine zT 7 ⟨cW2 BA,cW2 BB,cW2 BC,cW2 BD⟩ ?_;refine zT 8 ⟨cW2 BA,cW2 BB,cW2 BC,cW2 BD⟩ ?_;refine tk1 2 fun K hK=>?_;go_simp;refine zN (bc _ _ _ (ac.new ((New.refl _).drew)) (ab.new ((New.refl _).drew))) fun w3 v5 hn am=>?_;have hn:=hn.undr;obtain ⟨b5,a5,l5,c5,rfl⟩:=am.shape;have ag:=hid am;clear am;obtain ⟨HN,BA,BB,BC,BD,aa,ae,ab⟩:=zn8 hn HN BA.new BB.new BC.new BD.new aa.new ae.new ab.new;clear hn;refine zK hK ⟨cW2 BA,cW2 BB,cW2 BC,cW2 BD⟩ ?_;clear hK K;refine tk1 5 fun K hK=>?_;go_simp;refine zO (be _ _ _ ae aa) fun w4 b6 a6 l6 c6 hn an=>?_;have bo:=hid an;clear an;obtain ⟨HN,BA,BB,BC,BD,aa,ab,ag⟩:=zn8 hn HN BA.new BB.new BC.new BD.new aa.new ab.new ag.new;clear hn;refine zK hK ⟨cW2 BA,cW2 BB,cW2 BC,cW2 BD⟩ ?_;clear hK K;refine tk1 6 fun K hK=>?_;go_simp;refine zO (a0 _ _ _ ag bo) fun w5 b7 a7 l7 c7 hn ar=>?_;have ah:=hid ar;clear ar;obtain ⟨HN,BA,BB,BC,BD,aa,ab⟩:=zn7 hn HN BA.new BB.new BC.new BD.new aa.new ab.new;clear hn;refine zK hK ⟨cW2 BA,cW2 BB,cW2 BC,cW2 BD⟩ ?_;clear hK K;refine tk1 9 fun K hK=>?_;go_simp;refine zO (bf _ _ _ aa ab) fun w6 b8 a8 l8 c8 hn ao=>?_;have bp:=hid ao;clear ao;obtain ⟨HN,BA,BB,BC,BD,ah⟩:=zn6 hn HN BA.new BB.new BC.new BD.new ah.new;clear hn;refine zK hK ⟨cW2 BA,cW2 BB,cW2 BC,cW2 BD⟩ ?_;clear hK K;refine tk1 10 fun K hK=>?_;go_simp;refine zM (az _ _ _ ah bp) fun w7 hn=>?_;obtain ⟨HN,BA,BB,BC,BD⟩:=zn5 hn HN BA.new BB.new BC.new BD.new;clear hn;refine zK hK ⟨cW2 BA,cW2 BB,cW2 BC,cW2 BD⟩ ?_;clear hK K;refine tlW ?_;obtain ⟨br,bt,bu,bv,bw⟩:=BA.out.two;obtain ⟨bx,bz,b0,b9,ca⟩:=BB.out.two;obtain ⟨cb,cd,ce,cf,cg⟩:=BC.out.two;obtain ⟨ch,ci,cj,ck,cl⟩:=BD.out.two;go_wp2_with fail;go_ret;exact ⟨rfl,HN⟩
 ·rw[ad];clear ad;replace h1:=hid h1;replace h2:=hid h2;go_wp2_with fail;refine (bb _).mono ?_;rintro e w1 ⟨ad,rfl | ⟨h3,h4,rfl⟩⟩
  ·rw[ad];clear ad;go_wp2_with fail;refine (a9 _).mono ?_;rintro e w1 ⟨v1,v2,rfl,hn,ai,aj⟩;obtain ⟨b1,a1,l1,c1,rfl⟩:=ai.shape;obtain ⟨b2,a2,l2,c2,rfl⟩:=aj.shape;have ac:=hid ai;have aa:=hid aj;clear ai aj;replace HN:=tW HN hn;clear hn;go_wp2_with fail;obtain ⟨BA,BB,hn⟩:=lay2 w1 124 #[.bool b1,.slice a1 l1 c1] 124 #[.bool b2,.slice a2 l2 c2];obtain ⟨HN,ac,aa⟩:=zn3 hn HN ac.new aa.new;clear hn;refine (ba _).mono ?_;rintro e w2 ⟨v3,v4,rfl,hn,ak,al⟩;obtain ⟨b3,a3,l3,c3,rfl⟩:=ak.shape;obtain ⟨b4,a4,l4,c4,rfl⟩:=al.shape;have ae:=hid ak;have ab:=hid al;clear ak al;obtain ⟨HN,BA,BB,ac,aa⟩:=zn5 hn HN BA.new BB.new ac.new aa.new;clear hn;go_wp2_with fail;obtain ⟨BC,BD,hn⟩:=lay2 w2 124 #[.bool b3,.slice a3 l3 c3] 124 #[.bool b4,.slice a4 l4 c4];obtain ⟨HN,BA,BB,ac,aa,ae,ab⟩:=zn7 hn HN BA.new BB.new ac.new aa.new ae.new ab.new;clear hn;have pa:=BA.out.two;have pb:=BB.out.two;have pc:=BC.out.two;have pd:=BD.out.two;clear pa;clear pb;clear pc;clear pd;refine zR 11 12 (fun W=>zC W w1.heap.size (.bool b1) (.slice a1 l1 c1)∧zC W (w1.heap.size+1) (.bool b2) (.slice a2 l2 c2)∧zC W w2.heap.size (.bool b3) (.slice a3 l3 c3)∧zC W (w2.heap.size+1) (.bool b4) (.slice a4 l4 c4)) ?_;refine zT 0 ⟨cW2 BA,cW2 BB,cW2 BC,cW2 BD⟩ ?_;refine zT 1 ⟨cW2 BA,cW2 BB,cW2 BC,cW2 BD⟩ ?_;refine zT 3 ⟨cW2 BA,cW2 BB,cW2 BC,cW2 BD⟩ ?_;refine zT 4 ⟨cW2 BA,cW2 BB,cW2 BC,cW2 BD⟩ ?_;refine zT 7 ⟨cW2 BA,cW2 BB,cW2 BC,cW2 BD⟩ ?_;refine zT 8 ⟨cW2 BA,cW2 BB,cW2 BC,cW2 BD⟩ ?_;refine tk1 2 fun K hK=>?_;go_simp;refine zN (bc _ _ _ (ac.new ((New.refl _).drew)) (ab.new ((New.refl _).drew))) fun w3 v5 hn am=>?_;have hn:=hn.undr;obtain ⟨b5,a5,l5,c5,rfl⟩:=am.shape;have ag:=hid am;clear am;obtain ⟨HN,BA,BB,BC,BD,aa,ae,ab⟩:=zn8 hn HN BA.new BB.new BC.new BD.new aa.new ae.new ab.new;clear hn;refine zK hK ⟨cW2 BA,cW2 BB,cW2 BC,cW2 BD⟩ ?_;clear hK K;refine tk1 5 fun K hK=>?_;go_simp;refine zO (be _ _ _ ae aa) fun w4 b6 a6 l6 c6 hn an=>?_;replace an:=hid an;obtain ⟨HN,BA,BB,BC,BD,aa,ab,ag⟩:=zn8 hn HN BA.new BB.new BC.new BD.new aa.new ab.new ag.new;clear hn;refine zK hK ⟨cW2 BA,cW2 BB,cW2 BC,cW2 BD⟩ ?_;clear hK K;refine tk1 6 fun K hK=>?_;go_simp;refine zO (a0 _ _ _ ag an) fun w5 b7 a7 l7 c7 hn ar=>?_;have ah:=hid ar;clear ar;obtain ⟨HN,BA,BB,BC,BD,aa,ab⟩:=zn7 hn HN BA.new BB.new BC.new BD.new aa.new ab.new;clear hn;refine zK hK ⟨cW2 BA,cW2 BB,cW2 BC,cW2 BD⟩ ?_;clear hK K;refine tk1 9 fun K hK=>?_;go_simp;refine zO (bf _ _ _ aa ab) fun w6 b8 a8 l8 c8 hn ao=>?_;replace ao:=hid ao;obtain ⟨HN,BA,BB,BC,BD,ah⟩:=zn6 hn HN BA.new BB.new BC.new BD.new ah.new;clear hn;refine zK hK ⟨cW2 BA,cW2 BB,cW2 BC,cW2 BD⟩ ?_;clear hK K;refine tk1 10 fun K hK=>?_;go_simp;refine zM (az _ _ _ ah ao) fun w7 hn=>?_;obtain ⟨HN,BA,BB,BC,BD⟩:=zn5 hn HN BA.new BB.new BC.new BD.new;clear hn;refine zK hK ⟨cW2 BA,cW2 BB,cW2 BC,cW2 BD⟩ ?_;clear hK K;refine tlW ?_;obtain ⟨br,bt,bu,bv,bw⟩:=BA.out.two;obtain ⟨bx,bz,b0,b9,ca⟩:=BB.out.two;obtain ⟨cb,cd,ce,cf,cg⟩:=BC.out.two;obtain ⟨ch,ci,cj,ck,cl⟩:=BD.out.two;go_wp2_with fail;go_ret;exact ⟨rfl,HN⟩
  ·rw[ad];clear ad;have af:=bm.out h1.out h2.out h3 h4;obtain ⟨p1,p2,p3,p4,p5⟩:=mul_small h1 h2 h3 h4;obtain ⟨D,hD⟩:∃ D,x.den*y.den=D:=⟨_,rfl⟩;obtain ⟨P,hP⟩:∃ P,x.num*(y.den:Int)=P:=⟨_,rfl⟩;obtain ⟨Q,hQ⟩:∃ Q,y.num*(x.den:Int)=Q:=⟨_,rfl⟩;obtain ⟨E,hE⟩:∃ E,P+Q=E:=⟨_,rfl⟩
   have bq:(x.den:Int)*(y.den:Int)=(D:Int):=by rw[←hD,Int.natCast_mul]
   simp only[bq,hP,hQ,hE]at af;rw[hD] at p3;rw[hP] at p4;rw[hQ] at p5
   have cm:(D:Int) < 1000000000000000000:=by omega
   have q1: -1000000000000000000 < P:=by omega
   have q2:P < 1000000000000000000:=by omega
   have q3: -1000000000000000000 < Q:=by omega
   have q4:Q < 1000000000000000000:=by omega
   have q5: -2000000000000000000 < E:=by omega
   have q6:E < 2000000000000000000:=by omega
   clear h3 h4 p1 p2 p3 hD p4 p5 h1 h2;replace af:=hid af;go_wp2_with fail;refine zM (af _) fun w2 hn=>?_;replace HN:=tW HN hn;clear hn;go_wp2_with fail;go_ret;exact ⟨rfl,HN⟩
theorem RetS.to {w w':World}{q:Rat}{B:ByteArray}{e:Ending}(hB:rs q=B)(h:RetS w q e w'):e=.returned (.string B)∧New w w':=⟨by rw[h.1,hB],h.2⟩
theorem RFB.mono {j k:Nat}{q:Rat}(h:RFB j q)(hk:j≤k):RFB k q:=⟨Nat.lt_of_lt_of_le h.num (Nat.pow_le_pow_right (by omega) hk),Nat.lt_of_lt_of_le h.den (Nat.pow_le_pow_right (by omega) hk)⟩
theorem rdivInt_le {x y:Int}(hy:y≠0):(Rat.divInt x y).num.natAbs≤x.natAbs∧(Rat.divInt x y).den≤y.natAbs:=by
 rw[Rat.num_divInt,Rat.den_divInt,if_neg hy];refine ⟨Nat.le_trans (Int.natAbs_ediv_le_natAbs _ _) ?_,Nat.div_le_self _ _⟩;rw[Int.natAbs_mul]
 have:y.sign.natAbs=1:=by rw[Int.natAbs_sign_of_ne_zero hy]
 rw[this,Nat.one_mul];exact Nat.le_refl _
theorem RFB.divInt {j:Nat}{x y:Int}(hx:x.natAbs < 2^j)(hy:y.natAbs < 2^j)(h0:y≠0):RFB j (Rat.divInt x y):=by
 obtain ⟨h1,h2⟩:=rdivInt_le (x:=x) h0;exact ⟨Nat.lt_of_le_of_lt h1 hx,Nat.lt_of_le_of_lt h2 hy⟩
theorem den_nez (q:Rat):(q.den:Int)≠0:=by have:=q.den_nz;omega
theorem RFB.mul {j k:Nat}{a b:Rat}(ha:RFB j a)(hb:RFB k b):RFB (j+k) (a*b):=by
 rw[rmul_divInt];refine RFB.divInt ?_ ?_ (Int.mul_ne_zero (den_nez a) (den_nez b))
 ·rw[Int.natAbs_mul,Nat.pow_add];exact Nat.mul_lt_mul'' ha.num hb.num
 ·rw[Int.natAbs_mul,Nat.pow_add];exact Nat.mul_lt_mul'' (by simpa using ha.den) (by simpa using hb.den)
theorem RFB.add {j k:Nat}{a b:Rat}(ha:RFB j a)(hb:RFB k b):RFB (j+k+1) (a+b):=by
 rw[radd_divInt]
 have k1:(a.num*(b.den:Int)).natAbs < 2^(j+k):=by rw[Int.natAbs_mul,Nat.pow_add];exact Nat.mul_lt_mul'' ha.num (by simpa using hb.den)
 have k2:(b.num*(a.den:Int)).natAbs < 2^(j+k):=by rw[Int.natAbs_mul,Nat.pow_add,Nat.mul_comm (2^j)];exact Nat.mul_lt_mul'' hb.num (by simpa using ha.den)
 have k3:((a.den:Int)*(b.den:Int)).natAbs < 2^(j+k):=by rw[Int.natAbs_mul,Nat.pow_add];exact Nat.mul_lt_mul'' (by simpa using ha.den) (by simpa using hb.den)
 refine RFB.divInt ?_ ?_ (Int.mul_ne_zero (den_nez a) (den_nez b))
 ·rw[Nat.pow_succ];omega
 ·rw[Nat.pow_succ];omega
theorem RFB.neg {j:Nat}{a:Rat}(ha:RFB j a):RFB j (-a):=⟨by rw[Rat.neg_num,Int.natAbs_neg];exact ha.num,ha.den⟩
theorem RFB.inv {j:Nat}{a:Rat}(ha:RFB j a)(h:a.num≠0):RFB j a⁻¹:=by
 rw[Rat.inv_def];exact RFB.divInt (by simpa using ha.den) ha.num h
theorem rsubQ_calls (j k:Nat)(x y:Rat)(w:World)(hx:RFB j x)(hy:RFB k y)(hjk:j+k≤40000):Calls prog 38 #[.string (rs x),.string (rs y)] w (RetS w (x - y)):=by
 have hr:=fun W=>rneg_calls y W (by have:=hy.len;omega);have hm:=fun W=>raddQ_calls j k x (-y) W hx hy.neg hjk;rw[←Rat.sub_eq_add_neg] at hm;obtain ⟨R,hR⟩:∃ R,x - y=R:=⟨_,rfl⟩;obtain ⟨A,hA⟩:∃ A,rs x=A:=⟨_,rfl⟩;obtain ⟨B,hB⟩:∃ B,rs y=B:=⟨_,rfl⟩;obtain ⟨C,hC⟩:∃ C,rs (-y)=C:=⟨_,rfl⟩;simp only[hB] at hr;have hr:=fun W=>(hr W).mono fun e w' h=>RetS.to hC h;simp only[hA,hC,hR] at hm;rw[hA,hB,hR];clear hA hB hC hR hx hy hjk;replace hr:=hid hr;replace hm:=hid hm;go_in;go_wp2_with fail;refine zM (hr _) fun w1 hn=>?_;have HN:=hid hn;clear hn;go_wp2_with fail;refine zM (hm _) fun w2 hn=>?_;replace HN:=tW HN hn;clear hn;go_wp2_with fail;go_ret;exact ⟨rfl,HN⟩
theorem rcmpQ_calls (j k:Nat)(x y:Rat)(w:World)(hx:RFB j x)(hy:RFB k y)(hjk:j+k≤40000):Calls prog 37 #[.string (rs x),.string (rs y)] w fun e w'=>e=.returned (.int .i64 (x - y).num.sign)∧New w w':=by
 have hm:=fun W=>rsubQ_calls j k x y W hx hy hjk;have hr:=fun W=>rsign_calls (x - y) W;obtain ⟨R,hR⟩:∃ R,(x - y).num.sign=R:=⟨_,rfl⟩;obtain ⟨A,hA⟩:∃ A,rs x=A:=⟨_,rfl⟩;obtain ⟨B,hB⟩:∃ B,rs y=B:=⟨_,rfl⟩;obtain ⟨C,hC⟩:∃ C,rs (x - y)=C:=⟨_,rfl⟩;simp only[hC,hR] at hr;simp only[hA,hB] at hm;have hm:=fun W=>(hm W).mono fun e w' h=>RetS.to hC h;rw[hA,hB,hR];clear hA hB hC hR hx hy hjk;replace hr:=hid hr;replace hm:=hid hm;go_in;go_wp2_with fail;refine zM (hm _) fun w1 hn=>?_;replace hn:=hid hn;go_wp2_with fail;refine (hr _).mono ?_;rintro e w2 ⟨rfl,hw⟩;rw[hw];clear hw;go_wp2_with fail;go_ret;exact ⟨rfl,hn⟩
theorem b9_pow {k n:Nat}(h:k≤9*n):10^k≤B9^n:=by
 rw[show B9=10^9 by decide,←Nat.pow_mul];exact Nat.pow_le_pow_right (by omega) h
theorem b9_lt {x k n:Nat}(h1:x < 10^k)(h:k≤9*n):x < B9^n:=Nat.lt_of_lt_of_le h1 (b9_pow h)
theorem ratErr_eq {l U A B:List UInt8}{neg br:Bool}(hU:unsigned l=U)(hn:(l.head?==some 45)=neg)(hA:upTo U=A)(hB:behind U=B)(hb:slashed U=br):
  ratErr l=if form2 (form1 neg A) br B=false then 1 else if (decide (600 < A.length) || decide (600 < B.length)) then 4 else if (br && Nat.gcd (dval 0 A) (dval 0 B) != 1) then 1 else 0:=by
 unfold ratErr ratLarge ratCommon;rw[←form_eq hU hn hA hB hb,hU,hA,hB,hb]
theorem rcheck_pos (U:ByteArray)(w:World)(hl:U.size≤1000000)(hh:(U.data.toList.head?==some 45)=false):Calls prog 18 #[.string U] w fun e w'=>e=.returned (.int .i64 (ratErr U.data.toList))∧New w w':=by
 have bu:unsigned U.data.toList=U.data.toList:=by
  unfold unsigned;rw[if_neg (by intro h;rw[h] at hh;simp at hh)]
 obtain ⟨r,hr⟩:∃ r,ratErr U.data.toList=r:=⟨_,rfl⟩;rw[hr];obtain ⟨k,ae⟩:∃ k,(upTo U.data.toList).length=k:=⟨_,rfl⟩;have bq:=fun W=>rslash_calls U W hl;simp only[ae] at bq;obtain ⟨A,hA⟩:∃ A,upTo U.data.toList=A:=⟨_,rfl⟩
 have hR:∀ br,slashed U.data.toList=br→r=if form2 (form1 false A) br (behind U.data.toList)=false then 1 else if (decide (600 < A.length) || decide (600 < (behind U.data.toList).length)) then 4 else if (br && Nat.gcd (dval 0 A) (dval 0 (behind U.data.toList)) != 1) then 1 else 0:=fun br hb=>by
  rw[←hr];exact ratErr_eq bu hh hA rfl hb
 have cg:=sl_len U.data.toList;rw[ae,show U.data.toList.length=U.size by simp] at cg
 have e1:(U.extract 0 k).data.toList=A:=by
  rw[Lib.extract_data];show U.data.toList.take k=A;rw[←ae]
  cases hbr:slashed U.data.toList with
  | true=>
   conv=>lhs;arg 2;rw[split_slash hbr]
   rw[←hA];simp
  | false=>
   rw[←hA,(split_plain hbr).1];exact List.take_of_length_le (by simp)
 have a4:=fun W=>rdecform_calls (U.extract 0 k) W (by simp;omega);rw[e1] at a4;obtain ⟨S1,al⟩:∃ S,U.extract 0 k=S:=⟨_,rfl⟩;simp only[al] at a4;rw[al] at e1
 have cy:(U.size:Int)≤1000000:=by omega
 have c0:(k:Int)≤(U.size:Int):=by omega
 have ch:=New.refl w;refine zh7 ?_ ch hR bq a4 hA e1 al;clear ch hR bq a4 hA e1 al;intro HN HR bz bv ba cv bx;by_cases h0:U.size=0
 ·have bi:U.data.toList=[]:=List.eq_nil_of_length_eq_zero (by simpa using h0)
  have b9:isDec A=false:=by
   rw[←ba.out,bi];rfl
  have bn:r=1:=by
   rw[←hr,bi];rfl
  have cw:¬(0:Int) < (U.size:Int):=by omega
  clear hr bu hh bi;replace bn:=hid bn;go_in;go_wp2_with fail;refine (bz _).mono ?_;rintro e w1 ⟨rfl,hw⟩;rw[hw];clear hw;have al:=bx.out;go_wp2_with fail;refine (bv _).mono ?_;rintro e w1 ⟨rfl,hw⟩;rw[hw,b9];clear hw b9;go_wp2_with fail;go_ret;exact ⟨by rw[bn.out];rfl,HN.out⟩
 have hp0:0 < U.size:=by omega
 have hc:¬((U[0]'hp0).toNat:Int)=45:=by
  intro h
  have h1:U.data.toList.head?=some (U[0]'hp0):=by
   rw[List.head?_eq_getElem?,List.getElem?_eq_getElem (by simpa using hp0)];rfl
  rw[h1,show U[0]'hp0=45 from UInt8.toNat_inj.1 (by show (U[0]'hp0).toNat=45;omega)] at hh;exact absurd hh (by decide)
 have cz:(((U[0]'hp0).toNat:Int)==45)=false:=beq_eq_false_iff_ne.2 hc;clear h0 hr bu hh;go_in;go_wp2_with fail;refine (bz _).mono ?_;rintro e w1 ⟨rfl,hw⟩;rw[hw];clear hw;have al:=bx.out;go_wp2_with fail;refine (bv _).mono ?_;rintro e w1 ⟨rfl,hw⟩;rw[hw];clear hw al
 cases af:isDec A with
 | false=>
  have aa:r=1:=by
   have:=HR.out _ rfl;unfold form2 form1 at this;rw[af] at this;rw[this]
   cases slashed U.data.toList <;> rfl
  clear af;replace aa:=hid aa;go_wp2_with fail;go_ret;exact ⟨by rw[aa.out];rfl,HN.out⟩
 | true=>
  have a6:form1 false A=true:=by unfold form1;rw[af];rfl
  replace af:=hid af;replace a6:=hid a6
  cases hbr:slashed U.data.toList with
  | false=>
   have ce:k=U.size:=by
    have:=(split_plain hbr).1;rw[←ae,this];simp
   have ac:behind U.data.toList=[]:=(split_plain hbr).2
   have a7:¬(k:Int) < (U.size:Int):=by omega
   have cf:decide ((k:Int) < (U.size:Int))=false:=decide_eq_false a7
   have hz:(U.size:Int) - (k:Int) - 1= -1:=by omega
   have aa:=HR.out _ hbr;rw[ac,show form2 (form1 false A) false []=form1 false A from rfl,a6.out,if_neg (by decide)] at aa
   have a0:A.length=k:=by rw[←ba.out];exact ae
   by_cases h6:600 < k
   ·have ai:(600:Int) < (k:Int):=by omega
    have ay:decide ((600:Int) < (k:Int))=true:=decide_eq_true ai
    have aa:r=4:=by
     rw[aa,a0,decide_eq_true h6];rfl
    clear ae ce ac h6 hbr a0;have bf:=hid aa;clear aa;go_wp2_with fail;go_ret;exact ⟨by rw[bf.out];rfl,HN.out⟩
   ·have ai:¬(600:Int) < (k:Int):=by omega
    have ay:decide ((600:Int) < (k:Int))=false:=decide_eq_false ai
    have a9:(U.size:Int) - (k:Int)=0:=by omega
    have aa:r=0:=by
     rw[aa,a0,decide_eq_false h6];rfl
    clear ae ce ac h6 hbr hz a0;replace aa:=hid aa;go_wp2_with fail;go_ret;exact ⟨by rw[aa.out];rfl,HN.out⟩
  | true=>
   have bt:=split_slash hbr;have bm:=congrArg List.length bt
   have b7:U.data.toList.length=U.size:=by simp
   rw[b7,List.length_append,List.length_cons,ae]at bm;obtain ⟨k1,cd⟩:∃ z,k+1=z:=⟨_,rfl⟩
   have e2:(U.extract k1 U.size).data.toList=behind U.data.toList:=by
    rw[Lib.extract_to_end]
    conv=>lhs;arg 2;rw[bt]
    rw[←cd,←ae];simp
   obtain ⟨B,hB⟩:∃ B,behind U.data.toList=B:=⟨_,rfl⟩;rw[hB] at e2 bm;have a5:=fun W=>rdecform_calls (U.extract k1 U.size) W (by simp;omega);rw[e2] at a5;obtain ⟨S2,b6⟩:∃ S,U.extract k1 U.size=S:=⟨_,rfl⟩;rw[b6] at e2;simp only[b6] at a5
   have a7:(k:Int) < (U.size:Int):=by omega
   have cf:decide ((k:Int) < (U.size:Int))=true:=decide_eq_true a7
   have cs:(k:Int)+1=(k1:Int):=by omega
   have cu:k1≤U.size:=by omega
   have ct:(k1:Int)≤(U.size:Int):=by omega
   obtain ⟨y,hy⟩:∃ y,B.length=y:=⟨_,rfl⟩
   have aw:(U.size:Int) - (k:Int)=(y:Int)+1:=by omega
   have ak:(U.size:Int) - (k:Int) - 1=(y:Int):=by omega
   have aa:=HR.out _ hbr;rw[hB] at aa
   have ar:form2 (form1 false A) true B=(isDec B && B != [48] && B != [49]):=by
    rw[a6.out];unfold form2;rw[if_pos rfl,Bool.true_and]
   rw[ar]at aa;have b4:upTo U.data.toList=A:=ba.out
   have b5:A.length=k:=by rw[←b4];exact ae
   have am:=fun (ao:∀ c∈A,isDig c=true) (ab:∀ c∈B,isDig c=true) (h6:k≤600) (h7:y≤600) W=>rparts_slash U (sgnd false (dval 0 A)) (sgnd false (dval 0 B)) W (by omega) hbr (fun W' s' _ bp=>rparse_pos s' A W' (by rw[bp,b4]) ao (by omega)) (fun W' s' _ bp=>rparse_pos s' B W' (by rw[bp,hB]) ab (by omega));clear ae bt bm b7 cd hB hbr ar;refine zh8 ?_ aa am b5 aw ak a5 e2 hy;clear aa am b5 aw ak a5 e2 hy;intro an cm ax cn b0 ck cl HY;go_wp2_with fail;refine (ck _).mono ?_;rintro e w1 ⟨rfl,hw⟩;rw[hw];clear hw
   cases hdb2:isDec B with
   | false=>
    have aa:r=1:=by rw[an.out,hdb2];rfl
    clear hdb2;replace aa:=hid aa;go_wp2_with fail;go_ret;exact ⟨by rw[aa.out];rfl,HN.out⟩
   | true=>
    have ad:S2.toList=B:=by rw[ByteArray.toList_eq];exact cl.out
    by_cases ac:B=[48]
    ·have aa:r=1:=by rw[an.out,ac,if_pos (by decide)]
     have cr:(S2.toList==[48])=true:=by rw[ad,ac];rfl
     clear hdb2 ac ad;replace aa:=hid aa;go_wp2_with fail;go_ret;exact ⟨by rw[aa.out];rfl,HN.out⟩
    have c5:(S2.toList==[48])=false:=by rw[ad,beq_eq_false_iff_ne];exact ac
    by_cases ab:B=[49]
    ·have aa:r=1:=by rw[an.out,ab,if_pos (by decide)]
     have cr:(S2.toList==[49])=true:=by rw[ad,ab];rfl
     clear hdb2 ac ab ad;replace aa:=hid aa;go_wp2_with fail;go_ret;exact ⟨by rw[aa.out];rfl,HN.out⟩
    have a8:(S2.toList==[49])=false:=by rw[ad,beq_eq_false_iff_ne];exact ab
    have au:(isDec B && B != [48] && B != [49])=true:=by rw[hdb2];simp[ac,ab]
    have ah:=an.out;rw[au,if_neg (by decide)] at ah;have aw:=cn.out;have ak:=b0.out;clear ad ac ab au;by_cases h6:600 < k
    ·have ai:(600:Int) < (k:Int):=by omega
     have ay:decide ((600:Int) < (k:Int))=true:=decide_eq_true ai
     have aa:r=4:=by rw[ah,ax.out,decide_eq_true h6];rfl
     clear hdb2 ah h6 aw ak;replace aa:=hid aa;go_wp2_with fail;go_ret;exact ⟨by rw[aa.out];rfl,HN.out⟩
    have ai:¬(600:Int) < (k:Int):=by omega
    have ay:decide ((600:Int) < (k:Int))=false:=decide_eq_false ai;have av:=HY.out;by_cases h7:600 < y
    ·have az:(600:Int) < (y:Int):=by omega
     have b3:decide ((600:Int) < (y:Int))=true:=decide_eq_true az
     have aa:r=4:=by rw[ah,ax.out,av,decide_eq_true h7,decide_eq_false h6];rfl
     clear hdb2 ah h6 h7 av;replace aa:=hid aa;go_wp2_with fail;go_ret;exact ⟨by rw[aa.out];rfl,HN.out⟩
    have az:¬(600:Int) < (y:Int):=by omega
    have b3:decide ((600:Int) < (y:Int))=false:=decide_eq_false az;have ao:=isDec_digs af.out;have ab:=isDec_digs hdb2;have am:=cm.out ao ab (by omega) (by omega)
    have bg:dval 0 A < B9^600:=by
     have h1:=dval_lt ao;rw[ax.out] at h1;exact b9_lt (n:=600) h1 (by omega)
    have bh:dval 0 B < B9^600:=by
     have h1:=dval_lt ab;rw[av] at h1;exact b9_lt (n:=600) h1 (by omega)
    obtain ⟨P,hP⟩:∃ P,dval 0 A=P:=⟨_,rfl⟩;obtain ⟨Q,hQ⟩:∃ Q,dval 0 B=Q:=⟨_,rfl⟩;rw[hP] at bg am;rw[hQ] at bh am;have bj:=fun W va vb (h1:IsD W va P) (h2:IsD W vb Q)=>rcommon_calls 600 va vb P Q W h1 h2 (by omega) bg bh;rw[hP,hQ,decide_eq_false (by rw[ax.out];exact h6),decide_eq_false (by rw[av];exact h7)] at ah;obtain ⟨G,hG⟩:∃ G,Nat.gcd P Q=G:=⟨_,rfl⟩;simp only[hG] at bj ah
    have ci:r=if G=1 then 0 else 1:=by
     rw[ah];by_cases h:G=1
     ·rw[if_pos h,h];rfl
     ·rw[if_neg h];simp[h]
    have co:G≠0∨True:=.inr trivial;clear hdb2 ah h6 h7 av ao ab bg bh hP hQ co hG;refine zh3 ?_ am bj ci;clear am bj ci;intro bw cj be;go_wp2_with fail;refine (bw _).mono ?_;rintro e w2 ⟨v1,v2,rfl,hn,a8,a9⟩;obtain ⟨b1,a1,l1,c1,rfl⟩:=a8.shape;obtain ⟨b2,a2,l2,c2,rfl⟩:=a9.shape;have bk:=a8.parts.2;have bl:=a9.parts.2;rw[sgnd_abs] at bk bl;clear a8 a9 ai ay az b3 aw ak a7 cf;have bb:=hid bk;have bc:=hid bl;clear bk bl;replace HN:=tW HN hn;clear hn;go_upto_region 13 with (fail);obtain ⟨BA,BB,hn⟩:=lay2 w2 124 #[.bool b1,.slice a1 l1 c1] 124 #[.bool b2,.slice a2 l2 c2];obtain ⟨HN,bb,bc⟩:=zn3 hn HN bb.new bc.new;clear hn;have pa:=BA.out.two;have pb:=BB.out.two;go_wp2_with fail;refine zN (cj _ _ _ bb bc) fun w3 v3 hn hg=>?_;clear pa pb;replace HN:=tW HN hn;clear hn;obtain ⟨n,f,ca,ag⟩:=hg;have ap:=ca.canon;obtain ⟨⟨a3,c3,⟨rfl, -⟩,bo, -⟩, -⟩:=ca;by_cases hn1:n=1
    ·subst hn1;obtain ⟨b8,o8,rfl,aq⟩:=bo 0 (by omega)
     have cb:f 0=G:=by rw[←ag];simp[vf]
     rw[cb,Nat.add_zero]at aq;clear ap bo ag cb;by_cases aj:G=1
     ·have aa:r=0:=by rw[be.out,if_pos aj]
      rw[aj]at aq;clear aj;have bf:=hid aa;clear aa;go_wp2_with fail;go_ret;exact ⟨by rw[bf.out];rfl,HN.out⟩
     ·have aa:r=1:=by rw[be.out,if_neg aj]
      have cp:((G:Int)==1)=false:=beq_eq_false_iff_ne.2 (by omega)
      have cx:((G:Int) != 1)=true:=by rw[bne,cp];rfl
      clear aj;replace aa:=hid aa;go_wp2_with fail;go_ret;exact ⟨by rw[aa.out];rfl,HN.out⟩
    ·have aj:G≠1:=by
      intro h;rw[h] at ag;have h1:=len_le (K:=1) ap ag (by decide)
      have:n=0:=by omega
      rw[this,vf_zero]at ag;omega
     have aa:r=1:=by rw[be.out,if_neg aj]
     have cq:((n:Int)==1)=false:=beq_eq_false_iff_ne.2 (by omega)
     have c4:((n:Int) != 1)=true:=by rw[bne,cq];rfl
     clear aj ap bo ag hn1;replace aa:=hid aa;go_wp2_with fail;go_ret;exact ⟨by rw[aa.out];rfl,HN.out⟩
theorem rcheck_neg (s:ByteArray)(w:World)(hls:s.size≤1000000)(hh:(s.data.toList.head?==some 45)=true):Calls prog 18 #[.string s] w fun e w'=>e=.returned (.int .i64 (ratErr s.data.toList))∧New w w':=by
 have bl:s.data.toList.head?=some 45:=by simpa using hh
 have cg:s.data.toList[0]?=some 45:=by rw[←List.head?_eq_getElem?];exact bl
 obtain ⟨hp0,ch⟩:=byte_at s cg
 have hc:((s[0]'hp0).toNat:Int)=45:=by rw[ch];rfl
 have c4:(((s[0]'hp0).toNat:Int)==45)=true:=beq_iff_eq.2 hc
 have bt:unsigned s.data.toList=(s.extract 1 s.size).data.toList:=by
  unfold unsigned;rw[if_pos bl,Lib.extract_to_end]
  cases s.data.toList with
  | nil=>rfl
  | cons c l=>rfl
 have hl:(s.extract 1 s.size).size≤1000000:=by simp;omega
 obtain ⟨U,b4⟩:∃ U,s.extract 1 s.size=U:=⟨_,rfl⟩;rw[b4] at bt hl;obtain ⟨r,hr⟩:∃ r,ratErr s.data.toList=r:=⟨_,rfl⟩;rw[hr];obtain ⟨k,af⟩:∃ k,(upTo U.data.toList).length=k:=⟨_,rfl⟩;have bp:=fun W=>rslash_calls U W hl;simp only[af] at bp;obtain ⟨A,hA⟩:∃ A,upTo U.data.toList=A:=⟨_,rfl⟩
 have hR:∀ br,slashed U.data.toList=br→r=if form2 (form1 true A) br (behind U.data.toList)=false then 1 else if (decide (600 < A.length) || decide (600 < (behind U.data.toList).length)) then 4 else if (br && Nat.gcd (dval 0 A) (dval 0 (behind U.data.toList)) != 1) then 1 else 0:=fun br hb=>by
  rw[←hr];exact ratErr_eq bt hh hA rfl hb
 have cd:=sl_len U.data.toList;rw[af,show U.data.toList.length=U.size by simp] at cd
 have e1:(U.extract 0 k).data.toList=A:=by
  rw[Lib.extract_data];show U.data.toList.take k=A;rw[←af]
  cases hbr:slashed U.data.toList with
  | true=>
   conv=>lhs;arg 2;rw[split_slash hbr]
   rw[←hA];simp
  | false=>
   rw[←hA,(split_plain hbr).1];exact List.take_of_length_le (by simp)
 have a6:=fun W=>rdecform_calls (U.extract 0 k) W (by simp;omega);rw[e1] at a6;obtain ⟨S1,aq⟩:∃ S,U.extract 0 k=S:=⟨_,rfl⟩;simp only[aq] at a6;rw[aq] at e1
 have c0:(U.size:Int)≤1000000:=by omega
 have c5:(k:Int)≤(U.size:Int):=by omega
 have ce:=New.refl w
 have cu:(1:Int)≤(s.size:Int):=by omega
 have c7:(s.size:Int)≤1000000:=by omega
 clear hr bt hh bl cg ch hls;refine zh7 ?_ ce hR bp a6 hA e1 aq;clear ce hR bp a6 hA e1 aq;intro HN HR cp cj bu cl co;go_in;go_wp2_with fail;refine (cp _).mono ?_;rintro e w1 ⟨rfl,hw⟩;rw[hw];clear hw b4 cu;have aq:=co.out;go_wp2_with fail;refine (cj _).mono ?_;rintro e w1 ⟨rfl,hw⟩;rw[hw];clear hw
 cases ae:isDec A with
 | false=>
  have aa:r=1:=by
   have:=HR.out _ rfl;unfold form2 form1 at this;rw[ae] at this;rw[this]
   cases slashed U.data.toList <;> rfl
  clear ae;replace aa:=hid aa;go_wp2_with fail;go_ret;exact ⟨by rw[aa.out];rfl,HN.out⟩
 | true=>
  have an:S1.toList=A:=by rw[ByteArray.toList_eq];exact cl.out
  by_cases hA0:A=[48]
  ·have aa:r=1:=by
    have:=HR.out _ rfl;unfold form2 form1 at this;rw[hA0] at this;rw[this]
    cases slashed U.data.toList <;> rfl
   have hz:(S1.toList==[48])=true:=by rw[an,hA0];rfl
   clear ae hA0 an;have ao:=hid aa;clear aa;go_wp2_with fail;go_ret;exact ⟨by rw[ao.out];rfl,HN.out⟩
  ·have hz:(S1.toList==[48])=false:=by rw[an,beq_eq_false_iff_ne];exact hA0
   have a8:form1 true A=true:=by unfold form1;rw[ae];simp[hA0]
   clear hA0 an;replace ae:=hid ae;replace a8:=hid a8
   cases hbr:slashed U.data.toList with
   | false=>
    have ca:k=U.size:=by
     have:=(split_plain hbr).1;rw[←af,this];simp
    have ac:behind U.data.toList=[]:=(split_plain hbr).2
    have a9:¬(k:Int) < (U.size:Int):=by omega
    have cb:decide ((k:Int) < (U.size:Int))=false:=decide_eq_false a9
    have hz:(U.size:Int) - (k:Int) - 1= -1:=by omega
    have aa:=HR.out _ hbr;rw[ac,show form2 (form1 true A) false []=form1 true A from rfl,a8.out,if_neg (by decide)] at aa
    have a5:A.length=k:=by rw[←bu.out];exact af
    by_cases h6:600 < k
    ·have ai:(600:Int) < (k:Int):=by omega
     have a0:decide ((600:Int) < (k:Int))=true:=decide_eq_true ai
     have aa:r=4:=by
      rw[aa,a5,decide_eq_true h6];rfl
     clear af ca ac h6 hbr a5;have ao:=hid aa;clear aa;go_wp2_with fail;go_ret;exact ⟨by rw[ao.out];rfl,HN.out⟩
    ·have ai:¬(600:Int) < (k:Int):=by omega
     have a0:decide ((600:Int) < (k:Int))=false:=decide_eq_false ai
     have bb:(U.size:Int) - (k:Int)=0:=by omega
     have aa:r=0:=by
      rw[aa,a5,decide_eq_false h6];rfl
     clear af ca ac h6 hbr hz a5;replace aa:=hid aa;go_wp2_with fail;go_ret;exact ⟨by rw[aa.out];rfl,HN.out⟩
   | true=>
    have bq:=split_slash hbr;have bm:=congrArg List.length bq
    have b5:U.data.toList.length=U.size:=by simp
    rw[b5,List.length_append,List.length_cons,af]at bm;obtain ⟨k1,b9⟩:∃ z,k+1=z:=⟨_,rfl⟩
    have e2:(U.extract k1 U.size).data.toList=behind U.data.toList:=by
     rw[Lib.extract_to_end]
     conv=>lhs;arg 2;rw[bq]
     rw[←b9,←af];simp
    obtain ⟨B,hB⟩:∃ B,behind U.data.toList=B:=⟨_,rfl⟩;rw[hB] at e2 bm;have a7:=fun W=>rdecform_calls (U.extract k1 U.size) W (by simp;omega);rw[e2] at a7;obtain ⟨S2,b3⟩:∃ S,U.extract k1 U.size=S:=⟨_,rfl⟩;rw[b3] at e2;simp only[b3] at a7
    have a9:(k:Int) < (U.size:Int):=by omega
    have cb:decide ((k:Int) < (U.size:Int))=true:=decide_eq_true a9
    have cw:(k:Int)+1=(k1:Int):=by omega
    have cy:k1≤U.size:=by omega
    have cx:(k1:Int)≤(U.size:Int):=by omega
    obtain ⟨y,hy⟩:∃ y,B.length=y:=⟨_,rfl⟩
    have ay:(U.size:Int) - (k:Int)=(y:Int)+1:=by omega
    have ak:(U.size:Int) - (k:Int) - 1=(y:Int):=by omega
    have aa:=HR.out _ hbr;rw[hB] at aa
    have av:form2 (form1 true A) true B=(isDec B && B != [48] && B != [49]):=by
     rw[a8.out];unfold form2;rw[if_pos rfl,Bool.true_and]
    rw[av]at aa;have bz:upTo U.data.toList=A:=bu.out
    have b0:A.length=k:=by rw[←bz];exact af
    have al:=fun (ap:∀ c∈A,isDig c=true) (ab:∀ c∈B,isDig c=true) (h6:k≤600) (h7:y≤600) W=>rparts_slash U (sgnd false (dval 0 A)) (sgnd false (dval 0 B)) W (by omega) hbr (fun W' s' _ bo=>rparse_pos s' A W' (by rw[bo,bz]) ap (by omega)) (fun W' s' _ bo=>rparse_pos s' B W' (by rw[bo,hB]) ab (by omega));clear af bq bm b5 b9 hB hbr av;refine zh8 ?_ aa al b0 ay ak a7 e2 hy;clear aa al b0 ay ak a7 e2 hy;intro am cn az cq bw ck cm HY;go_wp2_with fail;refine (ck _).mono ?_;rintro e w1 ⟨rfl,hw⟩;rw[hw];clear hw
    cases hdb2:isDec B with
    | false=>
     have aa:r=1:=by rw[am.out,hdb2];rfl
     clear hdb2;replace aa:=hid aa;go_wp2_with fail;go_ret;exact ⟨by rw[aa.out];rfl,HN.out⟩
    | true=>
     have ad:S2.toList=B:=by rw[ByteArray.toList_eq];exact cm.out
     by_cases ac:B=[48]
     ·have aa:r=1:=by rw[am.out,ac,if_pos (by decide)]
      have cv:(S2.toList==[48])=true:=by rw[ad,ac];rfl
      clear hdb2 ac ad;replace aa:=hid aa;go_wp2_with fail;go_ret;exact ⟨by rw[aa.out];rfl,HN.out⟩
     have c8:(S2.toList==[48])=false:=by rw[ad,beq_eq_false_iff_ne];exact ac
     by_cases ab:B=[49]
     ·have aa:r=1:=by rw[am.out,ab,if_pos (by decide)]
      have cv:(S2.toList==[49])=true:=by rw[ad,ab];rfl
      clear hdb2 ac ab ad;replace aa:=hid aa;go_wp2_with fail;go_ret;exact ⟨by rw[aa.out];rfl,HN.out⟩
     have ba:(S2.toList==[49])=false:=by rw[ad,beq_eq_false_iff_ne];exact ab
     have aw:(isDec B && B != [48] && B != [49])=true:=by rw[hdb2];simp[ac,ab]
     have ah:=am.out;rw[aw,if_neg (by decide)] at ah;have ay:=cq.out;have ak:=bw.out;clear ad ac ab aw;by_cases h6:600 < k
     ·have ai:(600:Int) < (k:Int):=by omega
      have a0:decide ((600:Int) < (k:Int))=true:=decide_eq_true ai
      have aa:r=4:=by rw[ah,az.out,decide_eq_true h6];rfl
      clear hdb2 ah h6 ay ak;replace aa:=hid aa;go_wp2_with fail;go_ret;exact ⟨by rw[aa.out];rfl,HN.out⟩
     have ai:¬(600:Int) < (k:Int):=by omega
     have a0:decide ((600:Int) < (k:Int))=false:=decide_eq_false ai;have ax:=HY.out;by_cases h7:600 < y
     ·have a4:(600:Int) < (y:Int):=by omega
      have bx:decide ((600:Int) < (y:Int))=true:=decide_eq_true a4
      have aa:r=4:=by rw[ah,az.out,ax,decide_eq_true h7,decide_eq_false h6];rfl
      clear hdb2 ah h6 h7 ax;replace aa:=hid aa;go_wp2_with fail;go_ret;exact ⟨by rw[aa.out];rfl,HN.out⟩
     have a4:¬(600:Int) < (y:Int):=by omega
     have bx:decide ((600:Int) < (y:Int))=false:=decide_eq_false a4;have ap:=isDec_digs ae.out;have ab:=isDec_digs hdb2;have al:=cn.out ap ab (by omega) (by omega)
     have bg:dval 0 A < B9^600:=by
      have h1:=dval_lt ap;rw[az.out] at h1;exact b9_lt (n:=600) h1 (by omega)
     have bh:dval 0 B < B9^600:=by
      have h1:=dval_lt ab;rw[ax] at h1;exact b9_lt (n:=600) h1 (by omega)
     obtain ⟨P,hP⟩:∃ P,dval 0 A=P:=⟨_,rfl⟩;obtain ⟨Q,hQ⟩:∃ Q,dval 0 B=Q:=⟨_,rfl⟩;rw[hP] at bg al;rw[hQ] at bh al;have bi:=fun W va vb (h1:IsD W va P) (h2:IsD W vb Q)=>rcommon_calls 600 va vb P Q W h1 h2 (by omega) bg bh;rw[hP,hQ,decide_eq_false (by rw[az.out];exact h6),decide_eq_false (by rw[ax];exact h7)] at ah;obtain ⟨G,hG⟩:∃ G,Nat.gcd P Q=G:=⟨_,rfl⟩;simp only[hG] at bi ah
     have cf:r=if G=1 then 0 else 1:=by
      rw[ah];by_cases h:G=1
      ·rw[if_pos h,h];rfl
      ·rw[if_neg h];simp[h]
     have cr:G≠0∨True:=.inr trivial;clear hdb2 ah h6 h7 ax ap ab bg bh hP hQ cr hG;refine zh3 ?_ al bi cf;clear al bi cf;intro bv ci bf;go_wp2_with fail;refine (bv _).mono ?_;rintro e w2 ⟨v1,v2,rfl,hn,ba,bb⟩;obtain ⟨b1,a1,l1,c1,rfl⟩:=ba.shape;obtain ⟨b2,a2,l2,c2,rfl⟩:=bb.shape;have bj:=ba.parts.2;have bk:=bb.parts.2;rw[sgnd_abs] at bj bk;clear ba bb ai a0 a4 bx ay ak a9 cb;have bc:=hid bj;have be:=hid bk;clear bj bk;replace HN:=tW HN hn;clear hn;go_upto_region 13 with (fail);obtain ⟨BA,BB,hn⟩:=lay2 w2 124 #[.bool b1,.slice a1 l1 c1] 124 #[.bool b2,.slice a2 l2 c2];obtain ⟨HN,bc,be⟩:=zn3 hn HN bc.new be.new;clear hn;have pa:=BA.out.two;have pb:=BB.out.two;go_wp2_with fail;refine zN (ci _ _ _ bc be) fun w3 v3 hn hg=>?_;clear pa pb;replace HN:=tW HN hn;clear hn;obtain ⟨n,f,b6,ag⟩:=hg;have ar:=b6.canon;obtain ⟨⟨a3,c3,⟨rfl, -⟩,bn, -⟩, -⟩:=b6;by_cases hn1:n=1
     ·subst hn1;obtain ⟨b8,o8,rfl,au⟩:=bn 0 (by omega)
      have b7:f 0=G:=by rw[←ag];simp[vf]
      rw[b7,Nat.add_zero]at au;clear ar bn ag b7;by_cases aj:G=1
      ·have aa:r=0:=by rw[bf.out,if_pos aj]
       rw[aj]at au;clear aj;have ao:=hid aa;clear aa;go_wp2_with fail;go_ret;exact ⟨by rw[ao.out];rfl,HN.out⟩
      ·have aa:r=1:=by rw[bf.out,if_neg aj]
       have cs:((G:Int)==1)=false:=beq_eq_false_iff_ne.2 (by omega)
       have cz:((G:Int) != 1)=true:=by rw[bne,cs];rfl
       clear aj;replace aa:=hid aa;go_wp2_with fail;go_ret;exact ⟨by rw[aa.out];rfl,HN.out⟩
     ·have aj:G≠1:=by
       intro h;rw[h] at ag;have h1:=len_le (K:=1) ar ag (by decide)
       have:n=0:=by omega
       rw[this,vf_zero]at ag;omega
      have aa:r=1:=by rw[bf.out,if_neg aj]
      have ct:((n:Int)==1)=false:=beq_eq_false_iff_ne.2 (by omega)
      have c6:((n:Int) != 1)=true:=by rw[bne,ct];rfl
      clear aj ar bn ag hn1;replace aa:=hid aa;go_wp2_with fail;go_ret;exact ⟨by rw[aa.out];rfl,HN.out⟩
theorem rcheck_calls (s:ByteArray)(w:World)(hl:s.size≤1000000):Calls prog 18 #[.string s] w fun e w'=>e=.returned (.int .i64 (ratErr s.data.toList))∧New w w':=by
 cases h:s.data.toList.head?==some 45 with
 | true=>exact rcheck_neg s w hl h
 | false=>exact rcheck_pos s w hl h
end Go.Proofs.YtnjonlnemagomaaGreatDoor
