/- Part CardSn07. -/
import Derived.Test.YtnjonlnemagomaaGreatDoorB34
import Derived.Test.YtnjonlnemagomaaGreatDoorCardSn06
namespace Go.Proofs.YtnjonlnemagomaaGreatDoor
open Go.RowKit Big Go.Lib Go.Proofs.Tryz
set_option maxRecDepth 100000
set_option maxHeartbeats 8000000
set_option linter.all false
theorem noperate_err (x y:ByteArray)(E:Int)(fn:Nat)(hE:err2 x y=E)(h0:E≠0)(hx:x.size≤100000)(hy:y.size≤100000)(w:World)(he:Env w):
  Calls prog 161 #[.string x,.string y,.func (.func fn) #[] #[]] w (TxtPost w ⟨#[]⟩ E):=by
 have aa:=ncheckAll_two x y hx hy;rw[hE] at aa
 have ht:(E != 0)=true:=by simpa using h0
 clear h0 hE hx hy;replace he:=hid he;replace aa:=hid aa;go_in;go_upto_region 0 with (fail);have HN:=hid (New.refl w);go_wp2_with fail;obtain ⟨BG,hn⟩:=lay1 w 23 #[.string x,.string y];replace HN:=tW HN hn;clear hn;refine zM (aa _ _ _ _ (he.new HN) BG) fun w2 hn=>?_;clear BG;replace HN:=tW HN hn;clear hn;go_wp2_with fail;refine bodyPost_ret (v:=.tuple #[.string ⟨#[]⟩,.int .i64 E]) (by simp[results,results161,go_sem]) rfl ?_;exact ⟨rfl,HN⟩
theorem noperate_ok (x y:ByteArray) (p q r:Rat) (fn:Nat) (hxs:x.data.toList=ratText p) (hys:y.data.toList=ratText q) (fp:Fits p) (fq:Fits q) (hx:x.size≤100000) (hy:y.size≤100000)
  (hcf:∀ (args:Array Value) (W:World),Sem.run prog (callFunc fn args) W=.ok (.enter fn args) W) (hop:∀ W va vb,IsFrac W va p→IsFrac W vb q→Calls prog fn #[va,vb] W (FracPost W r)) (hb:FB 40000 r) (w:World) (he:Env w):
  Calls prog 161 #[.string x,.string y,.func (.func fn) #[] #[]] w (TxtPost w (resS r) (resE r)):=by
 have aa:=ncheckAll_two x y hx hy
 have hE:err2 x y=0:=by unfold err2;rw[hxs,hys,ratErr_ratText fp,ratErr_ratText fq];rfl
 rw[hE]at aa;have ag:=fun W hW=>from_calls x p W hW hxs (by omega);have ah:=fun W hW=>from_calls y q W hW hys (by omega);have ad:=fun W v h hW=>nresult_gen v r W h hb hW;obtain ⟨X,hX⟩:∃ X,resS r=X:=⟨_,rfl⟩;obtain ⟨E,ac⟩:∃ X,resE r=X:=⟨_,rfl⟩;unfold TxtPost at *;simp only[hX,ac] at ad;rw[hX,ac];clear hX ac hE hxs hys fp fq hx hy hb;refine zh7 ?_ he aa ag ah ad hop hcf;clear he aa ag ah ad hop hcf;intro HE af aj ak am al ai;go_in;go_upto_region 0 with (fail);have HN:=hid (New.refl w);go_wp2_with fail;obtain ⟨BG,hn⟩:=lay1 w 23 #[.string x,.string y];replace HN:=tW HN hn;clear hn;refine zM (af _ _ _ _ (HE.new HN) BG) fun w2 hn=>?_;clear BG;replace HN:=tW HN hn;clear hn;go_wp2_with fail;refine zN (aj _ (HE.new HN)) fun w3 v3 hn hf=>?_;have ab:=hid hf;clear hf;replace HN:=tW HN hn;clear hn;go_wp2_with fail;refine zN (ak _ (HE.new HN)) fun w4 v4 hn hf=>?_;have ae:=hid hf;clear hf;obtain ⟨HN,ab⟩:=zn2 hn HN ab.new;clear hn;go_wp2_with fail;rw[ai.out,Oper.upon_enter];refine zN (al _ _ _ ab ae) fun w5 v5 hn hf=>?_;clear ab ae;replace hf:=hid hf;replace HN:=tW HN hn;clear hn;go_wp2_with fail;refine zM (am _ _ hf (HE.new HN)) fun w6 hn=>?_;clear hf;replace HN:=tW HN hn;clear hn;go_wp2_with fail;refine bodyPost_ret (v:=.tuple #[.string X,.int .i64 E]) (by simp[results,results161,go_sem]) rfl ?_;exact ⟨rfl,HN⟩
theorem nadd_calls (x y U:ByteArray)(r:Int)(hop:∀ W,Env W→Calls prog 161 #[.string x,.string y,.func (.func 92) #[] #[]] W (TxtPost W U r))(w:World)(he:Env w):
  Calls prog 76 #[.string x,.string y] w (TxtPost w U r):=by
 unfold TxtPost at *;refine zh3 ?_ (New.refl w) he hop;clear he hop;intro HN HE aa;go_in;go_wp2_with fail;refine zM (aa _ HE) fun w4 hn=>?_;replace HN:=tW HN hn;clear hn;go_wp2_with fail;refine bodyPost_ret (v:=.tuple #[.string U,.int .i64 r]) (by simp[results,results76,go_sem]) rfl ?_;exact ⟨rfl,HN⟩
theorem nsub_calls (x y U:ByteArray)(r:Int)(hop:∀ W,Env W→Calls prog 161 #[.string x,.string y,.func (.func 93) #[] #[]] W (TxtPost W U r))(w:World)(he:Env w):
  Calls prog 77 #[.string x,.string y] w (TxtPost w U r):=by
 unfold TxtPost at *;refine zh3 ?_ (New.refl w) he hop;clear he hop;intro HN HE aa;go_in;go_wp2_with fail;refine zM (aa _ HE) fun w4 hn=>?_;replace HN:=tW HN hn;clear hn;go_wp2_with fail;refine bodyPost_ret (v:=.tuple #[.string U,.int .i64 r]) (by simp[results,results77,go_sem]) rfl ?_;exact ⟨rfl,HN⟩
theorem nmul_calls (x y U:ByteArray)(r:Int)(hop:∀ W,Env W→Calls prog 161 #[.string x,.string y,.func (.func 94) #[] #[]] W (TxtPost W U r))(w:World)(he:Env w):
  Calls prog 78 #[.string x,.string y] w (TxtPost w U r):=by
 unfold TxtPost at *;refine zh3 ?_ (New.refl w) he hop;clear he hop;intro HN HE aa;go_in;go_wp2_with fail;refine zM (aa _ HE) fun w4 hn=>?_;replace HN:=tW HN hn;clear hn;go_wp2_with fail;refine bodyPost_ret (v:=.tuple #[.string U,.int .i64 r]) (by simp[results,results78,go_sem]) rfl ?_;exact ⟨rfl,HN⟩
theorem ndiv_err (x y:ByteArray)(E r Z:Int)(b:Bool)(hE:err2 x y=E)(hb:(y.toList==[48])=b)(hZ:(if b=true then (6:Int) else 0)=Z)(hR:(if E=0 then Z else E)=r)(h0:r≠0)(hx:x.size≤100000)(hy:y.size≤100000)(w:World)(he:Env w):
  Calls prog 79 #[.string x,.string y] w (TxtPost w ⟨#[]⟩ r):=by
 have aa:=ncheckAll_two x y hx hy;rw[hE] at aa
 have ht:(r != 0)=true:=by simpa using h0
 clear h0 hE hx hy;refine zh4 ?_ he aa hZ hR;clear he aa hZ hR;intro HE ab HZ HR;go_in;go_upto_region 0 with (fail);have HN:=hid (New.refl w);go_wp2_with fail;obtain ⟨BG,hn⟩:=lay1 w 23 #[.string x,.string y];replace HN:=tW HN hn;clear hn;refine zM (ab _ _ _ _ (HE.new HN) BG) fun w2 hn=>?_;clear BG;replace HN:=tW HN hn;clear hn;go_wp2_with fail;refine (nwhen_calls _ 6 _).mono ?_;rintro e w3 ⟨rfl,ac⟩;subst ac;rw[HZ.out];go_wp2_with fail;obtain ⟨BH,hn⟩:=lay1 w2 32 #[.int .i64 E,.int .i64 Z];replace HN:=tW HN hn;clear hn;refine zM (nfirst2_new E Z _ _ 32 _ BH) fun w4 hn=>?_;rw[HR.out];clear BH;replace HN:=tW HN hn;clear hn;go_wp2_with fail;refine bodyPost_ret (v:=.tuple #[.string ⟨#[]⟩,.int .i64 r]) (by simp[results,results79,go_sem]) rfl ?_;exact ⟨rfl,HN⟩
theorem ndiv_ok (x y U:ByteArray)(E r Z:Int)(hE0:E=0)(hZ0:Z=0)(hE:err2 x y=E)(hb:(y.toList==[48])=false)(hop:∀ W,Env W→Calls prog 161 #[.string x,.string y,.func (.func 95) #[] #[]] W (TxtPost W U r))(hx:x.size≤100000)(hy:y.size≤100000)(w:World)(he:Env w):
  Calls prog 79 #[.string x,.string y] w (TxtPost w U r):=by
 have aa:=ncheckAll_two x y hx hy;rw[hE] at aa
 have hZ:(if false=true then (6:Int) else 0)=Z:=by rw[hZ0];rfl
 have hR:(if E=0 then Z else E)=0:=by rw[hE0,hZ0];rfl
 unfold TxtPost at *;clear hE hx hy hE0 hZ0;refine zh5 ?_ he aa hZ hR hop;clear he aa hZ hR hop;intro HE ab HZ HR ac;go_in;go_upto_region 0 with (fail);have HN:=hid (New.refl w);go_wp2_with fail;obtain ⟨BG,hn⟩:=lay1 w 23 #[.string x,.string y];replace HN:=tW HN hn;clear hn;refine zM (ab _ _ _ _ (HE.new HN) BG) fun w2 hn=>?_;clear BG;replace HN:=tW HN hn;clear hn;go_wp2_with fail;refine (nwhen_calls _ 6 _).mono ?_;rintro e w3 ⟨rfl,ad⟩;subst ad;rw[HZ.out];go_wp2_with fail;obtain ⟨BH,hn⟩:=lay1 w2 32 #[.int .i64 E,.int .i64 Z];replace HN:=tW HN hn;clear hn;refine zM (nfirst2_new E Z _ _ 32 _ BH) fun w4 hn=>?_;rw[HR.out];clear BH;replace HN:=tW HN hn;clear hn;go_wp2_with fail;refine zM (ac _ (HE.new HN)) fun w5 hn=>?_;replace HN:=tW HN hn;clear hn;go_wp2_with fail;refine bodyPost_ret (v:=.tuple #[.string U,.int .i64 r]) (by simp[results,results79,go_sem]) rfl ?_;exact ⟨rfl,HN⟩
theorem norder_err (x y:ByteArray)(E:Int)(hE:err2 x y=E)(h0:E≠0)(hx:x.size≤100000)(hy:y.size≤100000)(w:World)(he:Env w):
  Calls prog 80 #[.string x,.string y] w (NCmpPost w 0 E):=by
 have aa:=ncheckAll_two x y hx hy;rw[hE] at aa
 have ht:(E != 0)=true:=by simpa using h0
 clear h0 hE hx hy;replace he:=hid he;replace aa:=hid aa;go_in;go_upto_region 0 with (fail);have HN:=hid (New.refl w);go_wp2_with fail;obtain ⟨BG,hn⟩:=lay1 w 23 #[.string x,.string y];replace HN:=tW HN hn;clear hn;refine zM (aa _ _ _ _ (he.new HN) BG) fun w2 hn=>?_;clear BG;replace HN:=tW HN hn;clear hn;go_wp2_with fail;go_ret2;exact ⟨rfl,HN⟩
theorem norder_ok (p q:Rat)(fp:Fits p)(fq:Fits q)(hx:(rs p).size≤100000)(hy:(rs q).size≤100000)(w:World)(he:Env w):
  Calls prog 80 #[.string (rs p),.string (rs q)] w (NCmpPost w (p - q).num.sign 0):=by
 have aa:=ncheckAll_two (rs p) (rs q) hx hy
 have hE:err2 (rs p) (rs q)=0:=by unfold err2;rw[rs_list,rs_list,ratErr_ratText fp,ratErr_ratText fq];rfl
 rw[hE]at aa;have ad:=fun W hW=>from_calls (rs p) p W hW (rs_list _) (by omega);have ae:=fun W hW=>from_calls (rs q) q W hW (rs_list _) (by omega);have ab:=fun va vb W h1 h2=>fcmp_calls va vb p q 2000 2000 W h1 h2 (Fits.fb fp) (Fits.fb fq) (by omega);unfold SignPost at ab;rw[crossed_sign] at ab;unfold NCmpPost;obtain ⟨r,hr⟩:∃ r,(p - q).num.sign=r:=⟨_,rfl⟩;simp only[hr] at ab;rw[hr];obtain ⟨x,hX⟩:∃ X,rs p=X:=⟨_,rfl⟩;obtain ⟨y,hY⟩:∃ X,rs q=X:=⟨_,rfl⟩;simp only[hX] at ad;simp only[hY] at ae;simp only[hX,hY] at aa;rw[hX,hY];clear hX hY hr hE hx hy fp fq;refine zh5 ?_ he aa ad ae ab;clear he aa ad ae ab;intro HE af ah ai ag;go_in;go_upto_region 0 with (fail);have HN:=hid (New.refl w);go_wp2_with fail;obtain ⟨BG,hn⟩:=lay1 w 23 #[.string x,.string y];replace HN:=tW HN hn;clear hn;refine zM (af _ _ _ _ (HE.new HN) BG) fun w2 hn=>?_;clear BG;replace HN:=tW HN hn;clear hn;go_wp2_with fail;refine zN (ah _ (HE.new HN)) fun w3 v3 hn hf=>?_;have ac:=hid hf;clear hf;replace HN:=tW HN hn;clear hn;go_wp2_with fail;refine zN (ai _ (HE.new HN)) fun w4 v4 hn hf=>?_;replace hf:=hid hf;obtain ⟨HN,ac⟩:=zn2 hn HN ac.new;clear hn;go_wp2_with fail;refine zM (ag _ _ _ ac hf) fun w5 hn=>?_;replace HN:=tW HN hn;clear hn;go_wp2_with fail;go_ret2;exact ⟨rfl,HN⟩
theorem enter_add (args:Array Value)(W:World):Sem.run prog (callFunc 92 args) W=.ok (.enter 92 args) W:=by kernel_rfl
theorem enter_sub (args:Array Value)(W:World):Sem.run prog (callFunc 93 args) W=.ok (.enter 93 args) W:=by kernel_rfl
structure SpanOk (x0 x1:Rat):Prop where
 f0:FB 300 x0
 f1:FB 300 x1
 le:x0≤x1
theorem SpanOk.len {x:Rat}(h:FB 300 x):(rs x).size≤100000:=by have:=(RFB.of h).len;omega
end Go.Proofs.YtnjonlnemagomaaGreatDoor
namespace Go.Proofs.YtnjonlnemagomaaGreatDoor
open Go.RowKit Big Go.Proofs.Tryz
open Go.Lib (hid)
set_option maxRecDepth 100000
set_option maxHeartbeats 8000000
set_option linter.all false
def firstZ:List Int→Int
 | []=>0
 | x::l=>if x=0 then firstZ l else x
theorem firstZ_drop (l:List Int)(k:Nat)(h:k < l.length):firstZ (l.drop k)=if l[k]=0 then firstZ (l.drop (k+1)) else l[k]:=by
 rw[List.drop_eq_getElem_cons h];rfl
theorem lfirst_calls (a:Option Addr)(cap n:Nat)(l:List Int)(w:World)(hn:l.length=n)(hl:n≤1000000)(hr:RdL w a (ints l)):Calls prog 17 #[.slice a n cap] w fun e w'=>e=.returned (.int .i64 (firstZ l))∧New w w':=by
 have ae:(n:Int)≤1000000:=by omega
 replace hr:=hid hr;replace hn:=hid hn;go_in;go_wp2_with fail;go_loopw [3] (fun i wr=>∃ (k:Nat),k≤n∧i=.int .i64 (k:Int)∧Hid (firstZ l=firstZ (l.drop k))∧Hid (New w wr)) (fun i _=>n - (intOf i).toNat)
 case atStart=>exact ⟨0,Nat.zero_le _,rfl,hid rfl,hid (New.refl _)⟩
 case round=>
  obtain ⟨k,hk,rfl,HF,HN⟩:=hrel;by_cases hlt:k < n
  ·have h1:k < l.length:=by rw[hn.out];exact hlt
   obtain ⟨b1,ad,rfl,aa⟩:=hr.out.int k h1;have hf:=HF.out;rw[firstZ_drop l k h1] at hf;obtain ⟨x,hx⟩:∃ x,l[k]=x:=⟨_,rfl⟩;rw[hx] at aa hf;replace aa:=HN.cell aa;by_cases h0:x=0
   ·subst h0;rw[if_pos rfl] at hf;have HX:=hid hx;have ac:=hid hf;clear hx hf;go_wp2_with fail;go_roundw
    case rel=>exact ⟨k+1,by omega,by go_num,ac,HN⟩
    case measure=>simp[intOf];omega
   ·rw[if_neg h0] at hf;have hb:(x != 0)=true:=bne_iff_ne.2 h0;replace hx:=hid hx;replace hf:=hid hf;go_wp2_with fail;go_ret;exact ⟨by rw[hf.out];rfl,HN.out⟩
  ·have ab:k=n:=by omega
   have hf:=HF.out;rw[List.drop_eq_nil_of_le (by rw[hn.out];omega)] at hf;replace ab:=hid ab;replace hf:=hid hf;go_wp2_with fail;go_ret;exact ⟨by rw[hf.out];rfl,HN.out⟩
end Go.Proofs.YtnjonlnemagomaaGreatDoor
