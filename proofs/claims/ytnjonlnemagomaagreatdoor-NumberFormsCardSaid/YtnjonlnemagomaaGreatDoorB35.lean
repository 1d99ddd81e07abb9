/- Part B35. -/
import Derived.Test.YtnjonlnemagomaaGreatDoorB23
import Derived.Test.YtnjonlnemagomaaGreatDoorB31
import Derived.Test.YtnjonlnemagomaaGreatDoorB32
namespace Go.Proofs.YtnjonlnemagomaaGreatDoor
open Go.RowKit Big Go.Lib
set_option maxRecDepth 100000
set_option maxHeartbeats 8000000
theorem ya3 (a:Option Addr)(cap n:Nat)(vs:List ByteArray)(E:Int)(w:World)(he:Env w)(hn0:vs.length=n)(hl:n<=4096)(hr:RdL w a (strs vs))(hE:yag vs=E)(hsz:∀ (k:Nat) (h1:k < vs.length),(vs[k]).size<=100000):
  Calls Tryz.prog 103 #[.slice a n cap] w (y1o w E):=by
 have hck:∀ (k:Nat) (h1:k < vs.length) (W:World),Env W->Calls Tryz.prog 75 #[.string vs[k]] W fun e w'=>e=.returned (.int .i64 (y1j vs[k].data.toList))/\New W w':=fun k h1 W hW=>y33 vs[k] W hW (hsz k h1)
 have hli:(n:Int)<=4096:=by omega
 clear hsz hl;have HE:=hid he;have HCK:=hid hck;have HR:=hid hr;have HEE:=hid hE;have HNN:=hid hn0;clear he hck hr hE hn0;go_enter Tryz.func103,Tryz.ntmps103;go_wp2_with fail;go_loopw [8] (fun i wr=>∃ (k:Nat),k<=n/\i=.int .i64 (k:Int)/\Hid (yag (vs.drop k)=E)/\Hid (New w wr)) (fun i _=>n - (RowKit.intOf i).toNat)
 case atStart=>exact ⟨0,Nat.zero_le _,rfl,HEE,hid (New.refl _)⟩
 case round=>
  obtain ⟨k,hk,rfl,HP,HN⟩:=hrel;by_cases hlt:k < n
  ·have hlt3:k < vs.length:=by rw[HNN.out];exact hlt
   obtain ⟨b1,off,rfl,hcell⟩:=HR.out.str k hlt3;have hcell:=HN.out.cell hcell;have hcall:=HCK.out k hlt3;have hrd:=yg2 vs k hlt3;rw[HP.out] at hrd;obtain ⟨x,hx⟩:∃ x,vs[k]=x:=⟨_,rfl⟩;rw[hx] at hcell hrd;simp only[hx] at hcall;obtain ⟨r,hr⟩:∃ r,y1j x.data.toList=r:=⟨_,rfl⟩;rw[hr] at hrd;simp only[hr] at hcall;by_cases hr0:r=0
   ·subst hr0;rw[if_pos rfl] at hrd;have HCALL:=hid hcall;have HX:=hid hx;have HRD:=hid hrd;have HRR:=hid hr;clear hcall hx hrd hr;go_wp2_with fail;refine (HCALL.out _ (HE.out.new HN.out)).mono ?_;rintro e w4 ⟨rfl,hn⟩;clear hcell;replace HN:=tW HN hn;clear hn;go_wp2_with fail;go_roundw
    case rel=>exact ⟨k+1,by omega,by go_num,hid HRD.out.symm,HN⟩
    case measure=>simp[RowKit.intOf];omega
   ·rw[if_neg hr0] at hrd
    have ht:(r != 0)=true:=by simpa using hr0
    have HCALL:=hid hcall;have HX:=hid hx;have HRD:=hid hrd;have HRR:=hid hr;clear hcall hx hrd hr;clear hr0;go_wp2_with fail;refine (HCALL.out _ (HE.out.new HN.out)).mono ?_;rintro e w4 ⟨rfl,hn⟩;clear hcell;replace HN:=tW HN hn;clear hn;go_wp2_with fail;go_ret;exact ⟨by rw[<-HRD.out];rfl,HN.out⟩
  ·have hkk:k=n:=by omega
   have hE1:E=0:=by
    rw[<-HP.out,hkk,<-HNN.out,List.drop_length];rfl
   have HKK:=hid hkk;have HE1:=hid hE1;clear hkk hE1;go_wp2_with fail;go_ret;exact ⟨by rw[HE1.out];rfl,HN.out⟩
def err2 (x y:ByteArray):Int:=if y1j x.data.toList=0 then y1j y.data.toList else y1j x.data.toList
theorem yhf (x y:ByteArray):yag [x,y]=err2 x y:=by
 unfold err2;show (if y1j x.data.toList=0 then (if y1j y.data.toList=0 then 0 else y1j y.data.toList) else y1j x.data.toList)=_;split
 ·split
  ·rename_i h;rw[h]
  ·rfl
 ·rfl
theorem yjx {w:World}{B:Nat}{t:TypeId}{x y:ByteArray}(h:Box w B t #[.string x,.string y]):RdL w (some ⟨B,0,none⟩) (strs [x,y]):=fun i hi=>by
 refine ⟨B,0,rfl,?_⟩;rw[h.cell]
 match i,hi with
 | 0,_=>rfl
 | 1,_=>rfl
theorem y5e (x y:ByteArray)(hx:x.size<=100000)(hy:y.size<=100000)(B cap:Nat)(t:TypeId)(W:World)(he:Env W)(hB:Box W B t #[.string x,.string y]):Calls Tryz.prog 103 #[.slice (some ⟨B,0,none⟩) 2 cap] W (y1o W (err2 x y)):=
 ya3 (some ⟨B,0,none⟩) cap 2 [x,y] _ W he rfl (by omega) (yjx hB) (yhf x y) fun k h1=>by
  match k,h1 with
  | 0,_=>exact hx
  | 1,_=>exact hy
theorem y2q (p q:Rat)(x y:ByteArray)(hp:x.data.toList=y02 p)(hq:y.data.toList=y02 q)(fp:Fits p)(fq:Fits q)(hx:x.size<=100000)(hy:y.size<=100000)(w:World)(he:Env w):Calls Tryz.prog 51 #[.agg #[.string x,.string y]] w (y1o w (if q < p then 11 else 0)):=by
 have hrow:=y5e x y hx hy;rw[show err2 x y=0 by unfold err2;rw[hp,hq,y18 fp,y18 fq];rfl] at hrow;have hfx:=fun W hW=>y0c x p W hW hp (by omega);have hfy:=fun W hW=>y0c y q W hW hq (by omega);have hcm:=fun va vb W h1 h2=>y16 va vb p q 2000 2000 W h1 h2 (Fits.fb fp) (Fits.fb fq) (by omega);obtain ⟨r,hr⟩:∃ r,(y0v p q).sign=r:=⟨_,rfl⟩
 have hrs:0 < r ↔ q < p:=by rw[<-hr];exact y2o
 unfold y1t at hcm;simp only[hr] at hcm;obtain ⟨E,hE⟩:∃ E:Int,(if q < p then 11 else 0)=E:=⟨_,rfl⟩;rw[hE]
 have hEb:(if decide (0 < r)=true then (11:Int) else 0)=E:=by
  rw[<-hE];by_cases h:q < p
  ·rw[if_pos h,if_pos (decide_eq_true (hrs.2 h))]
  ·rw[if_neg h,if_neg (by rw[decide_eq_true_iff];exact fun h2=>h (hrs.1 h2))]
 clear hr hrs hE hp hq fp fq hx hy;have HE:=hid he;have HROW:=hid hrow;have HFX:=hid hfx;have HFY:=hid hfy;have HCM:=hid hcm;have HEB:=hid hEb;clear he hrow hfx hfy hcm hEb;go_enter Tryz.func51,Tryz.ntmps51;go_upto_region 1 with (fail);obtain ⟨BA,HN⟩:=lay1 w 53 #[.string x,.string y];obtain ⟨w8,hw8⟩:∃ u,w.alloc (.cells #[.string x,.string y] 53)=u:=⟨_,rfl⟩;rw[hw8] at BA HN⊢;clear hw8;obtain ⟨pa0,pa1,pa2,pa3,pa4⟩:=BA.out.two;go_wp2_with fail;clear pa0 pa1 pa2 pa3 pa4;have HN0:=HN;clear HN;obtain ⟨BG,HN⟩:=lay1 w8 23 #[.string x,.string y];replace BA:=hid (BA.out.new HN.out);have HN_:=HN0.out.trans HN.out;clear HN HN0;have HN:=hid HN_;clear HN_;refine (HROW.out _ _ _ _ (HE.out.new HN.out) BG.out).mono ?_;rintro e w2 ⟨rfl,hn⟩;clear BG;replace BA:=bW BA hn;replace HN:=tW HN hn;clear hn;go_wp2_with fail;obtain ⟨pa0,pa1,pa2,pa3,pa4⟩:=BA.out.two;clear pa0 pa1 pa2 pa3 pa4;refine y00 9 (fun W=>W.cell? ⟨w.heap.size,0,none⟩=some (.string x)/\W.cell? ⟨w.heap.size,1,none⟩=some (.string y)) 10 #[false,false,false,false,false,false,false,false,false,false] rfl (by kernel_rfl) (by kernel_rfl) ?_;refine tk 0 (by exact cW2 BA) ?_
 try simp only[PT]
 refine tk 1 (by exact cW2 BA) ?_
 try simp only[PT]
 refine tk 3 (by exact cW2 BA) ?_
 try simp only[PT]
 refine tk 4 (by exact cW2 BA) ?_
 try simp only[PT]
 refine tk1 2 fun K hK=>?_;go_simp;refine (HFX.out _ (HE.out.new HN.out.drew)).mono ?_;rintro e w3 ⟨v3,rfl,hn,hf⟩;have hn:=hn.undrew;have HF1:=hid hf;clear hf;replace BA:=bW BA hn;replace HN:=tW HN hn;clear hn;refine hK.out _ _ (fun _=>cW2 BA) ?_;clear hK K
 try simp only[PT]
 refine tk1 5 fun K hK=>?_;go_simp;refine (HFY.out _ (HE.out.new HN.out)).mono ?_;rintro e w4 ⟨v4,rfl,hn,hf⟩;have HF2:=hid hf;clear hf;replace BA:=bW BA hn;replace HF1:=hid (HF1.out.new hn);replace HN:=tW HN hn;clear hn;refine hK.out _ _ (fun _=>cW2 BA) ?_;clear hK K
 try simp only[PT]
 refine tk1 6 fun K hK=>?_;go_simp;refine (HCM.out _ _ _ HF1.out HF2.out).mono ?_;rintro e w5 ⟨rfl,hn⟩;clear HF1 HF2;replace BA:=bW BA hn;replace HN:=tW HN hn;clear hn;refine hK.out _ _ (fun _=>cW2 BA) ?_;clear hK K
 try simp only[PT]
 refine tk 7 (by exact cW2 BA) ?_
 try simp only[PT]
 refine tk1 8 fun K hK=>?_;go_simp;refine (y04 _ 11 _).mono ?_;rintro e w6 ⟨rfl,hw6⟩;subst hw6;rw[HEB.out];refine hK.out _ _ (fun _=>cW2 BA) ?_;clear hK K
 try simp only[PT]
 refine tlW ?_;obtain ⟨pa0,pa1,pa2,pa3,pa4⟩:=BA.out.two;go_wp2_with fail;go_ret;exact ⟨rfl,HN.out⟩
def y2e (w:World)(s:ByteArray)(n:Int)(e:Ending)(w':World):Prop:=e=.returned (.tuple #[.string s,.int .i64 n])/\New w w'
theorem yc9 (va:Value)(q:Rat)(w:World)(hx:y07 w va q)(hb:FB 1800 q)(he:Env w):Calls Tryz.prog 91 #[va] w (y2e w (rs q) 0):=by
 obtain ⟨sa,aa,la,ca,ta,ba,ma,na,rfl⟩:=hx.shape;have htx:=fun (W:World) v h hW=>y35 v q W h (hb.mono (by omega)) hW;have hlg:=fun (W:World) v h=>y6s v q W h hb;obtain ⟨X,hX⟩:∃ X:ByteArray,rs q=X:=⟨_,rfl⟩;have hX2:(⟨(y02 q).toArray⟩:ByteArray)=X:=hX;simp only[hX2] at htx;rw[hX];clear hb hX hX2;unfold y2e;have HX:=hid hx;have HE:=hid he;have HTX:=hid htx;have HLG:=hid hlg;clear hx he htx hlg;go_enter Tryz.func91,Tryz.ntmps91;go_upto_region 1 with (fail);obtain ⟨BA,HN⟩:=lay1 w 115 #[.int .i64 sa,.slice aa la ca,.int .i64 ta,.slice ba ma na];obtain ⟨⟨pa0,pa1,pa2,pa3⟩,pa4,pa5,pa6,pa7,pa8⟩:=BA.out.four;go_wp2_with fail;refine (HLG.out _ _ (HX.out.new HN.out)).mono ?_;rintro e w1 ⟨rfl,hn⟩;clear pa0 pa1 pa2 pa3 pa4 pa5 pa6 pa7 pa8;replace BA:=bW BA hn;replace HN:=tW HN hn;clear hn;obtain ⟨⟨pa0,pa1,pa2,pa3⟩,pa4,pa5,pa6,pa7,pa8⟩:=BA.out.four;go_wp2_with fail;refine (HTX.out _ _ (HX.out.new HN.out) (HE.out.new HN.out)).mono ?_;rintro e w2 ⟨rfl,hn⟩;clear pa0 pa1 pa2 pa3 pa4 pa5 pa6 pa7 pa8;replace HN:=tW HN hn;clear hn;go_wp2_with fail;refine bodyPost_ret (v:=.tuple #[.string X,.int .i64 0]) (by simp[results,Tryz.results91,go_sem]) rfl ?_;exact ⟨rfl,HN.out⟩
def y17 (w:World)(x y:ByteArray)(n:Int)(e:Ending)(w':World):Prop:=e=.returned (.tuple #[.agg #[.string x,.string y],.int .i64 n])/\New w w'
theorem y56 (va vb:Value)(x y:Rat)(w:World)(hx:y07 w va x)(hy:y07 w vb y)(sx:FB 1800 x)(sy:FB 1800 y)(he:Env w):Calls Tryz.prog 114 #[va,vb] w (y17 w (rs x) (rs y) 0):=by
 obtain ⟨sa,aa,la,ca,ta,ba,ma,na,rfl⟩:=hx.shape;obtain ⟨sb,ab,lb,cb,tb,bb,mb,nb,rfl⟩:=hy.shape;unfold y17;have htx:=fun (W:World) v h hW=>y35 v x W h (sx.mono (by omega)) hW;have hty:=fun (W:World) v h hW=>y35 v y W h (sy.mono (by omega)) hW;obtain ⟨X,hX⟩:∃ X:ByteArray,rs x=X:=⟨_,rfl⟩;obtain ⟨Y,hY⟩:∃ Y:ByteArray,rs y=Y:=⟨_,rfl⟩;have hX2:(⟨(y02 x).toArray⟩:ByteArray)=X:=hX;have hY2:(⟨(y02 y).toArray⟩:ByteArray)=Y:=hY;simp only[hX2] at htx;simp only[hY2] at hty;rw[hX,hY];clear hX hY hX2 hY2;have HX:=hid hx;have HY:=hid hy;have SX:=hid sx;have SY:=hid sy;have HE:=hid he;have HTX:=hid htx;have HTY:=hid hty;clear hx hy sx sy he htx hty;go_enter Tryz.func114,Tryz.ntmps114;go_upto_region 1 with (fail);obtain ⟨BA,BB,BP,HN⟩:=lay3 w 115 #[.int .i64 sa,.slice aa la ca,.int .i64 ta,.slice ba ma na] 115 #[.int .i64 sb,.slice ab lb cb,.int .i64 tb,.slice bb mb nb] 53 #[.string ⟨#[]⟩,.string ⟨#[]⟩];obtain ⟨⟨pa0,pa1,pa2,pa3⟩,pa4,pa5,pa6,pa7,pa8⟩:=BA.out.four;go_wp2_with fail;refine (y6s _ x _ (HX.out.new HN.out) SX.out).mono ?_;rintro e w1 ⟨rfl,hn⟩;clear pa0 pa1 pa2 pa3 pa4 pa5 pa6 pa7 pa8;replace BA:=bW BA hn;replace BB:=bW BB hn;replace BP:=bW BP hn;replace HN:=tW HN hn;clear hn;obtain ⟨⟨pa0,pa1,pa2,pa3⟩,pa4,pa5,pa6,pa7,pa8⟩:=BA.out.four;obtain ⟨⟨pb0,pb1,pb2,pb3⟩,pb4,pb5,pb6,pb7,pb8⟩:=BB.out.four;go_wp2_with fail;refine (y6s _ y _ (HY.out.new HN.out) SY.out).mono ?_;rintro e w2 ⟨rfl,hn⟩;clear pa0 pa1 pa2 pa3 pa4 pa5 pa6 pa7 pa8 pb0 pb1 pb2 pb3 pb4 pb5 pb6 pb7 pb8;replace BA:=bW BA hn;replace BB:=bW BB hn;replace BP:=bW BP hn;replace HN:=tW HN hn;clear hn;obtain ⟨⟨pa0,pa1,pa2,pa3⟩,pa4,pa5,pa6,pa7,pa8⟩:=BA.out.four;obtain ⟨⟨pb0,pb1,pb2,pb3⟩,pb4,pb5,pb6,pb7,pb8⟩:=BB.out.four;go_wp2_with fail;clear pa0 pa1 pa2 pa3 pa4 pa5 pa6 pa7 pa8;clear pb0 pb1 pb2 pb3 pb4 pb5 pb6 pb7 pb8;refine y00 5 (fun W=>(W.cell? ⟨w.heap.size,0,none⟩=some (.int .i64 sa)/\W.cell? ⟨w.heap.size,1,none⟩=some (.slice aa la ca)/\W.cell? ⟨w.heap.size,2,none⟩=some (.int .i64 ta)/\W.cell? ⟨w.heap.size,3,none⟩=some (.slice ba ma na))/\(W.cell? ⟨w.heap.size+1,0,none⟩=some (.int .i64 sb)/\W.cell? ⟨w.heap.size+1,1,none⟩=some (.slice ab lb cb)/\W.cell? ⟨w.heap.size+1,2,none⟩=some (.int .i64 tb)/\W.cell? ⟨w.heap.size+1,3,none⟩=some (.slice bb mb nb))) 7 #[false,false,false,false,false,false,false] rfl (by kernel_rfl) (by kernel_rfl) ?_;refine tk 0 (by exact ⟨cW4 BA,cW4 BB⟩) ?_
 try simp only[PT]
 refine tk 2 (by exact ⟨cW4 BA,cW4 BB⟩) ?_
 try simp only[PT]
 refine tk1 1 fun K hK=>?_;go_simp;refine (HTX.out _ _ (HX.out.new HN.out.drew) (HE.out.new HN.out.drew)).mono ?_;rintro e w3 ⟨rfl,hn⟩;have hn:=hn.undrew;replace BA:=bW BA hn;replace BB:=bW BB hn;replace BP:=bW BP hn;replace HN:=tW HN hn;clear hn;refine hK.out _ _ (fun _=>⟨cW4 BA,cW4 BB⟩) ?_;clear hK K
 try simp only[PT]
 refine tk1 3 fun K hK=>?_;go_simp;refine (HTY.out _ _ (HY.out.new HN.out) (HE.out.new HN.out)).mono ?_;rintro e w4 ⟨rfl,hn⟩;replace BA:=bW BA hn;replace BB:=bW BB hn;replace BP:=bW BP hn;replace HN:=tW HN hn;clear hn;refine hK.out _ _ (fun _=>⟨cW4 BA,cW4 BB⟩) ?_;clear hK K
 try simp only[PT]
 refine tk 4 (by exact ⟨cW4 BA,cW4 BB⟩) ?_
 try simp only[PT]
 refine tlW ?_;obtain ⟨⟨pa0,pa1,pa2,pa3⟩,pa4,pa5,pa6,pa7,pa8⟩:=BA.out.four;obtain ⟨⟨pb0,pb1,pb2,pb3⟩,pb4,pb5,pb6,pb7,pb8⟩:=BB.out.four;obtain ⟨p0,p1,p2,p3,p4⟩:=BP.out.two;go_wp2_with fail;refine bodyPost_ret (v:=.tuple #[.agg #[.string X,.string Y],.int .i64 0]) (by simp[results,Tryz.results114,go_sem,p0,p1]) rfl ?_;exact ⟨rfl,HN.out.putAt BP.out (by omega) _ _⟩
theorem ybr {k n:Nat}(h:k<=3*n):2^k<=10^n:=Nat.le_trans (Nat.pow_le_pow_right (by omega) h) (by
 rw[Nat.pow_mul]
 exact Nat.pow_le_pow_left (by decide) n)
theorem ykk (x:Int):Lib.trimPrefix (Lib.itoa x) [45]=decDigits x.natAbs:=by
 rcases Int.lt_or_le x 0 with h | h
 ·rw[show x= -(x.natAbs:Int) by omega,Big.itoa_neg (by omega)];unfold Lib.trimPrefix Lib.hasPrefix;simp
 ·rw[show x=(x.natAbs:Int) by omega,Big.itoa_nonneg];unfold Lib.trimPrefix Lib.hasPrefix;rw[if_neg,Int.natAbs_natCast];intro hp
  cases hl:decDigits x.natAbs with
  | nil=>exact y0r _ hl
  | cons c l=>
   rw[hl]at hp
   have hc:45=c:=by simpa using hp
   exact y3a x.natAbs (c:=45) (by decide) (by rw[hl,hc];exact List.mem_cons_self ..)
theorem y9d (va:Value)(x:Int)(w:World)(hx:y06 w va x)(hs:BdK 40000 x)(he:Env w):Calls Tryz.prog 218 #[va] w fun e w'=>e=.returned (.bool (decide (600 < nDigits x.natAbs)))/\New w w':=by
 obtain ⟨sa,aa,la,ca,rfl⟩:=hx.shape;have bx:Bd x:=⟨40000,by omega,hs⟩;have hst:=fun W va hx hW=>y4l va x W hx hs hW;obtain ⟨r,hr⟩:∃ r,decide (600 < nDigits x.natAbs)=r:=⟨_,rfl⟩
 have hsm:∀ b:Nat,y6z x.natAbs b->b<=1800->r=false:=fun b hb h=>by
  rw[<-hr];have h1:x.natAbs < 10^600:=Nat.lt_of_lt_of_le hb.lt (ybr (n:=600) (by omega));have:=(y0w (k:=600) (by omega)).2 h1;exact decide_eq_false (by omega)
 obtain ⟨D,hD⟩:∃ D:ByteArray,⟨(decDigits x.natAbs).toArray⟩=D:=⟨_,rfl⟩
 have hDs:D.size=nDigits x.natAbs:=by rw[<-hD,<-decDigits_length];simp[ByteArray.size]
 obtain ⟨S,hS⟩:∃ S:ByteArray,⟨(Lib.itoa x).toArray⟩=S:=⟨_,rfl⟩
 have htp:(⟨(Lib.trimPrefix S.data.toList (⟨#[45]⟩:ByteArray).data.toList).toArray⟩:ByteArray)=D:=by
  rw[<-hS,<-hD,<-ykk]
 have hlen:decide ((600:Int) < (D.size:Int))=r:=by
  rw[<-hr,hDs];exact decide_eq_decide.2 (by omega)
 simp only[hS]at hst;rw[hr];clear hr hs hD hDs hS;have HX:=hid hx;have BX:=hid bx;have HE:=hid he;have HST:=hid hst;have HSM:=hid hsm;have HTP:=hid htp;have HLEN:=hid hlen;clear hx bx he hst hsm htp hlen;go_enter Tryz.func218,Tryz.ntmps218;go_wp2_with fail;obtain ⟨BA,HN⟩:=lay1 w 113 #[.int .i64 sa,.slice aa la ca];refine (y3l _ x _ (HX.out.new HN.out) BX.out).mono ?_;rintro e w1 ⟨b,rfl,hn,hb⟩;replace BA:=bW BA hn;replace HN:=tW HN hn;clear hn;by_cases h:b<=1800
 ·have hr:=HSM.out b hb h
  have hi:¬(1800:Int) < (b:Int):=by omega
  have hd:decide ((1800:Int) < (b:Int))=false:=decide_eq_false hi;clear h hb;have HR:=hid hr;clear hr;go_wp2_with fail;go_ret;exact ⟨by rw[HR.out];rfl,HN.out⟩
 ·have hi:(1800:Int) < (b:Int):=by omega
  have hd:decide ((1800:Int) < (b:Int))=true:=decide_eq_true hi;clear h hb;obtain ⟨pa0,pa1,pa2,pa3,pa4⟩:=BA.out.two;go_wp2_with fail;refine (HST.out _ _ (HX.out.new HN.out) (HE.out.new HN.out)).mono ?_;rintro e w2 ⟨rfl,hn⟩;clear pa0 pa1 pa2 pa3 pa4;replace HN:=tW HN hn;clear hn;go_wp2_with fail;refine (Tryz.strings_TrimPrefix S _ _).mono ?_;rintro e w' ⟨rfl,hw⟩;subst hw;rw[HTP.out];have hlen:=HLEN.out;go_wp2_with fail;go_ret;exact ⟨rfl,HN.out⟩
def bigQ (q:Rat):Bool:=decide (600 < nDigits q.num.natAbs) || decide (600 < nDigits q.den)
theorem ydg (va:Value)(q:Rat)(w:World)(hx:y07 w va q)(hb:FB 40000 q)(he:Env w):Calls Tryz.prog 165 #[va] w fun e w'=>e=.returned (.bool (bigQ q))/\New w w':=by
 obtain ⟨s,a,l,c,s',a',l',c',rfl,h1,h2⟩:=hx;have hl1:=fun W va hx hW=>y9d va q.num W hx hb.num hW;have hl2:=fun W va hx hW=>y9d va (q.den:Int) W hx hb.den hW;rw[Int.natAbs_natCast] at hl2;unfold bigQ;obtain ⟨r1,hr1⟩:∃ r,decide (600 < nDigits q.num.natAbs)=r:=⟨_,rfl⟩;obtain ⟨r2,hr2⟩:∃ r,decide (600 < nDigits q.den)=r:=⟨_,rfl⟩;simp only[hr1] at hl1;simp only[hr2] at hl2;rw[hr1,hr2];clear hr1 hr2 hb;have H1:=hid h1;have H2:=hid h2;have HE:=hid he;have HL1:=hid hl1;have HL2:=hid hl2;clear h1 h2 he hl1 hl2;go_enter Tryz.func165,Tryz.ntmps165;go_wp2_with fail;obtain ⟨BA,HN⟩:=lay1 w 115 #[.int .i64 s,.slice a l c,.int .i64 s',.slice a' l' c'];refine (HL1.out _ _ (H1.out.new HN.out) (HE.out.new HN.out)).mono ?_;rintro e w2 ⟨rfl,hn⟩;replace BA:=bW BA hn;replace HN:=tW HN hn;clear hn
 cases r1 with
 | true=>
  go_wp2_with fail;go_ret;exact ⟨rfl,HN.out⟩
 | false=>
  obtain ⟨⟨pa0,pa1,pa2,pa3⟩,pa4,pa5,pa6,pa7,pa8⟩:=BA.out.four;go_wp2_with fail;refine (HL2.out _ _ (H2.out.new HN.out) (HE.out.new HN.out)).mono ?_;rintro e w3 ⟨rfl,hn⟩;clear pa0 pa1 pa2 pa3 pa4 pa5 pa6 pa7 pa8;replace HN:=tW HN hn;clear hn;go_wp2_with fail;go_ret;exact ⟨rfl,HN.out⟩
def resS (q:Rat):ByteArray:=if bigQ q then ⟨#[]⟩ else rs q
def resE (q:Rat):Int:=if bigQ q then 4 else 0
theorem y9i (va:Value)(q:Rat)(w:World)(hx:y07 w va q)(hb:FB 40000 q)(he:Env w):Calls Tryz.prog 91 #[va] w (y2e w (resS q) (resE q)):=by
 obtain ⟨sa,aa,la,ca,ta,ba,ma,na,rfl⟩:=hx.shape;have htx:=fun (W:World) v h hW=>y35 v q W h hb hW;have hlg:=fun (W:World) v h hW=>ydg v q W h hb hW;obtain ⟨X,hX⟩:∃ X:ByteArray,rs q=X:=⟨_,rfl⟩;have hX2:(⟨(y02 q).toArray⟩:ByteArray)=X:=hX;obtain ⟨r,hr⟩:∃ r,bigQ q=r:=⟨_,rfl⟩;simp only[hX2] at htx;simp only[hr] at hlg;unfold y2e resS resE;rw[hX,hr];clear hb hX hX2 hr;have HX:=hid hx;have HE:=hid he;have HTX:=hid htx;have HLG:=hid hlg;clear hx he htx hlg;go_enter Tryz.func91,Tryz.ntmps91;go_upto_region 1 with (fail);obtain ⟨BA,HN⟩:=lay1 w 115 #[.int .i64 sa,.slice aa la ca,.int .i64 ta,.slice ba ma na];obtain ⟨⟨pa0,pa1,pa2,pa3⟩,pa4,pa5,pa6,pa7,pa8⟩:=BA.out.four;go_wp2_with fail;refine (HLG.out _ _ (HX.out.new HN.out) (HE.out.new HN.out)).mono ?_;rintro e w1 ⟨rfl,hn⟩;clear pa0 pa1 pa2 pa3 pa4 pa5 pa6 pa7 pa8;replace BA:=bW BA hn;replace HN:=tW HN hn;clear hn;obtain ⟨⟨pa0,pa1,pa2,pa3⟩,pa4,pa5,pa6,pa7,pa8⟩:=BA.out.four
 cases r with
 | true=>
  go_wp2_with fail;refine bodyPost_ret (v:=.tuple #[.string ⟨#[]⟩,.int .i64 4]) (by simp[results,Tryz.results91,go_sem]) rfl ?_;exact ⟨rfl,HN.out⟩
 | false=>
  go_wp2_with fail;refine (HTX.out _ _ (HX.out.new HN.out) (HE.out.new HN.out)).mono ?_;rintro e w2 ⟨rfl,hn⟩;clear pa0 pa1 pa2 pa3 pa4 pa5 pa6 pa7 pa8;replace HN:=tW HN hn;clear hn;go_wp2_with fail;refine bodyPost_ret (v:=.tuple #[.string X,.int .i64 0]) (by simp[results,Tryz.results91,go_sem]) rfl ?_;exact ⟨rfl,HN.out⟩
theorem ym9 (n:Int)(w:World):Calls Tryz.prog 69 #[.int .i64 n,.int .i64 0] w (y2e w ⟨#[]⟩ 6):=by
 go_enter Tryz.func69,Tryz.ntmps69;go_wp2_with fail;refine bodyPost_ret (v:=.tuple #[.string ⟨#[]⟩,.int .i64 6]) (by simp[results,Tryz.results69,go_sem]) rfl ?_;exact ⟨rfl,New.refl _⟩
theorem yex (n d:Int)(w:World)(he:Env w)(hd:d≠0)(bn:n.natAbs<=999999999)(bd:d.natAbs<=999999999):Calls Tryz.prog 69 #[.int .i64 n,.int .i64 d] w (y2e w (rs (Rat.divInt n d)) 0):=by
 have kn:BdK 62 n:=Nat.lt_of_le_of_lt bn (by decide);have kd:BdK 62 d:=Nat.lt_of_le_of_lt bd (by decide);have hmk:=fun W va vb h1 h2=>y12 va vb n d W h1 h2 (kn.bd (by omega)) (kd.bd (by omega)) hd;have hrs:=fun W v h hW=>yc9 v (Rat.divInt n d) W h ((FB.divInt kn kd hd).mono (by omega)) hW;obtain ⟨q,hq⟩:∃ q,Rat.divInt n d=q:=⟨_,rfl⟩;obtain ⟨X,hX⟩:∃ X,rs q=X:=⟨_,rfl⟩;simp only[hq,hX] at hmk hrs;rw[hq,hX];have hb:(d==0)=false:=beq_false_of_ne hd;have s1:∀ W,y06 W (.agg #[.int .i64 n,.slice none 0 0]) n:=fun W=>.small rfl (by omega) (by omega);have s2:∀ W,y06 W (.agg #[.int .i64 d,.slice none 0 0]) d:=fun W=>.small rfl (by omega) (by omega);unfold y2e at *;clear hq hX kn kd bn bd hd;have HN:=hid (New.refl w);have HE:=hid he;have HMK:=hid hmk;have HRS:=hid hrs;have S1:=hid s1;have S2:=hid s2;clear he hmk hrs s1 s2;go_enter Tryz.func69,Tryz.ntmps69;go_wp2_with fail;refine (y09 n _).mono ?_;rintro e w1 ⟨rfl,hn⟩;replace HN:=tW HN hn;clear hn;go_wp2_with fail;refine (y09 d _).mono ?_;rintro e w2 ⟨rfl,hn⟩;replace HN:=tW HN hn;clear hn;go_wp2_with fail;refine (HMK.out _ _ _ (S1.out _) (S2.out _)).mono ?_;rintro e w3 ⟨v,rfl,hn,hf⟩;have HF:=hid hf;clear hf;replace HN:=tW HN hn;clear hn;go_wp2_with fail;refine (HRS.out _ _ HF.out (HE.out.new HN.out)).mono ?_;rintro e w4 ⟨rfl,hn⟩;replace HN:=tW HN hn;clear hn;go_wp2_with fail;refine bodyPost_ret (v:=.tuple #[.string X,.int .i64 0]) (by simp[results,Tryz.results69,go_sem]) rfl ?_;exact ⟨rfl,HN.out⟩
theorem yhe (s:ByteArray)(E:Int)(hE:y1j s.data.toList=E)(h0:E≠0)(hl:s.size<=100000)(w:World)(he:Env w):Calls Tryz.prog 70 #[.string s] w (y2e w ⟨#[]⟩ E):=by
 have hck:=fun W hW=>y33 s W hW hl;rw[hE] at hck
 have ht:(E != 0)=true:=by simpa using h0
 clear hE h0 hl;have HN:=hid (New.refl w);have HE:=hid he;have HCK:=hid hck;clear he hck;go_enter Tryz.func70,Tryz.ntmps70;go_wp2_with fail;refine (HCK.out _ (HE.out.new HN.out)).mono ?_;rintro e w1 ⟨rfl,hn⟩;replace HN:=tW HN hn;clear hn;go_wp2_with fail;refine bodyPost_ret (v:=.tuple #[.string ⟨#[]⟩,.int .i64 E]) (by simp[results,Tryz.results70,go_sem]) rfl ?_;exact ⟨rfl,HN.out⟩
theorem yc8 {q:Rat}{k:Nat}(h:FB k q)(hk:1<=k):FB (k+1) ((q.floor:Int):Rat):=by
 refine FB.int ?_ (by omega);have h1:q.num.natAbs < 2^k:=h.num;have hd:=q.den_pos;unfold BdK;rw[Rat.floor_def];have h2:=Int.natAbs_ediv_le_natAbs q.num (q.den:Int);have:2^k<=2^(k+1):=Nat.pow_le_pow_right (by omega) (by omega);omega
theorem ycy (s:ByteArray)(q:Rat)(hs:s.data.toList=y02 q)(hf:Fits q)(hl:s.size<=100000)(w:World)(he:Env w):Calls Tryz.prog 70 #[.string s] w (y2e w (resS ((q.floor:Int):Rat)) (resE ((q.floor:Int):Rat))):=by
 have hck:=fun W hW=>y33 s W hW hl;rw[hs,y18 hf] at hck;have fb:=Fits.fb hf;have hfr:=fun W hW=>y0c s q W hW hs (by omega);have hfl:=fun W v h=>y1z v q 2000 W h fb (by omega);have hwh:=fun W v h=>y26 v q.floor W h;have hrs:=fun W v h hW=>y9i v ((q.floor:Int):Rat) W h ((yc8 fb (by omega)).mono (by omega)) hW;obtain ⟨z,hz⟩:∃ z,q.floor=z:=⟨_,rfl⟩;simp only[hz] at hfl hwh hrs;rw[hz];obtain ⟨p,hp⟩:∃ p:Rat,((z:Int):Rat)=p:=⟨_,rfl⟩;simp only[hp] at hwh hrs;rw[hp];obtain ⟨X,hX⟩:∃ X,resS p=X:=⟨_,rfl⟩;obtain ⟨E,hE⟩:∃ X,resE p=X:=⟨_,rfl⟩;simp only[hX,hE] at hrs;rw[hX,hE];unfold y2e at *;clear hX hE hp hz hs hf hl fb;have HN:=hid (New.refl w);have HE:=hid he;have HCK:=hid hck;have HFR:=hid hfr;have HFL:=hid hfl;have HWH:=hid hwh;have HRS:=hid hrs;clear he hck hfr hfl hwh hrs;go_enter Tryz.func70,Tryz.ntmps70;go_wp2_with fail;refine (HCK.out _ (HE.out.new HN.out)).mono ?_;rintro e w1 ⟨rfl,hn⟩;replace HN:=tW HN hn;clear hn;go_wp2_with fail;refine (HFR.out _ (HE.out.new HN.out)).mono ?_;rintro e w2 ⟨v2,rfl,hn,hf⟩;have HF2:=hid hf;clear hf;replace HN:=tW HN hn;clear hn;go_wp2_with fail;refine (HFL.out _ _ HF2.out).mono ?_;rintro e w3 ⟨v3,rfl,hn,hf⟩;have HF3:=hid hf;clear hf;replace HN:=tW HN hn;clear hn;go_wp2_with fail;refine (HWH.out _ _ HF3.out).mono ?_;rintro e w4 ⟨v4,rfl,hn,hf⟩;have HF4:=hid hf;clear hf;replace HN:=tW HN hn;clear hn;go_wp2_with fail;refine (HRS.out _ _ HF4.out (HE.out.new HN.out)).mono ?_;rintro e w5 ⟨rfl,hn⟩;replace HN:=tW HN hn;clear hn;go_wp2_with fail;refine bodyPost_ret (v:=.tuple #[.string X,.int .i64 E]) (by simp[results,Tryz.results70,go_sem]) rfl ?_;exact ⟨rfl,HN.out⟩
end Go.Proofs.YtnjonlnemagomaaGreatDoor
