/- Part B30. -/
import Derived.Test.YtbkcjmojgglbkaaGreatDoorB28
import Derived.Test.YtbkcjmojgglbkaaGreatDoorB29
namespace Go.Proofs.YtbkcjmojgglbkaaGreatDoor
open Go.RowKit Big Go.Lib
set_option maxRecDepth 100000
set_option maxHeartbeats 8000000
structure RFB (k:Nat)(q:Rat):Prop where
 num:q.num.natAbs < 2^k
 den:q.den < 2^k
def rs (q:Rat):ByteArray:=bs (ratText q)
theorem dec_len2 {n k:Nat}(h:n < 2^k):(decDigits n).length≤k+1:=by
 rw[decDigits_length,nDigits_le_iff (by omega)];have h1:2^k≤10^k:=Nat.pow_le_pow_left (by omega) k;have h2:10^k≤10^(k+1):=Nat.pow_le_pow_right (by omega) (by omega);omega
theorem itoa_len2 {z:Int}{k:Nat}(h:z.natAbs < 2^k):(itoa z).length≤k+2:=by
 rcases Int.lt_or_le z 0 with hz | hz
 ·obtain ⟨n,rfl⟩:∃ n:Nat,z= -(n:Int):=⟨z.natAbs,by omega⟩;rw[Big.itoa_neg (by omega),List.length_cons];have:=dec_len2 (n:=n) (k:=k) (by simpa using h);omega
 ·obtain ⟨n,rfl⟩:∃ n:Nat,z=(n:Int):=⟨z.toNat,by omega⟩;rw[Big.itoa_nonneg];have:=dec_len2 (n:=n) (k:=k) (by simpa using h);omega
theorem RFB.len {k:Nat}{q:Rat}(h:RFB k q):(rs q).size≤2*k+4:=by
 unfold rs;rw[bs_size];have h1:=itoa_len2 h.num;have h2:=dec_len2 h.den;unfold ratText;split
 ·omega
 ·simp only[List.length_append,List.length_cons];omega
theorem slashed_itoa' (z:Int):slashed (itoa z)=false:=by
 rcases Int.lt_or_le z 0 with hz | hz
 ·obtain ⟨n,rfl⟩:∃ n:Nat,z= -(n:Int):=⟨z.natAbs,by omega⟩;rw[Big.itoa_neg (by omega)];have:=slashed_plain n;simpa[slashed] using this
 ·obtain ⟨n,rfl⟩:∃ n:Nat,z=(n:Int):=⟨z.toNat,by omega⟩;rw[Big.itoa_nonneg];exact slashed_plain n
theorem parts_itoa' (z:Int)(r:List UInt8):upTo (itoa z ++ 47::r)=itoa z∧behind (itoa z ++ 47::r)=r:=by
 rcases Int.lt_or_le z 0 with hz | hz
 ·obtain ⟨n,rfl⟩:∃ n:Nat,z= -(n:Int):=⟨z.natAbs,by omega⟩;rw[Big.itoa_neg (by omega)];have h1:=upTo_slash n r;have h2:=behind_slash n r;unfold upTo at *;unfold behind at *;rw[List.cons_append,List.takeWhile_cons,List.dropWhile_cons];rw[if_pos (by decide),if_pos (by decide),h1,h2];exact ⟨rfl,rfl⟩
 ·obtain ⟨n,rfl⟩:∃ n:Nat,z=(n:Int):=⟨z.toNat,by omega⟩;rw[Big.itoa_nonneg];exact ⟨upTo_slash n r,behind_slash n r⟩
def RPartsPost (w:World)(x y:Int)(e:Ending)(w':World):Prop:=∃ vn vd,e=.returned (.tuple #[vn,vd])∧New w w'∧IsZ w' vn x∧IsZ w' vd y
theorem parts_ret {w w6:World} {x y:Int} {B C:Nat} {t t':TypeId} {b0 b d0 d:Bool} {a0 a e0 e:Option Addr} {l0 c0 l c m0 f0 m f:Nat} (hN:New w w6) (bp:Box w6 B t #[.bool b0,.slice a0 l0 c0]) (bq:Box w6 C t' #[.bool d0,.slice e0 m0 f0]) (hne:C≠B) (hB:w.heap.size≤B) (hC:w.heap.size≤C)
  (h1:IsZ w6 (.agg #[.bool b,.slice a l c]) x) (h2:IsZ w6 (.agg #[.bool d,.slice e m f]) y):
  RPartsPost w x y (.returned (.tuple #[.agg #[.bool b,.slice a l c],.agg #[.bool d,.slice e m f]])) ((((w6.setCell ⟨B,0,none⟩ (.bool b)).setCell ⟨B,1,none⟩ (.slice a l c)).setCell ⟨C,0,none⟩ (.bool d)).setCell ⟨C,1,none⟩ (.slice e m f)):=by
 have bq2:Box ((w6.setCell ⟨B,0,none⟩ (.bool b)).setCell ⟨B,1,none⟩ (.slice a l c)) C t' #[.bool d0,.slice e0 m0 f0]:=(bq.other (p:=⟨B,0,none⟩) (Ne.symm hne) _).other (p:=⟨B,1,none⟩) (Ne.symm hne) _;exact ⟨_,_,rfl,(((hN.setCell hB _).setCell hB _).setCell hC _).setCell hC _,(h1.far bp.noInt _ _).far bq2.noInt _ _,(h2.far bp.noInt _ _).far bq2.noInt _ _⟩
theorem rparts_plain (s:ByteArray)(x:Int)(w:World)(hl:s.size≤1000000)(hs:slashed s.data.toList=false)(hp:∀ W,New w W→Calls Tryz.prog 144 #[.string s] W (RetZ W x)):
  Calls Tryz.prog 81 #[.string s] w (RPartsPost w x 1):=by
 have hsl:=fun W=>rslash_calls s W hl
 have e:(upTo s.data.toList).length=s.size:=by rw[(split_plain hs).1];simp
 simp only[e]at hsl;have hwh:=fun W=>rwhole_calls 1 W (by omega) (by omega);clear hs e;have HSL:=hid hsl;have HP:=hid hp;have HWH:=hid hwh;clear hsl hp hwh;go_enter Tryz.func81,Tryz.ntmps81;go_wp2_with fail;obtain ⟨BP,BQ,HN⟩:=lay2 w 137 #[.bool false,.slice none 0 0] 137 #[.bool false,.slice none 0 0];refine (HSL.out _).mono ?_;rintro e w1 ⟨rfl,hw1⟩;rw[hw1];clear hw1;go_wp2_with fail;refine (HP.out _ HN.out).mono ?_;rintro e w2 ⟨v2,rfl,hn,hz8⟩;obtain ⟨b8,a8,l8,c8,rfl⟩:=hz8.shape;have HZ8:=hid hz8;clear hz8;replace BP:=bW BP hn;replace BQ:=bW BQ hn;replace HN:=tW HN hn;clear hn;go_wp2_with fail;refine (HWH.out _).mono ?_;rintro e w3 ⟨v3,rfl,hn,hz9⟩;have hz8:=HZ8.out.new hn;clear HZ8;replace BP:=bW BP hn;replace BQ:=bW BQ hn;replace HN:=tW HN hn;clear hn;obtain ⟨b9,a9,l9,c9,rfl⟩:=hz9.shape;have HZ8:=hid hz8;have HZ9:=hid hz9;clear hz8 hz9;obtain ⟨p0,p1,p2,p3,p4⟩:=BP.out.two;obtain ⟨q0,q1,q2,q3,q4⟩:=BQ.out.two;go_wp2_with fail;refine bodyPost_ret (v:=.tuple #[.agg #[.bool b8,.slice a8 l8 c8],.agg #[.bool b9,.slice a9 l9 c9]]) (by simp[results,Tryz.results81,go_sem,p0,p1,q0,q1]) rfl ?_;exact parts_ret HN.out BP.out BQ.out (by omega) (by omega) (by omega) HZ8.out HZ9.out
theorem rparts_slash (s:ByteArray) (x y:Int) (w:World) (hl:s.size≤1000000) (hs:slashed s.data.toList=true) (hp:∀ W s',New w W→s'.data.toList=upTo s.data.toList→Calls Tryz.prog 144 #[.string s'] W (RetZ W x))
  (hq:∀ W s',New w W→s'.data.toList=behind s.data.toList→Calls Tryz.prog 144 #[.string s'] W (RetZ W y)):
  Calls Tryz.prog 81 #[.string s] w (RPartsPost w x y):=by
 have hsl:=fun W=>rslash_calls s W hl;have hsp:=split_slash hs;obtain ⟨k,hk⟩:∃ k,(upTo s.data.toList).length=k:=⟨_,rfl⟩
 have hlen:s.data.toList.length=s.size:=by simp
 have hks:k < s.size:=by
  have:=congrArg List.length hsp;rw[hlen,List.length_append,List.length_cons,hk] at this;omega
 have e1:(s.extract 0 k).data.toList=upTo s.data.toList:=by
  rw[Lib.extract_data];show (s.data.toList.take k)=_
  conv=>lhs;arg 2;rw[hsp]
  rw[←hk];simp
 have e2:(s.extract (k+1) s.size).data.toList=behind s.data.toList:=by
  rw[Lib.extract_to_end]
  conv=>lhs;arg 2;rw[hsp]
  rw[←hk];simp
 simp only[hk]at hsl;obtain ⟨k1,hk1⟩:∃ z,k+1=z:=⟨_,rfl⟩
 have hkn:k≤s.size:=by omega
 have hk1n:k1≤s.size:=by omega
 have hk1i:(k1:Int)≤(s.size:Int):=by omega
 have hk1e:(k:Int)+1=(k1:Int):=by omega
 have hsi:(s.size:Int)≤1000000:=by omega
 have hwr:IntKind.i64.wrap (k1:Int)=(k1:Int):=by rw[IntKind.wrap_i64];omega
 rw[hk1]at e2;have h1:=fun W (hW:New w W)=>hp W _ hW e1;have h2:=fun W (hW:New w W)=>hq W _ hW e2
 have hki:(k:Int) < (s.size:Int):=by omega
 have hkb:((k:Int)==(s.size:Int))=false:=by simp;omega
 clear hs hsp hk hlen e1 e2 hp hq hl hks hk1;have HSL:=hid hsl;have H1:=hid h1;have H2:=hid h2;clear hsl h1 h2;go_enter Tryz.func81,Tryz.ntmps81;go_wp2_with fail;obtain ⟨BP,BQ,HN⟩:=lay2 w 137 #[.bool false,.slice none 0 0] 137 #[.bool false,.slice none 0 0];refine (HSL.out _).mono ?_;rintro e w1 ⟨rfl,hw1⟩;rw[hw1];clear hw1;go_wp2_with fail;refine wp_region_T 9 (fun W=>True) 11 #[false,false,false,false,false,false,false,false,false,false,false] rfl (by kernel_rfl) (by kernel_rfl) ?_;refine tk 0 (by exact trivial) ?_
 try simp only[PT]
 refine tk 1 (by exact trivial) ?_
 try simp only[PT]
 refine tk 2 (by exact trivial) ?_
 try simp only[PT]
 refine tk 4 (by exact trivial) ?_
 try simp only[PT]
 refine tk 5 (by exact trivial) ?_
 try simp only[PT]
 refine tk 6 (by exact trivial) ?_
 try simp only[PT]
 refine tk 7 (by exact trivial) ?_
 try simp only[PT]
 refine tk1 3 fun K hK=>?_;go_simp;refine (H1.out _ HN.out.drew).mono ?_;rintro e w2 ⟨v2,rfl,hn,hz8⟩;have hn:=hn.undr;obtain ⟨b8,a8,l8,c8,rfl⟩:=hz8.shape;have HZ8:=hid hz8;clear hz8;replace BP:=bW BP hn;replace BQ:=bW BQ hn;replace HN:=tW HN hn;clear hn;refine hK.out _ _ (fun _=>trivial) ?_;clear hK K
 try simp only[PT]
 refine tk1 8 fun K hK=>?_;go_simp;refine (H2.out _ HN.out).mono ?_;rintro e w3 ⟨v3,rfl,hn,hz9⟩;have hz8:=HZ8.out.new hn;clear HZ8;obtain ⟨b9,a9,l9,c9,rfl⟩:=hz9.shape;replace BP:=bW BP hn;replace BQ:=bW BQ hn;replace HN:=tW HN hn;clear hn;have HZ8:=hid hz8;have HZ9:=hid hz9;clear hz8 hz9;refine hK.out _ _ (fun _=>trivial) ?_;clear hK K
 try simp only[PT]
 refine tlW ?_;obtain ⟨p0,p1,p2,p3,p4⟩:=BP.out.two;obtain ⟨q0,q1,q2,q3,q4⟩:=BQ.out.two;go_wp2_with fail;refine bodyPost_ret (v:=.tuple #[.agg #[.bool b8,.slice a8 l8 c8],.agg #[.bool b9,.slice a9 l9 c9]]) (by simp[results,Tryz.results81,go_sem,p0,p1,q0,q1]) rfl ?_;exact parts_ret HN.out BP.out BQ.out (by omega) (by omega) (by omega) HZ8.out HZ9.out
theorem rparts_calls (k:Nat)(q:Rat)(w:World)(hq:RFB k q)(hk:k≤40000):Calls Tryz.prog 81 #[.string (rs q)] w (RPartsPost w q.num q.den):=by
 have hsz:=hq.len;have h1:=itoa_len2 hq.num;have h2:=dec_len2 hq.den;have hlist:(rs q).data.toList=ratText q:=bs_list _;by_cases hd:q.den=1
 ·have e:ratText q=itoa q.num:=by unfold ratText;rw[if_pos hd]
  rw[hd];refine rparts_plain _ _ w (by omega) (by rw[hlist,e];exact slashed_itoa' _) fun W _=>?_;exact rparse_itoa _ _ W (by rw[hlist,e]) (by omega)
 ·have e:ratText q=itoa q.num ++ 47::decDigits q.den:=by unfold ratText;rw[if_neg hd]
  obtain ⟨e1,e2⟩:=parts_itoa' q.num (decDigits q.den);refine rparts_slash _ _ _ w (by omega) (by rw[hlist,e];simp[slashed]) (fun W s' _ hs'=>?_) (fun W s' _ hs'=>?_)
  ·rw[hlist,e,e1] at hs';exact rparse_itoa _ _ W hs' (by omega)
  ·rw[hlist,e,e2] at hs';have:=rparse_pos s' (decDigits q.den) W hs' (decDigits_dig _) (by omega);rw[dval_decDigits] at this;exact this
def RetS (w:World)(q:Rat)(e:Ending)(w':World):Prop:=e=.returned (.string (rs q))∧New w w'
theorem divInt_parts {x y:Int}(hy:0 < y):(Rat.divInt x y).num=sgnd (decide (x < 0)) (x.natAbs / Nat.gcd x.natAbs y.natAbs)∧(Rat.divInt x y).den=y.natAbs / Nat.gcd x.natAbs y.natAbs:=by
 rw[Rat.num_divInt,Rat.den_divInt,if_neg (by omega),Int.sign_eq_one_of_pos hy,Int.one_mul]
 have hc:Int.gcd y x=Nat.gcd x.natAbs y.natAbs:=by rw[Int.gcd_comm];rfl
 rw[hc];refine ⟨?_,rfl⟩;have hd:((Nat.gcd x.natAbs y.natAbs:Nat):Int) ∣ (x.natAbs:Int):=Int.natCast_dvd_natCast.2 (Nat.gcd_dvd_left _ _);unfold sgnd;by_cases h:x < 0
 ·rw[if_pos (by simpa using h)];obtain ⟨n,hn⟩:∃ n:Nat,x.natAbs=n:=⟨_,rfl⟩
  have hx:x= -(n:Int):=by omega
  rw[hn]at hd⊢;rw[hx,Int.neg_ediv_of_dvd hd,Int.natCast_ediv]
 ·rw[if_neg (by simpa using h)];obtain ⟨n,hn⟩:∃ n:Nat,x.natAbs=n:=⟨_,rfl⟩
  have hx:x=(n:Int):=by omega
  rw[hn];rw[hx,Int.natCast_ediv]
theorem itoa_size {z:Int}{K:Nat}(h:z.natAbs < B9^K):(bs (itoa z)).size≤9*K+2:=by
 rw[bs_size]
 have h1:B9^K=10^(9*K):=by rw[Nat.pow_mul]
 have key:∀ n:Nat,n < B9^K→(decDigits n).length≤9*K+1:=fun n hn=>by
  rw[decDigits_length,nDigits_le_iff (by omega)];have:10^(9*K)≤10^(9*K+1):=Nat.pow_le_pow_right (by omega) (by omega);omega
 rcases Int.lt_or_le z 0 with hz | hz
 ·obtain ⟨n,rfl⟩:∃ n:Nat,z= -(n:Int):=⟨z.natAbs,by omega⟩;rw[Big.itoa_neg (by omega),List.length_cons];have:=key n (by simpa using h);omega
 ·obtain ⟨n,rfl⟩:∃ n:Nat,z=(n:Int):=⟨z.toNat,by omega⟩;rw[Big.itoa_nonneg];have:=key n (by simpa using h);omega
theorem rfraction_pos (K:Nat)(vn vd:Value)(x y:Int)(w:World)(hx:IsZ w vn x)(hy:IsZ w vd y)(hK:K≤90000)(bx:x.natAbs < B9^K)(by':y.natAbs < B9^K)(hy0:0 < y):
  Calls Tryz.prog 110 #[vn,vd] w (RetS w (Rat.divInt x y)):=by
 obtain ⟨sA,a1,l1,c1,rfl⟩:=hx.shape;obtain ⟨sB,a2,l2,c2,rfl⟩:=hy.shape;obtain ⟨hsA,hda⟩:=hx.parts;obtain ⟨hsB,hdb⟩:=hy.parts;rw[decide_eq_false (by omega)] at hsB;subst hsB;obtain ⟨hnum,hden⟩:=divInt_parts (x:=x) hy0;obtain ⟨R,hR⟩:∃ R,Rat.divInt x y=R:=⟨_,rfl⟩;rw[hR] at hnum hden⊢;rw[←hsA] at hnum;have hcom:=fun W (hW:New w W)=>rcommon_calls K _ _ _ _ W (hda.new hW) (hdb.new hW) hK bx by';have hg0:0 < Nat.gcd x.natAbs y.natAbs:=Nat.gcd_pos_of_pos_right _ (by omega);have hgy:Nat.gcd x.natAbs y.natAbs≤y.natAbs:=Nat.le_of_dvd (by omega) (Nat.gcd_dvd_right _ _);obtain ⟨g,hg⟩:∃ g,Nat.gcd x.natAbs y.natAbs=g:=⟨_,rfl⟩;simp only[hg] at hcom hnum hden hg0 hgy
 have hgK:g < B9^K:=by omega
 have hdp:=fun W (hW:New w W) vg (hvg:IsD W vg g)=>rdivs_calls K _ vg _ g W (hda.new hW) hvg hK bx hgK hg0;have hdq:=fun W (hW:New w W) vg (hvg:IsD W vg g)=>rdivs_calls K _ vg _ g W (hdb.new hW) hvg hK by' hgK hg0;have hPK:x.natAbs / g < B9^K:=Nat.lt_of_le_of_lt (Nat.div_le_self _ _) bx;have hQK:y.natAbs / g < B9^K:=Nat.lt_of_le_of_lt (Nat.div_le_self _ _) by';obtain ⟨P,hP⟩:∃ P,x.natAbs / g=P:=⟨_,rfl⟩;obtain ⟨Q,hQ⟩:∃ Q,y.natAbs / g=Q:=⟨_,rfl⟩;simp only[hP] at hdp hnum hPK;simp only[hQ] at hdq hden hQK;have hs1:=fun W v (h:IsD W v P)=>rsigned_calls sA v P W h.n;have hs2:=fun W v (h:IsD W v Q)=>rsigned_calls false v Q W h.n;rw[←hnum] at hs1
 have hnK:R.num.natAbs < B9^K:=by rw[hnum,sgnd_abs];exact hPK
 have ht1:=fun W v (h:IsZ W v R.num)=>rtext_calls K v R.num W h hK hnK;have ht2:=fun W v (h:IsZ W v (Q:Int))=>rtext_calls K v (Q:Int) W h hK (by simpa using hQK);have hsz1:=itoa_size hnK;have hsz2:=itoa_size (z:=(Q:Int)) (K:=K) (by simpa using hQK);obtain ⟨S,hS⟩:∃ S,bs (itoa R.num)=S:=⟨_,rfl⟩;obtain ⟨D,hD⟩:∃ D,bs (itoa (Q:Int))=D:=⟨_,rfl⟩;simp only[hS] at ht1 hsz1;simp only[hD] at ht2 hsz2
 have hq1:¬9223372036854775807 < S.size+1:=by omega
 have hq2:¬9223372036854775807 < S.size+1+D.size:=by omega
 have hlen:∀ W v,IsD W v Q→∃ n f,Dg W v n f∧vf B9 f n=Q:=fun W v h=>h
 have hr1:Q=1→rs R=S:=fun h=>by
  unfold rs ratText;rw[if_pos (by rw[hden,h]),hS]
 have hr2:Q≠1→rs R=S ++ ⟨#[47]⟩ ++ D:=fun h=>by
  unfold rs ratText;rw[if_neg (by rw[hden];exact h),←hS,←hD,Big.itoa_nonneg,hden];have e:(⟨#[47]⟩:ByteArray)=bs [47]:=rfl;rw[e,bs_append,bs_append,List.append_assoc];rfl
 have hQ0:Q≠0:=by rw[←hden];exact R.den_nz
 clear hx hy hda hdb bx by' hR hg hgy hP hQ hS hD hsz1 hsz2 hPK hQK hnK hnum hden hlen hK hsA hy0;have HCOM:=hid hcom;have HDP:=hid hdp;have HDQ:=hid hdq;have HS1:=hid hs1;have HS2:=hid hs2;have HT1:=hid ht1;have HT2:=hid ht2;have HR1:=hid hr1;have HR2:=hid hr2;have HQ0:=hid hQ0;have HQ1:=hid hq1;have HQ2:=hid hq2;have HG0:=hid hg0;have HGK:=hid hgK;clear hcom hdp hdq hs1 hs2 ht1 ht2 hr1 hr2 hQ0 hq1 hq2 hg0 hgK;go_enter Tryz.func110,Tryz.ntmps110;go_upto_region 1 with (fail);obtain ⟨BA,BB,HN⟩:=lay2 w 137 #[.bool sA,.slice a1 l1 c1] 137 #[.bool false,.slice a2 l2 c2];obtain ⟨pa0,pa1,pa2,pa3,pa4⟩:=BA.out.two;obtain ⟨pb0,pb1,pb2,pb3,pb4⟩:=BB.out.two;go_wp2_with fail;refine (HCOM.out _ HN.out).mono ?_;rintro e w1 ⟨v1,rfl,hn,hgd⟩;obtain ⟨a5,l5,c5,rfl⟩:=hgd.shape;have HGD:=hid hgd;clear hgd;clear pa0 pa1 pa2 pa3 pa4 pb0 pb1 pb2 pb3 pb4;replace BA:=bW BA hn;replace BB:=bW BB hn;replace HN:=tW HN hn;clear hn;obtain ⟨pa0,pa1,pa2,pa3,pa4⟩:=BA.out.two;obtain ⟨pb0,pb1,pb2,pb3,pb4⟩:=BB.out.two;go_wp2_with fail;refine (HDP.out _ HN.out _ HGD.out).mono ?_;rintro e w2 ⟨vp,vr,rfl,hn,hpd,hrd⟩;obtain ⟨a6,l6,c6,rfl⟩:=hpd.shape;obtain ⟨a7,l7,c7,rfl⟩:=hrd.shape;clear hrd;have HPD:=hid hpd;clear hpd;clear pa0 pa1 pa2 pa3 pa4 pb0 pb1 pb2 pb3 pb4;replace BA:=bW BA hn;replace BB:=bW BB hn;replace HGD:=hid (HGD.out.new hn);replace HN:=tW HN hn;clear hn;obtain ⟨pa0,pa1,pa2,pa3,pa4⟩:=BA.out.two;obtain ⟨pb0,pb1,pb2,pb3,pb4⟩:=BB.out.two;go_wp2_with fail;refine (HDQ.out _ HN.out _ HGD.out).mono ?_;rintro e w3 ⟨vq,vr2,rfl,hn,hqd,hrd⟩;obtain ⟨a8,l8,c8,rfl⟩:=hqd.shape;obtain ⟨a9,l9,c9,rfl⟩:=hrd.shape;clear hrd HGD;have HQD:=hid hqd;clear hqd;clear pa0 pa1 pa2 pa3 pa4 pb0 pb1 pb2 pb3 pb4;replace BA:=bW BA hn;replace BB:=bW BB hn;replace HPD:=hid (HPD.out.new hn);replace HN:=tW HN hn;clear hn;obtain ⟨pa0,pa1,pa2,pa3,pa4⟩:=BA.out.two;obtain ⟨pb0,pb1,pb2,pb3,pb4⟩:=BB.out.two;go_wp2_with fail;refine (HS1.out _ _ HPD.out).mono ?_;rintro e w4 ⟨v4,rfl,hn,hz⟩;obtain ⟨b4,a4,l4,c4,rfl⟩:=hz.shape;clear HPD BB;have HZ:=hid hz;clear hz;clear pa0 pa1 pa2 pa3 pa4 pb0 pb1 pb2 pb3 pb4;replace HQD:=hid (HQD.out.new hn);replace HN:=tW HN hn;clear hn;go_wp2_with fail;refine (HT1.out _ _ HZ.out).mono ?_;rintro e w5 ⟨rfl,hn⟩;clear HZ BA;replace HQD:=hid (HQD.out.new hn);replace HN:=tW HN hn;clear hn;obtain ⟨n,f,hdg,hval⟩:=HQD.out;have hlt:=hdg.1.lt;have hcan:=hdg.canon;obtain ⟨⟨a0,c0,⟨e0, -⟩,hrd, -⟩, -⟩:=hdg;injection e0 with e1 e2 e3;subst e1 e2 e3;by_cases hl1:l8=1
 ·subst hl1;obtain ⟨b8,o8,rfl,hcell⟩:=hrd 0 (by omega)
  have hf0:f 0=Q:=by rw[←hval];simp[vf]
  rw[hf0,Nat.add_zero]at hcell;clear hlt hcan hrd hval hf0;by_cases hQ1:Q=1
  ·have hr:=HR1.out hQ1;have HR:=hid hr;clear hr;subst hQ1;go_wp2_with fail;go_ret;exact ⟨by rw[HR.out];rfl,HN.out⟩
  ·have hQb:((Q:Int)==1)=false:=by simp;omega
   have hr:=HR2.out hQ1;have hq1:=HQ1.out;have hq2:=HQ2.out;clear hQ1;have HR:=hid hr;clear hr;go_wp2_with fail;refine (HS2.out _ _ HQD.out).mono ?_;rintro e w6 ⟨v6,rfl,hn,hz⟩;obtain ⟨b6,a6,l6,c6,rfl⟩:=hz.shape;clear hcell;have HZ:=hid hz;clear hz;replace HQD:=hid (HQD.out.new hn);replace HN:=tW HN hn;clear hn;go_wp2_with fail;refine (HT2.out _ _ HZ.out).mono ?_;rintro e w7 ⟨rfl,hn⟩;replace HQD:=hid (HQD.out.new hn);replace HN:=tW HN hn;clear hn;go_wp2_with fail;go_ret;exact ⟨by rw[HR.out];rfl,HN.out⟩
 ·have hlb:((l8:Int)==1)=false:=by simp;omega
  have hQ1:Q≠1:=by
   intro h;rw[h] at hval;have h1:=len_le (K:=1) hcan hval (by decide)
   have:l8=0:=by omega
   rw[this,vf_zero]at hval;omega
  have hr:=HR2.out hQ1;have hq1:=HQ1.out;have hq2:=HQ2.out;clear hQ1 hlt hcan hrd hval hl1;have HR:=hid hr;clear hr;go_wp2_with fail;refine (HS2.out _ _ HQD.out).mono ?_;rintro e w6 ⟨v6,rfl,hn,hz⟩;obtain ⟨b6,a6,l6,c6,rfl⟩:=hz.shape;have HZ:=hid hz;clear hz;replace HQD:=hid (HQD.out.new hn);replace HN:=tW HN hn;clear hn;go_wp2_with fail;refine (HT2.out _ _ HZ.out).mono ?_;rintro e w7 ⟨rfl,hn⟩;replace HQD:=hid (HQD.out.new hn);replace HN:=tW HN hn;clear hn;go_wp2_with fail;go_ret;exact ⟨by rw[HR.out];rfl,HN.out⟩
theorem ratText_int (z:Int):ratText (z:Rat)=itoa z:=by
 unfold ratText;rw[if_pos (by simp),Rat.num_intCast]
theorem rs_list (q:Rat):(rs q).data.toList=ratText q:=bs_list _
theorem ratText_neg {q:Rat}(h:0 < q.num):ratText (-q)=45::ratText q:=by
 have e1:itoa q.num=decDigits q.num.toNat:=by
  obtain ⟨n,hn⟩:∃ n:Nat,q.num=(n:Int):=⟨q.num.toNat,by omega⟩;rw[hn,Big.itoa_nonneg];rfl
 have e2:itoa (-q.num)=45::decDigits q.num.toNat:=by
  obtain ⟨n,hn⟩:∃ n:Nat,q.num=(n:Int):=⟨q.num.toNat,by omega⟩;rw[hn,Big.itoa_neg (by omega)];rfl
 unfold ratText;rw[Rat.neg_num,Rat.neg_den,e1,e2];split <;> rfl
theorem rat_zero {q:Rat}(h:q.num=0):q=0:=by
 have:=Rat.num_divInt_den q;rw[h,Rat.zero_divInt] at this;exact this.symm
theorem rs_zero:rs 0=⟨#[48]⟩:=by
 unfold rs
 have:ratText 0=[48]:=by
  rw[show (0:Rat)=((0:Int):Rat) from rfl,ratText_int,show (0:Int)=((0:Nat):Int) from rfl,Big.itoa_nonneg,decDigits_zero]
 rw[this];rfl
theorem dec_ne_zero {q:Rat}(h:0 < q.num):ratText q≠[48]:=by
 intro e;unfold ratText at e;obtain ⟨n,hn⟩:∃ n:Nat,q.num=(n:Int):=⟨q.num.toNat,by omega⟩;rw[hn,Big.itoa_nonneg] at e;split at e
 ·have:=decDigits_eq_zero.1 e;omega
 ·have h1:=congrArg List.length e;have h2:=nDigits_pos n;rw[List.length_append,List.length_cons,decDigits_length] at h1;have h3:([48]:List UInt8).length=1:=rfl
  have h4:(decDigits q.den).length≠0:=by
   intro h;exact decDigits_ne_nil _ (List.eq_nil_of_length_eq_zero h)
  omega
theorem head_pos {q:Rat}(h:0 < q.num):∃ c l,ratText q=c::l∧isDig c=true:=by
 unfold ratText;obtain ⟨n,hn⟩:∃ n:Nat,q.num=(n:Int):=⟨q.num.toNat,by omega⟩;rw[hn,Big.itoa_nonneg]
 cases hd:decDigits n with
 | nil=>exact absurd hd (decDigits_ne_nil n)
 | cons c l=>
  have:=decDigits_dig n c (by rw[hd];simp);split
  ·exact ⟨c,l,rfl,this⟩
  ·exact ⟨c,l ++ 47::decDigits q.den,rfl,this⟩
theorem rs_facts_pos {q:Rat}(h:0 < q.num):∃ s:ByteArray,rs q=s∧(s.toList==[48])=false∧∃ h0:0 < s.size,((s[0]'h0).toNat:Int)≠45:=by
 refine ⟨_,rfl,?_,?_⟩
 ·rw[ByteArray.toList_eq,beq_eq_false_iff_ne,rs_list];exact dec_ne_zero h
 ·obtain ⟨c,l,e,hc⟩:=head_pos h
  have hb:(rs q).data.toList[0]?=some c:=by rw[rs_list,e];rfl
  obtain ⟨h0,h1⟩:=byte_at _ hb;refine ⟨h0,?_⟩;rw[h1];have:=isDig_iff.1 hc;omega
theorem rs_facts_neg {q:Rat}(h:q.num < 0):∃ s:ByteArray,rs q=s∧(s.toList==[48])=false∧s.data.toList=45::ratText (-q)∧∃ h0:0 < s.size,((s[0]'h0).toNat:Int)=45:=by
 have e:ratText q=45::ratText (-q):=by
  have:=ratText_neg (q:= -q) (by rw[Rat.neg_num];omega)
  rwa [Rat.neg_neg] at this
 refine ⟨_,rfl,?_,by rw[rs_list,e],?_⟩
 ·rw[ByteArray.toList_eq,beq_eq_false_iff_ne,rs_list,e];intro e2;injection e2 with h1 h2;exact absurd h1 (by decide)
 ·have hb:(rs q).data.toList[0]?=some 45:=by rw[rs_list,e];rfl
  obtain ⟨h0,h1⟩:=byte_at _ hb;refine ⟨h0,?_⟩;rw[h1];rfl
theorem rsign_calls (q:Rat)(w:World):Calls Tryz.prog 73 #[.string (rs q)] w fun e w'=>e=.returned (.int .i64 q.num.sign)∧w'=w:=by
 rcases Int.lt_trichotomy q.num 0 with h | h | h
 ·rw[Int.sign_eq_neg_one_of_neg h];obtain ⟨s,hs,hb, -,h0,hc⟩:=rs_facts_neg h;have hcb:(((s[0]'h0).toNat:Int)==45)=true:=beq_iff_eq.2 hc;rw[hs];clear hs h;go_enter Tryz.func73,Tryz.ntmps73;go_wp2_with fail;go_ret;exact ⟨rfl,rfl⟩
 ·rw[h,rat_zero h,rs_zero];clear h;go_enter Tryz.func73,Tryz.ntmps73;go_wp2_with fail;go_ret;exact ⟨rfl,rfl⟩
 ·rw[Int.sign_eq_one_of_pos h];obtain ⟨s,hs,hb,h0,hc⟩:=rs_facts_pos h;have hcb:(((s[0]'h0).toNat:Int)==45)=false:=beq_eq_false_iff_ne.2 hc;rw[hs];clear hs h;go_enter Tryz.func73,Tryz.ntmps73;go_wp2_with fail;go_ret;exact ⟨rfl,rfl⟩
theorem rneg_calls (q:Rat)(w:World)(hl:(rs q).size≤1000000):Calls Tryz.prog 104 #[.string (rs q)] w (RetS w (-q)):=by
 have hsg:=fun W=>rsign_calls q W;rcases Int.lt_trichotomy q.num 0 with h | h | h
 ·rw[Int.sign_eq_neg_one_of_neg h] at hsg;obtain ⟨s,hs, -,hl2,h0, -⟩:=rs_facts_neg h
  have hr:rs (-q)=s.extract 1 s.size:=by
   apply ByteArray.ext;apply Array.toList_inj.1;rw[rs_list,Lib.extract_to_end,hl2];rfl
  have h1:(1:Int)≤(s.size:Int):=by omega
  rw[hs]at hsg⊢;clear hs h hl2 hl h0;have HSG:=hid hsg;have HR:=hid hr;clear hsg hr;go_enter Tryz.func104,Tryz.ntmps104;go_wp2_with fail;refine (HSG.out _).mono ?_;rintro e w1 ⟨rfl,hw1⟩;rw[hw1];clear hw1;go_wp2_with fail;go_ret;exact ⟨by rw[HR.out];rfl,New.refl _⟩
 ·rw[h] at hsg;have hq:=rat_zero h;subst hq
  have hr:rs (-0)=rs 0:=by rw[Rat.neg_zero]
  obtain ⟨s,hs⟩:∃ s,rs 0=s:=⟨_,rfl⟩;rw[hs] at hsg hr⊢;clear hs h hl;have HSG:=hid hsg;have HR:=hid hr;clear hsg hr;go_enter Tryz.func104,Tryz.ntmps104;go_wp2_with fail;refine (HSG.out _).mono ?_;rintro e w1 ⟨rfl,hw1⟩;rw[hw1];clear hw1;go_wp2_with fail;refine (HSG.out _).mono ?_;rintro e w1 ⟨rfl,hw1⟩;rw[hw1];clear hw1;go_wp2_with fail;go_ret;exact ⟨by rw[HR.out];rfl,New.refl _⟩
 ·rw[Int.sign_eq_one_of_pos h] at hsg
  have hr:rs (-q)=⟨#[45]⟩ ++ rs q:=by
   unfold rs;rw[ratText_neg h];have e:(⟨#[45]⟩:ByteArray)=bs [45]:=rfl;rw[e,bs_append];rfl
  obtain ⟨s,hs⟩:∃ s,rs q=s:=⟨_,rfl⟩;rw[hs] at hsg hr hl⊢
  have hq1:¬9223372036854775807 < 1+s.size:=by omega
  clear hs h hl;have HSG:=hid hsg;have HR:=hid hr;clear hsg hr;go_enter Tryz.func104,Tryz.ntmps104;go_wp2_with fail;refine (HSG.out _).mono ?_;rintro e w1 ⟨rfl,hw1⟩;rw[hw1];clear hw1;go_wp2_with fail;refine (HSG.out _).mono ?_;rintro e w1 ⟨rfl,hw1⟩;rw[hw1];clear hw1;go_wp2_with fail;go_ret;exact ⟨by rw[HR.out];rfl,New.refl _⟩
def QuickPost (w:World)(q:Rat)(e:Ending)(w':World):Prop:=w'=w∧
 (e=.returned (.tuple #[.int .i64 0,.int .i64 0,.bool false])∨(q.num.natAbs < 1000000000∧q.den < 1000000000∧e=.returned (.tuple #[.int .i64 q.num,.int .i64 (q.den:Int),.bool true])))
structure UText (U:ByteArray)(m d:Nat):Prop where
 size:U.size≤20
 list:U.data.toList=if d=1 then decDigits m else decDigits m ++ 47::decDigits d
theorem UText.up {U:ByteArray}{m d:Nat}(h:UText U m d):upTo U.data.toList=decDigits m:=by
 rw[h.list];split
 ·exact upTo_plain m
 ·exact upTo_slash m _
theorem small_of_len {n k:Nat}(h:(decDigits n).length≤k)(hk:0 < k):n < 10^k:=by
 rw[decDigits_length,nDigits_le_iff hk]at h;exact h
structure Lt9 (m:Nat):Prop where
 lt:m < 1000000000
theorem rquick_long (q:Rat)(w:World)(hl:20 < (rs q).size)(hh:(rs q).size≤1000000):Calls Tryz.prog 108 #[.string (rs q)] w (QuickPost w q):=by
 obtain ⟨s,hs⟩:∃ s,rs q=s:=⟨_,rfl⟩;rw[hs] at hl hh⊢
 have h1:(20:Int) < (s.size:Int):=by omega
 have h1b:decide ((20:Int) < (s.size:Int))=true:=decide_eq_true h1;clear hs hl;go_enter Tryz.func108,Tryz.ntmps108;go_wp2_with fail;go_ret3;exact ⟨rfl,.inl rfl⟩
theorem rquick_pos (q:Rat)(w:World)(hl:(rs q).size≤20)(hq:0≤q.num):Calls Tryz.prog 108 #[.string (rs q)] w (QuickPost w q):=by
 obtain ⟨m,hm⟩:∃ m:Nat,q.num=(m:Int):=⟨q.num.toNat,by omega⟩;obtain ⟨d,hd⟩:∃ d,q.den=d:=⟨_,rfl⟩;obtain ⟨U,hs⟩:∃ s,rs q=s:=⟨_,rfl⟩
 have hlist:U.data.toList=if d=1 then decDigits m else decDigits m ++ 47::decDigits d:=by
  rw[←hs,rs_list];unfold ratText;rw[hm,hd,Big.itoa_nonneg]
 rw[hs]at hl⊢;have hU:UText U m d:=⟨hl,hlist⟩;have hfin:m < 1000000000→d < 1000000000→QuickPost w q (.returned (.tuple #[.int .i64 (m:Int),.int .i64 (d:Int),.bool true])) w:=fun h1 h2=>⟨rfl,.inr ⟨by omega,by omega,by rw[hm,hd]⟩⟩
 have hd0:∃ c,U.data.toList[0]?=some c∧isDig c=true:=by
  rw[hlist]
  cases hdd:decDigits m with
  | nil=>exact absurd hdd (decDigits_ne_nil m)
  | cons c l=>
   have:=decDigits_dig m c (by rw[hdd];simp);split
   ·exact ⟨c,rfl,this⟩
   ·exact ⟨c,rfl,this⟩
 obtain ⟨c,hc1,hc2⟩:=hd0;obtain ⟨h0,hc3⟩:=byte_at U hc1;have hcd:=isDig_iff.1 hc2
 have hc:¬((U[0]'h0).toNat:Int)=45:=by rw[hc3];omega
 have hcb:(((U[0]'h0).toNat:Int)==45)=false:=beq_eq_false_iff_ne.2 hc;clear hs hlist hq hc1 hc2 hc3 hcd hm hd;have hsl:=fun W=>rslash_calls U W (by have:=hU.size;omega);rw[hU.up] at hsl;obtain ⟨k,hk⟩:∃ k,(decDigits m).length=k:=⟨_,rfl⟩;simp only[hk] at hsl
 have hlen:U.data.toList.length=U.size:=by simp
 have hk0:0 < k:=by
  rw[←hk,decDigits_length];exact nDigits_pos m
 have hkU:k≤U.size:=by
  rw[←hlen,hU.list];split
  ·omega
  ·rw[List.length_append];omega
 have hU20:=hU.size;obtain ⟨z,hz⟩:∃ z,U.size - k=z:=⟨_,rfl⟩
 have hzi:(U.size:Int) - (k:Int)=(z:Int):=by omega
 have hzb:(z:Int)≤20:=by omega
 have hki:(k:Int)≤20:=by omega
 have hUi:(U.size:Int)≤20:=by omega
 by_cases h9:9 < k
 ·have h9i:(9:Int) < (k:Int):=by omega
  have h9b:decide ((9:Int) < (k:Int))=true:=decide_eq_true h9i;clear hk hlen hk0 hkU hz h9 hU20;have HSL:=hid hsl;have HU:=hid hU;have HFIN:=hid hfin;clear hsl hU hfin
  (go_enter Tryz.func108,Tryz.ntmps108;go_wp2_with fail)
  refine (HSL.out _).mono ?_;rintro e w1 ⟨rfl,hw1⟩;rw[hw1];clear hw1;go_wp2_with fail;go_ret3;exact ⟨rfl,.inl rfl⟩
 have h9i:¬(9:Int) < (k:Int):=by omega
 have h9b:decide ((9:Int) < (k:Int))=false:=decide_eq_false h9i;by_cases h10:10 < z
 ·have h10i:(10:Int) < (z:Int):=by omega
  have h10b:decide ((10:Int) < (z:Int))=true:=decide_eq_true h10i;clear hk hlen hk0 hkU hz h9 hU20 h10;have HSL:=hid hsl;have HU:=hid hU;have HFIN:=hid hfin;clear hsl hU hfin
  (go_enter Tryz.func108,Tryz.ntmps108;go_wp2_with fail)
  refine (HSL.out _).mono ?_;rintro e w1 ⟨rfl,hw1⟩;rw[hw1];clear hw1;go_wp2_with fail;go_ret3;exact ⟨rfl,.inl rfl⟩
 have h10i:¬(10:Int) < (z:Int):=by omega
 have h10b:decide ((10:Int) < (z:Int))=false:=decide_eq_false h10i;have hm9:m < 1000000000:=small_of_len (k:=9) (by omega) (by omega)
 have e1:(U.extract 0 k).data.toList=decDigits m:=by
  rw[Lib.extract_data];show U.data.toList.take k=_;rw[hU.list];split
  ·rw[←hk];simp
  ·rw[←hk];simp
 have hv1:=fun W=>rvalue_calls (U.extract 0 k) _ W e1 (decDigits_dig m) (by omega);rw[dval_decDigits] at hv1;obtain ⟨S1,hS1⟩:∃ S,U.extract 0 k=S:=⟨_,rfl⟩;simp only[hS1] at hv1;have hm9i:Lt9 m:=⟨hm9⟩;have hkn:k≤U.size:=hkU;by_cases hd1:d=1
 ·have hkz:k=U.size:=by
   have:=hU.list;rw[if_pos hd1] at this;rw[←hlen,this,hk]
  have hkc:¬(k:Int) < (U.size:Int):=by omega
  have hkd:decide ((k:Int) < (U.size:Int))=false:=decide_eq_false hkc;have hres:=hfin hm9 (by omega);rw[hd1] at hres;clear hk hlen hk0 hkU hz h9 hU20 h10 e1 hkz hfin hm9;have HSL:=hid hsl;have HU:=hid hU;have HRES:=hid hres;have HV1:=hid hv1;have HS1:=hid hS1;have HKN:=hid hkn;have HKC:=hid hkc;have HKD:=hid hkd;clear hsl hU hres hv1 hS1 hkn hkc hkd
  (go_enter Tryz.func108,Tryz.ntmps108;go_wp2_with fail)
  refine (HSL.out _).mono ?_;rintro e w1 ⟨rfl,hw1⟩;rw[hw1];clear hw1;have hS1:=HS1.out;have hkn:=HKN.out;go_wp2_with fail;refine (HV1.out _).mono ?_;rintro e w1 ⟨rfl,hw1⟩;rw[hw1];clear hw1 hS1 hkn h9b h9i h10b h10i hzi;have hkc:=HKC.out;have hkd:=HKD.out;go_upto_region 13 with (fail);clear hkc hkd
  have hm9j:(m:Int) < 1000000000:=by have:=hm9i.lt;omega
  go_wp2_with fail;go_ret3;exact HRES.out
 ·have hul:=hU.list;rw[if_neg hd1] at hul;have hll:=congrArg List.length hul;rw[hlen,List.length_append,List.length_cons,hk] at hll;have hd9:d < 1000000000:=small_of_len (k:=9) (by omega) (by omega);obtain ⟨k1,hk1⟩:∃ z,k+1=z:=⟨_,rfl⟩
  have e2:(U.extract k1 U.size).data.toList=decDigits d:=by
   rw[Lib.extract_to_end,hul,←hk1,←hk];simp
  have hv2:=fun W=>rvalue_calls (U.extract k1 U.size) _ W e2 (decDigits_dig d) (by omega);rw[dval_decDigits] at hv2;obtain ⟨S2,hS2⟩:∃ S,U.extract k1 U.size=S:=⟨_,rfl⟩;simp only[hS2] at hv2
  have hkc:(k:Int) < (U.size:Int):=by omega
  have hkd:decide ((k:Int) < (U.size:Int))=true:=decide_eq_true hkc
  have hk1e:(k:Int)+1=(k1:Int):=by omega
  have hk1i:(k1:Int)≤(U.size:Int):=by omega
  have hk1n:k1≤U.size:=by omega
  have hres:=hfin hm9 hd9;clear hk hlen hk0 hkU hz h9 hU20 h10 e1 e2 hul hll hd9 hk1 hfin hm9;have HSL:=hid hsl;have HU:=hid hU;have HRES:=hid hres;have HV1:=hid hv1;have HV2:=hid hv2;have HS1:=hid hS1;have HKN:=hid hkn;have HKC:=hid hkc;have HKD:=hid hkd;have HS2:=hid hS2;have HK1E:=hid hk1e;have HK1I:=hid hk1i;have HK1N:=hid hk1n;clear hsl hU hres hv1 hv2 hS1 hkn hkc hkd hS2 hk1e hk1i hk1n
  (go_enter Tryz.func108,Tryz.ntmps108;go_wp2_with fail)
  refine (HSL.out _).mono ?_;rintro e w1 ⟨rfl,hw1⟩;rw[hw1];clear hw1;have hS1:=HS1.out;have hkn:=HKN.out;go_wp2_with fail;refine (HV1.out _).mono ?_;rintro e w1 ⟨rfl,hw1⟩;rw[hw1];clear hw1 hS1 hkn h9b h9i h10b h10i hzi;have hkc:=HKC.out;have hkd:=HKD.out;have hk1e:=HK1E.out;have hk1i:=HK1I.out;have hk1n:=HK1N.out;have hS2:=HS2.out;go_wp2_with fail;refine (HV2.out _).mono ?_;rintro e w1 ⟨rfl,hw1⟩;rw[hw1];clear hw1 hS2 hk1n hk1i hk1e
  have hm9j:(m:Int) < 1000000000:=by have:=hm9i.lt;omega
  go_wp2_with fail;go_ret3;exact HRES.out
theorem rquick_neg (q:Rat)(w:World)(hl:(rs q).size≤20)(hq:q.num < 0):Calls Tryz.prog 108 #[.string (rs q)] w (QuickPost w q):=by
 obtain ⟨m,hm⟩:∃ m:Nat,q.num= -(m:Int):=⟨q.num.natAbs,by omega⟩;obtain ⟨d,hd⟩:∃ d,q.den=d:=⟨_,rfl⟩;obtain ⟨s,hs, -,hl2,h0,hc⟩:=rs_facts_neg hq;rw[hs] at hl⊢;have hcb:(((s[0]'h0).toNat:Int)==45)=true:=beq_iff_eq.2 hc
 have hlist:(s.extract 1 s.size).data.toList=if d=1 then decDigits m else decDigits m ++ 47::decDigits d:=by
  rw[Lib.extract_to_end,hl2];show ratText (-q)=_;unfold ratText;rw[Rat.neg_num,Rat.neg_den,hm,hd,Int.neg_neg,Big.itoa_nonneg]
 have hsz:(s.extract 1 s.size).size≤20:=by simp;omega
 obtain ⟨U,hUe⟩:∃ U,s.extract 1 s.size=U:=⟨_,rfl⟩;rw[hUe] at hlist hsz;have hU:UText U m d:=⟨hsz,hlist⟩;have hfin:m < 1000000000→d < 1000000000→QuickPost w q (.returned (.tuple #[.int .i64 (-(m:Int)),.int .i64 (d:Int),.bool true])) w:=fun h1 h2=>⟨rfl,.inr ⟨by omega,by omega,by rw[hm,hd]⟩⟩
 have h1s:(1:Int)≤(s.size:Int):=by omega
 have hs20:(s.size:Int)≤20:=by omega
 clear hs hlist hq hm hd hl hl2 hsz;have hsl:=fun W=>rslash_calls U W (by have:=hU.size;omega);rw[hU.up] at hsl;obtain ⟨k,hk⟩:∃ k,(decDigits m).length=k:=⟨_,rfl⟩;simp only[hk] at hsl
 have hlen:U.data.toList.length=U.size:=by simp
 have hk0:0 < k:=by
  rw[←hk,decDigits_length];exact nDigits_pos m
 have hkU:k≤U.size:=by
  rw[←hlen,hU.list];split
  ·omega
  ·rw[List.length_append];omega
 have hU20:=hU.size;obtain ⟨z,hz⟩:∃ z,U.size - k=z:=⟨_,rfl⟩
 have hzi:(U.size:Int) - (k:Int)=(z:Int):=by omega
 have hzb:(z:Int)≤20:=by omega
 have hki:(k:Int)≤20:=by omega
 have hUi:(U.size:Int)≤20:=by omega
 by_cases h9:9 < k
 ·have h9i:(9:Int) < (k:Int):=by omega
  have h9b:decide ((9:Int) < (k:Int))=true:=decide_eq_true h9i;clear hk hlen hk0 hkU hz h9 hU20;have HSL:=hid hsl;have HU:=hid hU;have HFIN:=hid hfin;clear hsl hU hfin
  (go_enter Tryz.func108,Tryz.ntmps108;go_wp2_with fail)
  refine (HSL.out _).mono ?_;rintro e w1 ⟨rfl,hw1⟩;rw[hw1];clear hw1;go_wp2_with fail;go_ret3;exact ⟨rfl,.inl rfl⟩
 have h9i:¬(9:Int) < (k:Int):=by omega
 have h9b:decide ((9:Int) < (k:Int))=false:=decide_eq_false h9i;by_cases h10:10 < z
 ·have h10i:(10:Int) < (z:Int):=by omega
  have h10b:decide ((10:Int) < (z:Int))=true:=decide_eq_true h10i;clear hk hlen hk0 hkU hz h9 hU20 h10;have HSL:=hid hsl;have HU:=hid hU;have HFIN:=hid hfin;clear hsl hU hfin
  (go_enter Tryz.func108,Tryz.ntmps108;go_wp2_with fail)
  refine (HSL.out _).mono ?_;rintro e w1 ⟨rfl,hw1⟩;rw[hw1];clear hw1;go_wp2_with fail;go_ret3;exact ⟨rfl,.inl rfl⟩
 have h10i:¬(10:Int) < (z:Int):=by omega
 have h10b:decide ((10:Int) < (z:Int))=false:=decide_eq_false h10i;have hm9:m < 1000000000:=small_of_len (k:=9) (by omega) (by omega)
 have e1:(U.extract 0 k).data.toList=decDigits m:=by
  rw[Lib.extract_data];show U.data.toList.take k=_;rw[hU.list];split
  ·rw[←hk];simp
  ·rw[←hk];simp
 have hv1:=fun W=>rvalue_calls (U.extract 0 k) _ W e1 (decDigits_dig m) (by omega);rw[dval_decDigits] at hv1;obtain ⟨S1,hS1⟩:∃ S,U.extract 0 k=S:=⟨_,rfl⟩;simp only[hS1] at hv1;have hm9i:Lt9 m:=⟨hm9⟩;have hkn:k≤U.size:=hkU;by_cases hd1:d=1
 ·have hkz:k=U.size:=by
   have:=hU.list;rw[if_pos hd1] at this;rw[←hlen,this,hk]
  have hkc:¬(k:Int) < (U.size:Int):=by omega
  have hkd:decide ((k:Int) < (U.size:Int))=false:=decide_eq_false hkc;have hres:=hfin hm9 (by omega);rw[hd1] at hres;clear hk hlen hk0 hkU hz h9 hU20 h10 e1 hkz hfin hm9;have HSL:=hid hsl;have HU:=hid hU;have HRES:=hid hres;have HV1:=hid hv1;have HS1:=hid hS1;have HKN:=hid hkn;have HKC:=hid hkc;have HKD:=hid hkd;clear hsl hU hres hv1 hS1 hkn hkc hkd
  (go_enter Tryz.func108,Tryz.ntmps108;go_wp2_with fail)
  refine (HSL.out _).mono ?_;rintro e w1 ⟨rfl,hw1⟩;rw[hw1];clear hw1;have hS1:=HS1.out;have hkn:=HKN.out;go_wp2_with fail;refine (HV1.out _).mono ?_;rintro e w1 ⟨rfl,hw1⟩;rw[hw1];clear hw1 hS1 hkn h9b h9i h10b h10i hzi;have hkc:=HKC.out;have hkd:=HKD.out;go_upto_region 13 with (fail);clear hkc hkd
  have hm9j:(m:Int) < 1000000000:=by have:=hm9i.lt;omega
  go_wp2_with fail;go_ret3;exact HRES.out
 ·have hul:=hU.list;rw[if_neg hd1] at hul;have hll:=congrArg List.length hul;rw[hlen,List.length_append,List.length_cons,hk] at hll;have hd9:d < 1000000000:=small_of_len (k:=9) (by omega) (by omega);obtain ⟨k1,hk1⟩:∃ z,k+1=z:=⟨_,rfl⟩
  have e2:(U.extract k1 U.size).data.toList=decDigits d:=by
   rw[Lib.extract_to_end,hul,←hk1,←hk];simp
  have hv2:=fun W=>rvalue_calls (U.extract k1 U.size) _ W e2 (decDigits_dig d) (by omega);rw[dval_decDigits] at hv2;obtain ⟨S2,hS2⟩:∃ S,U.extract k1 U.size=S:=⟨_,rfl⟩;simp only[hS2] at hv2
  have hkc:(k:Int) < (U.size:Int):=by omega
  have hkd:decide ((k:Int) < (U.size:Int))=true:=decide_eq_true hkc
  have hk1e:(k:Int)+1=(k1:Int):=by omega
  have hk1i:(k1:Int)≤(U.size:Int):=by omega
  have hk1n:k1≤U.size:=by omega
  have hres:=hfin hm9 hd9;clear hk hlen hk0 hkU hz h9 hU20 h10 e1 e2 hul hll hd9 hk1 hfin hm9;have HSL:=hid hsl;have HU:=hid hU;have HRES:=hid hres;have HV1:=hid hv1;have HV2:=hid hv2;have HS1:=hid hS1;have HKN:=hid hkn;have HKC:=hid hkc;have HKD:=hid hkd;have HS2:=hid hS2;have HK1E:=hid hk1e;have HK1I:=hid hk1i;have HK1N:=hid hk1n;clear hsl hU hres hv1 hv2 hS1 hkn hkc hkd hS2 hk1e hk1i hk1n
  (go_enter Tryz.func108,Tryz.ntmps108;go_wp2_with fail)
  refine (HSL.out _).mono ?_;rintro e w1 ⟨rfl,hw1⟩;rw[hw1];clear hw1;have hS1:=HS1.out;have hkn:=HKN.out;go_wp2_with fail;refine (HV1.out _).mono ?_;rintro e w1 ⟨rfl,hw1⟩;rw[hw1];clear hw1 hS1 hkn h9b h9i h10b h10i hzi;have hkc:=HKC.out;have hkd:=HKD.out;have hk1e:=HK1E.out;have hk1i:=HK1I.out;have hk1n:=HK1N.out;have hS2:=HS2.out;go_wp2_with fail;refine (HV2.out _).mono ?_;rintro e w1 ⟨rfl,hw1⟩;rw[hw1];clear hw1 hS2 hk1n hk1i hk1e
  have hm9j:(m:Int) < 1000000000:=by have:=hm9i.lt;omega
  go_wp2_with fail;go_ret3;exact HRES.out
theorem rquick_calls (k:Nat)(q:Rat)(w:World)(hq:RFB k q)(hk:k≤40000):Calls Tryz.prog 108 #[.string (rs q)] w (QuickPost w q):=by
 have hsz:=hq.len;rcases Nat.lt_or_ge 20 (rs q).size with h | h
 ·exact rquick_long q w h (by omega)
 ·rcases Int.lt_or_le q.num 0 with h1 | h1
  ·exact rquick_neg q w h h1
  ·exact rquick_pos q w h h1
end Go.Proofs.YtbkcjmojgglbkaaGreatDoor
