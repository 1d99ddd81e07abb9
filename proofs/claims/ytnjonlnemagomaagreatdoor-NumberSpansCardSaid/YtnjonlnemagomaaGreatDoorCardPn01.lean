/- Part CardPn01. -/
import Derived.Deep.RegionHeld
import Derived.Test.YtnjonlnemagomaaGreatDoorB11
import Derived.Test.YtnjonlnemagomaaGreatDoorB15
namespace Go.Proofs.YtnjonlnemagomaaGreatDoor
open Go.RowKit Big Go.Lib Tryz
set_option maxRecDepth 100000
set_option maxHeartbeats 8000000
set_option linter.all false
theorem sq_lt {x y:Int}(hx:0≤x)(h:x < y):x*x < y*y:=by
 have h1:x*x≤x*y:=Int.mul_le_mul_of_nonneg_left (Int.le_of_lt h) hx;have h2:x*y < y*y:=Int.mul_lt_mul_of_pos_right h (by omega);omega
theorem rminus_calls (v:Value)(z:Int)(w:World)(h:IsZ w v z):
  Calls prog 187 #[v] w (RetZ w (-z)):=by
 obtain ⟨b,a,l,c,rfl⟩:=h.shape;obtain ⟨hb,hd⟩:=h.parts;have hs:=fun W (hW:New w W) b=>rsigned_calls b _ _ W (hd.n.new hW)
 have e:sgnd (!b) z.natAbs= -z:=by
  rw[hb];unfold sgnd;by_cases h:z < 0
  ·rw[decide_eq_true h];simp;omega
  ·rw[decide_eq_false h];simp;omega
 clear h hd hb;replace hs:=hid hs;replace e:=hid e;go_in;go_wp2_with fail;obtain ⟨BA,BP,HN⟩:=lay2 w 124 #[.bool b,.slice a l c] 124 #[.bool false,.slice none 0 0];refine zO (hs _ HN _) fun w1 b9 a9 l9 c9 hn hz=>?_;rw[e.out] at hz;replace hz:=hid hz;obtain ⟨HN,BP⟩:=zn2 hn HN BP.new;clear hn;obtain ⟨p0,p1,p2,p3,p4⟩:=BP.out.two;go_wp2_with fail;refine bodyPost_ret (v:=.agg #[.bool b9,.slice a9 l9 c9]) (by simp[results,results187,go_sem,p0,p1]) rfl ?_;exact z_ret HN BP (by omega) hz
theorem rrecip_calls (k:Nat)(q:Rat)(w:World)(hq:RFB k q)(hk:k≤40000)(h0:0 < q.num):Calls prog 143 #[.string (rs q)] w (RetS w q⁻¹):=by
 have hp:=fun W=>rparts_calls k q W hq hk;have aa:=fun W va vb (ha:IsZ W va (q.den:Int)) (hb:IsZ W vb q.num)=>rfraction_pos k va vb _ _ W ha hb (by omega) (pow_b9 (by simpa using hq.den) (Nat.le_refl _)) (pow_b9 hq.num (Nat.le_refl _)) h0;rw[←Rat.inv_def] at aa;obtain ⟨R,hR⟩:∃ R,q⁻¹=R:=⟨_,rfl⟩;obtain ⟨A,hA⟩:∃ A,rs q=A:=⟨_,rfl⟩;simp only[hA] at hp;simp only[hR] at aa;rw[hA,hR];clear hA hR hq hk h0;have af:=New.refl w;refine zh3 ?_ af hp aa;clear af hp aa;intro HN HP ag;go_in;go_wp2_with fail;refine (HP _).mono ?_;rintro e w1 ⟨v1,v2,rfl,hn,ad,ae⟩;obtain ⟨b1,a1,l1,c1,rfl⟩:=ad.shape;obtain ⟨b2,a2,l2,c2,rfl⟩:=ae.shape;have ab:=hid ad;have ac:=hid ae;clear ad ae;replace HN:=tW HN hn;clear hn;go_upto_region 2 with (fail);obtain ⟨BA,BB,hn⟩:=lay2 w1 124 #[.bool b1,.slice a1 l1 c1] 124 #[.bool b2,.slice a2 l2 c2];obtain ⟨HN,ab,ac⟩:=zn3 hn HN ab.new ac.new;clear hn;have pa:=BA.out.two;have pb:=BB.out.two;go_wp2_with fail;refine zM (ag _ _ _ ac ab) fun w2 hn=>?_;clear pa pb;replace HN:=tW HN hn;clear hn;go_wp2_with fail;go_ret;exact ⟨rfl,HN⟩
theorem half_parts:(Rat.divInt 1 2).num=1∧(Rat.divInt 1 2).den=2:=by
 have h:=divInt_parts (x:=1) (y:=2) (by decide);rw[h.1,h.2];decide
theorem half_eq:(1 / 2:Rat)=Rat.divInt 1 2:=by
 rw[Rat.div_def,Rat.inv_def,Rat.one_mul];rfl
theorem rs_half:rs (1 / 2)=⟨#[49,47,50]⟩:=by
 unfold rs
 have:ratText (1 / 2)=[49,47,50]:=by
  unfold ratText;rw[half_eq,half_parts.1,half_parts.2,if_neg (by decide),show (1:Int)=((1:Nat):Int) from rfl,Big.itoa_nonneg,decDigits_one',decDigits_small (by omega)];rfl
 rw[this];rfl
theorem rfb_half:RFB 2 (1 / 2):=⟨by rw[half_eq,half_parts.1];decide,by rw[half_eq,half_parts.2];decide⟩
theorem rhalf_calls (k:Nat)(x:Rat)(w:World)(hx:RFB k x)(hk:k+2≤40000):Calls prog 44 #[.string (rs x)] w (RetS w (x*(1 / 2))):=by
 have hm:=fun W=>rmulQ_calls k 2 x (1 / 2) W hx rfb_half hk;simp only[rs_half] at hm;obtain ⟨R,hR⟩:∃ R,x*(1 / 2)=R:=⟨_,rfl⟩;obtain ⟨A,hA⟩:∃ A,rs x=A:=⟨_,rfl⟩;simp only[hA,hR] at hm;rw[hA,hR];clear hA hR hx hk;replace hm:=hid hm;go_in;go_wp2_with fail;refine zM (hm _) fun w2 hn=>?_;replace hn:=hid hn;go_wp2_with fail;go_ret;exact ⟨rfl,hn⟩
theorem floor_nonneg {x y:Int}(hx:¬x < 0)(hy:0 < y):sgnd false (x.natAbs / y.natAbs)=x / y:=by
 unfold sgnd;rw[if_neg (by simp),Int.natCast_ediv];congr 1 <;> omega
theorem floor_unique {x y q:Int}(hy:0 < y)(h1:q*y≤x)(h2:x < (q+1)*y):q=x / y:=by
 have a:=(Int.le_ediv_iff_mul_le hy).2 h1;have b:=(Int.ediv_lt_iff_lt_mul hy).2 h2;omega
theorem floor_neg0 {x y:Int}(hx:x < 0)(hy:0 < y)(hr:x.natAbs % y.natAbs=0):sgnd true (x.natAbs / y.natAbs)=x / y:=by
 have h:=Nat.div_add_mod x.natAbs y.natAbs;rw[hr,Nat.add_zero] at h;obtain ⟨q,hq⟩:∃ q,x.natAbs / y.natAbs=q:=⟨_,rfl⟩;obtain ⟨d,hd⟩:∃ d,y.natAbs=d:=⟨_,rfl⟩;rw[hq] at h⊢;rw[hd] at h
 have ab:y=(d:Int):=by omega
 have aa:x= -((d:Int)*(q:Int)):=by rw[←Int.natCast_mul,h];omega
 unfold sgnd;rw[if_pos rfl];refine floor_unique hy ?_ ?_
 ·rw[aa,ab,Int.neg_mul,Int.mul_comm];exact Int.le_refl _
 ·rw[aa,ab,Int.add_mul,Int.neg_mul,Int.mul_comm (q:Int),Int.one_mul];omega
theorem floor_neg1 {x y:Int}(hx:x < 0)(hy:0 < y)(hr:x.natAbs % y.natAbs≠0):sgnd true (x.natAbs / y.natAbs+1)=x / y:=by
 have h:=Nat.div_add_mod x.natAbs y.natAbs;have aa:=Nat.mod_lt x.natAbs (show 0 < y.natAbs by omega);obtain ⟨q,hq⟩:∃ q,x.natAbs / y.natAbs=q:=⟨_,rfl⟩;obtain ⟨r,ab⟩:∃ r,x.natAbs % y.natAbs=r:=⟨_,rfl⟩;obtain ⟨d,hd⟩:∃ d,y.natAbs=d:=⟨_,rfl⟩;rw[hq,ab] at h;rw[ab] at hr aa;rw[hq];rw[hd] at h aa
 have ad:y=(d:Int):=by omega
 have ac:x= -((d:Int)*(q:Int)) - (r:Int):=by rw[←Int.natCast_mul];omega
 unfold sgnd;rw[if_pos rfl];obtain ⟨p,hp⟩:∃ p,(d:Int)*(q:Int)=p:=⟨_,rfl⟩
 have e:((q+1:Nat):Int)=(q:Int)+1:=by omega
 refine floor_unique hy ?_ ?_
 ·rw[ac,ad,e,Int.neg_mul,Int.add_mul,Int.mul_comm (q:Int),Int.one_mul,hp];omega
 ·rw[ac,ad,e,Int.add_mul,Int.neg_mul,Int.add_mul,Int.mul_comm (q:Int),Int.one_mul,hp];omega
theorem IsD.len0 {w:World}{a:Option Addr}{n c z:Nat}(h:IsD w (.slice a n c) z):n=0 ↔ z=0:=by
 obtain ⟨m,f,hd,hv⟩:=h;have hz:=hd.canon.zero_iff (by decide);obtain ⟨⟨a',c',⟨e, -⟩, -⟩, -⟩:=hd;injection e with e1 e2 e3;subst e2;rw[hv] at hz;exact ⟨fun h=>hz.2 h,fun h=>hz.1 h⟩
theorem rfloor_pos (K:Nat)(a1 a2:Option Addr)(l1 l2 c1 c2:Nat)(x y:Nat)(z:Int)(w:World)(hda:IsD w (.slice a1 l1 c1) x)(hdb:IsD w (.slice a2 l2 c2) y)(hK:K≤80000)(hx:x < B9^K)(hy:y < B9^K)(hy0:0 < y)(hz:sgnd false (x / y)=z):
  Calls prog 154 #[.agg #[.bool false,.slice a1 l1 c1],.agg #[.bool false,.slice a2 l2 c2]] w (RetZ w z):=by
 have ab:=fun W (hW:New w W)=>rdivs_calls K _ _ x y W (hda.new hW) (hdb.new hW) (by omega) hx hy hy0;have aa:=fun W v (h:IsD W v (x / y))=>rsigned_calls false v (x / y) W h.n;simp only[hz] at aa;clear hda hdb hK hx hy hy0 hz;replace ab:=hid ab;replace aa:=hid aa;go_in;go_upto_region 1 with (fail);obtain ⟨BA,BB,BP,HN⟩:=lay3 w 124 #[.bool false,.slice a1 l1 c1] 124 #[.bool false,.slice a2 l2 c2] 124 #[.bool false,.slice none 0 0];have pa:=BA.out.two;have pb:=BB.out.two;go_wp2_with fail;refine (ab _ HN).mono ?_;rintro e w1 ⟨vq,vr,rfl,hn,hq,hr⟩;obtain ⟨a5,l5,c5,rfl⟩:=hq.shape;clear pa pb;obtain ⟨HN,BA,BP⟩:=zn3 hn HN BA.new BP.new;clear hn;obtain ⟨a6,l6,c6,rfl⟩:=hr.shape;clear hr;replace hq:=hid hq;have pa:=BA.out.two;go_wp2_with fail;refine zO (aa _ _ hq) fun w2 b9 a9 l9 c9 hn hz=>?_;clear pa;replace hz:=hid hz;obtain ⟨HN,BP⟩:=zn2 hn HN BP.new;clear hn;obtain ⟨p0,p1,p2,p3,p4⟩:=BP.out.two;go_wp2_with fail;refine bodyPost_ret (v:=.agg #[.bool b9,.slice a9 l9 c9]) (by simp[results,results154,go_sem,p0,p1]) rfl ?_;exact z_ret HN BP (by omega) hz
theorem rfloor_neg (K:Nat) (a1 a2:Option Addr) (l1 l2 c1 c2:Nat) (x y:Nat) (z:Int) (w:World) (hda:IsD w (.slice a1 l1 c1) x) (hdb:IsD w (.slice a2 l2 c2) y) (hK:K≤80000) (hx:x < B9^K) (hy:y < B9^K) (hy0:0 < y)
  (hz0:x % y=0→sgnd true (x / y)=z) (hz1:x % y≠0→sgnd true (x / y+1)=z):
  Calls prog 154 #[.agg #[.bool true,.slice a1 l1 c1],.agg #[.bool false,.slice a2 l2 c2]] w (RetZ w z):=by
 have al:=fun W (hW:New w W)=>rdivs_calls K _ _ x y W (hda.new hW) (hdb.new hW) (by omega) hx hy hy0;have ar:=fun (h0:x % y=0) W v (h:IsD W v (x / y))=>rsigned_calls true v (x / y) W h.n;have au:=fun (h0:x % y≠0) W v (h:IsN W v (x / y+1))=>rsigned_calls true v (x / y+1) W h;have ak:B9^K≤B9^(K+1):=Nat.pow_le_pow_right (by decide) (by omega);have aq:x / y < B9^(K+1):=Nat.lt_of_le_of_lt (Nat.div_le_self _ _) (Nat.lt_of_lt_of_le hx ak);have aj:1 < B9^(K+1):=Nat.lt_of_lt_of_le (show 1 < B9^1 by decide) (Nat.pow_le_pow_right (by decide) (by omega));have ae:=fun W va vb (h1:IsD W va (x / y)) (h2:IsD W vb 1)=>radd_n (K+1) va vb _ 1 W h1 h2 (by omega) aq aj;clear hda hdb hK hx hy hy0 ak aq aj;refine zh6 ?_ al ar au ae hz0 hz1;clear al ar au ae hz0 hz1;intro av aw ax ah ay az;go_in;go_upto_region 1 with (fail);obtain ⟨BA,BB,BP,HN⟩:=lay3 w 124 #[.bool true,.slice a1 l1 c1] 124 #[.bool false,.slice a2 l2 c2] 124 #[.bool false,.slice none 0 0];obtain ⟨a0,a3,a4,a8,ba⟩:=BA.out.two;have pb:=BB.out.two;go_wp2_with fail;refine (av _ HN).mono ?_;rintro e w1 ⟨vq,vr,rfl,hn,hq,hr⟩;obtain ⟨a5,l5,c5,rfl⟩:=hq.shape;clear a0 a3 a4 a8 ba pb;obtain ⟨HN,BA,BP⟩:=zn3 hn HN BA.new BP.new;clear hn;obtain ⟨a6,l6,c6,rfl⟩:=hr.shape;have ab:=hr.len0;clear hr;by_cases h0:x % y=0
 ·have am:=ab.2 h0;subst am;have aa:=aw.out h0;rw[ay.out h0] at aa;clear ab h0;have HQ:=hid hq;have ag:=hid aa;clear hq aa;have pa:=BA.out.two;go_wp2_with fail;refine zO (ag _ _ HQ) fun w2 b9 a9 l9 c9 hn hz=>?_;clear pa;have HZ:=hid hz;clear hz;obtain ⟨HN,BP⟩:=zn2 hn HN BP.new;clear hn;obtain ⟨p0,p1,p2,p3,p4⟩:=BP.out.two;go_wp2_with fail;refine bodyPost_ret (v:=.agg #[.bool b9,.slice a9 l9 c9]) (by simp[results,results154,go_sem,p0,p1]) rfl ?_;exact z_ret HN BP (by omega) HZ
 ·have am:0 < l6:=by
   rcases Nat.eq_zero_or_pos l6 with h | h
   ·exact absurd (ab.1 h) h0
   ·exact h
  have an:(0:Int) < (l6:Int):=by omega
  have bb:decide ((0:Int) < (l6:Int))=true:=decide_eq_true an;have aa:=ax.out h0;rw[az.out h0] at aa;clear ab h0;have ap:=hq.new ((New.refl _).alloc (.cells #[.int .i64 1] 3));have af:=isD_one w1 3 1 (by decide) (by omega);have ao:=(New.refl w1).alloc (.cells #[.int .i64 1] 3);clear hq;refine zh4 ?_ ap aa af ao;clear ap aa af ao;intro HQ ag ad ai;have pa:=BA.out.two;go_wp2_with fail;refine zN (ah _ _ _ HQ ad) fun w2 v2 hn ac=>?_;obtain ⟨a7,l7,c7,rfl⟩:=ac.shape;have hn:=ai.out.trans hn;clear ai HQ ad;replace ac:=hid ac;clear pa;obtain ⟨HN,BA,BP⟩:=zn3 hn HN BA.new BP.new;clear hn;have pa:=BA.out.two;go_wp2_with fail;refine zO (ag _ _ ac) fun w3 b9 a9 l9 c9 hn hz=>?_;clear pa;replace hz:=hid hz;obtain ⟨HN,BP⟩:=zn2 hn HN BP.new;clear hn;obtain ⟨p0,p1,p2,p3,p4⟩:=BP.out.two;go_wp2_with fail;refine bodyPost_ret (v:=.agg #[.bool b9,.slice a9 l9 c9]) (by simp[results,results154,go_sem,p0,p1]) rfl ?_;exact z_ret HN BP (by omega) hz
theorem rfloorDiv_calls (K:Nat)(va vb:Value)(x y:Int)(w:World)(ha:IsZ w va x)(hb:IsZ w vb y)(hK:K≤80000)(hx:x.natAbs < B9^K)(hy:y.natAbs < B9^K)(hy0:0 < y):
  Calls prog 154 #[va,vb] w (RetZ w (x / y)):=by
 obtain ⟨b1,a1,l1,c1,rfl⟩:=ha.shape;obtain ⟨b2,a2,l2,c2,rfl⟩:=hb.shape;obtain ⟨aa,ab⟩:=ha.parts;obtain ⟨ad,ac⟩:=hb.parts;rw[ad,decide_eq_false (show ¬y < 0 by omega)];by_cases h:x < 0
 ·rw[aa,decide_eq_true h];exact rfloor_neg K a1 a2 l1 l2 c1 c2 _ _ _ w ab ac hK hx hy (by omega) (fun h0=>floor_neg0 h hy0 h0) (fun h0=>floor_neg1 h hy0 h0)
 ·rw[aa,decide_eq_false h];exact rfloor_pos K a1 a2 l1 l2 c1 c2 _ _ _ w ab ac hK hx hy (by omega) (floor_nonneg h hy0)
theorem rs_slash (q:Rat):(upTo (rs q).data.toList).length=(rs q).size ↔ q.den=1:=by
 have hl:(rs q).size=(ratText q).length:=by unfold rs;rw[bs_size]
 rw[rs_list,hl];unfold ratText;split
 ·rename_i h;rw[(split_plain (slashed_itoa' q.num)).1];exact ⟨fun _=>h,fun _=>rfl⟩
 ·rename_i h;rw[(parts_itoa' _ _).1,List.length_append,List.length_cons];exact ⟨fun h1=>by omega,fun h1=>absurd h1 h⟩
theorem riswhole_calls (q:Rat)(w:World)(hl:(rs q).size≤1000000):Calls prog 152 #[.string (rs q)] w fun e w'=>e=.returned (.bool (decide (q.den=1)))∧w'=w:=by
 have ab:=fun W=>rslash_calls (rs q) W hl;have aa:=rs_slash q;have ac:=sl_len (rs q).data.toList
 have ad:(rs q).data.toList.length=(rs q).size:=by simp
 rw[ad]at ac;obtain ⟨k,hk⟩:∃ k,(upTo (rs q).data.toList).length=k:=⟨_,rfl⟩;simp only[hk] at ab aa ac;obtain ⟨s,hs⟩:∃ s,rs q=s:=⟨_,rfl⟩;rw[hs] at ab aa ac hl⊢;clear hk hs ad;by_cases h:q.den=1
 ·have ae:=aa.2 h;rw[decide_eq_true h];subst ae;clear aa h ac hl;have af:=hid ab;clear ab;go_in;go_wp2_with fail;refine (af _).mono ?_;rintro e w1 ⟨rfl,hw⟩;rw[hw];clear hw;go_wp2_with fail;go_ret;exact ⟨rfl,rfl⟩
 ·have ae:k≠s.size:=fun h1=>h (aa.1 h1)
  have ag:((k:Int)==(s.size:Int))=false:=by simp;omega
  rw[decide_eq_false h];clear aa h ac hl ae;replace ab:=hid ab;go_in;go_wp2_with fail;refine (ab _).mono ?_;rintro e w1 ⟨rfl,hw⟩;rw[hw];clear hw;go_wp2_with fail;go_ret;exact ⟨rfl,rfl⟩
theorem rs_int (z:Int):rs (z:Rat)=bs (itoa z):=by unfold rs;rw[ratText_int]
theorem rfloorQ_calls (k:Nat)(q:Rat)(w:World)(hq:RFB k q)(hk:k≤40000):Calls prog 74 #[.string (rs q)] w (RetS w (q.floor:Rat)):=by
 have aa:=fun W=>riswhole_calls q W (by have:=hq.len;omega);by_cases h:q.den=1
 ·have hr:rs (q.floor:Rat)=rs q:=by
   rw[rs_int,Rat.floor_def,h];unfold rs ratText;rw[if_pos h];simp
  rw[decide_eq_true h]at aa;obtain ⟨s,hs⟩:∃ s,rs q=s:=⟨_,rfl⟩;rw[hs] at hr⊢;simp only[hs] at aa;clear hs hq h;have ab:=hid aa;have HR:=hid hr;clear aa hr;go_in;go_wp2_with fail;refine (ab _).mono ?_;rintro e w1 ⟨rfl,hw⟩;rw[hw];clear hw;go_wp2_with fail;go_ret;exact ⟨by rw[HR.out];rfl,New.refl _⟩
 ·rw[decide_eq_false h] at aa;have hp:=fun W=>rparts_calls k q W hq hk
  have ai:(0:Int) < (q.den:Int):=by have:=q.den_nz;omega
  have ae:=fun W va vb (ha:IsZ W va q.num) (hb:IsZ W vb (q.den:Int))=>rfloorDiv_calls k va vb _ _ W ha hb (by omega) (pow_b9 hq.num (Nat.le_refl _)) (pow_b9 (by simpa using hq.den) (Nat.le_refl _)) ai;rw[←Rat.floor_def] at ae
  have aj:q.floor.natAbs < B9^k:=by
   rw[Rat.floor_def];exact Nat.lt_of_le_of_lt (Int.natAbs_ediv_le_natAbs _ _) (pow_b9 hq.num (Nat.le_refl _))
  have al:=fun W v (hv:IsZ W v q.floor)=>rtext_calls k v q.floor W hv (by omega) aj;have hr:=rs_int q.floor;obtain ⟨s,hs⟩:∃ s,rs q=s:=⟨_,rfl⟩;rw[hs];simp only[hs] at aa hp;have ak:=New.refl w;clear hs hq h hk ai aj;refine zh6 ?_ aa hr hp ae al ak;clear aa hr hp ae al ak;intro ab HR HP am an HN;go_in;go_wp2_with fail;refine (ab _).mono ?_;rintro e w1 ⟨rfl,hw⟩;rw[hw];clear hw;go_wp2_with fail;refine (HP _).mono ?_;rintro e w1 ⟨v1,v2,rfl,hn,af,ag⟩;obtain ⟨b1,a1,l1,c1,rfl⟩:=af.shape;obtain ⟨b2,a2,l2,c2,rfl⟩:=ag.shape;have ac:=hid af;have ad:=hid ag;clear af ag;replace HN:=tW HN hn;clear hn;go_upto_region 4 with (fail);obtain ⟨BA,BB,hn⟩:=lay2 w1 124 #[.bool b1,.slice a1 l1 c1] 124 #[.bool b2,.slice a2 l2 c2];obtain ⟨HN,ac,ad⟩:=zn3 hn HN ac.new ad.new;clear hn;have pa:=BA.out.two;have pb:=BB.out.two;go_wp2_with fail;refine zO (am _ _ _ ac ad) fun w2 b3 a3 l3 c3 hn ah=>?_;replace ah:=hid ah;clear pa pb;replace HN:=tW HN hn;clear hn;go_wp2_with fail;refine zM (an _ _ ah) fun w3 hn=>?_;replace HN:=tW HN hn;clear hn;go_wp2_with fail;go_ret;exact ⟨by rw[HR.out];rfl,HN.out⟩
theorem rs_one:rs 1=⟨#[49]⟩:=by
 rw[show (1:Rat)=((1:Int):Rat) from rfl,rs_int,show (1:Int)=((1:Nat):Int) from rfl,Big.itoa_nonneg,decDigits_one'];rfl
end Go.Proofs.YtnjonlnemagomaaGreatDoor
