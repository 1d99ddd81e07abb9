/- Part CardLn01. -/
import Derived.Test.YtnjonlnemagomaaGreatDoorB15
namespace Go.Proofs.YtnjonlnemagomaaGreatDoor
open Go.RowKit Big Tryz
open Go.Lib (hid)
set_option maxRecDepth 100000
set_option maxHeartbeats 8000000
set_option linter.all false
def flts (l:List Nat):List Value:=l.map (Value.float .f32)
theorem RdL.flt {w:World}{a:Option Addr}{l:List Nat}(h:RdL w a (flts l))(i:Nat)(hi:i < l.length):∃ b aa,a=some ⟨b,aa,none⟩∧w.cell? ⟨b,aa+i,none⟩=some (.float .f32 l[i]):=by
 obtain ⟨b,aa,e,hc⟩:=h i (by simpa[flts] using hi);exact ⟨b,aa,e,by rw[hc];simp[flts]⟩
def ErrPost (w:World)(n:Int)(e:Ending)(w':World):Prop:=e=.returned (.int .i64 n)∧∃ n,w'=w.drewN n
theorem chk_calls (i:Int)(b:Nat)(w:World):Calls prog 145 #[.int .i64 i,.float .f32 b] w (ErrPost w (if isFin b then 0 else 1)):=by
 obtain ⟨f,hf⟩:∃ f,isFin b=f:=⟨_,rfl⟩;have h:=fun W=>finite_calls b W;simp only[hf] at h;rw[hf];replace h:=hid h;clear hf
 cases f with
 | true=>
  go_in;go_wp2_with fail;refine (h _).mono ?_;rintro e w' ⟨rfl,n,rfl⟩;go_wp2_with fail;refine (nwhen_calls _ 1 _).mono ?_;rintro e w2 ⟨rfl,rfl⟩;go_wp2_with fail;go_ret;exact ⟨rfl,n,rfl⟩
 | false=>
  go_in;go_wp2_with fail;refine (h _).mono ?_;rintro e w' ⟨rfl,n,rfl⟩;go_wp2_with fail;refine (nwhen_calls _ 1 _).mono ?_;rintro e w2 ⟨rfl,rfl⟩;go_wp2_with fail;go_ret;exact ⟨rfl,n,rfl⟩
theorem all_take_succ {l:List Nat}{k:Nat}(hk:k < l.length)(h:(l.take k).all isFin=true)(h1:isFin l[k]=true):(l.take (k+1)).all isFin=true:=by
 rw[List.take_succ_eq_append_getElem hk,List.all_append,h];simp[h1]
theorem all_false_at {l:List Nat}{k:Nat}(hk:k < l.length)(h1:isFin l[k]=false):l.all isFin=false:=by
 rw[List.all_eq_false];exact ⟨l[k],List.getElem_mem hk,by rw[h1];decide⟩
theorem each_calls (a:Option Addr)(cap:Nat)(l:List Nat)(w:World)(hl:l.length≤9223372036854775807)(hr:RdL w a (flts l)):
  Calls prog 144 #[.slice a l.length cap,.func (.func 145) #[] #[]] w (ErrPost w (if l.all isFin then 0 else 1)):=by
 obtain ⟨r,aa⟩:∃ r:Int,(if l.all isFin=true then 0 else 1)=r:=⟨_,rfl⟩;rw[aa]
 have af:(l.length:Int)≤9223372036854775807:=by omega
 refine zh3 ?_ hr aa hl;clear hr aa hl;intro HR ab HL;go_in;go_wp2_with fail;go_loopw [10] (fun i wr=>∃ k n:Nat,k≤l.length∧i=.int .i64 (k:Int)∧Hid ((l.take k).all isFin=true)∧wr=w.drewN n) (fun i _=>l.length - (intOf i).toNat)
 case atStart=>exact ⟨0,0,Nat.zero_le _,rfl,hid rfl,rfl⟩
 case round=>
  obtain ⟨k,n,hk,rfl,HK,rfl⟩:=hrel;by_cases hlt:k < l.length
  ·obtain ⟨b,ag,rfl,ac⟩:=HR.out.flt k hlt;obtain ⟨x,hx⟩:∃ x,l[k]=x:=⟨_,rfl⟩;rw[hx] at ac
   cases hfx:isFin x with
   | true=>
    have hd:=all_take_succ hlt HK.out (by rw[hx];exact hfx);have hc:=fun W=>chk_calls k x W;rw[hfx] at hc;refine zh4 ?_ hx hfx hd hc;clear hx hfx hd hc;intro HX ae HD HC;go_wp2_with fail;refine (HC _).mono ?_;rintro e w' ⟨rfl,m,rfl⟩;go_wp2_with fail;go_roundw
    case rel=>exact ⟨k+1,n+m,by omega,by go_num,HD,rfl⟩
    case measure=>simp[intOf];omega
   | false=>
    have hd:=all_false_at hlt (by rw[hx];exact hfx);have hc:=fun W=>chk_calls k x W;rw[hfx] at hc;refine zh4 ?_ hx hfx hd hc;clear hx hfx hd hc;intro HX ae HD HC;go_wp2_with fail;refine (HC _).mono ?_;rintro e w' ⟨rfl,m,rfl⟩;go_wp2_with fail;go_ret;exact ⟨ret_i64 (by rw[←ab.out,HD.out];rfl),n+m,rfl⟩
  ·have ad:k=l.length:=by omega
   have hz:r=0:=by rw[←ab.out,if_pos];have:=HK.out;rwa [ad,List.take_length] at this
   replace ad:=hid ad;replace hz:=hid hz;go_wp2_with fail;go_ret;exact ⟨ret_i64 hz.symm,n,rfl⟩
def samplesErr (l:List Nat):Int:=if 4096 < l.length then 5 else if l.all isFin then 0 else 1
theorem checkSamples_calls (a:Option Addr)(cap:Nat)(l:List Nat)(w:World)(hl:l.length≤9223372036854775807)(hr:RdL w a (flts l)):
  Calls prog 66 #[.slice a l.length cap] w (ErrPost w (samplesErr l)):=by
 unfold samplesErr;by_cases h:4096 < l.length
 ·rw[if_pos h]
  have hi:(4096:Int) < (l.length:Int):=by omega
  clear hr;go_in;go_wp2_with fail;go_ret;exact ⟨rfl,0,rfl⟩
 ·rw[if_neg h]
  have hi:¬(4096:Int) < (l.length:Int):=by omega
  have he:=each_calls a cap l w hl hr;obtain ⟨r,aa⟩:∃ r:Int,(if l.all isFin=true then 0 else 1)=r:=⟨_,rfl⟩;rw[aa] at he⊢;replace he:=hid he;replace aa:=hid aa;clear hr;go_in;go_wp2_with fail;refine he.mono ?_;rintro e w' ⟨rfl,n,rfl⟩;go_wp2_with fail;go_ret;exact ⟨rfl,n,rfl⟩
theorem samples_new (a:Option Addr)(cap:Nat)(l:List Nat)(w:World)(hl:l.length≤9223372036854775807)(hr:RdL w a (flts l)):
  Calls prog 66 #[.slice a l.length cap] w (RetNew w (samplesErr l)):=
 (checkSamples_calls a cap l w hl hr).mono fun _ _ h=>⟨h.1,by obtain ⟨n,hn⟩:=h.2;rw[hn];exact (New.refl _).drewN n⟩
end Go.Proofs.YtnjonlnemagomaaGreatDoor
namespace Go.Proofs.YtnjonlnemagomaaGreatDoor
open Go.RowKit Big Go.Lib Tryz
set_option maxRecDepth 100000
set_option maxHeartbeats 8000000
set_option linter.all false
theorem rfromInt_calls (z:Int)(w:World)(lo: -9223372036854775808≤z)(hi:z≤9223372036854775807):Calls prog 135 #[.int .i64 z] w (RetS w (z:Rat)):=by
 have ab:=fun W=>rwhole_calls z W lo hi
 have hK:z.natAbs < B9^3:=by
  have:B9^3=1000000000000000000000000000:=by decide
  omega
 have aa:=fun W v (h:IsZ W v z)=>rtext_calls 3 v z W h (by omega) hK
 have hr:rs (z:Rat)=bs (itoa z):=by unfold rs;rw[ratText_int]
 clear lo hi hK;refine zh3 ?_ ab aa hr;clear ab aa hr;intro ad ac HR;go_in;go_wp2_with fail;refine zO (ad _) fun w1 b1 a1 l1 c1 hn hz=>?_;have HZ:=hid hz;have HN:=hid hn;clear hz hn;go_wp2_with fail;refine zM (ac _ _ HZ) fun w2 hn=>?_;replace HN:=tW HN hn;clear hn;go_wp2_with fail;go_ret;exact ⟨by rw[HR.out];rfl,HN.out⟩
theorem rrecip_calls (k:Nat)(q:Rat)(w:World)(hq:RFB k q)(hk:k≤40000)(h0:0 < q.num):Calls prog 143 #[.string (rs q)] w (RetS w q⁻¹):=by
 have hp:=fun W=>rparts_calls k q W hq hk;have aa:=fun W va vb (ha:IsZ W va (q.den:Int)) (hb:IsZ W vb q.num)=>rfraction_pos k va vb _ _ W ha hb (by omega) (pow_b9 (by simpa using hq.den) (Nat.le_refl _)) (pow_b9 hq.num (Nat.le_refl _)) h0;rw[←Rat.inv_def] at aa;obtain ⟨R,hR⟩:∃ R,q⁻¹=R:=⟨_,rfl⟩;obtain ⟨A,hA⟩:∃ A,rs q=A:=⟨_,rfl⟩;simp only[hA] at hp;simp only[hR] at aa;rw[hA,hR];clear hA hR hq hk h0;have af:=New.refl w;refine zh3 ?_ af hp aa;clear af hp aa;intro HN HP ag;go_in;go_wp2_with fail;refine (HP _).mono ?_;rintro e w1 ⟨v1,v2,rfl,hn,ad,ae⟩;obtain ⟨b1,a1,l1,c1,rfl⟩:=ad.shape;obtain ⟨b2,a2,l2,c2,rfl⟩:=ae.shape;have ab:=hid ad;have ac:=hid ae;clear ad ae;replace HN:=tW HN hn;clear hn;go_upto_region 2 with (fail);obtain ⟨BA,BB,hn⟩:=lay2 w1 124 #[.bool b1,.slice a1 l1 c1] 124 #[.bool b2,.slice a2 l2 c2];obtain ⟨HN,ab,ac⟩:=zn3 hn HN ab.new ac.new;clear hn;have pa:=BA.out.two;have pb:=BB.out.two;go_wp2_with fail;refine zM (ag _ _ _ ac ab) fun w2 hn=>?_;clear pa pb;replace HN:=tW HN hn;clear hn;go_wp2_with fail;go_ret;exact ⟨rfl,HN⟩
theorem half_parts:(Rat.divInt 1 2).num=1∧(Rat.divInt 1 2).den=2:=by
 have h:=divInt_parts (x:=1) (y:=2) (by decide);rw[h.1,h.2];decide
theorem half_eq:(1 / 2:Rat)=Rat.divInt 1 2:=by
 rw[Rat.div_def,Rat.inv_def,Rat.one_mul];rfl
theorem rs_half:rs (1 / 2)=⟨#[49,47,50]⟩:=by
 unfold rs
 have:ratText (1 / 2)=[49,47,50]:=by
  unfold ratText;rw[half_eq,half_parts.1,half_parts.2,if_neg (by decide),show (1:Int)=((1:Nat):Int) from rfl,Big.itoa_nonneg,decDigits_one',decDigits_small (by omega)];rfl
 rw[this];rfl
theorem rfb_half:RFB 2 (1 / 2):=⟨by rw[half_eq,half_parts.1];decide,by rw[half_eq,half_parts.2];decide⟩
theorem rhalf_calls (k:Nat)(x:Rat)(w:World)(hx:RFB k x)(hk:k+2≤40000):Calls prog 44 #[.string (rs x)] w (RetS w (x*(1 / 2))):=by
 have hm:=fun W=>rmulQ_calls k 2 x (1 / 2) W hx rfb_half hk;simp only[rs_half] at hm;obtain ⟨R,hR⟩:∃ R,x*(1 / 2)=R:=⟨_,rfl⟩;obtain ⟨A,hA⟩:∃ A,rs x=A:=⟨_,rfl⟩;simp only[hA,hR] at hm;rw[hA,hR];clear hA hR hx hk;replace hm:=hid hm;go_in;go_wp2_with fail;refine zM (hm _) fun w2 hn=>?_;replace hn:=hid hn;go_wp2_with fail;go_ret;exact ⟨rfl,hn⟩
theorem floor_nonneg {x y:Int}(hx:¬x < 0)(hy:0 < y):sgnd false (x.natAbs / y.natAbs)=x / y:=by
 unfold sgnd;rw[if_neg (by simp),Int.natCast_ediv];congr 1 <;> omega
theorem floor_unique {x y q:Int}(hy:0 < y)(h1:q*y≤x)(h2:x < (q+1)*y):q=x / y:=by
 have a:=(Int.le_ediv_iff_mul_le hy).2 h1;have b:=(Int.ediv_lt_iff_lt_mul hy).2 h2;omega
theorem floor_neg0 {x y:Int}(hx:x < 0)(hy:0 < y)(hr:x.natAbs % y.natAbs=0):sgnd true (x.natAbs / y.natAbs)=x / y:=by
 have h:=Nat.div_add_mod x.natAbs y.natAbs;rw[hr,Nat.add_zero] at h;obtain ⟨q,hq⟩:∃ q,x.natAbs / y.natAbs=q:=⟨_,rfl⟩;obtain ⟨d,hd⟩:∃ d,y.natAbs=d:=⟨_,rfl⟩;rw[hq] at h⊢;rw[hd] at h
 have ab:y=(d:Int):=by omega
 have aa:x= -((d:Int)*(q:Int)):=by rw[←Int.natCast_mul,h];omega
 unfold sgnd;rw[if_pos rfl];refine floor_unique hy ?_ ?_
 ·rw[aa,ab,Int.neg_mul,Int.mul_comm];exact Int.le_refl _
 ·rw[aa,ab,Int.add_mul,Int.neg_mul,Int.mul_comm (q:Int),Int.one_mul];omega
theorem floor_neg1 {x y:Int}(hx:x < 0)(hy:0 < y)(hr:x.natAbs % y.natAbs≠0):sgnd true (x.natAbs / y.natAbs+1)=x / y:=by
 have h:=Nat.div_add_mod x.natAbs y.natAbs;have aa:=Nat.mod_lt x.natAbs (show 0 < y.natAbs by omega);obtain ⟨q,hq⟩:∃ q,x.natAbs / y.natAbs=q:=⟨_,rfl⟩;obtain ⟨r,ab⟩:∃ r,x.natAbs % y.natAbs=r:=⟨_,rfl⟩;obtain ⟨d,hd⟩:∃ d,y.natAbs=d:=⟨_,rfl⟩;rw[hq,ab] at h;rw[ab] at hr aa;rw[hq];rw[hd] at h aa
 have ad:y=(d:Int):=by omega
 have ac:x= -((d:Int)*(q:Int)) - (r:Int):=by rw[←Int.natCast_mul];omega
 unfold sgnd;rw[if_pos rfl];obtain ⟨p,hp⟩:∃ p,(d:Int)*(q:Int)=p:=⟨_,rfl⟩
 have e:((q+1:Nat):Int)=(q:Int)+1:=by omega
 refine floor_unique hy ?_ ?_
 ·rw[ac,ad,e,Int.neg_mul,Int.add_mul,Int.mul_comm (q:Int),Int.one_mul,hp];omega
 ·rw[ac,ad,e,Int.add_mul,Int.neg_mul,Int.add_mul,Int.mul_comm (q:Int),Int.one_mul,hp];omega
theorem IsD.len0 {w:World}{a:Option Addr}{n c z:Nat}(h:IsD w (.slice a n c) z):n=0 ↔ z=0:=by
 obtain ⟨m,f,hd,hv⟩:=h;have hz:=hd.canon.zero_iff (by decide);obtain ⟨⟨a',c',⟨e, -⟩, -⟩, -⟩:=hd;injection e with e1 e2 e3;subst e2;rw[hv] at hz;exact ⟨fun h=>hz.2 h,fun h=>hz.1 h⟩
theorem rfloor_pos (K:Nat)(a1 a2:Option Addr)(l1 l2 c1 c2:Nat)(x y:Nat)(z:Int)(w:World)(hda:IsD w (.slice a1 l1 c1) x)(hdb:IsD w (.slice a2 l2 c2) y)(hK:K≤80000)(hx:x < B9^K)(hy:y < B9^K)(hy0:0 < y)(hz:sgnd false (x / y)=z):
  Calls prog 154 #[.agg #[.bool false,.slice a1 l1 c1],.agg #[.bool false,.slice a2 l2 c2]] w (RetZ w z):=by
 have ab:=fun W (hW:New w W)=>rdivs_calls K _ _ x y W (hda.new hW) (hdb.new hW) (by omega) hx hy hy0;have aa:=fun W v (h:IsD W v (x / y))=>rsigned_calls false v (x / y) W h.n;simp only[hz] at aa;clear hda hdb hK hx hy hy0 hz;replace ab:=hid ab;replace aa:=hid aa;go_in;go_upto_region 1 with (fail);obtain ⟨BA,BB,BP,HN⟩:=lay3 w 124 #[.bool false,.slice a1 l1 c1] 124 #[.bool false,.slice a2 l2 c2] 124 #[.bool false,.slice none 0 0];have pa:=BA.out.two;have pb:=BB.out.two;go_wp2_with fail;refine (ab _ HN).mono ?_;rintro e w1 ⟨vq,vr,rfl,hn,hq,hr⟩;obtain ⟨a5,l5,c5,rfl⟩:=hq.shape;clear pa pb;obtain ⟨HN,BA,BP⟩:=zn3 hn HN BA.new BP.new;clear hn;obtain ⟨a6,l6,c6,rfl⟩:=hr.shape;clear hr;replace hq:=hid hq;have pa:=BA.out.two;go_wp2_with fail;refine zO (aa _ _ hq) fun w2 b9 a9 l9 c9 hn hz=>?_;clear pa;replace hz:=hid hz;obtain ⟨HN,BP⟩:=zn2 hn HN BP.new;clear hn;obtain ⟨p0,p1,p2,p3,p4⟩:=BP.out.two;go_wp2_with fail;refine bodyPost_ret (v:=.agg #[.bool b9,.slice a9 l9 c9]) (by simp[results,results154,go_sem,p0,p1]) rfl ?_;exact z_ret HN BP (by omega) hz
theorem rfloor_neg (K:Nat) (a1 a2:Option Addr) (l1 l2 c1 c2:Nat) (x y:Nat) (z:Int) (w:World) (hda:IsD w (.slice a1 l1 c1) x) (hdb:IsD w (.slice a2 l2 c2) y) (hK:K≤80000) (hx:x < B9^K) (hy:y < B9^K) (hy0:0 < y)
  (hz0:x % y=0→sgnd true (x / y)=z) (hz1:x % y≠0→sgnd true (x / y+1)=z):
  Calls prog 154 #[.agg #[.bool true,.slice a1 l1 c1],.agg #[.bool false,.slice a2 l2 c2]] w (RetZ w z):=by
 have al:=fun W (hW:New w W)=>rdivs_calls K _ _ x y W (hda.new hW) (hdb.new hW) (by omega) hx hy hy0;have ar:=fun (h0:x % y=0) W v (h:IsD W v (x / y))=>rsigned_calls true v (x / y) W h.n;have au:=fun (h0:x % y≠0) W v (h:IsN W v (x / y+1))=>rsigned_calls true v (x / y+1) W h;have ak:B9^K≤B9^(K+1):=Nat.pow_le_pow_right (by decide) (by omega);have aq:x / y < B9^(K+1):=Nat.lt_of_le_of_lt (Nat.div_le_self _ _) (Nat.lt_of_lt_of_le hx ak);have aj:1 < B9^(K+1):=Nat.lt_of_lt_of_le (show 1 < B9^1 by decide) (Nat.pow_le_pow_right (by decide) (by omega));have ae:=fun W va vb (h1:IsD W va (x / y)) (h2:IsD W vb 1)=>radd_n (K+1) va vb _ 1 W h1 h2 (by omega) aq aj;clear hda hdb hK hx hy hy0 ak aq aj;refine zh6 ?_ al ar au ae hz0 hz1;clear al ar au ae hz0 hz1;intro av aw ax ah ay az;go_in;go_upto_region 1 with (fail);obtain ⟨BA,BB,BP,HN⟩:=lay3 w 124 #[.bool true,.slice a1 l1 c1] 124 #[.bool false,.slice a2 l2 c2] 124 #[.bool false,.slice none 0 0];obtain ⟨a0,a3,a4,a8,ba⟩:=BA.out.two;have pb:=BB.out.two;go_wp2_with fail;refine (av _ HN).mono ?_;rintro e w1 ⟨vq,vr,rfl,hn,hq,hr⟩;obtain ⟨a5,l5,c5,rfl⟩:=hq.shape;clear a0 a3 a4 a8 ba pb;obtain ⟨HN,BA,BP⟩:=zn3 hn HN BA.new BP.new;clear hn;obtain ⟨a6,l6,c6,rfl⟩:=hr.shape;have ab:=hr.len0;clear hr;by_cases h0:x % y=0
 ·have am:=ab.2 h0;subst am;have aa:=aw.out h0;rw[ay.out h0] at aa;clear ab h0;have HQ:=hid hq;have ag:=hid aa;clear hq aa;have pa:=BA.out.two;go_wp2_with fail;refine zO (ag _ _ HQ) fun w2 b9 a9 l9 c9 hn hz=>?_;clear pa;have HZ:=hid hz;clear hz;obtain ⟨HN,BP⟩:=zn2 hn HN BP.new;clear hn;obtain ⟨p0,p1,p2,p3,p4⟩:=BP.out.two;go_wp2_with fail;refine bodyPost_ret (v:=.agg #[.bool b9,.slice a9 l9 c9]) (by simp[results,results154,go_sem,p0,p1]) rfl ?_;exact z_ret HN BP (by omega) HZ
 ·have am:0 < l6:=by
   rcases Nat.eq_zero_or_pos l6 with h | h
   ·exact absurd (ab.1 h) h0
   ·exact h
  have an:(0:Int) < (l6:Int):=by omega
  have bb:decide ((0:Int) < (l6:Int))=true:=decide_eq_true an;have aa:=ax.out h0;rw[az.out h0] at aa;clear ab h0;have ap:=hq.new ((New.refl _).alloc (.cells #[.int .i64 1] 3));have af:=isD_one w1 3 1 (by decide) (by omega);have ao:=(New.refl w1).alloc (.cells #[.int .i64 1] 3);clear hq;refine zh4 ?_ ap aa af ao;clear ap aa af ao;intro HQ ag ad ai;have pa:=BA.out.two;go_wp2_with fail;refine zN (ah _ _ _ HQ ad) fun w2 v2 hn ac=>?_;obtain ⟨a7,l7,c7,rfl⟩:=ac.shape;have hn:=ai.out.trans hn;clear ai HQ ad;replace ac:=hid ac;clear pa;obtain ⟨HN,BA,BP⟩:=zn3 hn HN BA.new BP.new;clear hn;have pa:=BA.out.two;go_wp2_with fail;refine zO (ag _ _ ac) fun w3 b9 a9 l9 c9 hn hz=>?_;clear pa;replace hz:=hid hz;obtain ⟨HN,BP⟩:=zn2 hn HN BP.new;clear hn;obtain ⟨p0,p1,p2,p3,p4⟩:=BP.out.two;go_wp2_with fail;refine bodyPost_ret (v:=.agg #[.bool b9,.slice a9 l9 c9]) (by simp[results,results154,go_sem,p0,p1]) rfl ?_;exact z_ret HN BP (by omega) hz
theorem rfloorDiv_calls (K:Nat)(va vb:Value)(x y:Int)(w:World)(ha:IsZ w va x)(hb:IsZ w vb y)(hK:K≤80000)(hx:x.natAbs < B9^K)(hy:y.natAbs < B9^K)(hy0:0 < y):
  Calls prog 154 #[va,vb] w (RetZ w (x / y)):=by
 obtain ⟨b1,a1,l1,c1,rfl⟩:=ha.shape;obtain ⟨b2,a2,l2,c2,rfl⟩:=hb.shape;obtain ⟨aa,ab⟩:=ha.parts;obtain ⟨ad,ac⟩:=hb.parts;rw[ad,decide_eq_false (show ¬y < 0 by omega)];by_cases h:x < 0
 ·rw[aa,decide_eq_true h];exact rfloor_neg K a1 a2 l1 l2 c1 c2 _ _ _ w ab ac hK hx hy (by omega) (fun h0=>floor_neg0 h hy0 h0) (fun h0=>floor_neg1 h hy0 h0)
 ·rw[aa,decide_eq_false h];exact rfloor_pos K a1 a2 l1 l2 c1 c2 _ _ _ w ab ac hK hx hy (by omega) (floor_nonneg h hy0)
theorem rs_slash (q:Rat):(upTo (rs q).data.toList).length=(rs q).size ↔ q.den=1:=by
 have hl:(rs q).size=(ratText q).length:=by unfold rs;rw[bs_size]
 rw[rs_list,hl];unfold ratText;split
 ·rename_i h;rw[(split_plain (slashed_itoa' q.num)).1];exact ⟨fun _=>h,fun _=>rfl⟩
 ·rename_i h;rw[(parts_itoa' _ _).1,List.length_append,List.length_cons];exact ⟨fun h1=>by omega,fun h1=>absurd h1 h⟩
theorem riswhole_calls (q:Rat)(w:World)(hl:(rs q).size≤1000000):Calls prog 152 #[.string (rs q)] w fun e w'=>e=.returned (.bool (decide (q.den=1)))∧w'=w:=by
 have ab:=fun W=>rslash_calls (rs q) W hl;have aa:=rs_slash q;have ac:=sl_len (rs q).data.toList
 have ad:(rs q).data.toList.length=(rs q).size:=by simp
 rw[ad]at ac;obtain ⟨k,hk⟩:∃ k,(upTo (rs q).data.toList).length=k:=⟨_,rfl⟩;simp only[hk] at ab aa ac;obtain ⟨s,hs⟩:∃ s,rs q=s:=⟨_,rfl⟩;rw[hs] at ab aa ac hl⊢;clear hk hs ad;by_cases h:q.den=1
 ·have ae:=aa.2 h;rw[decide_eq_true h];subst ae;clear aa h ac hl;have af:=hid ab;clear ab;go_in;go_wp2_with fail;refine (af _).mono ?_;rintro e w1 ⟨rfl,hw⟩;rw[hw];clear hw;go_wp2_with fail;go_ret;exact ⟨rfl,rfl⟩
 ·have ae:k≠s.size:=fun h1=>h (aa.1 h1)
  have ag:((k:Int)==(s.size:Int))=false:=by simp;omega
  rw[decide_eq_false h];clear aa h ac hl ae;replace ab:=hid ab;go_in;go_wp2_with fail;refine (ab _).mono ?_;rintro e w1 ⟨rfl,hw⟩;rw[hw];clear hw;go_wp2_with fail;go_ret;exact ⟨rfl,rfl⟩
theorem rs_int (z:Int):rs (z:Rat)=bs (itoa z):=by unfold rs;rw[ratText_int]
theorem rfloorQ_calls (k:Nat)(q:Rat)(w:World)(hq:RFB k q)(hk:k≤40000):Calls prog 74 #[.string (rs q)] w (RetS w (q.floor:Rat)):=by
 have aa:=fun W=>riswhole_calls q W (by have:=hq.len;omega);by_cases h:q.den=1
 ·have hr:rs (q.floor:Rat)=rs q:=by
   rw[rs_int,Rat.floor_def,h];unfold rs ratText;rw[if_pos h];simp
  rw[decide_eq_true h]at aa;obtain ⟨s,hs⟩:∃ s,rs q=s:=⟨_,rfl⟩;rw[hs] at hr⊢;simp only[hs] at aa;clear hs hq h;have ab:=hid aa;have HR:=hid hr;clear aa hr;go_in;go_wp2_with fail;refine (ab _).mono ?_;rintro e w1 ⟨rfl,hw⟩;rw[hw];clear hw;go_wp2_with fail;go_ret;exact ⟨by rw[HR.out];rfl,New.refl _⟩
 ·rw[decide_eq_false h] at aa;have hp:=fun W=>rparts_calls k q W hq hk
  have ai:(0:Int) < (q.den:Int):=by have:=q.den_nz;omega
  have ae:=fun W va vb (ha:IsZ W va q.num) (hb:IsZ W vb (q.den:Int))=>rfloorDiv_calls k va vb _ _ W ha hb (by omega) (pow_b9 hq.num (Nat.le_refl _)) (pow_b9 (by simpa using hq.den) (Nat.le_refl _)) ai;rw[←Rat.floor_def] at ae
  have aj:q.floor.natAbs < B9^k:=by
   rw[Rat.floor_def];exact Nat.lt_of_le_of_lt (Int.natAbs_ediv_le_natAbs _ _) (pow_b9 hq.num (Nat.le_refl _))
  have al:=fun W v (hv:IsZ W v q.floor)=>rtext_calls k v q.floor W hv (by omega) aj;have hr:=rs_int q.floor;obtain ⟨s,hs⟩:∃ s,rs q=s:=⟨_,rfl⟩;rw[hs];simp only[hs] at aa hp;have ak:=New.refl w;clear hs hq h hk ai aj;refine zh6 ?_ aa hr hp ae al ak;clear aa hr hp ae al ak;intro ab HR HP am an HN;go_in;go_wp2_with fail;refine (ab _).mono ?_;rintro e w1 ⟨rfl,hw⟩;rw[hw];clear hw;go_wp2_with fail;refine (HP _).mono ?_;rintro e w1 ⟨v1,v2,rfl,hn,af,ag⟩;obtain ⟨b1,a1,l1,c1,rfl⟩:=af.shape;obtain ⟨b2,a2,l2,c2,rfl⟩:=ag.shape;have ac:=hid af;have ad:=hid ag;clear af ag;replace HN:=tW HN hn;clear hn;go_upto_region 4 with (fail);obtain ⟨BA,BB,hn⟩:=lay2 w1 124 #[.bool b1,.slice a1 l1 c1] 124 #[.bool b2,.slice a2 l2 c2];obtain ⟨HN,ac,ad⟩:=zn3 hn HN ac.new ad.new;clear hn;have pa:=BA.out.two;have pb:=BB.out.two;go_wp2_with fail;refine zO (am _ _ _ ac ad) fun w2 b3 a3 l3 c3 hn ah=>?_;replace ah:=hid ah;clear pa pb;replace HN:=tW HN hn;clear hn;go_wp2_with fail;refine zM (an _ _ ah) fun w3 hn=>?_;replace HN:=tW HN hn;clear hn;go_wp2_with fail;go_ret;exact ⟨by rw[HR.out];rfl,HN.out⟩
theorem rat_pow_add (a:Rat)(m:Nat):∀ n,a^m*a^n=a^(m+n)
 | 0=>by rw[Rat.pow_zero,Rat.mul_one,Nat.add_zero]
 | n+1=>by rw[Rat.pow_succ,←Rat.mul_assoc,rat_pow_add a m n,←Nat.add_assoc,Rat.pow_succ]
theorem rs_one:rs 1=⟨#[49]⟩:=by
 rw[show (1:Rat)=((1:Int):Rat) from rfl,rs_int,show (1:Int)=((1:Nat):Int) from rfl,Big.itoa_nonneg,decDigits_one'];rfl
theorem RFB.pow {j:Nat}{a:Rat}(h:RFB j a):∀ e:Nat,RFB (j*e+1) (a^e)
 | 0=>by rw[Rat.pow_zero];exact ⟨by show (1:Int).natAbs < 2^(j*0+1);simp,by show (1:Nat) < 2^(j*0+1);simp⟩
 | e+1=>by
  rw[Rat.pow_succ];have:=(RFB.pow h e).mul h;refine this.mono ?_;rw[Nat.mul_add];omega
theorem rpow_nat (j k0:Nat)(a:Rat)(w:World)(ha:RFB j a)(hb:j*(4*k0+4)+2≤40000)(hk0:k0≤40000):Calls prog 136 #[.string (rs a),.int .i64 (k0:Int)] w (RetS w (a^k0)):=by
 have aa:=fun (eo ea:Nat) (h1:eo≤k0) (h2:ea≤2*k0+1) W=>rmulQ_calls (j*eo+1) (j*ea+1) (a^eo) (a^ea) W (ha.pow eo) (ha.pow ea) (by
  have e1:j*eo≤j*k0:=Nat.mul_le_mul_left _ h1;have e2:j*ea≤j*(2*k0+1):=Nat.mul_le_mul_left _ h2;rw[Nat.mul_add] at e2;rw[Nat.mul_add] at hb;have e3:j*(4*k0)=4*(j*k0):=Nat.mul_left_comm _ _ _;have e4:j*(2*k0)=2*(j*k0):=Nat.mul_left_comm _ _ _
  omega)
 have ad:=fun (ea:Nat) (h2:ea≤k0) W=>rmulQ_calls (j*ea+1) (j*ea+1) (a^ea) (a^ea) W (ha.pow ea) (ha.pow ea) (by
  have e2:j*ea≤j*k0:=Nat.mul_le_mul_left _ h2;rw[Nat.mul_add] at hb;have e3:j*(4*k0)=4*(j*k0):=Nat.mul_left_comm _ _ _
  omega)
 have ah:∀ m n,a^m*a^n=a^(m+n):=fun m n=>rat_pow_add a m n;simp only[ah] at aa ad
 have h1:rs (a^0)=⟨#[49]⟩:=by rw[Rat.pow_zero,rs_one]
 have h2:rs (a^1)=rs a:=by rw[show a^1=a^0*a from Rat.pow_succ a 0,Rat.pow_zero,Rat.one_mul]
 obtain ⟨F,hF⟩:∃ F:Nat→ByteArray,(fun e=>rs (a^e))=F:=⟨_,rfl⟩
 have ac:∀ e,rs (a^e)=F e:=fun e=>by rw[←hF]
 have ai:∀ W W',New W W'→RetS W (a^k0) (.returned (.string (F k0))) W':=fun W W' h=>⟨by rw[ac],h⟩;simp only[ac] at aa ad;have aa:=fun eo ea h1 h2 W=>(aa eo ea h1 h2 W).mono fun e w' h=>RetS.to (ac _) h;have ad:=fun ea h2 W=>(ad ea h2 W).mono fun e w' h=>RetS.to (ac _) h;rw[ac] at h1 h2;rw[←h2]
 have aj:¬(k0:Int) < 0:=by omega
 have aq:decide ((k0:Int) < 0)=false:=decide_eq_false aj;clear hF ac h2 ha hb ah;refine zh4 ?_ aa ad h1 ai;clear aa ad h1 ai;intro ao au H1 an;go_in;go_wp2_with fail;clear aj aq;go_loopw [0,1,5] (fun sa sk so wr=>∃ (ea kk eo:Nat),sa=.string (F ea)∧sk=.int .i64 (kk:Int)∧so=.string (F eo)∧Hid (eo+kk*ea=k0)∧Hid (ea≤2*k0+1)∧kk≤40000∧Hid (New w wr)) (fun _ sk _ _=>(RowKit.intOf sk).toNat)
 case atStart=>exact ⟨1,k0,0,rfl,rfl,by rw[H1.out],hid (by omega),hid (by omega),hk0,hid (New.refl _)⟩
 case round=>
  clear hk0;obtain ⟨ea,kk,eo,rfl,rfl,rfl,HE,HA,a3,HN⟩:=hrel;rcases Nat.eq_zero_or_pos kk with h0 | h0
  ·subst h0;have he:=HE.out;rw[Nat.zero_mul,Nat.add_zero] at he;subst he;go_wp2_with fail;go_ret;exact an _ _ HN
  ·have aw:ea≤kk*ea:=Nat.le_mul_of_pos_left ea h0
   have ap:ea≤k0:=by have:=HE.out;omega
   have ar:eo≤k0:=by have:=HE.out;omega
   have hm:=ao.out eo ea ar (by omega);have hs:=au.out ea ap
   have av:(0:Int) < (kk:Int):=by omega
   have a2:decide ((0:Int) < (kk:Int))=true:=decide_eq_true av;obtain ⟨d1,d2,d3,d4⟩:=divd kk 2;obtain ⟨q,hq⟩:∃ q,kk / 2=q:=⟨_,rfl⟩;obtain ⟨r,hr⟩:∃ r,kk % 2=r:=⟨_,rfl⟩;rw[hq] at d1 d2;rw[hr] at d3 d4;have ay:(kk:Int) / 2=(q:Int):=d1;have az:Int.tdiv (kk:Int) 2=(q:Int):=d2;have a0:Int.tmod (kk:Int) 2=(r:Int):=d3;have a1:(kk:Int) % 2=(r:Int):=d4
   have ag:q < kk:=by omega
   have a4:(q:Int)≤40000:=by omega
   have ab:kk=2*q+r:=by omega
   have ax:r=0∨r=1:=by omega
   have af:ea+ea≤2*k0+1:=by omega
   clear d1 d2 d3 d4 hq hr aw ap ar h0;rcases ax with hr | hr
   ·subst hr
    have ae:eo+q*(ea+ea)=k0:=by
     rw[←HE.out,ab,Nat.add_zero,Nat.mul_comm 2,Nat.mul_assoc,Nat.two_mul]
    have a5:(((0:Nat):Int)==1)=false:=rfl;clear ab HA;refine zh5 ?_ hm hs ae af ag;clear hm hs ae af ag;intro HM HS al ak am;go_wp2_with fail;refine zM (HS _) fun w2 hn=>?_;replace HN:=tW HN hn;clear hn;go_wp2_with fail;go_roundw
    case rel=>exact ⟨ea+ea,q,eo,rfl,rfl,rfl,al,ak,by omega,HN⟩
    case measure=>simp[RowKit.intOf];exact am.out
   ·subst hr
    have ae:eo+ea+q*(ea+ea)=k0:=by
     rw[←HE.out,ab,Nat.add_mul,Nat.mul_comm 2,Nat.mul_assoc,Nat.two_mul];omega
    clear ab HA;refine zh5 ?_ hm hs ae af ag;clear hm hs ae af ag;intro HM HS al ak am;go_wp2_with fail;refine zM (HM _) fun w2 hn=>?_;replace HN:=tW HN hn;clear hn;go_wp2_with fail;refine zM (HS _) fun w2 hn=>?_;replace HN:=tW HN hn;clear hn;go_wp2_with fail;go_roundw
    case rel=>exact ⟨ea+ea,q,eo+ea,rfl,rfl,rfl,al,ak,by omega,HN⟩
    case measure=>simp[RowKit.intOf];exact am.out
theorem rpow_neg (j k0:Nat)(a:Rat)(w:World)(ha:RFB j a)(h0:0 < a.num)(hb:j*(4*k0+4)+2≤40000)(hk0:k0≤40000)(hk:0 < k0):Calls prog 136 #[.string (rs a),.int .i64 (-(k0:Int))] w (RetS w (a⁻¹^k0)):=by
 have hj:j≤40000:=by
  have:j*4≤j*(4*k0+4):=Nat.mul_le_mul_left _ (by omega);omega
 have hr:=fun W=>rrecip_calls j a W ha hj h0;have hp:=fun W=>rpow_nat j k0 a⁻¹ W (ha.inv (by omega)) hb hk0;obtain ⟨A,hA⟩:∃ A,rs a=A:=⟨_,rfl⟩;obtain ⟨B,hB⟩:∃ B,rs a⁻¹=B:=⟨_,rfl⟩;obtain ⟨R,hR⟩:∃ R,a⁻¹^k0=R:=⟨_,rfl⟩;simp only[hA] at hr;have hr:=fun W=>(hr W).mono fun e w' h=>RetS.to hB h;simp only[hB,hR] at hp;rw[hA,hR]
 have aa: -(k0:Int) < 0:=by omega
 have ab:decide (-(k0:Int) < 0)=true:=decide_eq_true aa
 have ac:(k0:Int)≤40000:=by omega
 clear hA hB hR ha h0 hb hk0 hk hj;replace hr:=hid hr;replace hp:=hid hp;go_in;go_wp2_with fail;refine zM (hr _) fun w1 hn=>?_;have HN:=hid hn;clear hn;go_wp2_with fail;refine zM (hp _) fun w2 hn=>?_;replace HN:=tW HN hn;clear hn;go_wp2_with fail;go_ret;exact ⟨rfl,HN⟩
theorem rtoInt_calls (z : Nat) (w : World) (hz : z < 1000000000000000000) : Calls prog 146 #[.string (rs (z : Int))] w fun e w' => e = .returned (.tuple #[.int .i64 (z : Int), .bool true]) ∧ New w w' := by
  have hl : (rs ((z : Int) : Rat)).size ≤ 19 := by
    rw [rs_int, bs_size, Big.itoa_nonneg, decDigits_length, nDigits_le_iff (by omega)]
    omega
  have ac := fun W => riswhole_calls ((z : Int) : Rat) W (by omega)
  rw [decide_eq_true (show (((z : Int) : Rat)).den = 1 by simp)] at ac
  have hp := fun W => rparse_itoa (rs ((z : Int) : Rat)) (z : Int) W (by rw [rs_int, bs_list]) (by
    have := hl
    rw [rs_int, bs_size] at this
    omega)
  obtain ⟨s, hs⟩ : ∃ s, rs ((z : Int) : Rat) = s := ⟨_, rfl⟩
  simp only [hs] at ac hp
  rw [hs] at hl ⊢
  have ar : ¬ (20 : Int) < (s.size : Int) := by omega
  have a7 : decide ((20 : Int) < (s.size : Int)) = false := decide_eq_false ar
  clear hs hl
  have au := New.refl w
  have HN := hid au
  have a3 := hid ac
  have HP := hid hp
  have ak := hid hz
  clear au ac hp hz
  go_in
  go_wp2_with fail
  refine (a3 _).mono ?_
  rintro e w1 ⟨rfl, hw⟩
  rw [hw]
  clear hw
  go_wp2_with fail
  refine (HP _).mono ?_
  rintro e w1 ⟨v1, rfl, hn, ah⟩
  obtain ⟨b, a, n, c, rfl⟩ := ah.shape
  obtain ⟨hb, hd⟩ := ah.parts
  rw [decide_eq_false (show ¬ (z : Int) < 0 by omega)] at hb
  subst hb
  rw [Int.natAbs_natCast] at hd
  have ba : n ≤ 2 := by
    obtain ⟨n', f, ao, hv⟩ := hd
    have := len_le (K := 2) ao.canon hv (by have h9 := ak.out; have e : B9 ^ 2 = 1000000000000000000 := (by decide); omega)
    obtain ⟨⟨a', c', ⟨e, -⟩, -⟩, -⟩ := ao
    injection e with e1 e2 e3
    omega
  obtain ⟨n', f, ⟨⟨a', c', ⟨e, -⟩, hr, ap⟩, -⟩, hv⟩ := hd
  injection e with e1 e2 e3
  subst e1 e2 e3
  clear ah ar a7
  have HR := hid hr
  have ay := hid ap
  have HV := hid hv
  clear hr ap hv
  replace HN := tW HN hn
  clear hn
  go_upto_region 4 with (fail)
  have ai := HN
  clear HN
  obtain ⟨BA, HN⟩ := lay1 w1 124 #[.bool false, .slice a n c]
  replace HR := hid (HR.out.new HN.out)
  have aj := ai.out.trans HN.out
  clear HN ai
  have HN := hid aj
  clear aj
  obtain ⟨w0, aw⟩ : ∃ x, w1.alloc (.cells #[.bool false, .slice a n c] 124) = x := ⟨_, rfl⟩
  rw [aw] at BA HN HR ⊢
  clear aw
  obtain ⟨p0, p1, p2, p3, p4⟩ := BA.out.two
  go_wp2_with fail
  clear p0 p1 p2 p3 p4
  obtain ⟨bb, a9⟩ : (n : Int) ≤ 2 ∧ (0 : Int) ≤ (n : Int) := by omega
  have an : ∀ k, k ≤ n → vf B9 (fun i => f (k + i)) (n - k) ≤ z := fun k hk => by
    have h := vf_add B9 f k (n - k)
    rw [show k + (n - k) = n by omega, HV.out] at h
    have : 1 * vf B9 (fun i => f (k + i)) (n - k) ≤ B9 ^ k * vf B9 (fun i => f (k + i)) (n - k) := Nat.mul_le_mul_right _ (Nat.pow_pos (by decide))
    omega
  have ax := hid an
  clear an
  go_loopw [5, 6] (fun so si wr => ∃ k : Nat, k ≤ n ∧ si = .int .i64 ((k : Int) - 1) ∧ so = .int .i64 ((vf B9 (fun i => f (k + i)) (n - k) : Nat) : Int) ∧ Hid (New w0 wr)) (fun _ si _ => (RowKit.intOf si + 1).toNat)
  case atStart => exact ⟨n, Nat.le_refl _, rfl, by rw [Nat.sub_self, vf_zero]; rfl, hid (New.refl _)⟩
  case round =>
    obtain ⟨k, hk, rfl, rfl, aa⟩ := hrel
    rcases Nat.eq_zero_or_pos k with h0 | h0
    · subst h0
      have e : (fun i => f (0 + i)) = f := funext fun i => by rw [Nat.zero_add]
      rw [e, Nat.sub_zero, HV.out]
      have am := HN.out.trans aa.out
      have az := hid am
      clear am
      go_wp2_with fail
      go_ret2
      exact ⟨rfl, az⟩
    · obtain ⟨j, rfl⟩ : ∃ j, k = j + 1 := ⟨k - 1, by omega⟩
      have a5 : ((j + 1 : Nat) : Int) - 1 = (j : Int) := by omega
      rw [a5]
      have aq : (0 : Int) ≤ (j : Int) := by omega
      have a4 : decide ((0 : Int) ≤ (j : Int)) = true := decide_eq_true aq
      have a6 : (j : Int) < (n : Int) := by omega
      obtain ⟨b2, o2, rfl, hc⟩ := (HR.out.new aa.out) j (by omega)
      have ae := ay.out j (by omega)
      have ad := ax.out j (by omega)
      have ab : vf B9 (fun i => f (j + i)) (n - j) = vf B9 (fun i => f (j + 1 + i)) (n - (j + 1)) * B9 + f j := by
        rw [show n - j = n - (j + 1) + 1 by omega, vf_head]
        have e1 : (fun i => f (j + (i + 1))) = fun i => f (j + 1 + i) := funext fun i => by rw [show j + (i + 1) = j + 1 + i by omega]
        rw [e1, Nat.add_zero, Nat.mul_comm]
        omega
      obtain ⟨o, ho⟩ : ∃ o, vf B9 (fun i => f (j + 1 + i)) (n - (j + 1)) = o := ⟨_, rfl⟩
      obtain ⟨d, hd⟩ : ∃ d, f j = d := ⟨_, rfl⟩
      rw [ho, hd] at ab
      rw [hd] at hc ae
      rw [ho]
      have a8 : o < 1000000000 := by
        have h1 := ak.out
        rw [ab] at ad
        unfold B9 at ad
        omega
      obtain ⟨p, hp⟩ : ∃ p, o * B9 = p := ⟨_, rfl⟩
      obtain ⟨s, hs⟩ : ∃ s, p + d = s := ⟨_, rfl⟩
      have af : (o : Int) * 1000000000 = (p : Int) := by unfold B9 at hp; omega
      have ag : (p : Int) + (d : Int) = (s : Int) := by omega
      have av : vf B9 (fun i => f (j + i)) (n - j) = s := by rw [ab, hp, hs]
      have k1 : ¬ (9223372036 : Int) < (o : Int) := by omega
      have k2 : decide ((9223372036 : Int) < (o : Int)) = false := decide_eq_false k1
      have k3 : ¬ (o : Int) < -9223372036 := by omega
      have k4 : decide ((o : Int) < -9223372036) = false := decide_eq_false k3
      have k5 : ((o : Int) == 9223372036) = false := by first | (simp; done) | (simp; omega)
      have k6 : ((o : Int) == -9223372036) = false := by first | (simp; done) | (simp; omega)
      have k7 : (p : Int) < 1000000000000000000 := by unfold B9 at hp; omega
      have k8 : (s : Int) < 2000000000000000000 := by unfold B9 at ae; omega
      have al := BA.out.new aa.out
      clear ad ab ho hd hp hs ae a8
      have a2 := hid av
      have BB := hid al
      have K1 := hid k1
      have K2 := hid k2
      have K3 := hid k3
      have K4 := hid k4
      have K5 := hid k5
      have K6 := hid k6
      have K7 := hid k7
      have K8 := hid k8
      have a0 := hid af
      have a1 := hid ag
      clear av al k1 k2 k3 k4 k5 k6 k7 k8 af ag
      obtain ⟨p0, p1, p2, p3, p4⟩ := BB.out.two
      go_upto_region 11 with (fail)
      clear p0 p1 p2 p3 p4
      clear aq a4 a6 hc
      have k1 := K1.out
      have k2 := K2.out
      have k3 := K3.out
      have k4 := K4.out
      have k5 := K5.out
      have k6 := K6.out
      go_upto_region 13 with (fail)
      clear k1 k2 k3 k4 k5 k6
      have k7 := K7.out
      have k8 := K8.out
      have af := a0.out
      have ag := a1.out
      go_wp2_with fail
      go_roundw
      case rel => exact ⟨j, by omega, rfl, by rw [a2.out], aa⟩
      case measure => simp [RowKit.intOf] <;> omega
end Go.Proofs.YtnjonlnemagomaaGreatDoor
