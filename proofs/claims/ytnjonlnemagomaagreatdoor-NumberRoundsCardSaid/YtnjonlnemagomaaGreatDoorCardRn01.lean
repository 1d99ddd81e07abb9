/- Part CardRn01. -/
import Derived.OwnWalk
import Derived.Laws.AppendOwn
import Derived.Laws.AppendOwnNone
import Derived.Maps.AppendAt
import Derived.Deep.RegionHeld3
import Derived.Lib.ItoaMem
import Derived.Lib.LaidTab
import Derived.Test.YtnjonlnemagomaaGreatDoorProg
import Derived.Test.YtnjonlnemagomaaGreatDoorB15
namespace Go.Proofs.YtnjonlnemagomaaGreatDoor
open Go.RowKit Big Go.Lib Tryz
set_option maxRecDepth 100000
set_option maxHeartbeats 8000000
set_option linter.all false
theorem own_mono {w:World}{base base':Nat}{e:TypeId}{S:Nat}{v:Value}{n:Nat}{xs:List Value}(h:w.ownsRow base e S v n xs)(hb:base'≤base):w.ownsRow base' e S v n xs:=by
 refine ⟨h.1,?_⟩;rcases h.2 with h2 | ⟨g,aa,ab,h1,h2,h3⟩
 ·exact .inl h2
 ·exact .inr ⟨g,aa,ab,h1,Nat.le_trans hb h2,h3⟩
theorem noDig2 (w:World)(x y:Value)(t:TypeId)(hx:NotU x)(hy:NotU y):NoDig (w.alloc (.cells #[x,y] t)) w.heap.size:=
 noDig_alloc w _ t fun v hv=>by
  simp at hv;rcases hv with rfl | rfl <;> assumption
theorem noDig4 (w:World)(x y x' y':Value)(t:TypeId)(hx:NotU x)(hy:NotU y)(hx':NotU x')(hy':NotU y'):NoDig (w.alloc (.cells #[x,y,x',y'] t)) w.heap.size:=
 noDig_alloc w _ t fun v hv=>by
  simp at hv;rcases hv with rfl | rfl | rfl | rfl <;> assumption
def SmF (q:Rat):Prop:=Sm q.num∧Sm (q.den:Int)
theorem two_mono (a b:Nat)(h:a≤b):(2:Nat)^a≤2^b:=Nat.pow_le_pow_right (by decide) h
theorem Sm.bdk {z:Int}(h:Sm z):BdK 1800 z:=by
 obtain ⟨lo,hi⟩:=h;unfold BdK;exact Nat.lt_of_lt_of_le (show z.natAbs < 2^64 by omega) (two_mono 64 1800 (by decide))
theorem SmF.fb {q:Rat}(h:SmF q):FB 1800 q:=⟨h.1.bdk,h.2.bdk⟩
theorem BdK.sm {z:Int}(h:BdK 62 z):Sm z:=by
 unfold BdK at h
 have:(2:Nat)^62=4611686018427387904:=by decide
 rw[this]at h;constructor <;> omega
theorem FB.sm {q:Rat}(h:FB 62 q):SmF q:=⟨h.num.sm,h.den.sm⟩
structure NewX (B:Nat)(w w':World):Prop where
 a:w'.os=w.os
 b:w'.tape=w.tape
 c:w'.output=w.output
 size:w.heap.size≤w'.heap.size
 block:∀ j,j < w.heap.size→j≠B→w'.heap[j]?=w.heap[j]?
theorem NewX.refl (B:Nat)(w:World):NewX B w w:=⟨rfl,rfl,rfl,Nat.le_refl _,fun _ _ _=>rfl⟩
theorem NewX.trans {B:Nat}{w w' w'':World}(h:NewX B w w')(h':NewX B w' w''):NewX B w w'':=
 ⟨h'.a.trans h.a,h'.b.trans h.b,h'.c.trans h.c,Nat.le_trans h.size h'.size,fun j hj hB=>(h'.block j (Nat.lt_of_lt_of_le hj h.size) hB).trans (h.block j hj hB)⟩
theorem NewX.set (B:Nat)(w:World)(i:Nat)(u:Value):NewX B w (w.setCell ⟨B,i,none⟩ u):=by
 refine ⟨rfl,rfl,rfl,by simp,fun j _ hj=>?_⟩;show (w.heap.modify B _)[j]?=_;rw[Array.getElem?_modify,if_neg (by exact fun h=>hj h.symm)]
theorem NewX.alloc (B:Nat)(w:World)(o:Obj):NewX B w (w.alloc o):=by
 have h:New w (w.alloc o):=(New.refl w).alloc o;exact ⟨h.1,h.2,h.3,h.4,fun j hj _=>h.5 j hj⟩
theorem NewX.cell {B:Nat}{w w':World}(h:NewX B w w'){b o:Nat}{v:Value}(hc:w.cell? ⟨b,o,none⟩=some v)(hb:b≠B):w'.cell? ⟨b,o,none⟩=some v:=by
 rw[World.cell?_of_block (a:=⟨b,o,none⟩) (h.block b (lt_of_cell hc) hb)];exact hc
theorem rfromInt_calls (z:Int)(w:World)(lo: -9223372036854775808≤z)(hi:z≤9223372036854775807):Calls prog 135 #[.int .i64 z] w (RetS w (z:Rat)):=by
 have ab:=fun W=>rwhole_calls z W lo hi
 have hK:z.natAbs < B9^3:=by
  have:B9^3=1000000000000000000000000000:=by decide
  omega
 have aa:=fun W v (h:IsZ W v z)=>rtext_calls 3 v z W h (by omega) hK
 have hr:rs (z:Rat)=bs (itoa z):=by unfold rs;rw[ratText_int]
 clear lo hi hK;refine zh3 ?_ ab aa hr;clear ab aa hr;intro ad ac HR;go_in;go_wp2_with fail;refine zO (ad _) fun w1 b1 a1 l1 c1 hn hz=>?_;have HZ:=hid hz;have HN:=hid hn;clear hz hn;go_wp2_with fail;refine zM (ac _ _ HZ) fun w2 hn=>?_;replace HN:=tW HN hn;clear hn;go_wp2_with fail;go_ret;exact ⟨by rw[HR.out];rfl,HN.out⟩
theorem rrecip_calls (k:Nat)(q:Rat)(w:World)(hq:RFB k q)(hk:k≤40000)(h0:0 < q.num):Calls prog 143 #[.string (rs q)] w (RetS w q⁻¹):=by
 have hp:=fun W=>rparts_calls k q W hq hk;have aa:=fun W va vb (ha:IsZ W va (q.den:Int)) (hb:IsZ W vb q.num)=>rfraction_pos k va vb _ _ W ha hb (by omega) (pow_b9 (by simpa using hq.den) (Nat.le_refl _)) (pow_b9 hq.num (Nat.le_refl _)) h0;rw[←Rat.inv_def] at aa;obtain ⟨R,hR⟩:∃ R,q⁻¹=R:=⟨_,rfl⟩;obtain ⟨A,hA⟩:∃ A,rs q=A:=⟨_,rfl⟩;simp only[hA] at hp;simp only[hR] at aa;rw[hA,hR];clear hA hR hq hk h0;have af:=New.refl w;refine zh3 ?_ af hp aa;clear af hp aa;intro HN HP ag;go_in;go_wp2_with fail;refine (HP _).mono ?_;rintro e w1 ⟨v1,v2,rfl,hn,ad,ae⟩;obtain ⟨b1,a1,l1,c1,rfl⟩:=ad.shape;obtain ⟨b2,a2,l2,c2,rfl⟩:=ae.shape;have ab:=hid ad;have ac:=hid ae;clear ad ae;replace HN:=tW HN hn;clear hn;go_upto_region 2 with (fail);obtain ⟨BA,BB,hn⟩:=lay2 w1 124 #[.bool b1,.slice a1 l1 c1] 124 #[.bool b2,.slice a2 l2 c2];obtain ⟨HN,ab,ac⟩:=zn3 hn HN ab.new ac.new;clear hn;have pa:=BA.out.two;have pb:=BB.out.two;go_wp2_with fail;refine zM (ag _ _ _ ac ab) fun w2 hn=>?_;clear pa pb;replace HN:=tW HN hn;clear hn;go_wp2_with fail;go_ret;exact ⟨rfl,HN⟩
theorem half_parts:(Rat.divInt 1 2).num=1∧(Rat.divInt 1 2).den=2:=by
 have h:=divInt_parts (x:=1) (y:=2) (by decide);rw[h.1,h.2];decide
theorem half_eq:(1 / 2:Rat)=Rat.divInt 1 2:=by
 rw[Rat.div_def,Rat.inv_def,Rat.one_mul];rfl
theorem rs_half:rs (1 / 2)=⟨#[49,47,50]⟩:=by
 unfold rs
 have:ratText (1 / 2)=[49,47,50]:=by
  unfold ratText;rw[half_eq,half_parts.1,half_parts.2,if_neg (by decide),show (1:Int)=((1:Nat):Int) from rfl,Big.itoa_nonneg,decDigits_one',decDigits_small (by omega)];rfl
 rw[this];rfl
theorem rfb_half:RFB 2 (1 / 2):=⟨by rw[half_eq,half_parts.1];decide,by rw[half_eq,half_parts.2];decide⟩
theorem rhalf_calls (k:Nat)(x:Rat)(w:World)(hx:RFB k x)(hk:k+2≤40000):Calls prog 44 #[.string (rs x)] w (RetS w (x*(1 / 2))):=by
 have hm:=fun W=>rmulQ_calls k 2 x (1 / 2) W hx rfb_half hk;simp only[rs_half] at hm;obtain ⟨R,hR⟩:∃ R,x*(1 / 2)=R:=⟨_,rfl⟩;obtain ⟨A,hA⟩:∃ A,rs x=A:=⟨_,rfl⟩;simp only[hA,hR] at hm;rw[hA,hR];clear hA hR hx hk;replace hm:=hid hm;go_in;go_wp2_with fail;refine zM (hm _) fun w2 hn=>?_;replace hn:=hid hn;go_wp2_with fail;go_ret;exact ⟨rfl,hn⟩
theorem rs_int (z:Int):rs (z:Rat)=bs (itoa z):=by unfold rs;rw[ratText_int]
theorem rat_pow_add (a:Rat)(m:Nat):∀ n,a^m*a^n=a^(m+n)
 | 0=>by rw[Rat.pow_zero,Rat.mul_one,Nat.add_zero]
 | n+1=>by rw[Rat.pow_succ,←Rat.mul_assoc,rat_pow_add a m n,←Nat.add_assoc,Rat.pow_succ]
theorem rs_one:rs 1=⟨#[49]⟩:=by
 rw[show (1:Rat)=((1:Int):Rat) from rfl,rs_int,show (1:Int)=((1:Nat):Int) from rfl,Big.itoa_nonneg,decDigits_one'];rfl
theorem RFB.pow {j:Nat}{a:Rat}(h:RFB j a):∀ e:Nat,RFB (j*e+1) (a^e)
 | 0=>by rw[Rat.pow_zero];exact ⟨by show (1:Int).natAbs < 2^(j*0+1);simp,by show (1:Nat) < 2^(j*0+1);simp⟩
 | e+1=>by
  rw[Rat.pow_succ];have:=(RFB.pow h e).mul h;refine this.mono ?_;rw[Nat.mul_add];omega
theorem rpow_nat (j k0:Nat)(a:Rat)(w:World)(ha:RFB j a)(hb:j*(4*k0+4)+2≤40000)(hk0:k0≤40000):Calls prog 136 #[.string (rs a),.int .i64 (k0:Int)] w (RetS w (a^k0)):=by
 have aa:=fun (eo ea:Nat) (h1:eo≤k0) (h2:ea≤2*k0+1) W=>rmulQ_calls (j*eo+1) (j*ea+1) (a^eo) (a^ea) W (ha.pow eo) (ha.pow ea) (by
  have e1:j*eo≤j*k0:=Nat.mul_le_mul_left _ h1;have e2:j*ea≤j*(2*k0+1):=Nat.mul_le_mul_left _ h2;rw[Nat.mul_add] at e2;rw[Nat.mul_add] at hb;have e3:j*(4*k0)=4*(j*k0):=Nat.mul_left_comm _ _ _;have e4:j*(2*k0)=2*(j*k0):=Nat.mul_left_comm _ _ _
  omega)
 have ad:=fun (ea:Nat) (h2:ea≤k0) W=>rmulQ_calls (j*ea+1) (j*ea+1) (a^ea) (a^ea) W (ha.pow ea) (ha.pow ea) (by
  have e2:j*ea≤j*k0:=Nat.mul_le_mul_left _ h2;rw[Nat.mul_add] at hb;have e3:j*(4*k0)=4*(j*k0):=Nat.mul_left_comm _ _ _
  omega)
 have ah:∀ m n,a^m*a^n=a^(m+n):=fun m n=>rat_pow_add a m n;simp only[ah] at aa ad
 have h1:rs (a^0)=⟨#[49]⟩:=by rw[Rat.pow_zero,rs_one]
 have h2:rs (a^1)=rs a:=by rw[show a^1=a^0*a from Rat.pow_succ a 0,Rat.pow_zero,Rat.one_mul]
 obtain ⟨F,hF⟩:∃ F:Nat→ByteArray,(fun e=>rs (a^e))=F:=⟨_,rfl⟩
 have ac:∀ e,rs (a^e)=F e:=fun e=>by rw[←hF]
 have ai:∀ W W',New W W'→RetS W (a^k0) (.returned (.string (F k0))) W':=fun W W' h=>⟨by rw[ac],h⟩;simp only[ac] at aa ad;have aa:=fun eo ea h1 h2 W=>(aa eo ea h1 h2 W).mono fun e w' h=>RetS.to (ac _) h;have ad:=fun ea h2 W=>(ad ea h2 W).mono fun e w' h=>RetS.to (ac _) h;rw[ac] at h1 h2;rw[←h2]
 have aj:¬(k0:Int) < 0:=by omega
 have aq:decide ((k0:Int) < 0)=false:=decide_eq_false aj;clear hF ac h2 ha hb ah;refine zh4 ?_ aa ad h1 ai;clear aa ad h1 ai;intro ao au H1 an;go_in;go_wp2_with fail;clear aj aq;go_loopw [0,1,5] (fun sa sk so wr=>∃ (ea kk eo:Nat),sa=.string (F ea)∧sk=.int .i64 (kk:Int)∧so=.string (F eo)∧Hid (eo+kk*ea=k0)∧Hid (ea≤2*k0+1)∧kk≤40000∧Hid (New w wr)) (fun _ sk _ _=>(RowKit.intOf sk).toNat)
 case atStart=>exact ⟨1,k0,0,rfl,rfl,by rw[H1.out],hid (by omega),hid (by omega),hk0,hid (New.refl _)⟩
 case round=>
  clear hk0;obtain ⟨ea,kk,eo,rfl,rfl,rfl,HE,HA,a3,HN⟩:=hrel;rcases Nat.eq_zero_or_pos kk with h0 | h0
  ·subst h0;have he:=HE.out;rw[Nat.zero_mul,Nat.add_zero] at he;subst he;go_wp2_with fail;go_ret;exact an _ _ HN
  ·have aw:ea≤kk*ea:=Nat.le_mul_of_pos_left ea h0
   have ap:ea≤k0:=by have:=HE.out;omega
   have ar:eo≤k0:=by have:=HE.out;omega
   have hm:=ao.out eo ea ar (by omega);have hs:=au.out ea ap
   have av:(0:Int) < (kk:Int):=by omega
   have a2:decide ((0:Int) < (kk:Int))=true:=decide_eq_true av;obtain ⟨d1,d2,d3,d4⟩:=divd kk 2;obtain ⟨q,hq⟩:∃ q,kk / 2=q:=⟨_,rfl⟩;obtain ⟨r,hr⟩:∃ r,kk % 2=r:=⟨_,rfl⟩;rw[hq] at d1 d2;rw[hr] at d3 d4;have ay:(kk:Int) / 2=(q:Int):=d1;have az:Int.tdiv (kk:Int) 2=(q:Int):=d2;have a0:Int.tmod (kk:Int) 2=(r:Int):=d3;have a1:(kk:Int) % 2=(r:Int):=d4
   have ag:q < kk:=by omega
   have a4:(q:Int)≤40000:=by omega
   have ab:kk=2*q+r:=by omega
   have ax:r=0∨r=1:=by omega
   have af:ea+ea≤2*k0+1:=by omega
   clear d1 d2 d3 d4 hq hr aw ap ar h0;rcases ax with hr | hr
   ·subst hr
    have ae:eo+q*(ea+ea)=k0:=by
     rw[←HE.out,ab,Nat.add_zero,Nat.mul_comm 2,Nat.mul_assoc,Nat.two_mul]
    have a5:(((0:Nat):Int)==1)=false:=rfl;clear ab HA;refine zh5 ?_ hm hs ae af ag;clear hm hs ae af ag;intro HM HS al ak am;go_wp2_with fail;refine zM (HS _) fun w2 hn=>?_;replace HN:=tW HN hn;clear hn;go_wp2_with fail;go_roundw
    case rel=>exact ⟨ea+ea,q,eo,rfl,rfl,rfl,al,ak,by omega,HN⟩
    case measure=>simp[RowKit.intOf];exact am.out
   ·subst hr
    have ae:eo+ea+q*(ea+ea)=k0:=by
     rw[←HE.out,ab,Nat.add_mul,Nat.mul_comm 2,Nat.mul_assoc,Nat.two_mul];omega
    clear ab HA;refine zh5 ?_ hm hs ae af ag;clear hm hs ae af ag;intro HM HS al ak am;go_wp2_with fail;refine zM (HM _) fun w2 hn=>?_;replace HN:=tW HN hn;clear hn;go_wp2_with fail;refine zM (HS _) fun w2 hn=>?_;replace HN:=tW HN hn;clear hn;go_wp2_with fail;go_roundw
    case rel=>exact ⟨ea+ea,q,eo+ea,rfl,rfl,rfl,al,ak,by omega,HN⟩
    case measure=>simp[RowKit.intOf];exact am.out
theorem rpow_neg (j k0:Nat)(a:Rat)(w:World)(ha:RFB j a)(h0:0 < a.num)(hb:j*(4*k0+4)+2≤40000)(hk0:k0≤40000)(hk:0 < k0):Calls prog 136 #[.string (rs a),.int .i64 (-(k0:Int))] w (RetS w (a⁻¹^k0)):=by
 have hj:j≤40000:=by
  have:j*4≤j*(4*k0+4):=Nat.mul_le_mul_left _ (by omega);omega
 have hr:=fun W=>rrecip_calls j a W ha hj h0;have hp:=fun W=>rpow_nat j k0 a⁻¹ W (ha.inv (by omega)) hb hk0;obtain ⟨A,hA⟩:∃ A,rs a=A:=⟨_,rfl⟩;obtain ⟨B,hB⟩:∃ B,rs a⁻¹=B:=⟨_,rfl⟩;obtain ⟨R,hR⟩:∃ R,a⁻¹^k0=R:=⟨_,rfl⟩;simp only[hA] at hr;have hr:=fun W=>(hr W).mono fun e w' h=>RetS.to hB h;simp only[hB,hR] at hp;rw[hA,hR]
 have aa: -(k0:Int) < 0:=by omega
 have ab:decide (-(k0:Int) < 0)=true:=decide_eq_true aa
 have ac:(k0:Int)≤40000:=by omega
 clear hA hB hR ha h0 hb hk0 hk hj;replace hr:=hid hr;replace hp:=hid hp;go_in;go_wp2_with fail;refine zM (hr _) fun w1 hn=>?_;have HN:=hid hn;clear hn;go_wp2_with fail;refine zM (hp _) fun w2 hn=>?_;replace HN:=tW HN hn;clear hn;go_wp2_with fail;go_ret;exact ⟨rfl,HN⟩
end Go.Proofs.YtnjonlnemagomaaGreatDoor
