/- Part CardQn08. -/
import Derived.Test.YtnjonlnemagomaaGreatDoorCardQn07
namespace Go.Proofs.YtnjonlnemagomaaGreatDoor
open Go.RowKit Big Go.Lib Go.Proofs.Tryz
set_option maxRecDepth 100000
set_option maxHeartbeats 8000000
set_option linter.all false
theorem fbs_len {x:Rat}{k:Nat}(h:FB k x)(hk:k≤1800):(rs x).size≤100000:=by have:=(RFB.of h).len;omega
theorem root_all (q:Rat)(hb:FB 250 q)(h0:0≤q.num):∃ L H:Rat,SqRes q L H∧FB 600 L∧FB 600 H∧∀ W,Env W→Calls prog 31 #[.string (rs q)] W (SpPost W (rs L) (rs H) 0):=by
 obtain ⟨n,hn⟩:=isRt_exZ h0;obtain ⟨d,hd⟩:=isRt_exZ (show (0:Int)≤q.den by omega);have ab:=hb.fitsN (by omega);have hl:=fbs_len hb (by omega);have hq:=q.den_pos;by_cases he:n*n=q.num∧d*d=q.den
 ·have d0:0 < d:=by
   rcases Int.lt_or_le 0 d with h | h
   ·exact h
   ·have e:d=0:=by have:=hd.1;omega
    have:=he.2;rw[e] at this;simp at this;omega
  have ac:FB 600 (Rat.divInt n d):=by
   have k1:=rt_bd hn (hb.num.mono (show 250≤600 by omega));have k2:=rt_bd hd (hb.den.mono (show 250≤600 by omega));exact FB.divInt k1 k2 (by omega)
  exact ⟨_,_,sqRes_exact hn.1 d0 he.1 he.2,ac,ac,fun W hW=>nroot_exact (rs q) q n d (rs_list _) ab (hb.mono (by omega)) hl hn.1 d0 he.1 he.2 W hW⟩
 ·have ad:0≤(q*((1000000:Int):Rat)).floor:=by
   rw[Rat.le_floor_iff];have h1:0≤q:=Rat.num_nonneg.1 h0
   have h2:(0:Rat)≤((1000000:Int):Rat):=by rw[show (0:Rat)=((0:Int):Rat) from rfl];exact Rat.intCast_le_intCast.2 (by decide)
   exact Rat.mul_nonneg h1 h2
  obtain ⟨m,hm⟩:=isRt_exZ ad;have kq:FB 21 ((1000000:Int):Rat):=FB.int (by unfold BdK;decide) (by omega);have kp:=hb.mul kq
  have kf:BdK 272 (q*((1000000:Int):Rat)).floor:=by have:=(floor_fb kp (by omega)).num;rwa [Rat.num_intCast] at this
  have km:=rt_bd hm kf
  have aa:BdK 10 1000:=by unfold BdK;decide
  have ae:BdK 273 (m+1):=km.add ((show BdK 10 1 by unfold BdK;decide).mono (by omega));exact ⟨_,_,sqRes_near hm.1 hm.2.1 hm.2.2,(FB.divInt km (aa.mono (by omega)) (by omega)).mono (by omega),(FB.divInt ae (aa.mono (by omega)) (by omega)).mono (by omega),fun W hW=>nroot_near (rs q) q n d m (rs_list _) ab (hb.mono (by omega)) hl h0 hn hd he hm W hW⟩
theorem sq_natAbs (z:Int):(z.natAbs:Int)*(z.natAbs:Int)=z*z:=by
 rcases Int.lt_or_le z 0 with h | h
 ·have:(z.natAbs:Int)= -z:=by omega
  rw[this,Int.neg_mul_neg]
 ·have:(z.natAbs:Int)=z:=by omega
  rw[this]
theorem sq_parts (b:Rat):(b*b).num=b.num*b.num∧((b*b).den:Int)=(b.den:Int)*(b.den:Int):=by
 have hc:Nat.gcd (b.num*b.num).natAbs (b.den*b.den)=1:=by
  rw[Int.natAbs_mul];exact Nat.Coprime.mul_left (Nat.Coprime.mul_right b.reduced b.reduced) (Nat.Coprime.mul_right b.reduced b.reduced)
 have hd:=b.den_pos;have hp:=Nat.mul_pos hd hd;have h1:=divInt_parts (x:=b.num*b.num) (y:=((b.den*b.den:Nat):Int)) (by omega);rw[Int.natAbs_natCast,hc,Nat.div_one,Nat.div_one] at h1
 have e:b*b=Rat.divInt (b.num*b.num) ((b.den*b.den:Nat):Int):=by
  rw[rmul_divInt];push_cast;rfl
 have h3:(0:Int)≤b.num*b.num:=by rw[←sq_natAbs];exact Int.mul_nonneg (by omega) (by omega)
 rw[←e]at h1;refine ⟨?_,by rw[h1.2];push_cast;rfl⟩;rw[h1.1];unfold sgnd;rw[if_neg (by simp;omega)];omega
theorem root_square (b:Rat)(hb:FB 250 b)(W:World)(hW:Env W):Calls prog 31 #[.string (rs (b*b))] W (SpPost W (rs (absQ b)) (rs (absQ b)) 0):=by
 have k:=hb.mul hb
 have e0:(b*b).num=(b.num.natAbs:Int)*(b.num.natAbs:Int)∧((b*b).den:Int)=(b.den:Int)*(b.den:Int):=by
  obtain ⟨h1,h2⟩:=sq_parts b;exact ⟨by rw[h1,sq_natAbs],h2⟩
 have ea:Rat.divInt (b.num.natAbs:Int) (b.den:Int)=absQ b:=by
  unfold absQ;by_cases h:b.num < 0
  ·rw[if_pos h]
   have h2:(b.num.natAbs:Int)= -b.num:=by omega
   rw[h2,←Rat.neg_divInt,Rat.num_divInt_den]
  ·rw[if_neg h]
   have h2:(b.num.natAbs:Int)=b.num:=by omega
   rw[h2,Rat.num_divInt_den]
 have h:=nroot_exact (rs (b*b)) (b*b) (b.num.natAbs:Int) (b.den:Int) (rs_list _) (k.fitsN (by omega)) (k.mono (by omega)) (fbs_len k (by omega)) (by omega) (by have:=b.den_pos;omega) e0.1.symm e0.2.symm W hW
 rwa [ea] at h
theorem fbl_of_len {q:Rat}{n k:Nat}(h:(ratText q).length≤n)(hk:4*n≤k)(hk1:1≤k):FB k q:=by
 have ab:∀ m,10^m≤2^(4*m):=fun m=>by
  rw[Nat.pow_mul];exact Nat.pow_le_pow_left (by decide) m
 have aa:∀ m,m≤n→10^m≤2^k:=fun m hm=>Nat.le_trans (ab m) (Nat.pow_le_pow_right (by omega) (by omega))
 have dl:∀ u:Nat,(decDigits u).length≤n→u < 2^k:=fun u hu=>by
  have h0:u < 10^(decDigits u).length:=by
   rw[decDigits_length];exact (nDigits_le_iff (k:=nDigits u) (by rw[←decDigits_length];exact List.length_pos_iff.2 (decDigits_ne_nil u))).1 (Nat.le_refl _)
  exact Nat.lt_of_lt_of_le h0 (aa _ hu)
 have il:(decDigits q.num.natAbs).length≤(itoa q.num).length:=by
  rcases Int.lt_or_le q.num 0 with hz | hz
  ·rw[show q.num= -(q.num.natAbs:Int) by omega,Big.itoa_neg (by omega)];simp
  ·rw[show q.num=(q.num.natAbs:Int) by omega,Big.itoa_nonneg];simp
 unfold ratText at h;split at h
 ·rename_i hd;exact ⟨dl _ (by omega),by unfold BdK;rw[hd];exact Nat.one_lt_two_pow (by omega)⟩
 ·rw[List.length_append,List.length_cons] at h;exact ⟨dl _ (by omega),by unfold BdK;rw[Int.natAbs_natCast];exact dl _ (by omega)⟩
theorem short_num {s:ByteArray}{n:Nat}(hl:s.size≤n)(he:ratErr s.data.toList=0)(h1:1≤n):∃ q:Rat,s=rs q∧FB (4*n) q:=by
 obtain ⟨q,hf,hq⟩:=ratText_of_err he;refine ⟨q,?_,fbl_of_len (n:=n) ?_ (Nat.le_refl _) (by omega)⟩
 ·apply ByteArray.ext;apply Array.toList_inj.1;rw[hq,rs_list]
 ·rw[←hq,Array.length_toList];exact hl
def FewP30 (v:ByteArray)(w:World)(e:Ending)(w':World):Prop:=(∃ t:Bool,e=.returned (.bool t)∧(t=true→v.size≤62∧ratErr v.data.toList=0))∧New w w'
theorem rfew30_calls (v:ByteArray)(w:World)(hl:(v.size:Int)≤9223372036854775807):Calls prog 30 #[.string v,.int .i64 30] w (FewP30 v w):=by
 by_cases h1:v.size≤62
 ·have ac:(v.size:Int)≤62:=by omega
  have al:decide ((v.size:Int)≤62)=true:=decide_eq_true ac;have aa:=fun W=>rcheck_calls v W (by omega);have HS:=hid h1;obtain ⟨r,hr⟩:∃ r,ratErr v.data.toList=r:=⟨_,rfl⟩;simp only[hr] at aa;by_cases h0:r=0
  ·subst h0;obtain ⟨q,hf,hv⟩:=ratText_of_err hr
   have ag:v=rs q:=by
    apply ByteArray.ext;apply Array.toList_inj.1;rw[hv,rs_list]
   have hb:RFB 2000 q:=RFB.of (Fits.fb hf);have ab:RFB 2000 ((q.num:Int):Rat):=rfb_int hb.num (by omega);have ae:=fun W=>(rnum_calls 2000 q W hb (by omega)).mono fun e w' h=>RetS.to rfl h;have ad:=fun W=>(rabs_calls ((q.num:Int):Rat) W (by have:=ab.len;omega)).mono fun e w' h=>RetS.to rfl h;have af:=fun W=>rden_calls v W (by omega);obtain ⟨B,hB⟩:∃ B,rs ((q.num:Int):Rat)=B:=⟨_,rfl⟩;obtain ⟨D,hD⟩:∃ B,rs (absQ ((q.num:Int):Rat))=B:=⟨_,rfl⟩
   have an:D.size≤10000:=by
    rw[←hD]
    have:RFB 2000 (absQ ((q.num:Int):Rat)):=by
     unfold absQ;split
     ·exact ab.neg
     ·exact ab
    have:=this.len;omega
   have ap:(D.size:Int)≤10000:=by omega
   simp only[←ag,hB]at ae;simp only[hB,hD] at ad;clear hB hD hb ab ag hf hv an h1;refine zh6 ?_ (New.refl w) aa ae ad af hr;clear aa ae ad af hr;intro HN ai ak ah aj HR;go_in;go_wp2_with fail;refine zM (ai _) fun w1 hn=>?_;replace HN:=tW HN hn;clear hn;go_wp2_with fail;refine zM (ak _) fun w2 hn=>?_;replace HN:=tW HN hn;clear hn;go_wp2_with fail;refine zM (ah _) fun w3 hn=>?_;replace HN:=tW HN hn;clear hn;by_cases h2:(D.size:Int)≤30
   ·have am:decide ((D.size:Int)≤30)=true:=decide_eq_true h2;go_wp2_with fail;refine (aj _).mono ?_;rintro e w4 ⟨⟨d,hd,rfl⟩,hn⟩
    have aq:(d.size:Int)≤1000000:=by omega
    clear hd;replace HN:=tW HN hn;clear hn;go_wp2_with fail;go_ret;exact ⟨⟨_,rfl,fun _=>⟨HS,HR⟩⟩,HN⟩
   ·have am:decide ((D.size:Int)≤30)=false:=decide_eq_false h2;go_wp2_with fail;go_ret;exact ⟨⟨_,rfl,fun h=>by cases h⟩,HN⟩
  ·have ao:(r==0)=false:=beq_false_of_ne h0;have HN:=hid (New.refl w);clear hr h0 h1;replace aa:=hid aa;go_in;go_wp2_with fail;refine zM (aa _) fun w1 hn=>?_;replace HN:=tW HN hn;clear hn;go_wp2_with fail;go_ret;exact ⟨⟨_,rfl,fun h=>by cases h⟩,HN⟩
 ·have ac:¬(v.size:Int)≤62:=by omega
  have al:decide ((v.size:Int)≤62)=false:=decide_eq_false ac;clear h1;go_in;go_wp2_with fail;go_ret;exact ⟨⟨_,rfl,fun h=>by cases h⟩,New.refl _⟩
end Go.Proofs.YtnjonlnemagomaaGreatDoor
