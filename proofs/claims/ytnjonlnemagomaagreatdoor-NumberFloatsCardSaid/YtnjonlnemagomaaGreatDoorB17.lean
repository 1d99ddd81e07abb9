/- Part B17. -/
import Ieee.Arith
import Derived.Test.YtnjonlnemagomaaGreatDoorB01
namespace Go.Proofs.YtnjonlnemagomaaGreatDoor.Flo
set_option maxRecDepth 100000
set_option maxHeartbeats 8000000
set_option linter.all false
open Ieee
variable (f:Format)
theorem binade_pos:0 < f.binade:=Nat.two_pow_pos _
theorem signWeight_pos:0 < f.signWeight:=Nat.two_pow_pos _
def V (r:Nat):Nat:=if r < f.binade then r else (f.binade+r % f.binade)*2^(r / f.binade - 1)
theorem V_zero:V f 0=0:=by unfold V;rw[if_pos (binade_pos f)]
theorem V_succ (r:Nat):V f r < V f (r+1):=by
 have hb:=binade_pos f;unfold V;generalize f.binade=b at hb;by_cases h1:r+1 < b
 ·rw[if_pos h1,if_pos (by omega)];omega
 ·rw[if_neg h1];by_cases h2:r < b
  ·rw[if_pos h2]
   have:r+1=b:=by omega
   rw[this,Nat.mod_self,Nat.div_self hb];simp;omega
  ·rw[if_neg h2];obtain ⟨q,m,hm,hr⟩:∃ q m,m < b∧r=b*q+m:=⟨r / b,r % b,Nat.mod_lt _ hb,(Nat.div_add_mod r b).symm⟩;subst hr
   have hq:0 < q:=by
    rcases Nat.eq_zero_or_pos q with h | h
    ·subst h;omega
    ·exact h
   have e1:(b*q+m) % b=m:=by rw[Nat.mul_add_mod,Nat.mod_eq_of_lt hm]
   have e2:(b*q+m) / b=q:=by rw[Nat.mul_add_div hb,Nat.div_eq_of_lt hm];omega
   rw[e1,e2];by_cases h3:m+1 < b
   ·have e3:(b*q+m+1) % b=m+1:=by rw[Nat.add_assoc,Nat.mul_add_mod,Nat.mod_eq_of_lt h3]
    have e4:(b*q+m+1) / b=q:=by rw[Nat.add_assoc,Nat.mul_add_div hb,Nat.div_eq_of_lt h3];omega
    rw[e3,e4];exact Nat.mul_lt_mul_of_pos_right (by omega) (Nat.two_pow_pos _)
   ·have aa:m+1=b:=by omega
    have e5:b*q+m+1=b*(q+1):=by rw[Nat.add_assoc,aa,Nat.mul_add,Nat.mul_one]
    rw[e5,Nat.mul_mod_right,Nat.mul_div_cancel_left _ hb]
    have e6:q+1 - 1=(q - 1)+1:=by omega
    rw[e6,Nat.pow_succ,Nat.add_zero,Nat.mul_comm (2^(q - 1)) 2,←Nat.mul_assoc];exact Nat.mul_lt_mul_of_pos_right (by omega) (Nat.two_pow_pos _)
theorem V_lt {r r':Nat}(h:r < r'):V f r < V f r':=by
 induction h with
 | refl=>exact V_succ f r
 | step _ ih=>exact Nat.lt_trans ih (V_succ f _)
theorem V_inj {r r':Nat}(h:V f r=V f r'):r=r':=by
 rcases Nat.lt_trichotomy r r' with h1 | h1 | h1
 ·have:=V_lt f h1;omega
 ·exact h1
 ·have:=V_lt f h1;omega
theorem V_le {r r':Nat}(h:r≤r'):V f r≤V f r':=by
 rcases Nat.lt_or_eq_of_le h with h1 | h1
 ·exact Nat.le_of_lt (V_lt f h1)
 ·rw[h1];exact Nat.le_refl _
def sgn (x:Nat):Bool:=x / f.signWeight % 2==1
def rung (x:Nat):Nat:=x % f.signWeight
def Fin (x:Nat):Prop:=rung f x < f.infRung
instance (x:Nat):Decidable (Fin f x):=by unfold Fin;infer_instance
def sval (x:Nat):Int:=if sgn f x then -(V f (rung f x):Int) else V f (rung f x)
theorem read_fin {x:Nat}(h:Fin f x):∃ (m:Nat) (k:Nat),f.read x=.number (sgn f x) m (f.leastPlace+k)∧m*2^k=V f (rung f x):=by
 unfold Fin rung at h;unfold Format.read V sgn rung;simp only;by_cases h1:x % f.signWeight < f.binade
 ·rw[if_pos h1,if_pos h1];exact ⟨x % f.signWeight,0,by simp,by simp⟩
 ·rw[if_neg h1,if_neg h1,if_pos h];exact ⟨_,_,rfl,rfl⟩
theorem compare_int (a b:Int):compare a b=if a < b then Ordering.lt else if a=b then .eq else .gt:=rfl
theorem compare_scale (a b:Int)(k:Nat):compare (a*2^k) (b*2^k)=compare a b:=by
 have hp:(0:Int) < 2^k:=Int.pow_pos (by decide);rw[compare_int,compare_int];have h1:a*2^k < b*2^k ↔ a < b:=⟨fun h=>Int.lt_of_mul_lt_mul_right h (Int.le_of_lt hp),fun h=>Int.mul_lt_mul_of_pos_right h hp⟩;have h2:a*2^k=b*2^k ↔ a=b:=⟨fun h=>Int.eq_of_mul_eq_mul_right (Int.ne_of_gt hp) h,fun h=>by rw[h]⟩;simp only[h1,h2]
theorem signed_scale (s:Bool)(m i k:Nat):signed s m i*2^k=signed s m (i+k):=by
 unfold signed
 have:((m <<< i:Nat):Int)*2^k=((m <<< (i+k):Nat):Int):=by
  rw[Nat.shiftLeft_eq,Nat.shiftLeft_eq,Nat.pow_add,←Nat.mul_assoc];simp[Int.natCast_mul,Int.natCast_pow]
 cases s
 ·simpa using this
 ·simp only[if_true,Int.neg_mul,this]
theorem signed_val (s:Bool)(m k:Nat):signed s m k=if s then -((m*2^k:Nat):Int) else ((m*2^k:Nat):Int):=by
 unfold signed;rw[Nat.shiftLeft_eq]
theorem order_fin {x y:Nat}(hx:Fin f x)(hy:Fin f y):f.order x y=some (compare (sval f x) (sval f y)):=by
 obtain ⟨m,i,h1,h2⟩:=read_fin f hx;obtain ⟨n,j,h3,h4⟩:=read_fin f hy;unfold Format.order;rw[h1,h3];show some (compare (signed _ m (f.leastPlace+i - min (f.leastPlace+i) (f.leastPlace+j)).toNat) (signed _ n (f.leastPlace+j - min (f.leastPlace+i) (f.leastPlace+j)).toNat))=_
 have e1:(f.leastPlace+(i:Int) - min (f.leastPlace+i) (f.leastPlace+j)).toNat=i - min i j:=by omega
 have e2:(f.leastPlace+(j:Int) - min (f.leastPlace+i) (f.leastPlace+j)).toNat=j - min i j:=by omega
 rw[e1,e2,←compare_scale _ _ (min i j),signed_scale,signed_scale,show i - min i j+min i j=i by omega,show j - min i j+min i j=j by omega,signed_val,signed_val,h2,h4];rfl
theorem cut_zero (neg:Bool)(n:Nat):Toward.even.cut neg n 0=n:=by
 unfold Toward.cut;simp[Nat.mod_one]
theorem log2_mul_pow {m:Nat}(h:m≠0)(k:Nat):(m*2^k).log2=m.log2+k:=by
 have h1:=(Nat.le_log2 h).1 (Nat.le_refl _);have h2:m < 2^(m.log2+1):=Nat.lt_log2_self;have hk:m*2^k≠0:=Nat.mul_ne_zero h (Nat.ne_of_gt (Nat.two_pow_pos _));apply Nat.le_antisymm
 ·have:m*2^k < 2^(m.log2+1+k):=by
   rw[Nat.pow_add];exact Nat.mul_lt_mul_of_pos_right h2 (Nat.two_pow_pos _)
  have:=(Nat.log2_lt hk).2 this;omega
 ·refine (Nat.le_log2 hk).2 ?_;rw[Nat.pow_add];exact Nat.mul_le_mul_right _ h1
theorem nearest_exact (neg:Bool){m:Nat}{p:Int}(hm:m≠0)(hl:m.log2≤f.fractionBits)(hp:f.leastPlace≤p+m.log2 - f.fractionBits):
  f.nearest neg m p=f.word neg (min ((p+m.log2 - f.fractionBits - f.leastPlace).toNat*f.binade+m*2^(f.fractionBits - m.log2)) f.infRung):=by
 unfold Format.nearest;rw[if_neg hm];simp only
 have e1:max (p+(m.log2:Int) - f.fractionBits) f.leastPlace=p+m.log2 - f.fractionBits:=by omega
 rw[e1]
 have e2:(p+(m.log2:Int) - f.fractionBits - p).toNat=0:=by omega
 have e3:(p - (p+(m.log2:Int) - f.fractionBits)).toNat=f.fractionBits - m.log2:=by omega
 rw[e2,e3,cut_zero,Nat.shiftLeft_eq]
theorem nearest_scale (neg:Bool){m:Nat}{p:Int}(k:Nat)(hm:m≠0)(hl:m.log2≤f.fractionBits)(hp:f.leastPlace≤p+m.log2 - f.fractionBits):f.nearest neg (m*2^k) (p - k)=f.nearest neg m p:=by
 rw[nearest_exact f neg hm hl hp];unfold Format.nearest;have ac:m*2^k≠0:=Nat.mul_ne_zero hm (Nat.ne_of_gt (Nat.two_pow_pos _));rw[if_neg ac];simp only;rw[log2_mul_pow hm]
 have e1:max (p - (k:Int)+((m.log2+k:Nat):Int) - f.fractionBits) f.leastPlace=p+m.log2 - f.fractionBits:=by omega
 rw[e1];generalize hd:f.fractionBits - m.log2=d
 have e2:(p+(m.log2:Int) - f.fractionBits - (p - k)).toNat=k - d:=by omega
 have e3:(p - k - (p+(m.log2:Int) - f.fractionBits)).toNat=d - k:=by omega
 rw[e2,e3];congr 3;rcases Nat.le_total k d with h | h
 ·rw[Nat.sub_eq_zero_of_le h,cut_zero,Nat.shiftLeft_eq,Nat.mul_assoc,←Nat.pow_add,Nat.add_sub_cancel' h]
 ·rw[Nat.sub_eq_zero_of_le h,Nat.shiftLeft_eq,Nat.pow_zero,Nat.mul_one];unfold Toward.cut
  have aa:k - d≤(m*2^k).log2+2:=by rw[log2_mul_pow hm];omega
  simp only;rw[Nat.min_eq_left aa,Nat.shiftLeft_eq,Nat.one_mul]
  have e4:m*2^k=m*2^d*2^(k - d):=by rw[Nat.mul_assoc,←Nat.pow_add,Nat.add_sub_cancel' h]
  have ab:=Nat.two_pow_pos (k - d);rw[e4,Nat.mul_div_cancel _ ab,Nat.mul_mod_left]
  have e5:decide (2^(k - d) < 2*0)=false:=by simp
  have e6:(2^(k - d)==2*0)=false:=by simp
  rw[e5,e6];rfl
def erung (m:Nat)(p:Int):Nat:=(p+m.log2 - f.fractionBits - f.leastPlace).toNat*f.binade+m*2^(f.fractionBits - m.log2)
theorem full_digits {m:Nat}(hm:m≠0)(hl:m.log2≤f.fractionBits):f.binade≤m*2^(f.fractionBits - m.log2)∧m*2^(f.fractionBits - m.log2) < 2*f.binade:=by
 have h1:=(Nat.le_log2 hm).1 (Nat.le_refl _);have h2:m < 2^(m.log2+1):=Nat.lt_log2_self;have hp:=Nat.two_pow_pos (f.fractionBits - m.log2);unfold Format.binade
 have e:2^f.fractionBits=2^m.log2*2^(f.fractionBits - m.log2):=by rw[←Nat.pow_add,Nat.add_sub_cancel' hl]
 constructor
 ·rw[e];exact Nat.mul_le_mul_right _ h1
 ·have:m*2^(f.fractionBits - m.log2) < 2^(m.log2+1)*2^(f.fractionBits - m.log2):=Nat.mul_lt_mul_of_pos_right h2 hp;rw[e];rw[Nat.pow_succ,Nat.mul_comm (2^m.log2) 2,Nat.mul_assoc] at this;exact this
theorem V_erung {m:Nat}{p:Int}(hm:m≠0)(hl:m.log2≤f.fractionBits)(hp:f.leastPlace≤p+m.log2 - f.fractionBits):V f (erung f m p)=m*2^(f.fractionBits - m.log2)*2^(p+m.log2 - f.fractionBits - f.leastPlace).toNat:=by
 obtain ⟨h1,h2⟩:=full_digits f hm hl;have hb:=binade_pos f;unfold erung V;generalize (p+(m.log2:Int) - f.fractionBits - f.leastPlace).toNat=q;generalize hM:m*2^(f.fractionBits - m.log2)=M at h1 h2⊢;generalize f.binade=b at h1 h2 hb⊢;rw[if_neg (by have:=Nat.zero_le (q*b);omega)];obtain ⟨r,rfl⟩:∃ r,M=b+r:=⟨M - b,by omega⟩
 have hr:r < b:=by omega
 have e0:q*b+(b+r)=b*(q+1)+r:=by rw[Nat.mul_add,Nat.mul_comm q b];omega
 rw[e0,Nat.mul_add_mod,Nat.mod_eq_of_lt hr,Nat.mul_add_div hb,Nat.div_eq_of_lt hr];rfl
theorem sgn_word (neg:Bool){r:Nat}(hr:r < f.signWeight):sgn f (f.word neg r)=neg∧rung f (f.word neg r)=r:=by
 have hw:=signWeight_pos f;unfold sgn rung Format.word
 cases neg
 ·rw[if_neg (by decide),Nat.div_eq_of_lt hr,Nat.mod_eq_of_lt hr];exact ⟨rfl,rfl⟩
 ·rw[if_pos rfl,Nat.add_mod_left,Nat.mod_eq_of_lt hr,Nat.add_div_left _ hw,Nat.div_eq_of_lt hr];exact ⟨rfl,rfl⟩
end Go.Proofs.YtnjonlnemagomaaGreatDoor.Flo
namespace Go.Proofs.YtnjonlnemagomaaGreatDoor.Flo
set_option maxRecDepth 100000
set_option maxHeartbeats 8000000
set_option linter.all false
open Ieee
variable (f:Format)
theorem log2_lt_of {m n:Nat}(hm:m≠0)(h:m < 2^n):m.log2 < n:=(Nat.log2_lt hm).2 h
theorem log2_full {m:Nat}(h1:f.binade≤m)(h2:m < 2*f.binade):m≠0∧m.log2=f.fractionBits:=by
 have hb:=binade_pos f
 have hm:m≠0:=by omega
 refine ⟨hm,Nat.le_antisymm ?_ ((Nat.le_log2 hm).2 h1)⟩
 have:m < 2^(f.fractionBits+1):=by rw[Nat.pow_succ,Nat.mul_comm];exact h2
 have:=log2_lt_of hm this;omega
theorem nearest_V (neg:Bool){r:Nat}(hr:r < f.infRung):f.nearest neg (V f r) f.leastPlace=f.word neg r:=by
 have hb:=binade_pos f;by_cases h1:r < f.binade
 ·have hV:V f r=r:=by unfold V;rw[if_pos h1]
  rw[hV];unfold Format.nearest;by_cases h0:r=0
  ·rw[if_pos h0,h0]
  ·rw[if_neg h0];have hl:=log2_lt_of h0 h1;simp only
   have e1:max (f.leastPlace+(r.log2:Int) - f.fractionBits) f.leastPlace=f.leastPlace:=by omega
   rw[e1]
   have e2:(f.leastPlace - f.leastPlace).toNat=0:=by omega
   rw[e2,cut_zero,Nat.zero_mul,Nat.zero_add,Nat.shiftLeft_zero,Nat.min_eq_left (by omega)]
 ·obtain ⟨q,m,hm,hq,aa⟩:∃ q m,m < f.binade∧0 < q∧r=f.binade*q+m:=⟨r / f.binade,r % f.binade,Nat.mod_lt _ hb,Nat.div_pos (by omega) hb,(Nat.div_add_mod r f.binade).symm⟩
  have e1:r % f.binade=m:=by rw[aa,Nat.mul_add_mod,Nat.mod_eq_of_lt hm]
  have e2:r / f.binade=q:=by rw[aa,Nat.mul_add_div hb,Nat.div_eq_of_lt hm];omega
  have hV:V f r=(f.binade+m)*2^(q - 1):=by unfold V;rw[if_neg h1,e1,e2]
  obtain ⟨h0,hl⟩:=log2_full f (m:=f.binade+m) (by omega) (by omega);have hs:=nearest_scale f neg (m:=f.binade+m) (p:=f.leastPlace+((q - 1:Nat):Int)) (q - 1) h0 (by omega) (by rw[hl];omega);rw[show f.leastPlace+((q - 1:Nat):Int) - ((q - 1:Nat):Int)=f.leastPlace by omega] at hs;rw[hV,hs,nearest_exact f neg h0 (by omega) (by rw[hl];omega),hl]
  have e3:(f.leastPlace+((q - 1:Nat):Int)+(f.fractionBits:Int) - f.fractionBits - f.leastPlace).toNat=q - 1:=by omega
  rw[e3,Nat.sub_self,Nat.pow_zero,Nat.mul_one]
  have e4:(q - 1)*f.binade+(f.binade+m)=r:=by
   rw[aa,Nat.mul_comm (q - 1)];obtain ⟨k,rfl⟩:∃ k,q=k+1:=⟨q - 1,by omega⟩;rw[Nat.add_sub_cancel,Nat.mul_add,Nat.mul_one,Nat.add_assoc]
  rw[e4,Nat.min_eq_left (by omega)]
theorem read_nearest (neg:Bool){m:Nat}{p:Int}(hm:m≠0)(hl:m.log2≤f.fractionBits)(hp:f.leastPlace≤p+m.log2 - f.fractionBits)(hr:erung f m p < f.infRung)(hw:f.infRung≤f.signWeight):
  f.nearest neg m p=f.word neg (erung f m p)∧f.read (f.nearest neg m p)=.number neg (m*2^(f.fractionBits - m.log2)) (p+m.log2 - f.fractionBits):=by
 have h1:f.nearest neg m p=f.word neg (erung f m p):=by
  rw[nearest_exact f neg hm hl hp];show f.word neg (min (erung f m p) f.infRung)=_;rw[Nat.min_eq_left (Nat.le_of_lt hr)]
 refine ⟨h1,?_⟩;rw[h1];obtain ⟨ab,ac⟩:=full_digits f hm hl;have hb:=binade_pos f;have hs:=sgn_word f neg (r:=erung f m p) (by omega);unfold sgn rung at hs;unfold Format.read;simp only;rw[hs.1,hs.2];generalize hq:(p+(m.log2:Int) - f.fractionBits - f.leastPlace).toNat=q;generalize hM:m*2^(f.fractionBits - m.log2)=M at ab ac⊢
 have he:erung f m p=f.binade*(q+1)+(M - f.binade):=by
  unfold erung;rw[hq,hM,Nat.mul_add,Nat.mul_comm q];generalize f.binade*q=y;omega
 have aa:M - f.binade < f.binade:=by omega
 rw[if_neg (by rw[he,Nat.mul_add];generalize f.binade*q=y;omega),if_pos hr]
 have e1:erung f m p % f.binade=M - f.binade:=by rw[he,Nat.mul_add_mod,Nat.mod_eq_of_lt aa]
 have e2:erung f m p / f.binade=q+1:=by rw[he,Nat.mul_add_div hb,Nat.div_eq_of_lt aa,Nat.add_zero]
 rw[e1,e2];congr 1
 ·omega
 ·omega
end Go.Proofs.YtnjonlnemagomaaGreatDoor.Flo
namespace Go.Proofs.YtnjonlnemagomaaGreatDoor.Flo
set_option maxRecDepth 100000
set_option maxHeartbeats 8000000
set_option linter.all false
open Ieee
theorem dfb:double.fractionBits=52:=rfl
theorem dlp:double.leastPlace= -1074:=by decide
theorem dbin:double.binade=4503599627370496:=by decide
theorem dinf:double.infRung=9218868437227405312:=by decide
theorem dsw:double.signWeight=9223372036854775808:=by decide
theorem sfb:single.fractionBits=23:=rfl
theorem slp:single.leastPlace= -149:=by decide
theorem sbin:single.binade=8388608:=by decide
theorem sinf:single.infRung=2139095040:=by decide
theorem ssw:single.signWeight=2147483648:=by decide
theorem log2_small {m:Nat}(hm:m≠0)(h:m < 16777216):m.log2≤23:=by
 have:=log2_lt_of hm (n:=24) (by omega);omega
theorem drung {m:Nat}{s:Int}(hm:m≠0)(h:m < 16777216)(lo: -1000≤s)(hi:s≤900):
  ∃ M,4503599627370496≤M∧M < 9007199254740992∧M=m*2^(52 - m.log2)∧erung double m s=(s+m.log2+1022).toNat*4503599627370496+M∧erung double m s < 9218868437227405312:=by
 have hl:=log2_small hm h;obtain ⟨h1,h2⟩:=full_digits double hm (by rw[dfb];omega);rw[dfb,dbin] at h1 h2;refine ⟨_,h1,by omega,rfl,?_,?_⟩
 ·unfold erung;rw[dfb,dlp,dbin];congr 3;omega
 ·unfold erung;rw[dfb,dlp,dbin]
  have:(s+(m.log2:Int) - (52:Nat) - -1074).toNat≤1945:=by omega
  have:=Nat.mul_le_mul_right 4503599627370496 this;omega
theorem dnearest (neg:Bool){m:Nat}{s:Int}(hm:m≠0)(h:m < 16777216)(lo: -1000≤s)(hi:s≤900):
  double.nearest neg m s=double.word neg (erung double m s)∧double.read (double.nearest neg m s)=.number neg (m*2^(52 - m.log2)) (s - ((52 - m.log2:Nat):Int)):=by
 have hl:=log2_small hm h;obtain ⟨M,h1,h2,h3,h4,h5⟩:=drung hm h lo hi;have:=read_nearest double neg hm (by rw[dfb];omega) (p:=s) (by rw[dlp,dfb];omega) (by rw[dinf];exact h5) (by rw[dinf,dsw];omega);refine ⟨this.1,?_⟩;rw[this.2,dfb];congr 1;omega
theorem dmul_one (neg:Bool){m:Nat}{s:Int}(hm:m≠0)(h:m < 16777216)(lo: -900≤s)(hi:s≤900):double.mul 4607182418800017408 (double.nearest neg m s)=some (double.nearest neg m s):=by
 have hl:=log2_small hm h
 have h1:double.read 4607182418800017408=.number false (1*2^52) (-52):=by decide
 have h2:=(dnearest neg hm h (by omega: -1000≤s) (by omega)).2;unfold Format.mul;rw[h1,h2];have h3:=nearest_scale double neg (m:=m) (p:=s) (52+(52 - m.log2)) hm (by rw[dfb];omega) (by rw[dlp,dfb];omega);show some (double.nearest (false ^^ neg) (1*2^52*(m*2^(52 - m.log2))) (-52+(s - ((52 - m.log2:Nat):Int))))=_
 have e1:1*2^52*(m*2^(52 - m.log2))=m*2^(52+(52 - m.log2)):=by rw[Nat.one_mul,Nat.pow_add,Nat.mul_left_comm]
 have e2: -52+(s - ((52 - m.log2:Nat):Int))=s - ((52+(52 - m.log2):Nat):Int):=by omega
 rw[e1,e2,Bool.false_xor,h3]
def vol (d s:Int):Nat:=single.nearest (decide (d < 0)) d.natAbs s
theorem srung {m:Nat}{s:Int}(hm:m≠0)(h:m < 16777216)(lo: -100≤s)(hi:s≤100):erung single m s < 2139095040:=by
 have hl:=log2_small hm h;obtain ⟨h1,h2⟩:=full_digits single hm (by rw[sfb];omega);rw[sfb,sbin] at h1 h2;unfold erung;rw[sfb,slp,sbin]
 have:(s+(m.log2:Int) - (23:Nat) - -149).toNat≤249:=by omega
 have:=Nat.mul_le_mul_right 8388608 this;omega
theorem snearest (neg:Bool){m:Nat}{s:Int}(hm:m≠0)(h:m < 16777216)(lo: -100≤s)(hi:s≤100):
  single.nearest neg m s=single.word neg (erung single m s)∧single.read (single.nearest neg m s)=.number neg (m*2^(23 - m.log2)) (s - ((23 - m.log2:Nat):Int)):=by
 have hl:=log2_small hm h;have:=read_nearest single neg hm (by rw[sfb];omega) (p:=s) (by rw[slp,sfb];omega) (by rw[sinf];exact srung hm h lo hi) (by rw[sinf,ssw];omega);refine ⟨this.1,?_⟩;rw[this.2,sfb];congr 1;omega
theorem vol_val {d s:Int}(h:d.natAbs < 16777216)(lo: -100≤s)(hi:s≤100):Fin single (vol d s)∧sval single (vol d s)=d*2^(s+149).toNat:=by
 unfold vol;by_cases h0:d=0
 ·subst h0
  have:single.nearest (decide ((0:Int) < 0)) (Int.natAbs 0) s=0:=by
   unfold Format.nearest;rw[if_pos (by rfl)];rfl
  rw[this];refine ⟨by decide,?_⟩;rw[Int.zero_mul];decide
 ·have hm:d.natAbs≠0:=by omega
  have hr:=srung hm h lo hi;have hl:=log2_small hm h;rw[(snearest _ hm h lo hi).1];have hs:=sgn_word single (decide (d < 0)) (r:=erung single d.natAbs s) (by rw[ssw];omega);refine ⟨by unfold Fin;rw[hs.2,sinf];exact hr,?_⟩;unfold sval;rw[hs.1,hs.2,V_erung single hm (by rw[sfb];omega) (by rw[slp,sfb];omega),sfb,slp]
  have e1:(s+(d.natAbs.log2:Int) - (23:Nat) - -149).toNat+(23 - d.natAbs.log2)=(s+149).toNat:=by omega
  have e2:d.natAbs*2^(23 - d.natAbs.log2)*2^(s+(d.natAbs.log2:Int) - (23:Nat) - -149).toNat=d.natAbs*2^(s+149).toNat:=by
   rw[Nat.mul_assoc,←Nat.pow_add,←e1,Nat.add_comm]
  rw[e2];by_cases hn:d < 0
  ·rw[if_pos (by simpa using hn)];rw[Int.natCast_mul,←Int.neg_mul];congr 1;omega
  ·rw[if_neg (by simpa using hn)];rw[Int.natCast_mul];congr 1;omega
end Go.Proofs.YtnjonlnemagomaaGreatDoor.Flo
namespace Go.Proofs.YtnjonlnemagomaaGreatDoor.Flo
set_option maxRecDepth 100000
set_option maxHeartbeats 8000000
set_option linter.all false
open Ieee
theorem or_add {a b n:Nat}(hb:b < 2^n):a*2^n ||| b=a*2^n+b:=by
 rw[←Nat.shiftLeft_eq,Nat.shiftLeft_add_eq_or_of_lt hb]
theorem and_top {y:Nat}(h:y < 2^63):y &&& 2^63=0:=by
 apply Nat.eq_of_testBit_eq;intro i;rw[Nat.testBit_and,Nat.testBit_two_pow];by_cases hi:63=i
 ·subst hi;rw[Nat.testBit_lt_two_pow h];simp
 ·simp[hi]
theorem and_rest {h E M:Nat}(hh:h < 2)(hE:E < 2048)(hM:M < 4503599627370496):(h*9223372036854775808+E*4503599627370496+M) &&& 9227875636482146303=h*9223372036854775808+M:=by
 have aa:(2:Nat)^63=9223372036854775808:=by decide
 have ab:(2:Nat)^52=4503599627370496:=by decide
 have e1:(9227875636482146303:Nat)=2^63 ||| (2^52 - 1):=by decide
 have e2:(h*9223372036854775808+E*4503599627370496+M) % 2^52=M:=by rw[ab];omega
 have e0:h*9223372036854775808+E*4503599627370496+M=(h*2^63 ||| (E*4503599627370496+M)):=by rw[or_add (by omega),aa];omega
 have e3:(h*9223372036854775808+E*4503599627370496+M) &&& 2^63=h*2^63:=by
  rw[e0,Nat.and_or_distrib_right,and_top (y:=E*4503599627370496+M) (by omega)]
  have:h=0∨h=1:=by omega
  rcases this with rfl | rfl
  ·simp
  ·decide
 rw[e1,Nat.and_or_distrib_left,Nat.and_two_pow_sub_one_eq_mod,e2,e3,or_add (by omega),aa]
theorem or_field {h E M:Nat}(hE:E < 2048)(hM:M < 4503599627370496):(h*9223372036854775808+M) ||| (E*4503599627370496)=h*9223372036854775808+E*4503599627370496+M:=by
 have aa:(2:Nat)^63=9223372036854775808:=by decide
 have ab:(2:Nat)^52=4503599627370496:=by decide
 have e1:h*9223372036854775808+M=(h*2^63 ||| M):=by rw[or_add (by omega),aa]
 have e2:E*4503599627370496 ||| M=E*4503599627370496+M:=by rw[←ab,or_add (by omega)]
 rw[e1,Nat.or_assoc,Nat.or_comm M,e2,or_add (by omega),aa];omega
end Go.Proofs.YtnjonlnemagomaaGreatDoor.Flo
