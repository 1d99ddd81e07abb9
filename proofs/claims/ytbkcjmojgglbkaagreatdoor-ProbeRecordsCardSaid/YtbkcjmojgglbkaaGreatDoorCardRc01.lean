/- Part CardRc01. -/
import Derived.ChangeKeysEq
import Derived.Laws.StructEq
import Derived.OpenShut
import Derived.WideShapes
import Derived.Deep.Slices
import Derived.Laws.Cover2
import Derived.Carry
import Derived.RowKit
import Derived.Laws.FloatArith
import Derived.Test.YtbkcjmojgglbkaaGreatDoorA32
namespace Go.Proofs.YtbkcjmojgglbkaaGreatDoor
open Go.RowKit Big Go.ChangeShapes Go.WideShapes Go.Deep
set_option maxRecDepth 100000
set_option maxHeartbeats 8000000
section
variable {P:Program}
end
theorem Length_calls (a b:Int)(w:World):Calls Tryz.prog 26 #[.int .i64 a,.int .i64 b] w fun e w'=>e=.returned (.bool (a≤b || (4096 < a && a≤4098)))∧w'=w:=by
 go_enter Tryz.func26,Tryz.ntmps26;by_cases h1:a≤b <;> by_cases h2:4096 < a <;> by_cases h3:a≤4098 <;> (go_wp2_with fail;go_ret;exact ⟨by simp[h1,h2,h3],rfl⟩)
theorem exists_map {α β:Type}{f:α→β}:∀ {vs:List β},(∀ u∈vs,∃ x,u=f x)→∃ xs:List α,vs=xs.map f
 | [],_=>⟨[],rfl⟩
 | u::vs,h=>by
  obtain ⟨x,hx⟩:=h u (by simp);obtain ⟨xs,hxs⟩:=exists_map (vs:=vs) fun u hu=>h u (by simp[hu]);exact ⟨x::xs,by rw[hx,hxs];rfl⟩
section
variable {H:Type} {enc:TypeId × Value→H} {P:Program} {w:World} {base:Nat} {sp:Nat→Bool} {held:Bool}
theorem spot_none {a:Addr}{v:Value}(h:w.cell? a=some v):a=⟨a.block,a.off,none⟩:=by
 obtain ⟨b,o,s⟩:=a
 cases s with
 | none=>rfl
 | some s=>
  unfold World.cell? at h;split at h
  ·simp at h
  ·cases h
theorem rdl_fn {a:Addr}{len:Nat}{V:Nat→Value}(h:∀ i,i < len→w.cell? (a.add i)=some (V i)):RdL w (some a) ((List.range len).map V):=by
 intro i hi
 have hi':i < len:=by simpa using hi
 have h0:=h 0 (by omega);have e0:a.add 0=a:=rfl;rw[e0] at h0;have ha:=spot_none h0;refine ⟨a.block,a.off,by rw[←ha],?_⟩;have h1:=h i hi'
 have e:a.add i=⟨a.block,a.off+i,none⟩:=by
  unfold Addr.add;split
  ·rename_i hz;rw[hz];exact ha
  ·rfl
 rw[e]at h1;rw[h1];simp
theorem in_slice1 {t e:TypeId}{fuel:Nat}{cs:List Value}{y:DataW H × List MemPlace}(ht:P.underlying t=some (.slice e))(hc:P.cellsOf e=1)(h:DataW.trod enc P w base sp held fuel t cs=some y):
  ∃ (a:Option Addr) (cap:Nat) (vs:List Value),cs=[.slice a vs.length cap]∧RdL w a vs∧(a=none→cap=0)∧vs.length≤cap∧cap≤maxLen∧
   ∀ u∈vs,∃ (n:Nat) (y:DataW H × List MemPlace),DataW.trod enc P w base sp held n e [u]=some y:=by
 rcases open_slice1 ht hc h with ⟨h0,_⟩ | ⟨a,len,cap,m,n,V,D,Pl,h0,hb,hl,hm,hmm,_,hel⟩
 ·exact ⟨none,0,[],h0,fun i hi=>by simp at hi,fun _=>rfl,Nat.le_refl _,Nat.zero_le _,fun u hu=>by simp at hu⟩
 ·have hlm:len≤m:=by rw[hmm];split <;> omega
  refine ⟨some a,cap,(List.range len).map V,by simpa using h0,rdl_fn fun i hi=>(hel i (by omega)).1,(fun h=>by cases h),by simpa using hl,hm,fun u hu=>?_⟩;obtain ⟨i,hi,rfl⟩:=List.mem_map.1 hu;exact ⟨n,_,(hel i (by have:=List.mem_range.1 hi;omega)).2⟩
theorem slice_cells {t e:TypeId}{r:Reach}{b0:Nat}{v:Value}(ht:P.underlying t=some (.slice e))(hval:Value.okWide P w r b0 t v):v.cells.toList=[v]:=by
 obtain ⟨a,l,c,rfl⟩:=okWide_slice ht hval;rfl
end
end Go.Proofs.YtbkcjmojgglbkaaGreatDoor
namespace Go.Proofs.YtbkcjmojgglbkaaGreatDoor.Flo
set_option maxRecDepth 100000
set_option maxHeartbeats 8000000
open Ieee
theorem gap_eq (a:Nat):1 <<< a=2^a:=by rw[Nat.shiftLeft_eq,Nat.one_mul]
theorem cut_scale (neg:Bool){m:Nat}(d k:Nat)(hm:m≠0):Toward.even.cut neg (m*2^k) (d+k)=Toward.even.cut neg m d:=by
 unfold Toward.cut;simp only;rw[log2_mul_pow hm,gap_eq,gap_eq]
 have e:min (d+k) (m.log2+k+2)=min d (m.log2+2)+k:=by omega
 rw[e];generalize min d (m.log2+2)=g;have hk:=Nat.two_pow_pos k;rw[Nat.pow_add,Nat.mul_div_mul_right _ _ hk,Nat.mul_mod_mul_right];congr 2
 have e1:decide (2^g*2^k < 2*(m % 2^g*2^k))=decide (2^g < 2*(m % 2^g)):=by
  rw[←Nat.mul_assoc];exact decide_eq_decide.2 (Nat.mul_lt_mul_right hk)
 have e2:(2^g*2^k==2*(m % 2^g*2^k))=(2^g==2*(m % 2^g)):=by
  rw[←Nat.mul_assoc,Bool.eq_iff_iff,beq_iff_eq,beq_iff_eq];exact Nat.mul_left_inj (by omega)
 rw[e1,e2]
theorem cut_whole (neg:Bool){m:Nat}(d k:Nat)(hm:m≠0)(h:d≤k):Toward.even.cut neg (m*2^k) d=m*2^(k - d):=by
 have e:m*2^k=m*2^(k - d)*2^d:=by rw[Nat.mul_assoc,←Nat.pow_add,Nat.sub_add_cancel h]
 have h0:m*2^(k - d)≠0:=Nat.mul_ne_zero hm (Nat.ne_of_gt (Nat.two_pow_pos _));have:=cut_scale neg (m:=m*2^(k - d)) 0 d h0;rw[Nat.zero_add,cut_zero,←e] at this;exact this
theorem nearest_more (f:Format)(neg:Bool){m:Nat}{p:Int}(k:Nat)(hm:m≠0):f.nearest neg (m*2^k) (p - k)=f.nearest neg m p:=by
 unfold Format.nearest;have hmk:m*2^k≠0:=Nat.mul_ne_zero hm (Nat.ne_of_gt (Nat.two_pow_pos _));rw[if_neg hmk,if_neg hm];simp only;rw[log2_mul_pow hm]
 have e1:p - (k:Int)+((m.log2+k:Nat):Int) - f.fractionBits=p+m.log2 - f.fractionBits:=by omega
 rw[e1];generalize max (p+(m.log2:Int) - f.fractionBits) f.leastPlace=L;congr 3;rcases Int.lt_or_le p L with h | h
 ·have e2:(p - (k:Int) - L).toNat=0:=by omega
  have e3:(p - L).toNat=0:=by omega
  have e4:(L - (p - (k:Int))).toNat=(L - p).toNat+k:=by omega
  rw[e2,e3,e4,Nat.shiftLeft_zero,Nat.shiftLeft_zero,cut_scale neg _ _ hm]
 ·have e3:(L - p).toNat=0:=by omega
  rw[e3,cut_zero];rcases Int.lt_or_le (p - k) L with h2 | h2
  ·have e2:(p - (k:Int) - L).toNat=0:=by omega
   have e4:(L - (p - (k:Int))).toNat≤k:=by omega
   rw[e2,Nat.shiftLeft_zero,cut_whole neg _ _ hm e4,Nat.shiftLeft_eq];congr 2;omega
  ·have e4:(L - (p - (k:Int))).toNat=0:=by omega
   rw[e4,cut_zero,Nat.shiftLeft_eq,Nat.shiftLeft_eq,Nat.mul_assoc,←Nat.pow_add];congr 2;omega
theorem nearest_rung (neg:Bool){m r:Nat}{p:Int}(hm:m≠0)(hr:r < 2139095040)(h:m*2^(p+149).toNat=V single r*2^(-149 - p).toNat):single.nearest neg m p=single.word neg r:=by
 have hv:V single r≠0:=by
  intro h0;rw[h0,Nat.zero_mul] at h;exact absurd h (Nat.mul_ne_zero hm (Nat.ne_of_gt (Nat.two_pow_pos _)))
 have key:=nearest_V single neg (r:=r) (by rw[sinf];exact hr);rw[slp] at key;rcases Int.lt_or_le p (-149) with h2 | h2
 ·have e0:(p+149).toNat=0:=by omega
  rw[e0,Nat.pow_zero,Nat.mul_one]at h;have:=nearest_more single neg (p:= -149) (-149 - p).toNat hv;rw[←h,show (-149:Int) - ((-149 - p).toNat:Int)=p by omega,key] at this;exact this
 ·have e0:(-149 - p).toNat=0:=by omega
  rw[e0,Nat.pow_zero,Nat.mul_one]at h;have:=nearest_more single neg (p:=p) (p+149).toNat hm;rw[h,show p - ((p+149).toNat:Int)= -149 by omega,key] at this;exact this.symm
theorem sread {x:Nat}(h:x < 2139095040):∃ (m k:Nat),single.read x=.number false m (-149+(k:Int))∧m*2^k=V single x:=by
 have hr:rung single x=x:=by unfold rung;rw[ssw];omega
 have hs:sgn single x=false:=by unfold sgn;rw[ssw];simp;omega
 obtain ⟨m,k,h1,h2⟩:=read_fin single (x:=x) (by unfold Fin;rw[hr,sinf];exact h);rw[hs,slp] at h1;rw[hr] at h2;exact ⟨m,k,h1,h2⟩
theorem V_up {x:Nat}(h:8388608≤x):V single (x+8388608)=2*V single x:=by
 unfold V;rw[sbin,if_neg (by omega),if_neg (by omega)]
 have e1:(x+8388608) % 8388608=x % 8388608:=by omega
 have e2:(x+8388608) / 8388608 - 1=(x / 8388608 - 1)+1:=by omega
 rw[e1,e2,Nat.pow_succ];generalize 2^(x / 8388608 - 1)=P;generalize 8388608+x % 8388608=Q;rw[←Nat.mul_assoc];omega
theorem V_low {x:Nat}(h:x < 16777216):V single x=x:=by
 unfold V;rw[sbin];by_cases h1:x < 8388608
 ·rw[if_pos h1]
 ·rw[if_neg h1]
  have e2:x / 8388608 - 1=0:=by omega
  rw[e2,Nat.pow_zero,Nat.mul_one];omega
def dbl (x:Nat):Nat:=if x < 8388608 then 2*x else x+8388608
theorem V_dbl (x:Nat):V single (dbl x)=2*V single x:=by
 unfold dbl;by_cases h:x < 8388608
 ·rw[if_pos h,V_low (by omega),V_low (by omega)]
 ·rw[if_neg h,V_up (by omega)]
theorem sdouble {x:Nat}(h0:x≠0)(h:x < 2130706432):single.mul x 1073741824=some (dbl x):=by
 obtain ⟨m,k,h1,h2⟩:=sread (x:=x) (by omega)
 have h3:single.read 1073741824=.number false 8388608 (-22):=by decide
 have hm:m≠0:=by
  intro hm;rw[hm,Nat.zero_mul] at h2;have:=V_lt single (r:=0) (r':=x) (by omega);rw[V_zero] at this;omega
 unfold Format.mul;rw[h1,h3];show some (single.nearest (false ^^ false) (m*8388608) (-149+(k:Int)+ -22))=_;rw[Bool.xor_false];congr 1;have:=nearest_rung false (m:=m*8388608) (r:=dbl x) (p:= -149+(k:Int)+ -22) (Nat.mul_ne_zero hm (by decide)) (by unfold dbl;split <;> omega);rw[V_dbl,←h2] at this;rw[this]
 ·rfl
 ·have e8:(8388608:Nat)=2^23:=by decide
  rw[e8,Nat.mul_assoc,←Nat.pow_add,show 2*(m*2^k)=m*2^(k+1) by rw[Nat.pow_succ];rw[←Nat.mul_assoc m];omega,Nat.mul_assoc,←Nat.pow_add];congr 2;omega
theorem shalve {x y:Nat}(hxy:x=y+8388608)(hlo:16777216≤x)(h:x < 2139095040):single.div x 1073741824=some y:=by
 have h3:single.read 1073741824=.number false 8388608 (-22):=by decide
 have hV:V single x=2*V single y:=by
  rw[hxy];exact V_up (x:=y) (by omega)
 have h1:single.read x=.number false (8388608+x % 8388608) (-149+((x / 8388608 - 1:Nat):Int)):=by
  unfold Format.read;simp only;rw[ssw,sbin,sinf,slp]
  have e1:x / 2147483648 % 2=0:=by omega
  have e2:x % 2147483648=x:=by omega
  rw[e1,e2,if_neg (by omega),if_pos h];rfl
 have h2:(8388608+x % 8388608)*2^(x / 8388608 - 1)=V single x:=by
  unfold V;rw[sbin,if_neg (by omega)]
 unfold Format.div;rw[h1,h3];obtain ⟨m,hme⟩:∃ m,8388608+x % 8388608=m:=⟨_,rfl⟩;obtain ⟨k,hk⟩:∃ k,x / 8388608 - 1=k:=⟨_,rfl⟩
 have hml:8388608≤m:=by omega
 have hmh:m < 16777216:=by omega
 rw[hme,hk]at h2⊢
 have hm0:m≠0:=by omega
 have hM:m.log2=23:=by
  have a1:=(Nat.le_log2 hm0 (k:=23)).2 (by omega);have a2:=log2_small hm0 hmh;omega
 have e0:(8388608:Nat).log2=23:=by decide
 have e1:m <<< (single.fractionBits+2+(8388608:Nat).log2 - m.log2)=8388608*(4*m):=by
  rw[hM,e0,sfb,Nat.shiftLeft_eq];show m*2^25=_;omega
 have e2:8388608*(4*m) / 8388608=4*m:=Nat.mul_div_cancel_left _ (by decide);have e3:8388608*(4*m) % 8388608=0:=Nat.mul_mod_right _ _;unfold Datum.quotient;simp only[show ¬(8388608:Nat)=0 by decide,if_false,Option.map_some];rw[e1,e2,e3,hM,e0,sfb];show some (single.nearest (false ^^ false) (2*(4*m)+0) _)=_;rw[Bool.xor_false];refine congrArg some ?_;have:=nearest_rung false (m:=2*(4*m)+0) (r:=y) (p:= -149+(k:Int) - -22 - ((23+2+23 - 23:Nat):Int) - 1) (by omega) (by omega);rw[this]
 ·rfl
 ·have hk1:1≤k:=by omega
  obtain ⟨j,rfl⟩:∃ j,k=j+1:=⟨k - 1,by omega⟩
  have hv:V single y=m*2^j:=by
   rw[Nat.pow_succ,←Nat.mul_assoc]at h2;omega
  have e8:2*(4*m)+0=m*2^3:=by omega
  have e9:3+(-149+((j+1:Nat):Int) - -22 - ((23+2+23 - 23:Nat):Int) - 1+149).toNat=j+(-149 - (-149+((j+1:Nat):Int) - -22 - ((23+2+23 - 23:Nat):Int) - 1)).toNat:=by omega
  rw[hv,e8,Nat.mul_assoc,←Nat.pow_add,Nat.mul_assoc,←Nat.pow_add,e9]
theorem one_unit:V single 1266679808=16777216*2^149:=by decide +kernel
theorem inf_lt {x:Nat}(h:V single x < 16777216*2^149):x < 1266679808:=by
 rcases Nat.lt_or_ge x 1266679808 with h1 | h1
 ·exact h1
 ·have:=V_le single h1;rw[one_unit] at this;omega
theorem zcut (neg:Bool)(m d:Nat):Toward.zero.cut neg m d=m / 2^d:=by
 unfold Toward.cut;simp only[Bool.toNat_false,Nat.add_zero];rw[gap_eq];rcases Nat.le_total d (m.log2+2) with h | h
 ·rw[Nat.min_eq_left h]
 ·rw[Nat.min_eq_right h];have h1:m < 2^(m.log2+1):=Nat.lt_log2_self;have h2:2^(m.log2+1)≤2^(m.log2+2):=Nat.pow_le_pow_right (by decide) (by omega);have h3:2^(m.log2+2)≤2^d:=Nat.pow_le_pow_right (by decide) h;rw[Nat.div_eq_of_lt (by omega),Nat.div_eq_of_lt (by omega)]
theorem stoInt {x:Nat}(h:x < 1266679808):floatToIntVal .f32 x .i64=some ((V single x / 2^149:Nat):Int):=by
 obtain ⟨m,k,h1,h2⟩:=sread (x:=x) (by omega)
 have hv:V single x < 16777216*2^149:=by
  rw[←one_unit];exact V_lt single h
 have hlt:V single x / 2^149 < 16777216:=Nat.div_lt_of_lt_mul (by rw[Nat.mul_comm];exact hv)
 have e:(FloatKind.f32.decode x).toInt .zero=some ((V single x / 2^149:Nat):Int):=by
  show (single.read x).toInt .zero=_;rw[h1];show some (Ieee.signed false (Toward.zero.cut false (m <<< (-149+(k:Int)).toNat) (-(-149+(k:Int))).toNat) 0)=_;rw[zcut,signed_val,if_neg (by decide),Nat.pow_zero,Nat.mul_one,Nat.shiftLeft_eq,←h2];congr 2;rcases Nat.le_total k 149 with h3 | h3
  ·have e1:(-149+(k:Int)).toNat=0:=by omega
   have e2:(-(-149+(k:Int))).toNat=149 - k:=by omega
   rw[e1,e2,Nat.pow_zero,Nat.mul_one]
   have e3:2^149=2^(149 - k)*2^k:=by rw[←Nat.pow_add];congr 1;omega
   rw[e3,Nat.mul_div_mul_right _ _ (Nat.two_pow_pos k)]
  ·have e1:(-149+(k:Int)).toNat=k - 149:=by omega
   have e2:(-(-149+(k:Int))).toNat=0:=by omega
   rw[e1,e2,Nat.pow_zero,Nat.div_one]
   have e3:2^k=2^(k - 149)*2^149:=by rw[←Nat.pow_add];congr 1;omega
   rw[e3,←Nat.mul_assoc,Nat.mul_div_cancel _ (Nat.two_pow_pos 149)]
 obtain ⟨y,hy⟩:∃ y,V single x / 2^149=y:=⟨_,rfl⟩;rw[hy] at e hlt⊢;unfold floatToIntVal;rw[e]
 have h5:IntKind.i64.min≤(y:Int)∧(y:Int)≤IntKind.i64.max:=by
  have a:IntKind.i64.min= -9223372036854775808:=by decide
  have b:IntKind.i64.max=9223372036854775807:=by decide
  rw[a,b];omega
 simp only;rw[if_pos h5]
theorem sofInt {n:Nat}(h:n < 16777216):∃ r,r < 1266679808∧floatOfInt .f32 (n:Int)=r∧V single r=n*2^149:=by
 have e:floatOfInt .f32 (n:Int)=vol (n:Int) 0:=by
  show single.nearest (decide ((n:Int) < 0)) ((n:Int)).natAbs 0=_;rfl
 obtain ⟨h1,h2⟩:=vol_val (d:=(n:Int)) (s:=0) (by omega) (by omega) (by omega);rw[e];by_cases h0:n=0
 ·subst h0;refine ⟨0,by omega,?_,by rw[V_zero,Nat.zero_mul]⟩;unfold vol Format.nearest;rw[if_pos (by rfl)];rfl
 ·have hsg:vol (n:Int) 0=single.word false (erung single n 0):=by
   unfold vol;rw[decide_eq_false (by omega),Int.natAbs_natCast];exact (snearest false h0 h (by omega) (by omega)).1
  have hv:V single (erung single n 0)=n*2^149:=by
   have hl:=log2_small h0 h;rw[V_erung single h0 (by rw[sfb];omega) (by rw[slp,sfb];omega),sfb,slp,Nat.mul_assoc,←Nat.pow_add];congr 2;omega
  refine ⟨erung single n 0,inf_lt ?_,hsg,hv⟩;rw[hv];exact Nat.mul_lt_mul_of_pos_right h (Nat.two_pow_pos _)
end Go.Proofs.YtbkcjmojgglbkaaGreatDoor.Flo
