/- Part CardLn03. -/
import Derived.Laws.FloatArith
import Derived.OpenShut
import Derived.WideShapes
import Derived.Deep.Slices
import Derived.Laws.Cover2
import Derived.Carry
import Derived.RowKit
import Derived.Test.YtnjonlnemagomaaGreatDoorB18
import Derived.Test.YtnjonlnemagomaaGreatDoorB20
import Derived.Test.YtnjonlnemagomaaGreatDoorCardLn02
namespace Go.Proofs.YtnjonlnemagomaaGreatDoor
open Go.RowKit Big Go.Lib Go.Proofs.Tryz
set_option maxRecDepth 100000
set_option maxHeartbeats 8000000
set_option linter.all false
theorem rat_two_pow (n:Nat):(2:Rat)^n=((2^n:Int):Rat):=by
 induction n with
 | zero=>rfl
 | succ n ih=>
  rw[Rat.pow_succ,ih,Int.pow_succ];exact (Rat.intCast_mul _ _).symm
theorem rat_inv_pow {a:Rat}(h:a≠0)(n:Nat):a⁻¹^n=(a^n)⁻¹:=by
 have h1:∀ n:Nat,a⁻¹^n*a^n=1:=fun n=>by
  induction n with
  | zero=>rw[Rat.pow_zero,Rat.pow_zero,Rat.mul_one]
  | succ n ih=>
   rw[Rat.pow_succ,Rat.pow_succ,Rat.mul_assoc,Rat.mul_comm a⁻¹,Rat.mul_assoc,Rat.mul_inv_cancel a h,Rat.mul_one];exact ih
 have h2:a^n≠0:=by
  intro e;have:=h1 n;rw[e,Rat.mul_zero] at this;exact absurd this (by decide)
 have h3:=h1 n
 have h4:a⁻¹^n*a^n*(a^n)⁻¹=(a^n)⁻¹:=by rw[h3,Rat.one_mul]
 rwa [Rat.mul_assoc,Rat.mul_inv_cancel _ h2,Rat.mul_one] at h4
theorem rs_two:rs 2=⟨#[50]⟩:=by
 rw[show (2:Rat)=((2:Int):Rat) from rfl,rs_int,show (2:Int)=((2:Nat):Int) from rfl,Big.itoa_nonneg,decDigits_small (by omega)];rfl
theorem rfb_two:RFB 2 2:=⟨by show (2:Int).natAbs < 4;decide,by show (1:Nat) < 4;decide⟩
theorem rpow2_calls (s:Int)(w:World)(lo: -200≤s)(hi:s≤200):Calls prog 136 #[.string ⟨#[50]⟩,.int .i64 s] w (RetS w (stepQ s)):=by
 unfold stepQ;by_cases h:s < 0
 ·obtain ⟨n,rfl⟩:∃ n:Nat,s= -(n:Int):=⟨(-s).toNat,by omega⟩;rw[if_pos h,←rs_two];have:=rpow_neg 2 n 2 w rfb_two (by decide) (by omega) (by omega) (by omega);rw[rat_inv_pow (by decide),rat_two_pow] at this;rw[show (- -(n:Int)).toNat=n by omega];exact this
 ·obtain ⟨n,rfl⟩:∃ n:Nat,s=(n:Int):=⟨s.toNat,by omega⟩;rw[if_neg h,←rs_two];have:=rpow_nat 2 n 2 w rfb_two (by omega) (by omega);rw[rat_two_pow] at this;rw[Int.toNat_natCast];exact this
end Go.Proofs.YtnjonlnemagomaaGreatDoor
namespace Go.Proofs.YtnjonlnemagomaaGreatDoor.Flo
set_option maxRecDepth 100000
set_option maxHeartbeats 8000000
set_option linter.all false
open Ieee
theorem sdouble {x:Nat}(h0:x≠0)(h:x < 2130706432):single.mul x 1073741824=some (dbl x):=by
 obtain ⟨m,k,h1,h2⟩:=sread (x:=x) (by omega)
 have h3:single.read 1073741824=.number false 8388608 (-22):=by decide
 have hm:m≠0:=by
  intro hm;rw[hm,Nat.zero_mul] at h2;have:=V_lt single (r:=0) (r':=x) (by omega);rw[V_zero] at this;omega
 unfold Format.mul;rw[h1,h3];show some (single.nearest (false ^^ false) (m*8388608) (-149+(k:Int)+ -22))=_;rw[Bool.xor_false];congr 1;have:=nearest_rung false (m:=m*8388608) (r:=dbl x) (p:= -149+(k:Int)+ -22) (Nat.mul_ne_zero hm (by decide)) (by unfold dbl;split <;> omega);rw[V_dbl,←h2] at this;rw[this]
 ·rfl
 ·have e8:(8388608:Nat)=2^23:=by decide
  rw[e8,Nat.mul_assoc,←Nat.pow_add,show 2*(m*2^k)=m*2^(k+1) by rw[Nat.pow_succ];rw[←Nat.mul_assoc m];omega,Nat.mul_assoc,←Nat.pow_add];congr 2;omega
theorem shalve {x y:Nat}(hxy:x=y+8388608)(hlo:16777216≤x)(h:x < 2139095040):single.div x 1073741824=some y:=by
 have h3:single.read 1073741824=.number false 8388608 (-22):=by decide
 have hV:V single x=2*V single y:=by
  rw[hxy];exact V_up (x:=y) (by omega)
 have h1:single.read x=.number false (8388608+x % 8388608) (-149+((x / 8388608 - 1:Nat):Int)):=by
  unfold Format.read;simp only;rw[ssw,sbin,sinf,slp]
  have e1:x / 2147483648 % 2=0:=by omega
  have e2:x % 2147483648=x:=by omega
  rw[e1,e2,if_neg (by omega),if_pos h];rfl
 have h2:(8388608+x % 8388608)*2^(x / 8388608 - 1)=V single x:=by
  unfold V;rw[sbin,if_neg (by omega)]
 unfold Format.div;rw[h1,h3];obtain ⟨m,ab⟩:∃ m,8388608+x % 8388608=m:=⟨_,rfl⟩;obtain ⟨k,hk⟩:∃ k,x / 8388608 - 1=k:=⟨_,rfl⟩
 have ae:8388608≤m:=by omega
 have ac:m < 16777216:=by omega
 rw[ab,hk]at h2⊢
 have aa:m≠0:=by omega
 have hM:m.log2=23:=by
  have a1:=(Nat.le_log2 aa (k:=23)).2 (by omega);have a2:=log2_small aa ac;omega
 have e0:(8388608:Nat).log2=23:=by decide
 have e1:m <<< (single.fractionBits+2+(8388608:Nat).log2 - m.log2)=8388608*(4*m):=by
  rw[hM,e0,sfb,Nat.shiftLeft_eq];show m*2^25=_;omega
 have e2:8388608*(4*m) / 8388608=4*m:=Nat.mul_div_cancel_left _ (by decide);have e3:8388608*(4*m) % 8388608=0:=Nat.mul_mod_right _ _;unfold Datum.quotient;simp only[show ¬(8388608:Nat)=0 by decide,if_false,Option.map_some];rw[e1,e2,e3,hM,e0,sfb];show some (single.nearest (false ^^ false) (2*(4*m)+0) _)=_;rw[Bool.xor_false];refine congrArg some ?_;have:=nearest_rung false (m:=2*(4*m)+0) (r:=y) (p:= -149+(k:Int) - -22 - ((23+2+23 - 23:Nat):Int) - 1) (by omega) (by omega);rw[this]
 ·rfl
 ·have ad:1≤k:=by omega
  obtain ⟨j,rfl⟩:∃ j,k=j+1:=⟨k - 1,by omega⟩
  have hv:V single y=m*2^j:=by
   rw[Nat.pow_succ,←Nat.mul_assoc]at h2;omega
  have e8:2*(4*m)+0=m*2^3:=by omega
  have e9:3+(-149+((j+1:Nat):Int) - -22 - ((23+2+23 - 23:Nat):Int) - 1+149).toNat=j+(-149 - (-149+((j+1:Nat):Int) - -22 - ((23+2+23 - 23:Nat):Int) - 1)).toNat:=by omega
  rw[hv,e8,Nat.mul_assoc,←Nat.pow_add,Nat.mul_assoc,←Nat.pow_add,e9]
theorem stoInt {x:Nat}(h:x < 1266679808):floatToIntVal .f32 x .i64=some ((V single x / 2^149:Nat):Int):=by
 obtain ⟨m,k,h1,h2⟩:=sread (x:=x) (by omega)
 have hv:V single x < 16777216*2^149:=by
  rw[←one_unit];exact V_lt single h
 have aa:V single x / 2^149 < 16777216:=Nat.div_lt_of_lt_mul (by rw[Nat.mul_comm];exact hv)
 have e:(FloatKind.f32.decode x).toInt .zero=some ((V single x / 2^149:Nat):Int):=by
  show (single.read x).toInt .zero=_;rw[h1];show some (Ieee.signed false (Toward.zero.cut false (m <<< (-149+(k:Int)).toNat) (-(-149+(k:Int))).toNat) 0)=_;rw[zcut,signed_val,if_neg (by decide),Nat.pow_zero,Nat.mul_one,Nat.shiftLeft_eq,←h2];congr 2;rcases Nat.le_total k 149 with h3 | h3
  ·have e1:(-149+(k:Int)).toNat=0:=by omega
   have e2:(-(-149+(k:Int))).toNat=149 - k:=by omega
   rw[e1,e2,Nat.pow_zero,Nat.mul_one]
   have e3:2^149=2^(149 - k)*2^k:=by rw[←Nat.pow_add];congr 1;omega
   rw[e3,Nat.mul_div_mul_right _ _ (Nat.two_pow_pos k)]
  ·have e1:(-149+(k:Int)).toNat=k - 149:=by omega
   have e2:(-(-149+(k:Int))).toNat=0:=by omega
   rw[e1,e2,Nat.pow_zero,Nat.div_one]
   have e3:2^k=2^(k - 149)*2^149:=by rw[←Nat.pow_add];congr 1;omega
   rw[e3,←Nat.mul_assoc,Nat.mul_div_cancel _ (Nat.two_pow_pos 149)]
 obtain ⟨y,hy⟩:∃ y,V single x / 2^149=y:=⟨_,rfl⟩;rw[hy] at e aa⊢;unfold floatToIntVal;rw[e]
 have h5:IntKind.i64.min≤(y:Int)∧(y:Int)≤IntKind.i64.max:=by
  have a:IntKind.i64.min= -9223372036854775808:=by decide
  have b:IntKind.i64.max=9223372036854775807:=by decide
  rw[a,b];omega
 simp only;rw[if_pos h5]
theorem sofInt {n:Nat}(h:n < 16777216):∃ r,r < 1266679808∧floatOfInt .f32 (n:Int)=r∧V single r=n*2^149:=by
 have e:floatOfInt .f32 (n:Int)=vol (n:Int) 0:=by
  show single.nearest (decide ((n:Int) < 0)) ((n:Int)).natAbs 0=_;rfl
 obtain ⟨h1,h2⟩:=vol_val (d:=(n:Int)) (s:=0) (by omega) (by omega) (by omega);rw[e];by_cases h0:n=0
 ·subst h0;refine ⟨0,by omega,?_,by rw[V_zero,Nat.zero_mul]⟩;unfold vol Format.nearest;rw[if_pos (by rfl)];rfl
 ·have aa:vol (n:Int) 0=single.word false (erung single n 0):=by
   unfold vol;rw[decide_eq_false (by omega),Int.natAbs_natCast];exact (snearest false h0 h (by omega) (by omega)).1
  have hv:V single (erung single n 0)=n*2^149:=by
   have hl:=log2_small h0 h;rw[V_erung single h0 (by rw[sfb];omega) (by rw[slp,sfb];omega),sfb,slp,Nat.mul_assoc,←Nat.pow_add];congr 2;omega
  refine ⟨erung single n 0,inf_lt ?_,aa,hv⟩;rw[hv];exact Nat.mul_lt_mul_of_pos_right h (Nat.two_pow_pos _)
end Go.Proofs.YtnjonlnemagomaaGreatDoor.Flo
namespace Go.Proofs.YtnjonlnemagomaaGreatDoor
open Flo Go.RowKit Go.ChangeShapes Go.WideShapes Go.Deep
set_option maxRecDepth 100000
set_option maxHeartbeats 8000000
set_option linter.all false
theorem floor_bd (q:Rat):(q.floor:Rat)≤q∧q < (q.floor:Rat)+1:=by
 refine ⟨Rat.floor_le q,?_⟩;have:=Rat.lt_floor_add_one q;simpa using this
theorem rndE_near (q:Rat)(i:Int):absR (q - (rndE q:Rat))≤absR (q - (i:Rat)):=by
 obtain ⟨h1,h2⟩:=floor_bd q
 have hi:(i:Rat)≤(q.floor:Rat)∨(q.floor:Rat)+1≤(i:Rat):=by
  rcases Int.lt_or_le q.floor i with h | h
  ·right;have:=Rat.intCast_le_intCast.2 (show q.floor+1≤i by omega);rw[Rat.intCast_add] at this;exact this
  ·exact .inl (Rat.intCast_le_intCast.2 h)
 unfold absR;rcases rndE_cases q with ⟨e,h3⟩ | ⟨e,h3⟩
 ·rw[e];clear e;generalize (q.floor:Rat)=F at h1 h2 h3 hi⊢;generalize (i:Rat)=I at hi⊢;rcases hi with h | h <;> split <;> split <;> grind
 ·rw[e,Rat.intCast_add,show ((1:Int):Rat)=1 from rfl];clear e;generalize (q.floor:Rat)=F at h1 h2 h3 hi⊢;generalize (i:Rat)=I at hi⊢;rcases hi with h | h <;> split <;> split <;> grind
theorem V_mult {r j:Nat}(h:2^(j+23)≤V Ieee.single r):2^j ∣ V Ieee.single r:=by
 unfold V at *;rw[sbin] at *;split at h
 ·rename_i h1;have:2^23≤2^(j+23):=Nat.pow_le_pow_right (by omega) (by omega);omega
 ·rename_i h1;rw[if_neg h1]
  have h2:8388608+r % 8388608 < 2^24:=by
   have:=Nat.mod_lt r (show 8388608 > 0 by omega);omega
  have h3:(8388608+r % 8388608)*2^(r / 8388608 - 1) < 2^(24+(r / 8388608 - 1)):=by
   rw[Nat.pow_add];exact Nat.mul_lt_mul_of_pos_right h2 (Nat.two_pow_pos _)
  have h4:j+23 < 24+(r / 8388608 - 1):=(Nat.pow_lt_pow_iff_right (by omega)).1 (Nat.lt_of_le_of_lt h h3);exact Nat.dvd_trans (Nat.pow_dvd_pow 2 (by omega)) (Nat.dvd_mul_left _ _)
theorem absR_mul {D:Rat}(hD:0 < D)(q:Rat):absR (D*q)=D*absR q:=by
 unfold absR;by_cases h:q < 0
 ·have h1:=Rat.mul_lt_mul_of_pos_left h hD;rw[Rat.mul_zero] at h1;rw[if_pos h,if_pos h1,Rat.mul_neg]
 ·have h1:=Rat.mul_nonneg (Rat.le_of_lt hD) (Rat.not_lt.1 h);rw[if_neg h,if_neg (Rat.not_lt.2 h1)]
theorem near_mult {x D:Rat}(hD:0 < D)(i:Int):absR (x - (rndE (x / D):Rat)*D)≤absR (x - (i:Rat)*D):=by
 have h0:D≠0:=by grind
 have e:∀ k:Rat,x - k*D=D*(x / D - k):=fun k=>by
  have:=Rat.div_mul_cancel (a:=x) h0
  grind
 rw[e,e,absR_mul hD,absR_mul hD];exact Rat.mul_le_mul_of_nonneg_left (rndE_near _ _) (Rat.le_of_lt hD)
theorem near_all {x:Rat}{j R:Nat}(hj:j=0∨((2^(j+23):Nat):Rat)≤x)(hR:(V Ieee.single R:Rat)=(rndE (x / ((2^j:Nat):Rat)):Rat)*((2^j:Nat):Rat))(r:Nat):
  absR (x - (V Ieee.single R:Rat))≤absR (x - (V Ieee.single r:Rat)):=by
 have hD:(0:Rat) < ((2^j:Nat):Rat):=by
  have:=Rat.natCast_lt_natCast.2 (Nat.two_pow_pos j);simpa using this
 rw[hR];by_cases hd:2^j ∣ V Ieee.single r
 ·obtain ⟨i,hi⟩:=hd
  have e:(V Ieee.single r:Rat)=((i:Int):Rat)*((2^j:Nat):Rat):=by
   rw[hi,Nat.mul_comm,Rat.natCast_mul];rfl
  rw[e];exact near_mult hD i
 ·have aa:j≠0:=fun h=>hd (by rw[h,Nat.pow_zero];exact Nat.one_dvd _)
  have ab:V Ieee.single r < 2^(j+23):=by
   rcases Nat.lt_or_ge (V Ieee.single r) (2^(j+23)) with h | h
   ·exact h
   ·exact absurd (V_mult h) hd
  have hx:=hj.resolve_left aa;have h1:=near_mult (x:=x) hD (8388608:Int)
  have e:((2^(j+23):Nat):Rat)=((8388608:Int):Rat)*((2^j:Nat):Rat):=by
   rw[Nat.pow_add,Nat.mul_comm,Rat.natCast_mul];rfl
  have h2:=Rat.natCast_lt_natCast.2 ab;rw[e] at hx h2;generalize ((8388608:Int):Rat)*((2^j:Nat):Rat)=M at h1 h2 hx;generalize (V Ieee.single r:Rat)=v at h2⊢
  have h3:absR (x - M)≤absR (x - v):=by
   unfold absR;rw[if_neg (by grind),if_neg (by grind)]
   grind
  exact Rat.le_trans h1 h3
theorem rung_ex {n j:Nat}(h:n≤16777216):∃ r,V Ieee.single r=n*2^j:=by
 induction j with
 | zero=>
  rcases Nat.lt_or_ge n 16777216 with h1 | h1
  ·exact ⟨n,by rw[V_low h1,Nat.pow_zero,Nat.mul_one]⟩
  ·refine ⟨8388608+8388608,?_⟩;rw[V_up (Nat.le_refl _),V_low (by omega),Nat.pow_zero,Nat.mul_one];omega
 | succ j ih=>
  obtain ⟨r,hr⟩:=ih;exact ⟨dbl r,by rw[V_dbl,hr,Nat.pow_succ,Nat.mul_left_comm,Nat.mul_comm 2]⟩
theorem near_rung {x:Rat}{j:Nat}(h0:0≤x)(h:IsPl x j):∃ R:Nat,(V Ieee.single R:Int)=sigF x j*((2^j:Nat):Int)∧∀ r,absR (x - (V Ieee.single R:Rat))≤absR (x - (V Ieee.single r:Rat)):=by
 have h1:=sigF_nonneg h0 j;have h2:=sigF_le h.hi;obtain ⟨R,hR⟩:=rung_ex (n:=(sigF x j).toNat) (j:=j) (by omega)
 have e:(V Ieee.single R:Int)=sigF x j*((2^j:Nat):Int):=by
  rw[hR,Int.natCast_mul,Int.toNat_of_nonneg h1]
 refine ⟨R,e,near_all h.lo ?_⟩;have:=congrArg (fun z:Int=>(z:Rat)) e;rw[Rat.intCast_mul] at this;exact this
theorem exists_map {α β:Type}{f:α→β}:∀ {vs:List β},(∀ u∈vs,∃ x,u=f x)→∃ xs:List α,vs=xs.map f
 | [],_=>⟨[],rfl⟩
 | u::vs,h=>by
  obtain ⟨x,hx⟩:=h u (by simp);obtain ⟨xs,hxs⟩:=exists_map (vs:=vs) fun u hu=>h u (by simp[hu]);exact ⟨x::xs,by rw[hx,hxs];rfl⟩
section
variable {H:Type} {enc:TypeId × Value→H} {P:Program} {w:World} {base:Nat} {sp:Nat→Bool} {held:Bool}
theorem spot_none {a:Addr}{v:Value}(h:w.cell? a=some v):a=⟨a.block,a.off,none⟩:=by
 obtain ⟨b,o,s⟩:=a
 cases s with
 | none=>rfl
 | some s=>
  unfold World.cell? at h;split at h
  ·simp at h
  ·cases h
theorem rdl_fn {a:Addr}{len:Nat}{V:Nat→Value}(h:∀ i,i < len→w.cell? (a.add i)=some (V i)):RdL w (some a) ((List.range len).map V):=by
 intro i hi
 have aa:i < len:=by simpa using hi
 have h0:=h 0 (by omega);have e0:a.add 0=a:=rfl;rw[e0] at h0;have ha:=spot_none h0;refine ⟨a.block,a.off,by rw[←ha],?_⟩;have h1:=h i aa
 have e:a.add i=⟨a.block,a.off+i,none⟩:=by
  unfold Addr.add;split
  ·rename_i hz;rw[hz];exact ha
  ·rfl
 rw[e]at h1;rw[h1];simp
theorem in_slice1 {t e:TypeId}{fuel:Nat}{cs:List Value}{y:DataW H × List MemPlace}(ht:P.underlying t=some (.slice e))(hc:P.cellsOf e=1)(h:DataW.trod enc P w base sp held fuel t cs=some y):
  ∃ (a:Option Addr) (aa:Nat) (vs:List Value),cs=[.slice a vs.length aa]∧RdL w a vs∧(a=none→aa=0)∧vs.length≤aa∧aa≤maxLen∧
   ∀ u∈vs,∃ (n:Nat) (y:DataW H × List MemPlace),DataW.trod enc P w base sp held n e [u]=some y:=by
 rcases open_slice1 ht hc h with ⟨h0,_⟩ | ⟨a,len,aa,m,n,V,D,Pl,h0,hb,hl,hm,ac,_,ab⟩
 ·exact ⟨none,0,[],h0,fun i hi=>by simp at hi,fun _=>rfl,Nat.le_refl _,Nat.zero_le _,fun u hu=>by simp at hu⟩
 ·have ad:len≤m:=by rw[ac];split <;> omega
  refine ⟨some a,aa,(List.range len).map V,by simpa using h0,rdl_fn fun i hi=>(ab i (by omega)).1,(fun h=>by cases h),by simpa using hl,hm,fun u hu=>?_⟩;obtain ⟨i,hi,rfl⟩:=List.mem_map.1 hu;exact ⟨n,_,(ab i (by have:=List.mem_range.1 hi;omega)).2⟩
theorem slice_cells {t e:TypeId}{r:Reach}{b0:Nat}{v:Value}(ht:P.underlying t=some (.slice e))(hval:Value.okWide P w r b0 t v):v.cells.toList=[v]:=by
 obtain ⟨a,l,c,rfl⟩:=okWide_slice ht hval;rfl
theorem trod_float {t:TypeId}{k:FloatKind}{fuel:Nat}{v:Value}{y:DataW H × List MemPlace}(ht:P.underlying t=some (.float k))(h:DataW.trod enc P w base sp held fuel t [v]=some y):∃ b,v=.float k b:=by
 cases fuel with
 | zero=>simp[DataW.trod] at h
 | succ n=>
  cases v <;> simp[DataW.trod,ht] at h
  rename_i k' b;exact ⟨b,by rw[h.1.1]⟩
theorem in_floats {t e:TypeId}{r:Reach}{b0:Nat}{v:Value}{d:DataW H}{p:List MemPlace}(ht:P.underlying t=some (.slice e))(he:P.underlying e=some (.float .f32))(hc:P.cellsOf e=1)(hval:Value.okWide P w r b0 t v)(h:DataW.Trod enc P w base sp held t v d p):
  ∃ (a:Option Addr) (aa:Nat) (xs:List Nat),v=.slice a xs.length aa∧RdL w a (flts xs)∧(a=none→aa=0)∧xs.length≤aa∧aa≤maxLen:=by
 obtain ⟨ab,hf⟩:=h;rw[slice_cells ht hval] at hf;obtain ⟨a,aa,vs,h1,h2,h3,h4,h5,h6⟩:=in_slice1 ht hc hf
 obtain ⟨xs,rfl⟩:∃ xs,vs=flts xs:=exists_map fun u hu=>by
  obtain ⟨n,y,hy⟩:=h6 u hu;exact trod_float he hy
 have hl:(flts xs).length=xs.length:=by simp[flts]
 rw[hl]at h1 h4;exact ⟨a,aa,xs,by simpa using h1,h2,h3,h4,h5⟩
end
end Go.Proofs.YtnjonlnemagomaaGreatDoor
