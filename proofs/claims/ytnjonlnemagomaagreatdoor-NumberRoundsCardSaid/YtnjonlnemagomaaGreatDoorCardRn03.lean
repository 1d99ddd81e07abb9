/- Part CardRn03. -/
import Derived.Laws.FloatArith
import Derived.Maps.OwnOps
import Derived.Maps.AppendAt
import Derived.Laws.AppendOwnNone
import Derived.Test.YtnjonlnemagomaaGreatDoorB18
import Derived.Test.YtnjonlnemagomaaGreatDoorCardRn02
namespace Go.Proofs.YtnjonlnemagomaaGreatDoor
open Go.RowKit Big Go.Lib Tryz
set_option maxRecDepth 100000
set_option maxHeartbeats 8000000
set_option linter.all false
theorem rat_two_pow (n:Nat):(2:Rat)^n=((2^n:Int):Rat):=by
 induction n with
 | zero=>rfl
 | succ n ih=>
  rw[Rat.pow_succ,ih,Int.pow_succ];exact (Rat.intCast_mul _ _).symm
theorem rat_inv_pow {a:Rat}(h:a≠0)(n:Nat):a⁻¹^n=(a^n)⁻¹:=by
 have h1:∀ n:Nat,a⁻¹^n*a^n=1:=fun n=>by
  induction n with
  | zero=>rw[Rat.pow_zero,Rat.pow_zero,Rat.mul_one]
  | succ n ih=>
   rw[Rat.pow_succ,Rat.pow_succ,Rat.mul_assoc,Rat.mul_comm a⁻¹,Rat.mul_assoc,Rat.mul_inv_cancel a h,Rat.mul_one];exact ih
 have h2:a^n≠0:=by
  intro e;have:=h1 n;rw[e,Rat.mul_zero] at this;exact absurd this (by decide)
 have h3:=h1 n
 have h4:a⁻¹^n*a^n*(a^n)⁻¹=(a^n)⁻¹:=by rw[h3,Rat.one_mul]
 rwa [Rat.mul_assoc,Rat.mul_inv_cancel _ h2,Rat.mul_one] at h4
theorem rs_two:rs 2=⟨#[50]⟩:=by
 rw[show (2:Rat)=((2:Int):Rat) from rfl,rs_int,show (2:Int)=((2:Nat):Int) from rfl,Big.itoa_nonneg,decDigits_small (by omega)];rfl
theorem rfb_two:RFB 2 2:=⟨by show (2:Int).natAbs < 4;decide,by show (1:Nat) < 4;decide⟩
theorem rpow2_calls (s:Int)(w:World)(lo: -200≤s)(hi:s≤200):Calls prog 136 #[.string ⟨#[50]⟩,.int .i64 s] w (RetS w (stepQ s)):=by
 unfold stepQ;by_cases h:s < 0
 ·obtain ⟨n,rfl⟩:∃ n:Nat,s= -(n:Int):=⟨(-s).toNat,by omega⟩;rw[if_pos h,←rs_two];have:=rpow_neg 2 n 2 w rfb_two (by decide) (by omega) (by omega) (by omega);rw[rat_inv_pow (by decide),rat_two_pow] at this;rw[show (- -(n:Int)).toNat=n by omega];exact this
 ·obtain ⟨n,rfl⟩:∃ n:Nat,s=(n:Int):=⟨s.toNat,by omega⟩;rw[if_neg h,←rs_two];have:=rpow_nat 2 n 2 w rfb_two (by omega) (by omega);rw[rat_two_pow] at this;rw[Int.toNat_natCast];exact this
end Go.Proofs.YtnjonlnemagomaaGreatDoor
namespace Go.Proofs.YtnjonlnemagomaaGreatDoor.Flo
set_option maxRecDepth 100000
set_option maxHeartbeats 8000000
set_option linter.all false
open Ieee
theorem sdouble {x:Nat}(h0:x≠0)(h:x < 2130706432):single.mul x 1073741824=some (dbl x):=by
 obtain ⟨m,k,h1,h2⟩:=sread (x:=x) (by omega)
 have h3:single.read 1073741824=.number false 8388608 (-22):=by decide
 have hm:m≠0:=by
  intro hm;rw[hm,Nat.zero_mul] at h2;have:=V_lt single (r:=0) (r':=x) (by omega);rw[V_zero] at this;omega
 unfold Format.mul;rw[h1,h3];show some (single.nearest (false ^^ false) (m*8388608) (-149+(k:Int)+ -22))=_;rw[Bool.xor_false];congr 1;have:=nearest_rung false (m:=m*8388608) (r:=dbl x) (p:= -149+(k:Int)+ -22) (Nat.mul_ne_zero hm (by decide)) (by unfold dbl;split <;> omega);rw[V_dbl,←h2] at this;rw[this]
 ·rfl
 ·have e8:(8388608:Nat)=2^23:=by decide
  rw[e8,Nat.mul_assoc,←Nat.pow_add,show 2*(m*2^k)=m*2^(k+1) by rw[Nat.pow_succ];rw[←Nat.mul_assoc m];omega,Nat.mul_assoc,←Nat.pow_add];congr 2;omega
theorem shalve {x y:Nat}(hxy:x=y+8388608)(hlo:16777216≤x)(h:x < 2139095040):single.div x 1073741824=some y:=by
 have h3:single.read 1073741824=.number false 8388608 (-22):=by decide
 have hV:V single x=2*V single y:=by
  rw[hxy];exact V_up (x:=y) (by omega)
 have h1:single.read x=.number false (8388608+x % 8388608) (-149+((x / 8388608 - 1:Nat):Int)):=by
  unfold Format.read;simp only;rw[ssw,sbin,sinf,slp]
  have e1:x / 2147483648 % 2=0:=by omega
  have e2:x % 2147483648=x:=by omega
  rw[e1,e2,if_neg (by omega),if_pos h];rfl
 have h2:(8388608+x % 8388608)*2^(x / 8388608 - 1)=V single x:=by
  unfold V;rw[sbin,if_neg (by omega)]
 unfold Format.div;rw[h1,h3];obtain ⟨m,ab⟩:∃ m,8388608+x % 8388608=m:=⟨_,rfl⟩;obtain ⟨k,hk⟩:∃ k,x / 8388608 - 1=k:=⟨_,rfl⟩
 have ae:8388608≤m:=by omega
 have ac:m < 16777216:=by omega
 rw[ab,hk]at h2⊢
 have aa:m≠0:=by omega
 have hM:m.log2=23:=by
  have a1:=(Nat.le_log2 aa (k:=23)).2 (by omega);have a2:=log2_small aa ac;omega
 have e0:(8388608:Nat).log2=23:=by decide
 have e1:m <<< (single.fractionBits+2+(8388608:Nat).log2 - m.log2)=8388608*(4*m):=by
  rw[hM,e0,sfb,Nat.shiftLeft_eq];show m*2^25=_;omega
 have e2:8388608*(4*m) / 8388608=4*m:=Nat.mul_div_cancel_left _ (by decide);have e3:8388608*(4*m) % 8388608=0:=Nat.mul_mod_right _ _;unfold Datum.quotient;simp only[show ¬(8388608:Nat)=0 by decide,if_false,Option.map_some];rw[e1,e2,e3,hM,e0,sfb];show some (single.nearest (false ^^ false) (2*(4*m)+0) _)=_;rw[Bool.xor_false];refine congrArg some ?_;have:=nearest_rung false (m:=2*(4*m)+0) (r:=y) (p:= -149+(k:Int) - -22 - ((23+2+23 - 23:Nat):Int) - 1) (by omega) (by omega);rw[this]
 ·rfl
 ·have ad:1≤k:=by omega
  obtain ⟨j,rfl⟩:∃ j,k=j+1:=⟨k - 1,by omega⟩
  have hv:V single y=m*2^j:=by
   rw[Nat.pow_succ,←Nat.mul_assoc]at h2;omega
  have e8:2*(4*m)+0=m*2^3:=by omega
  have e9:3+(-149+((j+1:Nat):Int) - -22 - ((23+2+23 - 23:Nat):Int) - 1+149).toNat=j+(-149 - (-149+((j+1:Nat):Int) - -22 - ((23+2+23 - 23:Nat):Int) - 1)).toNat:=by omega
  rw[hv,e8,Nat.mul_assoc,←Nat.pow_add,Nat.mul_assoc,←Nat.pow_add,e9]
theorem stoInt {x:Nat}(h:x < 1266679808):floatToIntVal .f32 x .i64=some ((V single x / 2^149:Nat):Int):=by
 obtain ⟨m,k,h1,h2⟩:=sread (x:=x) (by omega)
 have hv:V single x < 16777216*2^149:=by
  rw[←one_unit];exact V_lt single h
 have aa:V single x / 2^149 < 16777216:=Nat.div_lt_of_lt_mul (by rw[Nat.mul_comm];exact hv)
 have e:(FloatKind.f32.decode x).toInt .zero=some ((V single x / 2^149:Nat):Int):=by
  show (single.read x).toInt .zero=_;rw[h1];show some (Ieee.signed false (Toward.zero.cut false (m <<< (-149+(k:Int)).toNat) (-(-149+(k:Int))).toNat) 0)=_;rw[zcut,signed_val,if_neg (by decide),Nat.pow_zero,Nat.mul_one,Nat.shiftLeft_eq,←h2];congr 2;rcases Nat.le_total k 149 with h3 | h3
  ·have e1:(-149+(k:Int)).toNat=0:=by omega
   have e2:(-(-149+(k:Int))).toNat=149 - k:=by omega
   rw[e1,e2,Nat.pow_zero,Nat.mul_one]
   have e3:2^149=2^(149 - k)*2^k:=by rw[←Nat.pow_add];congr 1;omega
   rw[e3,Nat.mul_div_mul_right _ _ (Nat.two_pow_pos k)]
  ·have e1:(-149+(k:Int)).toNat=k - 149:=by omega
   have e2:(-(-149+(k:Int))).toNat=0:=by omega
   rw[e1,e2,Nat.pow_zero,Nat.div_one]
   have e3:2^k=2^(k - 149)*2^149:=by rw[←Nat.pow_add];congr 1;omega
   rw[e3,←Nat.mul_assoc,Nat.mul_div_cancel _ (Nat.two_pow_pos 149)]
 obtain ⟨y,hy⟩:∃ y,V single x / 2^149=y:=⟨_,rfl⟩;rw[hy] at e aa⊢;unfold floatToIntVal;rw[e]
 have h5:IntKind.i64.min≤(y:Int)∧(y:Int)≤IntKind.i64.max:=by
  have a:IntKind.i64.min= -9223372036854775808:=by decide
  have b:IntKind.i64.max=9223372036854775807:=by decide
  rw[a,b];omega
 simp only;rw[if_pos h5]
theorem sofInt {n:Nat}(h:n < 16777216):∃ r,r < 1266679808∧floatOfInt .f32 (n:Int)=r∧V single r=n*2^149:=by
 have e:floatOfInt .f32 (n:Int)=vol (n:Int) 0:=by
  show single.nearest (decide ((n:Int) < 0)) ((n:Int)).natAbs 0=_;rfl
 obtain ⟨h1,h2⟩:=vol_val (d:=(n:Int)) (s:=0) (by omega) (by omega) (by omega);rw[e];by_cases h0:n=0
 ·subst h0;refine ⟨0,by omega,?_,by rw[V_zero,Nat.zero_mul]⟩;unfold vol Format.nearest;rw[if_pos (by rfl)];rfl
 ·have aa:vol (n:Int) 0=single.word false (erung single n 0):=by
   unfold vol;rw[decide_eq_false (by omega),Int.natAbs_natCast];exact (snearest false h0 h (by omega) (by omega)).1
  have hv:V single (erung single n 0)=n*2^149:=by
   have hl:=log2_small h0 h;rw[V_erung single h0 (by rw[sfb];omega) (by rw[slp,sfb];omega),sfb,slp,Nat.mul_assoc,←Nat.pow_add];congr 2;omega
  refine ⟨erung single n 0,inf_lt ?_,aa,hv⟩;rw[hv];exact Nat.mul_lt_mul_of_pos_right h (Nat.two_pow_pos _)
end Go.Proofs.YtnjonlnemagomaaGreatDoor.Flo
namespace Go.Proofs.YtnjonlnemagomaaGreatDoor
open Flo Go.RowKit Big Go.ChangeMaps Go.MapKept
set_option maxRecDepth 100000
set_option maxHeartbeats 8000000
set_option linter.all false
theorem floor_bd (q:Rat):(q.floor:Rat)≤q∧q < (q.floor:Rat)+1:=by
 refine ⟨Rat.floor_le q,?_⟩;have:=Rat.lt_floor_add_one q;simpa using this
theorem rndE_near (q:Rat)(i:Int):absR (q - (rndE q:Rat))≤absR (q - (i:Rat)):=by
 obtain ⟨h1,h2⟩:=floor_bd q
 have hi:(i:Rat)≤(q.floor:Rat)∨(q.floor:Rat)+1≤(i:Rat):=by
  rcases Int.lt_or_le q.floor i with h | h
  ·right;have:=Rat.intCast_le_intCast.2 (show q.floor+1≤i by omega);rw[Rat.intCast_add] at this;exact this
  ·exact .inl (Rat.intCast_le_intCast.2 h)
 unfold absR;rcases rndE_cases q with ⟨e,h3⟩ | ⟨e,h3⟩
 ·rw[e];clear e;generalize (q.floor:Rat)=F at h1 h2 h3 hi⊢;generalize (i:Rat)=I at hi⊢;rcases hi with h | h <;> split <;> split <;> grind
 ·rw[e,Rat.intCast_add,show ((1:Int):Rat)=1 from rfl];clear e;generalize (q.floor:Rat)=F at h1 h2 h3 hi⊢;generalize (i:Rat)=I at hi⊢;rcases hi with h | h <;> split <;> split <;> grind
theorem V_mult {r j:Nat}(h:2^(j+23)≤V Ieee.single r):2^j ∣ V Ieee.single r:=by
 unfold V at *;rw[sbin] at *;split at h
 ·rename_i h1;have:2^23≤2^(j+23):=Nat.pow_le_pow_right (by omega) (by omega);omega
 ·rename_i h1;rw[if_neg h1]
  have h2:8388608+r % 8388608 < 2^24:=by
   have:=Nat.mod_lt r (show 8388608 > 0 by omega);omega
  have h3:(8388608+r % 8388608)*2^(r / 8388608 - 1) < 2^(24+(r / 8388608 - 1)):=by
   rw[Nat.pow_add];exact Nat.mul_lt_mul_of_pos_right h2 (Nat.two_pow_pos _)
  have h4:j+23 < 24+(r / 8388608 - 1):=(Nat.pow_lt_pow_iff_right (by omega)).1 (Nat.lt_of_le_of_lt h h3);exact Nat.dvd_trans (Nat.pow_dvd_pow 2 (by omega)) (Nat.dvd_mul_left _ _)
theorem absR_mul {D:Rat}(hD:0 < D)(q:Rat):absR (D*q)=D*absR q:=by
 unfold absR;by_cases h:q < 0
 ·have h1:=Rat.mul_lt_mul_of_pos_left h hD;rw[Rat.mul_zero] at h1;rw[if_pos h,if_pos h1,Rat.mul_neg]
 ·have h1:=Rat.mul_nonneg (Rat.le_of_lt hD) (Rat.not_lt.1 h);rw[if_neg h,if_neg (Rat.not_lt.2 h1)]
theorem near_mult {x D:Rat}(hD:0 < D)(i:Int):absR (x - (rndE (x / D):Rat)*D)≤absR (x - (i:Rat)*D):=by
 have h0:D≠0:=by grind
 have e:∀ k:Rat,x - k*D=D*(x / D - k):=fun k=>by
  have:=Rat.div_mul_cancel (a:=x) h0
  grind
 rw[e,e,absR_mul hD,absR_mul hD];exact Rat.mul_le_mul_of_nonneg_left (rndE_near _ _) (Rat.le_of_lt hD)
theorem near_all {x:Rat}{j R:Nat}(hj:j=0∨((2^(j+23):Nat):Rat)≤x)(hR:(V Ieee.single R:Rat)=(rndE (x / ((2^j:Nat):Rat)):Rat)*((2^j:Nat):Rat))(r:Nat):
  absR (x - (V Ieee.single R:Rat))≤absR (x - (V Ieee.single r:Rat)):=by
 have hD:(0:Rat) < ((2^j:Nat):Rat):=by
  have:=Rat.natCast_lt_natCast.2 (Nat.two_pow_pos j);simpa using this
 rw[hR];by_cases hd:2^j ∣ V Ieee.single r
 ·obtain ⟨i,hi⟩:=hd
  have e:(V Ieee.single r:Rat)=((i:Int):Rat)*((2^j:Nat):Rat):=by
   rw[hi,Nat.mul_comm,Rat.natCast_mul];rfl
  rw[e];exact near_mult hD i
 ·have aa:j≠0:=fun h=>hd (by rw[h,Nat.pow_zero];exact Nat.one_dvd _)
  have ab:V Ieee.single r < 2^(j+23):=by
   rcases Nat.lt_or_ge (V Ieee.single r) (2^(j+23)) with h | h
   ·exact h
   ·exact absurd (V_mult h) hd
  have hx:=hj.resolve_left aa;have h1:=near_mult (x:=x) hD (8388608:Int)
  have e:((2^(j+23):Nat):Rat)=((8388608:Int):Rat)*((2^j:Nat):Rat):=by
   rw[Nat.pow_add,Nat.mul_comm,Rat.natCast_mul];rfl
  have h2:=Rat.natCast_lt_natCast.2 ab;rw[e] at hx h2;generalize ((8388608:Int):Rat)*((2^j:Nat):Rat)=M at h1 h2 hx;generalize (V Ieee.single r:Rat)=v at h2⊢
  have h3:absR (x - M)≤absR (x - v):=by
   unfold absR;rw[if_neg (by grind),if_neg (by grind)]
   grind
  exact Rat.le_trans h1 h3
theorem rung_ex {n j:Nat}(h:n≤16777216):∃ r,V Ieee.single r=n*2^j:=by
 induction j with
 | zero=>
  rcases Nat.lt_or_ge n 16777216 with h1 | h1
  ·exact ⟨n,by rw[V_low h1,Nat.pow_zero,Nat.mul_one]⟩
  ·refine ⟨8388608+8388608,?_⟩;rw[V_up (Nat.le_refl _),V_low (by omega),Nat.pow_zero,Nat.mul_one];omega
 | succ j ih=>
  obtain ⟨r,hr⟩:=ih;exact ⟨dbl r,by rw[V_dbl,hr,Nat.pow_succ,Nat.mul_left_comm,Nat.mul_comm 2]⟩
theorem near_rung {x:Rat}{j:Nat}(h0:0≤x)(h:IsPl x j):∃ R:Nat,(V Ieee.single R:Int)=sigF x j*((2^j:Nat):Int)∧∀ r,absR (x - (V Ieee.single R:Rat))≤absR (x - (V Ieee.single r:Rat)):=by
 have h1:=sigF_nonneg h0 j;have h2:=sigF_le h.hi;obtain ⟨R,hR⟩:=rung_ex (n:=(sigF x j).toNat) (j:=j) (by omega)
 have e:(V Ieee.single R:Int)=sigF x j*((2^j:Nat):Int):=by
  rw[hR,Int.natCast_mul,Int.toNat_of_nonneg h1]
 refine ⟨R,e,near_all h.lo ?_⟩;have:=congrArg (fun z:Int=>(z:Rat)) e;rw[Rat.intCast_mul] at this;exact this
def sameF (x y:Nat):Bool:=FloatKind.f32.format.order x y==some Ordering.eq
def codeEs (vol:Nat→Nat)(n:Nat):List MapEntry:=(List.range n).map fun i=>{key:=.float .f32 (vol i),val:=.int .i64 i,born:=i}
theorem codeEs_succ (vol:Nat→Nat)(n:Nat):codeEs vol (n+1)=codeEs vol n ++ [{key:=.float .f32 (vol n),val:=.int .i64 n,born:=n}]:=by
 unfold codeEs;rw[List.range_succ,List.map_append];rfl
def findF (x:Nat):List MapEntry→Nat→Option (Nat × Value)
 | [],_=>none
 | e::es,i=>match e.key with
  | .float .f32 y=>if sameF x y then some (i,e.val) else findF x es (i+1)
  | _=>none
theorem run_equal_f32 {P:Program}{kt:TypeId}(ht:P.underlying kt=some (.float .f32))(w:World)(x y:Nat):(Op.equal kt (.float .f32 x) (.float .f32 y)).run P w=.ok (sameF x y) w:=by
 have h:=run_underlying ht w;unfold Op.equal Op.maxDepth;unfold Op.equalIn;simp[h,Result.andThen,Op.floatEq,sameF]
theorem run_findAsking {P:Program}{kt:TypeId}(ht:P.underlying kt=some (.float .f32))(w:World)(x:Nat):∀ (es:List MapEntry) (i:Nat),(∀ e∈es,∃ y,e.key=.float .f32 y)→
  (Instr.findAsking kt (.float .f32 x) es i).run P w=.ok (findF x es i) w:=by
 intro es
 induction es with
 | nil=>intro i _;simp[Instr.findAsking,findF]
 | cons e es ih=>
  intro i h;obtain ⟨y,hy⟩:=h e (by simp);unfold Instr.findAsking findF;simp only[Sem.run_bind,hy,run_equal_f32 ht w x y,Result.andThen]
  cases sameF x y with
  | true=>simp
  | false=>simpa using ih (i+1) fun e' aa=>h e' (by simp[aa])
theorem run_findKey_f32 {P:Program}{kt:TypeId}(ht:P.underlying kt=some (.float .f32))(w:World)(x:Nat)(es:List MapEntry)(h:∀ e∈es,∃ y,e.key=.float .f32 y):
  (Instr.findKey kt (.float .f32 x) es).run P w=.ok (findF x es 0) w:=by
 unfold Instr.findKey;simp only[Sem.run_bind,run_underlying ht,Result.andThen]
 cases es with
 | nil=>simp[Instr.findNow,findF]
 | cons e es=>
  have:Instr.findNow (.float .f32) (.float .f32 x) (e::es) 0=none:=by
   unfold Instr.findNow Instr.sameNow;rfl
  rw[this];exact run_findAsking ht w x (e::es) 0 h
theorem run_checkKey_f32 {P:Program}{kt:TypeId}(ht:P.underlying kt=some (.float .f32))(w:World)(x:Nat)(b:Bool):(Instr.checkKey b 10000 kt (.float .f32 x)).run P w=.ok () w:=by
 have h:=run_underlying ht w;unfold Instr.checkKey;simp[h,Result.andThen]
theorem codeEs_keys (vol:Nat→Nat)(n:Nat):∀ e∈codeEs vol n,∃ y,e.key=.float .f32 y:=by
 intro e he;unfold codeEs at he;obtain ⟨i,_,rfl⟩:=List.mem_map.1 he;exact ⟨_,rfl⟩
def CodeMap (w:World)(b:Nat)(vol:Nat→Nat)(n:Nat):Prop:=∃ es,w.heap[b]?=some (.map es n)∧es.toList=codeEs vol n
theorem CodeMap.made (w:World)(vol:Nat→Nat):CodeMap (w.alloc (.map #[] 0)) w.heap.size vol 0:=⟨#[],by show (w.heap.push _)[w.heap.size]?=_;simp,rfl⟩
theorem CodeMap.lt {w:World}{b n:Nat}{vol:Nat→Nat}(h:CodeMap w b vol n):b < w.heap.size:=by
 obtain ⟨es,h1,_⟩:=h;rcases Nat.lt_or_ge b w.heap.size with h2 | h2
 ·exact h2
 ·rw[Array.getElem?_eq_none h2] at h1;cases h1
theorem CodeMap.new {w w':World}{b n:Nat}{vol:Nat→Nat}(h:CodeMap w b vol n)(hn:New w w'):CodeMap w' b vol n:=by
 have hl:=h.lt;obtain ⟨es,h1,h2⟩:=h;exact ⟨es,by rw[Below.block hn b hl,h1],h2⟩
theorem findF_none (x:Nat)(vol:Nat→Nat)(n:Nat):∀ (l:List Nat) (i:Nat),(∀ j∈l,sameF x (vol j)=false)→findF x (l.map fun i=>{key:=.float .f32 (vol i),val:=.int .i64 i,born:=i}) i=none:=by
 intro l
 induction l with
 | nil=>intro i _;rfl
 | cons a l ih=>
  intro i h;simp only[List.map_cons,findF];rw[h a (by simp),if_neg (by decide)];exact ih _ fun j hj=>h j (by simp[hj])
theorem findF_val (x:Nat)(vol:Nat→Nat):∀ (l:List Nat) (i:Nat),(findF x (l.map fun i=>{key:=.float .f32 (vol i),val:=.int .i64 i,born:=i}) i).map (·.2)=(l.find? fun j=>sameF x (vol j)).map fun j=>Value.int .i64 (j:Int):=by
 intro l
 induction l with
 | nil=>intro i;rfl
 | cons a l ih=>
  intro i;simp only[List.map_cons,findF,List.find?_cons]
  cases sameF x (vol a) with
  | true=>rfl
  | false=>exact ih _
theorem CodeMap.put {P:Program}{t kt e:TypeId}(ht:P.underlying t=some (.map kt e))(hk:P.underlying kt=some (.float .f32)){w:World}{b n:Nat}{vol:Nat→Nat}(h:CodeMap w b vol n)(hd:∀ j,j < n→sameF (vol n) (vol j)=false):
  ∃ w',(Instr.mapUpdate t (.map (some b)) (.float .f32 (vol n)) (.int .i64 n)).run P w=.ok () w'∧CodeMap w' b vol (n+1)∧w.grownBy w' (some b):=by
 obtain ⟨es,hb,he⟩:=h;have hf:=run_findKey_f32 hk w (vol n) es.toList (by rw[he];exact codeEs_keys vol n)
 have aa:findF (vol n) es.toList 0=none:=by
  rw[he];exact findF_none _ _ n _ _ fun j hj=>hd j (by simpa using hj)
 rw[aa]at hf;refine ⟨setBlock w b (.map (es.push {key:=.float .f32 (vol n),val:=.int .i64 n,born:=n}) (n+1)),?_,⟨_,heap_setBlock_same hb _,by rw[Array.toList_push,he,codeEs_succ]⟩,⟨rfl,rfl,rfl,by simp[setBlock],fun i _ hi=>heap_setBlock_other hb _ (fun e=>hi (by rw[e]))⟩⟩;simp[Instr.mapUpdate,run_underlying ht,MapKept.run_getObj_map hb,run_checkKey_f32 hk,hf,MapKept.run_setObj_map _ hb,Result.andThen,setBlock]
def codeOf (vol:Nat→Nat)(n x:Nat):Int × Bool:=match (List.range n).find? fun j=>sameF x (vol j) with
 | some j=>(j,true)
 | none=>(0,false)
theorem CodeMap.look {P:Program}{t kt e:TypeId}(ht:P.underlying t=some (.map kt e))(hk:P.underlying kt=some (.float .f32)){w:World}(hz:(zeroValue e).run P w=.ok (.int .i64 0) w){b n:Nat}{vol:Nat→Nat}(h:CodeMap w b vol n)(x:Nat):
  (Instr.lookup t (.map (some b)) (.float .f32 x) true).run P w=.ok (.tuple #[.int .i64 (codeOf vol n x).1,.bool (codeOf vol n x).2]) w:=by
 obtain ⟨es,hb,he⟩:=h;have hf:=run_findKey_f32 hk w x es.toList (by rw[he];exact codeEs_keys vol n);have hv:=findF_val x vol (List.range n) 0;have aa:es.toList=(List.range n).map fun i=>{key:=.float .f32 (vol i),val:=.int .i64 i,born:=i}:=he;rw[←aa] at hv;unfold codeOf
 cases hfd:(List.range n).find? fun j=>sameF x (vol j) with
 | none=>
  rw[hfd]at hv
  have h0:findF x es.toList 0=none:=by simpa using hv
  rw[h0]at hf;simp[Instr.lookup,run_underlying ht,MapKept.run_getObj_map hb,run_checkKey_f32 hk,hf,hz,Result.andThen]
 | some j=>
  rw[hfd]at hv
  obtain ⟨⟨i,v⟩,h0,h1⟩:∃ p,findF x es.toList 0=some p∧p.2=Value.int .i64 (j:Int):=by simpa using hv
  rw[h0]at hf;simp only at h1;subst h1;simp[Instr.lookup,run_underlying ht,MapKept.run_getObj_map hb,run_checkKey_f32 hk,hf,Result.andThen]
def RowsOf (w:World)(base:Nat)(ts te:TypeId)(out:Value)(xss:List (List Value)):Prop:=
 ∃ vs:List Value,w.ownsRow base ts 1 out vs.length vs∧vs.length=xss.length∧∀ (k:Nat) (v:Value) (xs:List Value),vs[k]?=some v→xss[k]?=some xs→w.ownsRow base te 1 v xs.length xs∧(v.ownBlock=none∨v.ownBlock≠out.ownBlock)
theorem RowsOf.nil (w:World)(base:Nat)(ts te:TypeId):RowsOf w base ts te (.slice none 0 0) []:=
 ⟨[],World.ownsRow_nil _ _ _ _,rfl,fun (k:Nat) v xs h=>by simp at h⟩
theorem RowsOf.new {w w':World}{base:Nat}{ts te:TypeId}{out:Value}{xss:List (List Value)}(h:RowsOf w base ts te out xss)(hn:New w w'):RowsOf w' base ts te out xss:=by
 obtain ⟨vs,h1,h2,h3⟩:=h;exact ⟨vs,own_newS h1 hn,h2,fun k v xs hk hx=>⟨own_newS (h3 k v xs hk hx).1 hn,(h3 k v xs hk hx).2⟩⟩
theorem RowsOf.mono {w:World}{base base':Nat}{ts te:TypeId}{out:Value}{xss:List (List Value)}(h:RowsOf w base ts te out xss)(hb:base'≤base):RowsOf w base' ts te out xss:=by
 obtain ⟨vs,h1,h2,h3⟩:=h;exact ⟨vs,own_mono h1 hb,h2,fun k v xs hk hx=>⟨own_mono (h3 k v xs hk hx).1 hb,(h3 k v xs hk hx).2⟩⟩
theorem RowsOf.rd {w:World}{base:Nat}{ts te:TypeId}{out:Value}{xss:List (List Value)}(h:RowsOf w base ts te out xss):
  ∃ (a:Option Addr) (aa:Nat) (vs:List Value),out=.slice a xss.length aa∧RdL w a vs∧vs.length=xss.length∧∀ (k:Nat) (v:Value) (xs:List Value),vs[k]?=some v→xss[k]?=some xs→∃ (a':Option Addr) (c':Nat),v=.slice a' xs.length c'∧RdL w a' xs∧xs.length≤c':=by
 obtain ⟨vs,h1,h2,h3⟩:=h;obtain ⟨a,aa,e,hr,_⟩:=own_rd h1;refine ⟨a,aa,vs,by rw[e,h2],hr,h2,fun k v xs hk hx=>?_⟩;have hv:=(h3 k v xs hk hx).1;obtain ⟨a',c',e',ab,_⟩:=own_rd hv;refine ⟨a',c',e',ab,?_⟩;rcases hv.2 with ⟨e2,h0⟩ | ⟨g,ac,ad,e2,_,_,ae,_⟩
 ·omega
 ·rw[e'] at e2;injection e2 with _ _ e3;omega
def RdLL (w:World)(a:Option Addr)(rv:List Value)(xss:List (List Value)):Prop:=
 RdL w a rv∧rv.length=xss.length∧∀ (k:Nat) (v:Value) (xs:List Value),rv[k]?=some v→xss[k]?=some xs→∃ (a':Option Addr) (c':Nat),v=.slice a' xs.length c'∧RdL w a' xs∧xs.length≤c'
theorem RdLL.new {w w':World}{a:Option Addr}{rv:List Value}{xss:List (List Value)}(h:RdLL w a rv xss)(hn:New w w'):RdLL w' a rv xss:=
 ⟨h.1.new hn,h.2.1,fun k v xs hk hx=>by
  obtain ⟨a',c',e,hr⟩:=h.2.2 k v xs hk hx
  exact ⟨a',c',e,hr.1.new hn,hr.2⟩⟩
theorem RdLL.at {w:World}{a:Option Addr}{rv:List Value}{xss:List (List Value)}(h:RdLL w a rv xss)(k:Nat)(hk:k < xss.length):
  ∃ (b aa:Nat) (a':Option Addr) (c':Nat),a=some ⟨b,aa,none⟩∧w.cell? ⟨b,aa+k,none⟩=some (.slice a' xss[k].length c')∧RdL w a' xss[k]∧xss[k].length≤c':=by
 have ab:k < rv.length:=by rw[h.2.1];exact hk
 obtain ⟨b,aa,e,hc⟩:=h.1 k ab;obtain ⟨a',c',e',hr⟩:=h.2.2 k rv[k] xss[k] (List.getElem?_eq_getElem ab) (List.getElem?_eq_getElem hk);exact ⟨b,aa,a',c',e,by rw[hc,e'],hr⟩
def RdZ (w:World)(a:Option Addr)(rv:List Value)(xss:List (List Value)):Prop:=
 RdLL w a rv xss∧∀ (k:Nat) (a':Option Addr) (l' c':Nat),rv[k]?=some (.slice a' l' c')→a'=none→c'=0
theorem RdZ.new {w w':World}{a:Option Addr}{rv:List Value}{xss:List (List Value)}(h:RdZ w a rv xss)(hn:New w w'):RdZ w' a rv xss:=⟨h.1.new hn,h.2⟩
theorem RdZ.at {w:World}{a:Option Addr}{rv:List Value}{xss:List (List Value)}(h:RdZ w a rv xss)(k:Nat)(hk:k < xss.length):
  ∃ (b aa:Nat) (a':Option Addr) (c':Nat),a=some ⟨b,aa,none⟩∧w.cell? ⟨b,aa+k,none⟩=some (.slice a' xss[k].length c')∧RdL w a' xss[k]∧xss[k].length≤c'∧(a'=none→c'=0):=by
 have ab:k < rv.length:=by rw[h.1.2.1];exact hk
 obtain ⟨b,aa,e,hc⟩:=h.1.1 k ab;obtain ⟨a',c',e',hr⟩:=h.1.2.2 k rv[k] xss[k] (List.getElem?_eq_getElem ab) (List.getElem?_eq_getElem hk);exact ⟨b,aa,a',c',e,by rw[hc,e'],hr.1,hr.2,h.2 k a' _ c' (by rw[List.getElem?_eq_getElem ab,e'])⟩
end Go.Proofs.YtnjonlnemagomaaGreatDoor
