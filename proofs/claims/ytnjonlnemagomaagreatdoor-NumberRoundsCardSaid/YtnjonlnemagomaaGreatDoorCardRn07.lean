/- Part CardRn07. -/
import Derived.Test.YtnjonlnemagomaaGreatDoorCardRn06
namespace Go.Proofs.YtnjonlnemagomaaGreatDoor
open Go.RowKit Big Go.Proofs.Tryz
open Go.Lib (hid)
set_option maxRecDepth 100000
set_option maxHeartbeats 8000000
set_option linter.all false
structure Rungs (n:Nat)(F:Nat→Nat):Prop where
 v:∀ m,Flo.V Ieee.single (F m)=n*2^m
 d:∀ m,Flo.dbl (F m)=F (m+1)
 z:floatOfInt .f32 (n:Int)=F 149
 le:∀ a b,a≤b→F a≤F b
 f:F 149 < 2139095040
theorem rungs_ex {n:Nat}(hn:n≤16777216):∃ F,Rungs n F:=by
 obtain ⟨F,hF⟩:∃ F:Nat→Nat,∀ m,Flo.V Ieee.single (F m)=n*2^m:=⟨fun m=>Classical.choose (rung_ex (j:=m) hn),fun m=>Classical.choose_spec (rung_ex (j:=m) hn)⟩;refine ⟨F,hF,fun m=>Flo.V_inj Ieee.single (by rw[Flo.V_dbl,hF,hF,Nat.pow_succ,Nat.mul_left_comm,Nat.mul_comm 2]),?_,fun a b aa=>?_,?_⟩
 ·rcases Nat.lt_or_ge n 16777216 with h | h
  ·obtain ⟨r, -,he,hv⟩:=Flo.sofInt h;rw[he];exact Flo.V_inj Ieee.single (by rw[hv,hF])
  ·obtain rfl:n=16777216:=by omega
   have e:floatOfInt .f32 ((16777216:Nat):Int)=1266679808:=by decide +kernel
   rw[e];exact Flo.V_inj Ieee.single (by rw[Flo.one_unit,hF])
 ·rcases Nat.lt_or_ge (F b) (F a) with h | h
  ·have h1:=Flo.V_lt Ieee.single h;rw[hF,hF] at h1;have h2:n*2^a≤n*2^b:=Nat.mul_le_mul_left _ (Nat.pow_le_pow_right (by omega) aa);omega
  ·exact h
 ·refine V_lt_iff.1 ?_;rw[hF,sinf_V];have h1:n*2^149≤16777216*2^149:=Nat.mul_le_mul_right _ hn;exact Nat.lt_of_le_of_lt h1 (by decide +kernel)
theorem rbuiltN_calls (n j:Nat)(F:Nat→Nat)(w:World)(hF:Rungs n F)(hn:n≤16777216)(hj:j≤149):
  Calls prog 133 #[.int .i64 (n:Int),.int .i64 (-(j:Int))] w fun e w'=>e=.returned (.float .f32 (F (149 - j)))∧New w w':=by
 have aa:=fun (i:Nat) (hi:i < j) W=>run_float_arith (P:=prog) W .quo 62 .f32 (F (149 - i)) 1073741824 (F (149 - (i+1))) (by
  have e:F (149 - i)=Flo.dbl (F (149 - (i+1))):=by rw[hF.d];congr 1;omega
  have hl:=hF.le (149 - i) 149 (by omega);have hf:=hF.f;rw[e] at hl;show Ieee.single.div (F (149 - i)) 1073741824=some _;rw[e]
  exact shalve_dbl (by omega))
 have h0:=hF.z;obtain ⟨G,hG⟩:∃ G:Nat→Nat,∀ i,F (149 - i)=G i:=⟨fun i=>F (149 - i),fun i=>rfl⟩;simp only[hG] at aa;rw[hG];rw[show F 149=G 0 from hG 0] at h0
 have ak:(n:Int)≤16777216:=by omega
 have an:(j:Int)≤149:=by omega
 have ac:¬(0:Int) < -(j:Int):=by omega
 have ad:decide ((0:Int) < -(j:Int))=false:=decide_eq_false ac
 have ae:¬(j:Int) < 0:=by omega
 have af:decide ((j:Int) < 0)=false:=decide_eq_false ae;clear hG hF hn;replace aa:=hid aa;go_in;go_wp2_with fail;go_loopw [5,6] (fun f i wr=>f=.float .f32 (G 0)∧i=.int .i64 0∧Hid (New w wr)) (fun _ _ _=>0)
 case atStart=>exact ⟨rfl,rfl,hid (New.refl _)⟩
 case round=>
  obtain ⟨rfl,rfl,HN⟩:=hrel;go_wp2_with fail;clear ac ad h0 ak ae af;obtain ⟨w0,ag⟩:∃ x,x=wr:=⟨_,rfl⟩;rw[←ag] at HN⊢;clear ag;have ah:=HN;clear HN;go_loopw [5,7] (fun f i wr=>∃ m:Nat,m≤j∧f=.float .f32 (G m)∧i=.int .i64 (-(m:Int))∧Hid (New w0 wr)) (fun _ i _=>j - (RowKit.intOf i).natAbs)
  case atStart=>exact ⟨0,Nat.zero_le _,rfl,rfl,hid (New.refl _)⟩
  case round=>
   obtain ⟨m,hm,rfl,rfl,HN⟩:=hrel;by_cases hlt:m < j
   ·have hr:=aa.out m (by omega)
    have hc: -(j:Int) < -(m:Int):=by omega
    have ai:decide (-(j:Int) < -(m:Int))=true:=decide_eq_true hc;obtain ⟨m1,aj⟩:∃ x,m+1=x:=⟨_,rfl⟩;rw[aj] at hr
    have am: -(m:Int) - 1= -(m1:Int):=by omega
    have al: -150≤ -(m1:Int):=by omega
    go_wp2_with fail;go_roundw
    case rel=>exact ⟨m1,by omega,rfl,rfl,HN⟩
    case measure=>simp[RowKit.intOf];omega
   ·obtain rfl:m=j:=by omega
    have hc:¬ -(m:Int) < -(m:Int):=by omega
    have ai:decide (-(m:Int) < -(m:Int))=false:=decide_eq_false hc;have ab:=ah.out.trans HN.out;replace ab:=hid ab;go_wp2_with fail;go_ret;exact ⟨rfl,ab⟩
theorem rbuiltP_calls (n j:Nat)(F:Nat→Nat)(w:World)(hF:Rungs n F)(hn:n≤16777216)(hj:j≤104)(hf:F (149+j) < 2139095040):
  Calls prog 133 #[.int .i64 (n:Int),.int .i64 (j:Int)] w fun e w'=>e=.returned (.float .f32 (F (149+j)))∧New w w':=by
 have aa:=fun (i:Nat) (hi:i < j) W=>run_float_arith (P:=prog) W .mul 62 .f32 (F (149+i)) 1073741824 (F (149+(i+1))) (by
  have hl:=hF.le (149+(i+1)) (149+j) (by omega);have e:Flo.dbl (F (149+i))=F (149+(i+1)):=hF.d (149+i);show Ieee.single.mul (F (149+i)) 1073741824=some _;rw[←e]
  exact smul_dbl (by omega))
 have h0:=hF.z;obtain ⟨G,hG⟩:∃ G:Nat→Nat,∀ i,F (149+i)=G i:=⟨fun i=>F (149+i),fun i=>rfl⟩;simp only[hG] at aa;rw[hG];rw[show F 149=G 0 from hG 0] at h0
 have ae:(n:Int)≤16777216:=by omega
 have ai:(j:Int)≤104:=by omega
 clear hf hG hF hn hj;replace aa:=hid aa;go_in;go_wp2_with fail;go_loopw [5,6] (fun f i wr=>∃ m:Nat,m≤j∧f=.float .f32 (G m)∧i=.int .i64 (m:Int)∧Hid (New w wr)) (fun _ i _=>j - (RowKit.intOf i).natAbs)
 case atStart=>exact ⟨0,Nat.zero_le _,rfl,rfl,hid (New.refl _)⟩
 case round=>
  clear h0 ae;obtain ⟨m,hm,rfl,rfl,HN⟩:=hrel;by_cases hlt:m < j
  ·have hr:=aa.out m hlt
   have hc:(m:Int) < (j:Int):=by omega
   have ac:decide ((m:Int) < (j:Int))=true:=decide_eq_true hc;obtain ⟨m1,ad⟩:∃ x,m+1=x:=⟨_,rfl⟩;rw[ad] at hr
   have ah:(m:Int)+1=(m1:Int):=by omega
   have ag:(m1:Int)≤105:=by omega
   go_wp2_with fail;go_roundw
   case rel=>exact ⟨m1,by omega,rfl,rfl,HN⟩
   case measure=>simp[RowKit.intOf];omega
  ·obtain rfl:m=j:=by omega
   have hc:¬(m:Int) < (m:Int):=by omega
   have ac:decide ((m:Int) < (m:Int))=false:=decide_eq_false hc
   have ab:¬(m:Int) < 0:=by omega
   have af:decide ((m:Int) < 0)=false:=decide_eq_false ab;go_wp2_with fail;go_loopw [5,7] (fun f i wr=>f=.float .f32 (G m)∧i=.int .i64 0∧Hid (New w wr)) (fun _ _ _=>0)
   case atStart=>exact ⟨rfl,rfl,HN⟩
   case round=>
    clear HN;obtain ⟨rfl,rfl,HN⟩:=hrel;go_wp2_with fail;go_ret;exact ⟨rfl,HN⟩
theorem rbuiltZ_calls (n r:Nat)(k:Int)(w:World)(hn:n≤16777216)(lo: -149≤k)(hi:k≤104)(hr:r < 2139095040)(hV:(Flo.V Ieee.single r:Int)=(n:Int)*((2^(k+149).toNat:Nat):Int)):
  Calls prog 133 #[.int .i64 (n:Int),.int .i64 k] w fun e w'=>e=.returned (.float .f32 r)∧New w w':=by
 obtain ⟨F,hF⟩:=rungs_ex hn
 have hE:F (k+149).toNat=r:=Flo.V_inj Ieee.single (by
  rw[hF.v]
  have:((n*2^(k+149).toNat:Nat):Int)=(Flo.V Ieee.single r:Int):=by rw[hV,Int.natCast_mul]
  omega)
 rcases Int.lt_or_le k 0 with h | h
 ·obtain ⟨j,rfl⟩:∃ j:Nat,k= -(j:Int):=⟨(-k).toNat,by omega⟩;rw[←hE,show (-(j:Int)+149).toNat=149 - j by omega];exact rbuiltN_calls n j F w hF hn (by omega)
 ·obtain ⟨j,rfl⟩:∃ j:Nat,k=(j:Int):=⟨k.toNat,by omega⟩
  have e:((j:Int)+149).toNat=149+j:=by omega
  rw[e]at hE;rw[←hE];exact rbuiltP_calls n j F w hF hn (by omega) (by rw[hE];exact hr)
end Go.Proofs.YtnjonlnemagomaaGreatDoor
