/- Part CardRn09. -/
import Derived.Test.YtnjonlnemagomaaGreatDoorCardRn08
namespace Go.Proofs.YtnjonlnemagomaaGreatDoor
open Go.RowKit Big Go.Lib Go.Proofs.Tryz
set_option maxRecDepth 100000
set_option maxHeartbeats 8000000
set_option linter.all false
theorem cmp_ltF {x y:Rat}(h:x < y):(x - y).num.sign= -1:=csgn_lt h
theorem fq_V {x:Nat}(h:x < 2139095040):fq x=(Flo.V Ieee.single x:Rat)*twoQ (-149):=by
 unfold fq;rw[(pos_float h).2.2.2,Rat.divInt_eq_div,Rat.div_def,twoQ_neg]
 have e:twoQ 149=(((2:Int)^149:Int):Rat):=by
  rw[show (149:Int)=((149:Nat):Int) from rfl,twoQ_cast];rfl
 rw[e];rfl
theorem fq_lt {x y:Nat}(hx:x < 2139095040)(hy:y < 2139095040)(h:x < y):fq x < fq y:=by
 rw[fq_V hx,fq_V hy];exact Rat.mul_lt_mul_of_pos_right (Rat.natCast_lt_natCast.2 (Flo.V_lt Ieee.single h)) (twoQ_pos _)
theorem above_rung {x n:Nat}{k:Int}(hx:x < 2139095040)(hn:n < 16777216)(lo: -149≤k)(hi:k≤104)(hv:((n:Int):Rat)*twoQ k=fq x)(hne:¬(n=16777215∧k=104)):
  ∃ r,r < 2139095040∧fq x < fq r∧(Flo.V Ieee.single r:Int)=((n+1:Nat):Int)*((2^(k+149).toNat:Nat):Int):=by
 obtain ⟨r,hr⟩:=rung_ex (n:=n+1) (j:=(k+149).toNat) (by omega)
 have aa:(Flo.V Ieee.single r:Int)=((n+1:Nat):Int)*((2^(k+149).toNat:Nat):Int):=by rw[hr,Int.natCast_mul]
 have hf:r < 2139095040:=(rung_fin (by omega) lo hi aa).2 (by omega);refine ⟨r,hf,?_,aa⟩
 have ev:(Flo.V Ieee.single x:Rat)=((n*2^(k+149).toNat:Nat):Rat):=by
  rw[fq_V hx]at hv;have h1:=congrArg (·* twoQ 149) hv;simp only[Rat.mul_assoc,←twoQ_add] at h1;rw[show (-149:Int)+149=0 by omega,show twoQ 0=1 from rfl,Rat.mul_one,show k+149=(((k+149).toNat:Nat):Int) by omega,twoQ_cast] at h1;rw[←h1,Rat.natCast_mul];rfl
 have ab:Flo.V Ieee.single x=n*2^(k+149).toNat:=Rat.natCast_inj.1 ev;refine fq_lt hx hf (V_lt_iff.1 ?_);rw[ab,hr,Nat.add_mul];have:=Nat.two_pow_pos (k+149).toNat;omega
theorem rabove_calls (x:Nat)(w:World)(hx:x < 2139095040):
  Calls prog 43 #[.float .f32 x] w fun e w'=>(e=.returned (.tuple #[.float .f32 0,.bool false])∨∃ r,r < 2139095040∧fq x < fq r∧e=.returned (.tuple #[.float .f32 r,.bool true]))∧New w w':=by
 have ae:=fun W=>rparted_calls x W hx;have aa:=fun (n:Nat) (k:Int) (hn:n < 16777216) (lo: -149≤k) (hi:k≤104) (hv:((n:Int):Rat)*twoQ k=fq x) (hne:¬(n=16777215∧k=104))=>above_rung hx hn lo hi hv hne;replace ae:=hid ae;replace aa:=hid aa;have HN:=hid (New.refl w);go_in;go_wp2_with fail;refine (ae _).mono ?_;rintro e w1 ⟨⟨n,i,j,hn,hi,hj,hv,rfl⟩,rfl⟩;rw[stepQ_two] at hv;obtain ⟨k,hk⟩:∃ k:Int,(j:Int) - (i:Int)=k:=⟨_,rfl⟩;rw[hk] at hv⊢;have HI:=hid (show n < 16777216∧ -149≤k∧k≤104∧((n:Int):Rat)*twoQ k=fq x from ⟨hn,by omega,by omega,hv⟩);clear hn hi hj hv hk;go_wp2_with fail;go_loopw [4,5] (fun a b wr=>∃ (n:Nat) (k:Int),Hid (n < 16777216∧ -149≤k∧k≤104∧((n:Int):Rat)*twoQ k=fq x)∧a=.int .i64 (n:Int)∧b=.int .i64 k∧Hid (New w1 wr)) (fun _ b _=>(RowKit.intOf b+149).toNat)
 case atStart=>exact ⟨n,k,HI,rfl,rfl,HN⟩
 case round=>
  clear HN HI;obtain ⟨n,k,HI,rfl,rfl,HN⟩:=hrel;obtain ⟨hn,h1,h2,hv⟩:=HI.out
  have ai:(n:Int) < 16777216:=by omega
  by_cases hst:n < 8388608∧ -149 < k
  ·obtain ⟨s1,s2⟩:=hst;have d1:decide ((n:Int) < 8388608)=true:=decide_eq_true (by omega);have d2:decide ((-149:Int) < k)=true:=decide_eq_true s2
   have af:Hid (2*n < 16777216∧ -149≤k - 1∧k - 1≤104∧(((2*n:Nat):Int):Rat)*twoQ (k - 1)=fq x):=hid ⟨by omega,by omega,by omega,by
    rw[←hv,Int.natCast_mul,Rat.intCast_mul]
    have e:twoQ k=2*twoQ (k - 1):=by
     have:=twoQ_add 1 (k - 1);rw[show 1+(k - 1)=k by omega,show twoQ 1=2 by decide +kernel] at this;exact this
    rw[e,←Rat.mul_assoc,Rat.mul_comm ((n:Int):Rat) 2]
    rfl⟩
   have hm:2*(n:Int)=((2*n:Nat):Int):=by omega
   obtain ⟨m,ag⟩:∃ m,2*n=m:=⟨_,rfl⟩;rw[ag] at hm af
   have ah:(m:Int) < 16777216:=by omega
   clear HI hv s1 hn ag;go_wp2_with fail;go_roundw
   case rel=>exact ⟨m,k - 1,af,rfl,rfl,HN⟩
   case measure=>simp[RowKit.intOf];omega
  ·have hd:(decide ((n:Int) < 8388608)=true∧decide ((-149:Int) < k)=false)∨decide ((n:Int) < 8388608)=false:=by
    by_cases h:n < 8388608
    ·exact .inl ⟨decide_eq_true (by omega),decide_eq_false fun h3=>hst ⟨h,h3⟩⟩
    ·exact .inr (decide_eq_false (by omega))
   clear hst hv hn;rcases hd with ⟨d1,d2⟩ | d1
   ·go_wp2_with fail;clear d1 d2;go_loopw [4,5] (fun a b wr=>a=.int .i64 (n:Int)∧b=.int .i64 k∧Hid (New w1 wr)) (fun _ _ _=>0)
    case atStart=>exact ⟨rfl,rfl,HN⟩
    case round=>
     clear HN;obtain ⟨rfl,rfl,HN⟩:=hrel;have d3:decide (k < -149)=false:=decide_eq_false (by omega);by_cases hE:n=16777215∧k=104
     ·obtain ⟨e1,e2⟩:=hE;subst e1 e2;clear HI;go_wp2_with fail;go_ret2;exact ⟨.inl rfl,HN⟩
     ·obtain ⟨q1,q2,q3,q4⟩:=HI.out;obtain ⟨r,hr,ac,hV⟩:=aa.out n k q1 q2 q3 q4 hE;have hb:=fun W=>rbuiltZ_calls (n+1) r k W (by omega) q2 q3 hr hV
      have ad:(n:Int)+1=((n+1:Nat):Int):=by omega
      obtain ⟨m,hm⟩:∃ m,n+1=m:=⟨_,rfl⟩;rw[hm] at hb ad
      have ah:(m:Int)≤16777216:=by omega
      have hd:((n:Int)==16777215)=false∨(((n:Int)==16777215)=true∧(k==104)=false):=by
       by_cases h:n=16777215
       ·exact .inr ⟨by rw[h];rfl,beq_false_of_ne fun h2=>hE ⟨h,h2⟩⟩
       ·exact .inl (beq_false_of_ne (by omega))
      clear q1 q4 hV hE hm HI;refine zh3 ?_ hr ac hb;clear hr ac hb;intro HR ab HB;rcases hd with d4 | ⟨d4,d5⟩
      ·go_wp2_with fail;refine zM (HB _) fun w3 hn=>?_;replace HN:=tW HN hn;clear hn;go_wp2_with fail;go_ret2;exact ⟨.inr ⟨r,HR,ab,rfl⟩,HN⟩
      ·go_wp2_with fail;refine zM (HB _) fun w3 hn=>?_;replace HN:=tW HN hn;clear hn;go_wp2_with fail;go_ret2;exact ⟨.inr ⟨r,HR,ab,rfl⟩,HN⟩
   ·go_wp2_with fail;clear d1;go_loopw [4,5] (fun a b wr=>a=.int .i64 (n:Int)∧b=.int .i64 k∧Hid (New w1 wr)) (fun _ _ _=>0)
    case atStart=>exact ⟨rfl,rfl,HN⟩
    case round=>
     clear HN;obtain ⟨rfl,rfl,HN⟩:=hrel;have d3:decide (k < -149)=false:=decide_eq_false (by omega);by_cases hE:n=16777215∧k=104
     ·obtain ⟨e1,e2⟩:=hE;subst e1 e2;clear HI;go_wp2_with fail;go_ret2;exact ⟨.inl rfl,HN⟩
     ·obtain ⟨q1,q2,q3,q4⟩:=HI.out;obtain ⟨r,hr,ac,hV⟩:=aa.out n k q1 q2 q3 q4 hE;have hb:=fun W=>rbuiltZ_calls (n+1) r k W (by omega) q2 q3 hr hV
      have ad:(n:Int)+1=((n+1:Nat):Int):=by omega
      obtain ⟨m,hm⟩:∃ m,n+1=m:=⟨_,rfl⟩;rw[hm] at hb ad
      have ah:(m:Int)≤16777216:=by omega
      have hd:((n:Int)==16777215)=false∨(((n:Int)==16777215)=true∧(k==104)=false):=by
       by_cases h:n=16777215
       ·exact .inr ⟨by rw[h];rfl,beq_false_of_ne fun h2=>hE ⟨h,h2⟩⟩
       ·exact .inl (beq_false_of_ne (by omega))
      clear q1 q4 hV hE hm HI;refine zh3 ?_ hr ac hb;clear hr ac hb;intro HR ab HB;rcases hd with d4 | ⟨d4,d5⟩
      ·go_wp2_with fail;refine zM (HB _) fun w3 hn=>?_;replace HN:=tW HN hn;clear hn;go_wp2_with fail;go_ret2;exact ⟨.inr ⟨r,HR,ab,rfl⟩,HN⟩
      ·go_wp2_with fail;refine zM (HB _) fun w3 hn=>?_;replace HN:=tW HN hn;clear hn;go_wp2_with fail;go_ret2;exact ⟨.inr ⟨r,HR,ab,rfl⟩,HN⟩
end Go.Proofs.YtnjonlnemagomaaGreatDoor
