/- Part CardLn07. -/
import Derived.Test.YtnjonlnemagomaaGreatDoorB35
import Derived.Test.YtnjonlnemagomaaGreatDoorCardLn06
namespace Go.Proofs.YtnjonlnemagomaaGreatDoor
open Go.RowKit Big Go.Lib Go.Proofs.Tryz
set_option maxRecDepth 100000
set_option maxHeartbeats 8000000
set_option linter.all false
theorem lwide_calls (a:Option Addr)(cap n:Nat)(vs:List ByteArray)(w:World)(hn0:vs.length=n)(hl:n≤1000)(hr:RdL w a (strs vs))(hsz:∀ (k:Nat) (h1:k < vs.length),(vs[k]).size≤9223372036854775807):
  Calls prog 14 #[.slice a n cap] w fun e w'=>(∃ t:Bool,e=.returned (.bool t)∧(t=false→∀ (k:Nat) (h1:k < vs.length),(vs[k]).size≤60))∧New w w':=by
 have af:(n:Int)≤1000:=by omega
 refine zh3 ?_ hr hn0 hsz;clear hr hn0 hsz;intro HR HL ad;go_in;go_wp2_with fail;go_loopw [3] (fun i wr=>∃ (k:Nat),k≤n∧i=.int .i64 (k:Int)∧Hid (∀ (j:Nat) (h:j < vs.length),j < k→(vs[j]).size≤60)∧Hid (New w wr)) (fun i _=>n - (RowKit.intOf i).toNat)
 case atStart=>exact ⟨0,Nat.zero_le _,rfl,hid (fun j h h2=>by omega),hid (New.refl _)⟩
 case round=>
  obtain ⟨k,hk,rfl,HP,HN⟩:=hrel;by_cases hlt:k < n
  ·have h1:k < vs.length:=by rw[HL.out];exact hlt
   obtain ⟨b1,ae,rfl,ab⟩:=HR.out.str k h1;have hs:=ad.out k h1
   have aa:(vs[k]).size≤60→∀ (j:Nat) (h:j < vs.length),j < k+1→(vs[j]).size≤60:=fun h0 j h h2=>by
    by_cases e:j=k
    ·subst e;exact h0
    ·exact HP j h (by omega)
   obtain ⟨x,hx⟩:∃ x,vs[k]=x:=⟨_,rfl⟩;rw[hx] at ab hs aa
   have ag:(x.size:Int)≤9223372036854775807:=by omega
   replace ab:=HN.cell ab;by_cases h0:x.size≤60
   ·have hp:=aa h0;have hb:decide ((60:Int) < (x.size:Int))=false:=decide_eq_false (by omega);clear hs aa h0;have HX:=hid hx;replace hp:=hid hp;clear hx;go_wp2_with fail;go_roundw
    case rel=>exact ⟨k+1,by omega,by go_num,hp,HN⟩
    case measure=>simp[RowKit.intOf];omega
   ·have hb:decide ((60:Int) < (x.size:Int))=true:=decide_eq_true (by omega);clear hs aa h0;replace hx:=hid hx;go_wp2_with fail;go_ret;exact ⟨⟨_,rfl,fun h=>by cases h⟩,HN⟩
  ·have ac:k=n:=by omega
   replace ac:=hid ac;go_wp2_with fail;go_ret;exact ⟨⟨_,rfl,fun _ j h=>HP j h (by rw[ac.out,←HL.out];exact h)⟩,HN⟩
structure Rungs (n:Nat)(F:Nat→Nat):Prop where
 v:∀ m,Flo.V Ieee.single (F m)=n*2^m
 d:∀ m,Flo.dbl (F m)=F (m+1)
 z:floatOfInt .f32 (n:Int)=F 149
 le:∀ a b,a≤b→F a≤F b
 f:F 149 < 2139095040
theorem rungs_ex {n:Nat}(hn:n≤16777216):∃ F,Rungs n F:=by
 obtain ⟨F,hF⟩:∃ F:Nat→Nat,∀ m,Flo.V Ieee.single (F m)=n*2^m:=⟨fun m=>Classical.choose (rung_ex (j:=m) hn),fun m=>Classical.choose_spec (rung_ex (j:=m) hn)⟩;refine ⟨F,hF,fun m=>Flo.V_inj Ieee.single (by rw[Flo.V_dbl,hF,hF,Nat.pow_succ,Nat.mul_left_comm,Nat.mul_comm 2]),?_,fun a b aa=>?_,?_⟩
 ·rcases Nat.lt_or_ge n 16777216 with h | h
  ·obtain ⟨r, -,he,hv⟩:=Flo.sofInt h;rw[he];exact Flo.V_inj Ieee.single (by rw[hv,hF])
  ·obtain rfl:n=16777216:=by omega
   have e:floatOfInt .f32 ((16777216:Nat):Int)=1266679808:=by decide +kernel
   rw[e];exact Flo.V_inj Ieee.single (by rw[Flo.one_unit,hF])
 ·rcases Nat.lt_or_ge (F b) (F a) with h | h
  ·have h1:=Flo.V_lt Ieee.single h;rw[hF,hF] at h1;have h2:n*2^a≤n*2^b:=Nat.mul_le_mul_left _ (Nat.pow_le_pow_right (by omega) aa);omega
  ·exact h
 ·refine V_lt_iff.1 ?_;rw[hF,sinf_V];have h1:n*2^149≤16777216*2^149:=Nat.mul_le_mul_right _ hn;exact Nat.lt_of_le_of_lt h1 (by decide +kernel)
theorem rbuiltN_calls (n j:Nat)(F:Nat→Nat)(w:World)(hF:Rungs n F)(hn:n≤16777216)(hj:j≤149):
  Calls prog 133 #[.int .i64 (n:Int),.int .i64 (-(j:Int))] w fun e w'=>e=.returned (.float .f32 (F (149 - j)))∧New w w':=by
 have aa:=fun (i:Nat) (hi:i < j) W=>run_float_arith (P:=prog) W .quo 62 .f32 (F (149 - i)) 1073741824 (F (149 - (i+1))) (by
  have e:F (149 - i)=Flo.dbl (F (149 - (i+1))):=by rw[hF.d];congr 1;omega
  have hl:=hF.le (149 - i) 149 (by omega);have hf:=hF.f;rw[e] at hl;show Ieee.single.div (F (149 - i)) 1073741824=some _;rw[e]
  exact shalve_dbl (by omega))
 have h0:=hF.z;obtain ⟨G,hG⟩:∃ G:Nat→Nat,∀ i,F (149 - i)=G i:=⟨fun i=>F (149 - i),fun i=>rfl⟩;simp only[hG] at aa;rw[hG];rw[show F 149=G 0 from hG 0] at h0
 have ak:(n:Int)≤16777216:=by omega
 have an:(j:Int)≤149:=by omega
 have ac:¬(0:Int) < -(j:Int):=by omega
 have ad:decide ((0:Int) < -(j:Int))=false:=decide_eq_false ac
 have ae:¬(j:Int) < 0:=by omega
 have af:decide ((j:Int) < 0)=false:=decide_eq_false ae;clear hG hF hn;replace aa:=hid aa;go_in;go_wp2_with fail;go_loopw [5,6] (fun f i wr=>f=.float .f32 (G 0)∧i=.int .i64 0∧Hid (New w wr)) (fun _ _ _=>0)
 case atStart=>exact ⟨rfl,rfl,hid (New.refl _)⟩
 case round=>
  obtain ⟨rfl,rfl,HN⟩:=hrel;go_wp2_with fail;clear ac ad h0 ak ae af;obtain ⟨w0,ag⟩:∃ x,x=wr:=⟨_,rfl⟩;rw[←ag] at HN⊢;clear ag;have ah:=HN;clear HN;go_loopw [5,7] (fun f i wr=>∃ m:Nat,m≤j∧f=.float .f32 (G m)∧i=.int .i64 (-(m:Int))∧Hid (New w0 wr)) (fun _ i _=>j - (RowKit.intOf i).natAbs)
  case atStart=>exact ⟨0,Nat.zero_le _,rfl,rfl,hid (New.refl _)⟩
  case round=>
   obtain ⟨m,hm,rfl,rfl,HN⟩:=hrel;by_cases hlt:m < j
   ·have hr:=aa.out m (by omega)
    have hc: -(j:Int) < -(m:Int):=by omega
    have ai:decide (-(j:Int) < -(m:Int))=true:=decide_eq_true hc;obtain ⟨m1,aj⟩:∃ x,m+1=x:=⟨_,rfl⟩;rw[aj] at hr
    have am: -(m:Int) - 1= -(m1:Int):=by omega
    have al: -150≤ -(m1:Int):=by omega
    go_wp2_with fail;go_roundw
    case rel=>exact ⟨m1,by omega,rfl,rfl,HN⟩
    case measure=>simp[RowKit.intOf];omega
   ·obtain rfl:m=j:=by omega
    have hc:¬ -(m:Int) < -(m:Int):=by omega
    have ai:decide (-(m:Int) < -(m:Int))=false:=decide_eq_false hc;have ab:=ah.out.trans HN.out;replace ab:=hid ab;go_wp2_with fail;go_ret;exact ⟨rfl,ab⟩
theorem rbuiltP_calls (n j:Nat)(F:Nat→Nat)(w:World)(hF:Rungs n F)(hn:n≤16777216)(hj:j≤104)(hf:F (149+j) < 2139095040):
  Calls prog 133 #[.int .i64 (n:Int),.int .i64 (j:Int)] w fun e w'=>e=.returned (.float .f32 (F (149+j)))∧New w w':=by
 have aa:=fun (i:Nat) (hi:i < j) W=>run_float_arith (P:=prog) W .mul 62 .f32 (F (149+i)) 1073741824 (F (149+(i+1))) (by
  have hl:=hF.le (149+(i+1)) (149+j) (by omega);have e:Flo.dbl (F (149+i))=F (149+(i+1)):=hF.d (149+i);show Ieee.single.mul (F (149+i)) 1073741824=some _;rw[←e]
  exact smul_dbl (by omega))
 have h0:=hF.z;obtain ⟨G,hG⟩:∃ G:Nat→Nat,∀ i,F (149+i)=G i:=⟨fun i=>F (149+i),fun i=>rfl⟩;simp only[hG] at aa;rw[hG];rw[show F 149=G 0 from hG 0] at h0
 have ae:(n:Int)≤16777216:=by omega
 have ai:(j:Int)≤104:=by omega
 clear hf hG hF hn hj;replace aa:=hid aa;go_in;go_wp2_with fail;go_loopw [5,6] (fun f i wr=>∃ m:Nat,m≤j∧f=.float .f32 (G m)∧i=.int .i64 (m:Int)∧Hid (New w wr)) (fun _ i _=>j - (RowKit.intOf i).natAbs)
 case atStart=>exact ⟨0,Nat.zero_le _,rfl,rfl,hid (New.refl _)⟩
 case round=>
  clear h0 ae;obtain ⟨m,hm,rfl,rfl,HN⟩:=hrel;by_cases hlt:m < j
  ·have hr:=aa.out m hlt
   have hc:(m:Int) < (j:Int):=by omega
   have ac:decide ((m:Int) < (j:Int))=true:=decide_eq_true hc;obtain ⟨m1,ad⟩:∃ x,m+1=x:=⟨_,rfl⟩;rw[ad] at hr
   have ah:(m:Int)+1=(m1:Int):=by omega
   have ag:(m1:Int)≤105:=by omega
   go_wp2_with fail;go_roundw
   case rel=>exact ⟨m1,by omega,rfl,rfl,HN⟩
   case measure=>simp[RowKit.intOf];omega
  ·obtain rfl:m=j:=by omega
   have hc:¬(m:Int) < (m:Int):=by omega
   have ac:decide ((m:Int) < (m:Int))=false:=decide_eq_false hc
   have ab:¬(m:Int) < 0:=by omega
   have af:decide ((m:Int) < 0)=false:=decide_eq_false ab;go_wp2_with fail;go_loopw [5,7] (fun f i wr=>f=.float .f32 (G m)∧i=.int .i64 0∧Hid (New w wr)) (fun _ _ _=>0)
   case atStart=>exact ⟨rfl,rfl,HN⟩
   case round=>
    clear HN;obtain ⟨rfl,rfl,HN⟩:=hrel;go_wp2_with fail;go_ret;exact ⟨rfl,HN⟩
theorem rbuiltZ_calls (n r:Nat)(k:Int)(w:World)(hn:n≤16777216)(lo: -149≤k)(hi:k≤104)(hr:r < 2139095040)(hV:(Flo.V Ieee.single r:Int)=(n:Int)*((2^(k+149).toNat:Nat):Int)):
  Calls prog 133 #[.int .i64 (n:Int),.int .i64 k] w fun e w'=>e=.returned (.float .f32 r)∧New w w':=by
 obtain ⟨F,hF⟩:=rungs_ex hn
 have hE:F (k+149).toNat=r:=Flo.V_inj Ieee.single (by
  rw[hF.v]
  have:((n*2^(k+149).toNat:Nat):Int)=(Flo.V Ieee.single r:Int):=by rw[hV,Int.natCast_mul]
  omega)
 rcases Int.lt_or_le k 0 with h | h
 ·obtain ⟨j,rfl⟩:∃ j:Nat,k= -(j:Int):=⟨(-k).toNat,by omega⟩;rw[←hE,show (-(j:Int)+149).toNat=149 - j by omega];exact rbuiltN_calls n j F w hF hn (by omega)
 ·obtain ⟨j,rfl⟩:∃ j:Nat,k=(j:Int):=⟨k.toNat,by omega⟩
  have e:((j:Int)+149).toNat=149+j:=by omega
  rw[e]at hE;rw[←hE];exact rbuiltP_calls n j F w hF hn (by omega) (by rw[hE];exact hr)
theorem cmp_ltF {x y:Rat}(h:x < y):(x - y).num.sign= -1:=csgn_lt h
theorem cmp_geF {x y:Rat}(h:¬x < y):∃ c:Int,(x - y).num.sign=c∧0≤c∧c≤1:=by
 by_cases g:y < x
 ·exact ⟨1,csgn_gt g,by omega,by omega⟩
 ·have e:x=y:=Rat.le_antisymm (Rat.not_lt.1 g) (Rat.not_lt.1 h);subst e;exact ⟨0,csgn_eq x,by omega,by omega⟩
theorem yQ_up {q:Rat}{z:Int}(h:¬yQ q z < twoQ 24):twoQ 23≤yQ q (z+1):=by
 have h1:=yQ_le.1 (Rat.not_lt.1 h);refine yQ_le.2 ?_
 rwa [show z+1+23=z+24 by omega]
theorem yQ_dn {q:Rat}{z:Int}(h:yQ q z < twoQ 23):yQ q (z - 1) < twoQ 24:=by
 have h1:=yQ_lt.1 h;refine yQ_lt.2 ?_
 rwa [show z - 1+24=z+23 by omega]
theorem res_fin {R:Nat}(h:R < 2139095040):fltBits false R=R∧decide (R < 2139095040)=true:=by
 unfold fltBits;rw[if_pos h];exact ⟨rfl,decide_eq_true h⟩
theorem res_inf {R:Nat}(h:¬R < 2139095040):fltBits false R=0∧decide (R < 2139095040)=false:=by
 unfold fltBits;rw[if_neg h];exact ⟨rfl,decide_eq_false h⟩
structure FlEnd (q:Rat)(R:Nat)(z:Int)(Az:ByteArray)(N M:Nat)(B C:ByteArray)(c:Int):Prop where
 n:N < 16777216
 fl:∀ W,Calls prog 74 #[.string Az] W fun e w'=>e=.returned (.string B)∧New W w'
 ti:∀ W,Calls prog 146 #[.string B] W fun e w'=>e=.returned (.tuple #[.int .i64 (N:Int),.bool true])∧New W w'
 fi:∀ W,Calls prog 135 #[.int .i64 (N:Int)] W fun e w'=>e=.returned (.string B)∧New W w'
 sb:∀ W,Calls prog 38 #[.string Az,.string B] W fun e w'=>e=.returned (.string C)∧New W w'
 cm:∀ W,Calls prog 37 #[.string C,.string ⟨#[49,47,50]⟩] W fun e w'=>e=.returned (.int .i64 c)∧New W w'
 rd:(c=1∧M=N+1)∨(c=0∧N % 2=1∧M=N+1)∨(c=0∧N % 2=0∧M=N)∨(c= -1∧M=N)
 m:M≤16777216
 fin:R < 2139095040 ↔ ¬(M=16777216∧z=104)
 bu:R < 2139095040→∀ W,Calls prog 133 #[.int .i64 (M:Int),.int .i64 z] W fun e w'=>e=.returned (.float .f32 R)∧New W w'
theorem flEnd_ex {q:Rat}{R J:Nat}{z:Int}(h0:0≤q)(hq:RFB J q)(hJ:J≤2000)(hR:NearF q R)(lo: -149≤z)(hz:z≤104)(hi:yQ q z < twoQ 24)(h:z= -149∨twoQ 23≤yQ q z):
  ∃ (N M:Nat) (B C:ByteArray) (c:Int),FlEnd q R z (rs (yQ q z)) N M B C c:=by
 have hb:=yQ_rfb hq lo (show z≤149 by omega);obtain ⟨f0,f1⟩:=yQ_floor h0 hi;have aa:=rnd_cases (yQ q z);have ac:=fun W=>rfloorQ_calls (J+150) (yQ q z) W hb (by omega);obtain ⟨N,hN⟩:∃ N:Nat,(yQ q z).floor=(N:Int):=⟨(yQ q z).floor.toNat,by omega⟩;rw[hN] at ac aa f1;obtain ⟨M,hM⟩:∃ M:Nat,rndE (yQ q z)=(M:Int):=⟨(rndE (yQ q z)).toNat,by omega⟩;rw[hM] at aa;obtain ⟨g1,g2,g3⟩:=nearF_fin h0 hR lo hz hi h hM;have bN:RFB 25 ((N:Int):Rat):=rfb_int (by omega) (by omega);have ad:=fun W=>rsubQ_calls (J+150) 25 (yQ q z) ((N:Int):Rat) W hb bN (by omega);have bD:=hb.sub bN;have ab:=fun W=>rcmpQ_calls (J+150+25+1) 2 (yQ q z - ((N:Int):Rat)) (1 / 2) W bD rfb_half (by omega);rw[rs_half] at ab;refine ⟨N,M,rs ((N:Int):Rat),rs (yQ q z - ((N:Int):Rat)),(yQ q z - ((N:Int):Rat) - 1 / 2).num.sign,⟨by omega,fun W=>(ac W).mono fun e w' h=>RetS.to rfl h,fun W=>rtoInt_calls N W (by omega),fun W=>(rfromInt_calls (N:Int) W (by omega) (by omega)).mono fun e w' h=>RetS.to rfl h,fun W=>(ad W).mono fun e w' h=>RetS.to rfl h,ab,?_,g1,g3,fun hr W=>rbuiltZ_calls M R z W g1 lo hz hr g2⟩⟩;rcases aa with ⟨e1,e2⟩ | ⟨e1,e2⟩ | ⟨e1,e2⟩
 ·exact .inl ⟨e1,by omega⟩
 ·rcases Nat.mod_two_eq_zero_or_one N with h1 | h1
  ·exact .inr (.inr (.inl ⟨e1,h1,by omega⟩))
  ·exact .inr (.inl ⟨e1,h1,by omega⟩)
 ·exact .inr (.inr (.inr ⟨e1,by omega⟩))
theorem rfloat_far (q:Rat)(J R:Nat)(w:World)(h0:0≤q)(hq:RFB J q)(hJ:J≤2000)(hR:NearF q R)(hf:¬q < twoQ 128∨q < twoQ (-151)):
  Calls prog 68 #[.string (rs q)] w fun e w'=>e=.returned (.tuple #[.float .f32 (fltBits false R),.bool (decide (R < 2139095040))])∧New w w':=by
 have ad:=fun W=>rsign_calls q W
 obtain ⟨s0,e0,s1,s2⟩:∃ c:Int,q.num.sign=c∧0≤c∧c≤1:=by
  have:=cmp_geF (x:=q) (y:=0) (Rat.not_lt.2 h0)
  rwa [show q - 0=q by grind] at this
 rw[e0]at ad;have ar:decide (s0 < 0)=false:=decide_eq_false (by omega);clear e0;have ac:=fun W=>(rpow2_calls 128 W (by omega) (by omega)).mono fun e w' h=>RetS.to rfl h;have aa:=fun W=>rcmpQ_calls J 130 q (stepQ 128) W hq rfb_hi (by omega);have ae:=fun W=>(rpow2_calls (-151) W (by omega) (by omega)).mono fun e w' h=>RetS.to rfl h;have ab:=fun W=>rcmpQ_calls J 153 q (stepQ (-151)) W hq rfb_lo (by omega);rw[stepQ_two] at ac ae;simp only[stepQ_two] at aa ab;obtain ⟨A,hA⟩:∃ A,rs q=A:=⟨_,rfl⟩;rw[hA] at ad aa ab⊢;obtain ⟨Q1,ai⟩:∃ Q,rs (twoQ 128)=Q:=⟨_,rfl⟩;obtain ⟨Q2,aj⟩:∃ Q,rs (twoQ (-151))=Q:=⟨_,rfl⟩;rw[ai] at ac aa;rw[aj] at ae ab;by_cases hbig:q < twoQ 128
 ·have ak:=hf.resolve_left (fun h=>h hbig);rw[cmp_ltF hbig] at aa;rw[cmp_ltF ak] at ab;obtain rfl:=nearF_small h0 hR ak;obtain ⟨r1,r2⟩:=res_fin (show 0 < 2139095040 by decide);rw[r1,r2];clear hA ai aj hR h0 hq hJ hf r1 r2 hbig ak;refine zh5 ?_ ad ac aa ae ab;clear ad ac aa ae ab;intro ah ag af an am;have HN:=hid (New.refl w);go_in;go_wp2_with fail;refine (ah _).mono ?_;rintro e w1 ⟨rfl,hw⟩;rw[hw];clear hw;go_wp2_with fail;refine zM (ag _) fun w2 hn=>?_;replace HN:=tW HN hn;clear hn;go_wp2_with fail;refine zM (af _) fun w3 hn=>?_;replace HN:=tW HN hn;clear hn;go_wp2_with fail;refine zM (an _) fun w4 hn=>?_;replace HN:=tW HN hn;clear hn;go_wp2_with fail;refine zM (am _) fun w5 hn=>?_;replace HN:=tW HN hn;clear hn;go_wp2_with fail;go_ret2;exact ⟨rfl,HN⟩
 ·obtain ⟨c,al,hc,ao⟩:=cmp_geF hbig;rw[al] at aa;obtain ⟨r1,r2⟩:=res_inf (Nat.not_lt.2 (nearF_big h0 hR (Rat.not_lt.1 hbig)));rw[r1,r2];have ap:decide (c < 0)=false:=decide_eq_false (by omega);have aq:decide (0≤c)=true:=decide_eq_true hc;clear hA ai aj hR h0 hq hJ hf r1 r2 hbig al ae ab;refine zh3 ?_ ad ac aa;clear ad ac aa;intro ah ag af;have HN:=hid (New.refl w);go_in;go_wp2_with fail;refine (ah _).mono ?_;rintro e w1 ⟨rfl,hw⟩;rw[hw];clear hw;go_wp2_with fail;refine zM (ag _) fun w2 hn=>?_;replace HN:=tW HN hn;clear hn;go_wp2_with fail;refine zM (af _) fun w3 hn=>?_;replace HN:=tW HN hn;clear hn;go_wp2_with fail;go_ret2;exact ⟨rfl,HN⟩
theorem rfloat_mid (q:Rat)(J R:Nat)(w:World)(h0:0≤q)(hq:RFB J q)(hJ:J≤2000)(hR:NearF q R)(aj:q < twoQ 128)(hsm:¬q < twoQ (-151)):
  Calls prog 68 #[.string (rs q)] w fun e w'=>e=.returned (.tuple #[.float .f32 (fltBits false R),.bool (decide (R < 2139095040))])∧New w w':=by
 have ar:=fun W=>rsign_calls q W
 obtain ⟨s0,e0,s1,s2⟩:∃ c:Int,q.num.sign=c∧0≤c∧c≤1:=by
  have:=cmp_geF (x:=q) (y:=0) (Rat.not_lt.2 h0)
  rwa [show q - 0=q by grind] at this
 rw[e0]at ar;have aq:decide (s0 < 0)=false:=decide_eq_false (by omega);clear e0;have ao:=fun W=>(rpow2_calls 128 W (by omega) (by omega)).mono fun e w' h=>RetS.to rfl h;have ah:=fun W=>rcmpQ_calls J 130 q (stepQ 128) W hq rfb_hi (by omega);have ap:=fun W=>(rpow2_calls (-151) W (by omega) (by omega)).mono fun e w' h=>RetS.to rfl h;have al:=fun W=>rcmpQ_calls J 153 q (stepQ (-151)) W hq rfb_lo (by omega);rw[stepQ_two] at ao ap;simp only[stepQ_two] at ah al;rw[cmp_ltF aj] at ah;obtain ⟨u0,br,u1,u2⟩:=cmp_geF hsm;rw[br] at al;have cd:decide (u0 < 0)=false:=decide_eq_false (by omega);clear br hsm;obtain ⟨A,hA⟩:∃ A:Int→ByteArray,∀ z,rs (yQ q z)=A z:=⟨fun z=>rs (yQ q z),fun z=>rfl⟩
 have bb:rs q=A 0:=by rw[←hA,yQ_zero]
 have hb:=fun z (lo: -149≤z) (hi:z≤149)=>yQ_rfb hq lo hi
 have a8:∀ z, -149≤z→z≤149→yQ q z < twoQ 24→∀ W,Calls prog 37 #[.string (A z),.string ⟨#[49,54,55,55,55,50,49,54]⟩] W fun e w'=>e=.returned (.int .i64 (-1))∧New W w':=fun z lo hi h W=>by
  have:=rcmpQ_calls (J+150) 25 (yQ q z) ((16777216:Int):Rat) W (hb z lo hi) (rfb_int (by decide +kernel) (by omega)) (by omega);rw[rs_16777216,hA,twoQ_24,cmp_ltF h] at this;exact this
 have a7:∀ z, -149≤z→z≤149→¬yQ q z < twoQ 24→∃ c:Int,0≤c∧c≤1∧∀ W,Calls prog 37 #[.string (A z),.string ⟨#[49,54,55,55,55,50,49,54]⟩] W fun e w'=>e=.returned (.int .i64 c)∧New W w':=fun z lo hi h=>by
  obtain ⟨c,hc,c0,c1⟩:=cmp_geF h;refine ⟨c,c0,c1,fun W=>?_⟩;have:=rcmpQ_calls (J+150) 25 (yQ q z) ((16777216:Int):Rat) W (hb z lo hi) (rfb_int (by decide +kernel) (by omega)) (by omega);rw[rs_16777216,hA,twoQ_24,hc] at this;exact this
 have ba:∀ z, -149≤z→z≤149→yQ q z < twoQ 23→∀ W,Calls prog 37 #[.string (A z),.string ⟨#[56,51,56,56,54,48,56]⟩] W fun e w'=>e=.returned (.int .i64 (-1))∧New W w':=fun z lo hi h W=>by
  have:=rcmpQ_calls (J+150) 25 (yQ q z) ((8388608:Int):Rat) W (hb z lo hi) (rfb_int (by decide +kernel) (by omega)) (by omega);rw[rs_8388608,hA,twoQ_23,cmp_ltF h] at this;exact this
 have a9:∀ z, -149≤z→z≤149→¬yQ q z < twoQ 23→∃ c:Int,0≤c∧c≤1∧∀ W,Calls prog 37 #[.string (A z),.string ⟨#[56,51,56,56,54,48,56]⟩] W fun e w'=>e=.returned (.int .i64 c)∧New W w':=fun z lo hi h=>by
  obtain ⟨c,hc,c0,c1⟩:=cmp_geF h;refine ⟨c,c0,c1,fun W=>?_⟩;have:=rcmpQ_calls (J+150) 25 (yQ q z) ((8388608:Int):Rat) W (hb z lo hi) (rfb_int (by decide +kernel) (by omega)) (by omega);rw[rs_8388608,hA,twoQ_23,hc] at this;exact this
 have bj:∀ z, -149≤z→z≤149→∀ W,Calls prog 44 #[.string (A z)] W fun e w'=>e=.returned (.string (A (z+1)))∧New W w':=fun z lo hi W=>by
  have:=rhalf_calls (J+150) (yQ q z) W (hb z lo hi) (by omega);rw[yQ_half,hA] at this;exact this.mono fun e w' h=>RetS.to (hA _) h
 have bn:∀ z, -149≤z→z≤149→∀ W,Calls prog 32 #[.string (A z),.string ⟨#[50]⟩] W fun e w'=>e=.returned (.string (A (z - 1)))∧New W w':=fun z lo hi W=>by
  have:=rmulQ_calls (J+150) 2 (yQ q z) 2 W (hb z lo hi) rfb_two (by omega);rw[yQ_dbl,rs_two,hA] at this;exact this.mono fun e w' h=>RetS.to (hA _) h
 have aw:∀ z, -149≤z→z≤104→yQ q z < twoQ 24→(z= -149∨twoQ 23≤yQ q z)→∃ (N M:Nat) (B C:ByteArray) (c:Int),FlEnd q R z (A z) N M B C c:=fun z lo hz hi h=>by
  rw[←hA];exact flEnd_ex h0 hq hJ hR lo hz hi h
 rw[bb]at ar ah al⊢;obtain ⟨Q1,bc⟩:∃ Q,rs (twoQ 128)=Q:=⟨_,rfl⟩;obtain ⟨Q2,be⟩:∃ Q,rs (twoQ (-151))=Q:=⟨_,rfl⟩;rw[bc] at ao ah;rw[be] at ap al;clear hA bb hb bc be hR h0 hq hJ;refine zh12 ?_ ar ao ah ap al a8 a7 ba a9 bj bn aw;intro b5 b3 bz b4 b0 bw bv a5 bx b1 b2 a6;replace aj:=hid aj;clear ar ao ah ap al a8 a7 ba a9 bj bn aw;have HN:=hid (New.refl w);go_in;go_wp2_with fail;refine (b5 _).mono ?_;rintro e w1 ⟨rfl,hw⟩;rw[hw];clear hw;go_wp2_with fail;refine zM (b3 _) fun w2 hn=>?_;replace HN:=tW HN hn;clear hn;go_wp2_with fail;refine zM (bz _) fun w3 hn=>?_;replace HN:=tW HN hn;clear hn;clear s1 s2 aq;go_wp2_with fail;refine zM (b4 _) fun w4 hn=>?_;replace HN:=tW HN hn;clear hn;go_wp2_with fail;refine zM (b0 _) fun w5 hn=>?_;replace HN:=tW HN hn;clear hn;go_wp2_with fail;clear u1 u2 cd;go_loopw [0,6] (fun a k wr=>∃ z:Int,Hid (0≤z∧z≤104∧(z=0∨twoQ 23≤yQ q z))∧a=.string (A z)∧k=.int .i64 z∧Hid (New w wr)) (fun _ k _=>(105 - RowKit.intOf k).toNat)
 case atStart=>exact ⟨0,hid ⟨by omega,by omega,.inl rfl⟩,rfl,rfl,HN⟩
 case round=>
  clear HN;obtain ⟨z,HI,rfl,rfl,HN⟩:=hrel;obtain ⟨a3,au,ai⟩:=HI.out;by_cases hlt:yQ q z < twoQ 24
  ·have ab:=bw.out z (by omega) (by omega) hlt;have ak:Hid (-149≤z∧z≤104∧yQ q z < twoQ 24∧(z≤0∨twoQ 23≤yQ q z)):=hid ⟨by omega,au,hlt,ai.imp (fun h=>by omega) id⟩;clear HI ai hlt;have ac:=hid ab;clear ab;go_wp2_with fail;refine zM (ac _) fun w6 hn=>?_;replace HN:=tW HN hn;clear hn;clear ac;go_wp2_with fail;clear a3 au;go_loopw [0,6] (fun a k wr=>∃ z:Int,Hid (-149≤z∧z≤104∧yQ q z < twoQ 24∧(z≤0∨twoQ 23≤yQ q z))∧a=.string (A z)∧k=.int .i64 z∧Hid (New w wr)) (fun _ k _=>(RowKit.intOf k+149).toNat)
   case atStart=>exact ⟨z,ak,rfl,rfl,HN⟩
   case round=>
    clear HN ak;obtain ⟨z,HI,rfl,rfl,HN⟩:=hrel;obtain ⟨a3,au,ai,av⟩:=HI.out;by_cases hst:yQ q z < twoQ 23∧z≠ -149
    ·obtain ⟨am,ce⟩:=hst;have ab:=a5.out z (by omega) (by omega) am;have an:=b2.out z (by omega) (by omega)
     have ak:Hid (-149≤z - 1∧z - 1≤104∧yQ q (z - 1) < twoQ 24∧(z - 1≤0∨twoQ 23≤yQ q (z - 1))):=hid ⟨by omega,by omega,yQ_dn am,.inl (by
      have:=av.resolve_right (fun h=>Rat.not_lt.2 h am)
      omega)⟩
     have cb:(-149:Int) < z:=by omega
     have cf:decide ((-149:Int) < z)=true:=decide_eq_true cb;clear HI ai av am ce;have ac:=hid ab;replace an:=hid an;clear ab;go_wp2_with fail;refine zM (ac _) fun w7 hn=>?_;replace HN:=tW HN hn;clear hn;clear ac;go_wp2_with fail;refine zM (an _) fun w8 hn=>?_;replace HN:=tW HN hn;clear hn;clear an;go_wp2_with fail;go_roundw
     case rel=>exact ⟨z - 1,ak,rfl,rfl,HN⟩
     case measure=>simp[RowKit.intOf];omega
    ·have bo:z= -149∨twoQ 23≤yQ q z:=by
      by_cases h:z= -149
      ·exact .inl h
      ·exact .inr (Rat.not_lt.1 fun h2=>hst ⟨h2,h⟩)
     obtain ⟨N,M,B,C,c,K⟩:=a6.out z a3 au ai bo
     obtain ⟨d,a0,ab⟩:∃ d:Int,((d= -1∧z= -149)∨(0≤d∧d≤1))∧∀ W,Calls prog 37 #[.string (A z),.string ⟨#[56,51,56,56,54,48,56]⟩] W fun e w'=>e=.returned (.int .i64 d)∧New W w':=by
      by_cases h:yQ q z < twoQ 23
      ·exact ⟨-1,.inl ⟨rfl,by
        by_cases h2:z= -149
        ·exact h2
        ·exact absurd ⟨h,h2⟩ hst⟩,a5 z (by omega) (by omega) h⟩
      ·obtain ⟨d,d0,d1,hd⟩:=bx.out z (by omega) (by omega) h;exact ⟨d,.inr ⟨d0,d1⟩,hd⟩
     have bl:=K.fin;have bk:=K.bu;have bi:=K.fl;have bq:=K.ti;have bh:=K.fi;have aq:=K.sb;have bf:=K.cm;have bp:=K.rd
     have b6:(N:Int) < 16777216:=by have:=K.n;omega
     have cg:(M:Int)≤16777216:=by have:=K.m;omega
     have ax:(d < 0∧¬(-149:Int) < z)∨0≤d:=by omega
     have b8: -1≤d∧d≤1:=by omega
     clear HI ai av hst bo K a0;refine zh9 ?_ ab bl bk bi bq bh aq bf bp;clear ab bl bk bi bq bh aq bf bp;intro ac KF KB H1 H2 H3 H4 H5 az;go_upto_region 14 with (fail)
     go_cut [46] from 40 to 46 (fun x wx=>x=.bool false∧Hid (New w wx))
     case first=>
      rcases ax with ⟨bg,b9⟩ | bg
      ·have ca:decide (d < 0)=true:=decide_eq_true bg;have cj:decide ((-149:Int) < z)=false:=decide_eq_false b9;go_wp2_with fail;refine zM (ac _) fun w7 hn=>?_;replace HN:=tW HN hn;clear hn;clear ac;go_wp2_with fail
       go_meet
       exact ⟨rfl,HN⟩
      ·have ca:decide (d < 0)=false:=decide_eq_false (by omega);go_wp2_with fail;refine zM (ac _) fun w7 hn=>?_;replace HN:=tW HN hn;clear hn;clear ac;go_wp2_with fail
       go_meet
       exact ⟨rfl,HN⟩
     case rest=>
      clear HN ac ax b8;obtain ⟨rfl,HN⟩:=hcut;obtain ⟨w7,bt⟩:∃ u,u=wc:=⟨_,rfl⟩;rw[←bt] at HN⊢;clear bt
      go_step
      go_wp2_with fail;refine zM (H1 _) fun w8 hn=>?_;replace HN:=tW HN hn;clear hn;go_wp2_with fail;refine zM (H2 _) fun w9 hn=>?_;replace HN:=tW HN hn;clear hn;go_wp2_with fail;refine zM (H3 _) fun ck hn=>?_;replace HN:=tW HN hn;clear hn;go_wp2_with fail;refine zM (H4 _) fun cl hn=>?_;replace HN:=tW HN hn;clear hn;go_wp2_with fail;refine zM (H5 _) fun cn hn=>?_;replace HN:=tW HN hn;clear hn;clear H1 H2 H3 H4 H5;go_upto_region 19 with (fail);obtain ⟨up,aa⟩:∃ up:Bool,decide (M=N+1)=up:=⟨_,rfl⟩
      have af:(up=true∧(N:Int)+1=(M:Int))∨(up=false∧N=M):=by
       rcases az.out with ⟨-,h⟩ | ⟨-, -,h⟩ | ⟨-, -,h⟩ | ⟨-,h⟩
       ·exact .inl ⟨by rw[←aa];exact decide_eq_true h,by omega⟩
       ·exact .inl ⟨by rw[←aa];exact decide_eq_true h,by omega⟩
       ·exact .inr ⟨by rw[←aa];exact decide_eq_false (by omega),by omega⟩
       ·exact .inr ⟨by rw[←aa];exact decide_eq_false (by omega),by omega⟩
      replace af:=hid af
      go_cut [72] from 62 to 72 (fun x wx=>x=.bool up∧Hid (New w wx))
      case first=>
       rcases az.out with ⟨rfl,h⟩ | ⟨rfl,h1,h⟩ | ⟨rfl,h1,h⟩ | ⟨rfl,h⟩
       ·rw[decide_eq_true h] at aa;have HU:=hid aa;clear aa;go_wp2_with fail
        go_meet
        exact ⟨by rw[←HU.out],HN⟩
       ·rw[decide_eq_true h] at aa;have HU:=hid aa;clear aa
        have bm:(N:Int).tmod 2=1:=by rw[Int.tmod_eq_emod_of_nonneg (by omega)];omega
        clear h h1;go_wp2_with fail
        go_meet
        exact ⟨by rw[←HU.out],HN⟩
       ·rw[decide_eq_false (by omega)] at aa;have HU:=hid aa;clear aa
        have bm:(N:Int).tmod 2=0:=by rw[Int.tmod_eq_emod_of_nonneg (by omega)];omega
        clear h h1;go_wp2_with fail
        go_meet
        exact ⟨by rw[←HU.out],HN⟩
       ·rw[decide_eq_false (by omega)] at aa;have HU:=hid aa;clear aa;go_wp2_with fail
        go_meet
        exact ⟨by rw[←HU.out],HN⟩
      case rest=>
       clear HN az b6 aa;obtain ⟨rfl,HN⟩:=hcut;obtain ⟨co,ay⟩:∃ u,u=wc:=⟨_,rfl⟩;rw[←ay] at HN⊢;clear ay;rcases af.out with ⟨rfl,hM⟩ | ⟨rfl,hM⟩
       ·clear af
        go_step
        by_cases gM:M=16777216
        ·have a1:((M:Int)==16777216)=true:=by rw[gM];rfl
         by_cases gz:z=104
         ·obtain ⟨r1,r2⟩:=res_inf (fun h=>KF.1 h ⟨gM,gz⟩)
          have a2:(z==104)=true:=by rw[gz];rfl
          clear gM gz;have R1:=hid r1;have R2:=hid r2;clear r1 r2;go_wp2_with fail;go_ret2;exact ⟨by rw[R1.out,R2.out];rfl,HN.out⟩
         ·have hr:=KF.out.2 (fun h=>gz h.2);obtain ⟨r1,r2⟩:=res_fin hr;have ad:=KB.out hr;have a2:(z==104)=false:=beq_false_of_ne gz;clear gM gz hr;refine zh3 ?_ r1 r2 ad;clear r1 r2 ad;intro R1 R2 ag;go_wp2_with fail;refine zM (ag _) fun a4 hn=>?_;replace HN:=tW HN hn;clear hn;go_wp2_with fail;go_ret2;exact ⟨by rw[R1.out,R2.out];rfl,HN.out⟩
        ·have hr:=KF.out.2 (fun h=>gM h.1);obtain ⟨r1,r2⟩:=res_fin hr;have ad:=KB.out hr;have a1:((M:Int)==16777216)=false:=beq_false_of_ne (by omega);clear gM hr;refine zh3 ?_ r1 r2 ad;clear r1 r2 ad;intro R1 R2 ag;go_wp2_with fail;refine zM (ag _) fun a4 hn=>?_;replace HN:=tW HN hn;clear hn;go_wp2_with fail;go_ret2;exact ⟨by rw[R1.out,R2.out];rfl,HN.out⟩
       ·clear af;rw[hM]
        go_step
        by_cases gM:M=16777216
        ·have a1:((M:Int)==16777216)=true:=by rw[gM];rfl
         by_cases gz:z=104
         ·obtain ⟨r1,r2⟩:=res_inf (fun h=>KF.1 h ⟨gM,gz⟩)
          have a2:(z==104)=true:=by rw[gz];rfl
          clear gM gz;have R1:=hid r1;have R2:=hid r2;clear r1 r2;go_wp2_with fail;go_ret2;exact ⟨by rw[R1.out,R2.out];rfl,HN.out⟩
         ·have hr:=KF.out.2 (fun h=>gz h.2);obtain ⟨r1,r2⟩:=res_fin hr;have ad:=KB.out hr;have a2:(z==104)=false:=beq_false_of_ne gz;clear gM gz hr;refine zh3 ?_ r1 r2 ad;clear r1 r2 ad;intro R1 R2 ag;go_wp2_with fail;refine zM (ag _) fun a4 hn=>?_;replace HN:=tW HN hn;clear hn;go_wp2_with fail;go_ret2;exact ⟨by rw[R1.out,R2.out];rfl,HN.out⟩
        ·have hr:=KF.out.2 (fun h=>gM h.1);obtain ⟨r1,r2⟩:=res_fin hr;have ad:=KB.out hr;have a1:((M:Int)==16777216)=false:=beq_false_of_ne (by omega);clear gM hr;refine zh3 ?_ r1 r2 ad;clear r1 r2 ad;intro R1 R2 ag;go_wp2_with fail;refine zM (ag _) fun a4 hn=>?_;replace HN:=tW HN hn;clear hn;go_wp2_with fail;go_ret2;exact ⟨by rw[R1.out,R2.out];rfl,HN.out⟩
  ·obtain ⟨c,b7,ah,ab⟩:=bv.out z (by omega) (by omega) hlt;have av:=yQ_top aj.out hlt;have ch:decide (c < 0)=false:=decide_eq_false (by omega);have ci:decide (0≤c)=true:=decide_eq_true b7;have ae:=b1.out z (by omega) (by omega);have ak:Hid (0≤z+1∧z+1≤104∧(z+1=0∨twoQ 23≤yQ q (z+1))):=hid ⟨by omega,by omega,.inr (yQ_up hlt)⟩;clear HI ai hlt;replace ab:=hid ab;replace ae:=hid ae;go_wp2_with fail;refine zM (ab _) fun w6 hn=>?_;replace HN:=tW HN hn;clear hn;clear ab;go_wp2_with fail;refine zM (ae _) fun w7 hn=>?_;replace HN:=tW HN hn;clear hn;clear ae;go_wp2_with fail;go_roundw
   case rel=>exact ⟨z+1,ak,rfl,rfl,HN⟩
   case measure=>simp[RowKit.intOf];omega
theorem rfloat_nn (q:Rat)(J R:Nat)(w:World)(h0:0≤q)(hq:RFB J q)(hJ:J≤2000)(hR:NearF q R):
  Calls prog 68 #[.string (rs q)] w fun e w'=>e=.returned (.tuple #[.float .f32 (fltBits false R),.bool (decide (R < 2139095040))])∧New w w':=by
 by_cases hb:q < twoQ 128
 ·by_cases hs:q < twoQ (-151)
  ·exact rfloat_far q J R w h0 hq hJ hR (.inr hs)
  ·exact rfloat_mid q J R w h0 hq hJ hR hb hs
 ·exact rfloat_far q J R w h0 hq hJ hR (.inl hb)
theorem szero_sub {r:Nat}(h0:r≠0)(h:r < 2139095040):floatBits .sub .f32 0 r=some (2147483648+r):=by
 show Ieee.single.sub 0 r=_;unfold Ieee.Format.sub;obtain ⟨m,k,h1,h2⟩:=Flo.sread h
 have hV:Flo.V Ieee.single r≠0:=by
  have:=Flo.V_lt Ieee.single (r:=0) (r':=r) (by omega);rw[Flo.V_zero] at this;omega
 have hm:m≠0:=by
  intro hm;rw[hm,Nat.zero_mul] at h2;omega
 rw[h1,show Ieee.single.read 0=.number false 0 (-149) by decide];simp only[Ieee.Datum.opposite,Ieee.Datum.sum,Option.map_some]
 have hb:min (-149) (-149+(k:Int))= -149:=by omega
 rw[hb]
 have e1:Ieee.signed false 0 (-149 - -149:Int).toNat+Ieee.signed true m (-149+(k:Int) - -149).toNat= -((Flo.V Ieee.single r:Nat):Int):=by
  unfold Ieee.signed;rw[show (-149+(k:Int) - -149).toNat=k by omega,Nat.shiftLeft_eq,Nat.shiftLeft_eq,h2];simp
 simp only[Bool.not_false];rw[e1,if_neg (by omega),show decide (-((Flo.V Ieee.single r:Nat):Int) < 0)=true from decide_eq_true (by omega),Int.natAbs_neg,Int.natAbs_natCast];show some (Ieee.single.nearest true (Flo.V Ieee.single r) (-149))=_;have:=Flo.nearest_V (f:=Ieee.single) true (r:=r) (by rw[Flo.sinf];exact h);rw[Flo.slp] at this;rw[this];rfl
theorem ne_zeroF {r:Nat}(h0:r≠0)(h:r < 2139095040):(FloatKind.f32.format.order r 0==some .eq)=false:=by
 rw[ord_pos h (by omega),cmp_eq];refine decide_eq_false ?_;have:=Flo.V_lt Ieee.single (r:=0) (r':=r) (by omega);rw[Flo.V_zero] at this⊢;omega
theorem rfloat_ng (q:Rat)(J R:Nat)(w:World)(h0:q < 0)(hq:RFB J q)(hJ:J≤2000)(hR:NearF (-q) R):
  Calls prog 68 #[.string (rs q)] w fun e w'=>e=.returned (.tuple #[.float .f32 (fltBits true R),.bool (decide (R < 2139095040))])∧New w w':=by
 have aa:=fun W=>rfloat_nn (-q) J R W (by grind) hq.neg hJ hR;have ac:=fun W=>rsign_calls q W
 have hn:q.num.sign= -1:=by
  have:=cmp_ltF (x:=q) (y:=0) h0
  rwa [show q - 0=q by grind] at this
 rw[hn]at ac;have ab:=fun W=>(rneg_calls q W (by have:=hq.len;omega)).mono fun e w' h=>RetS.to rfl h;obtain ⟨A,hA⟩:∃ A,rs q=A:=⟨_,rfl⟩;obtain ⟨B,hB⟩:∃ A,rs (-q)=A:=⟨_,rfl⟩;rw[hA] at ac ab⊢;rw[hB] at aa ab;have HN:=hid (New.refl w);by_cases hr:R < 2139095040
 ·by_cases hr0:R=0
  ·subst hr0;have e1:fltBits false 0=0:=rfl;have e2:fltBits true 0=0:=rfl;have e3:=decide_eq_true hr
   have z1:(FloatKind.f32.format.order 0 0==some .eq)=true:=by decide +kernel
   rw[e1,e3]at aa;rw[e2,e3];clear hA hB h0 hq hJ hR hn hr e1 e2 e3;refine zh3 ?_ ac ab aa;clear ac ab aa;intro ag ae af;go_in;go_wp2_with fail;refine (ag _).mono ?_;rintro e w1 ⟨rfl,hw⟩;rw[hw];clear hw;go_wp2_with fail;refine zM (ae _) fun w2 hn=>?_;replace HN:=tW HN hn;clear hn;go_wp2_with fail;refine zM (af _) fun w3 hn=>?_;replace HN:=tW HN hn;clear hn;go_wp2_with fail;go_ret2;exact ⟨rfl,HN⟩
  ·have e1:fltBits false R=R:=(res_fin hr).1
   have e2:fltBits true R=R+2147483648:=by
    unfold fltBits;rw[if_pos hr,show (true && R != 0)=true by simpa using hr0];rfl
   have e3:=decide_eq_true hr;have z1:=ne_zeroF hr0 hr;have ad:=fun W=>run_float_arith (P:=prog) W .sub 62 .f32 _ _ _ (szero_sub hr0 hr);rw[e1,e3] at aa;rw[e2,e3,Nat.add_comm];obtain ⟨G,hG⟩:∃ G,2147483648+R=G:=⟨_,rfl⟩;rw[hG] at ad⊢;clear hA hB h0 hq hJ hR hn hr hr0 e1 e2 e3 hG;refine zh4 ?_ ac ab aa ad;clear ac ab aa ad;intro ag ae af ah;go_in;go_wp2_with fail;refine (ag _).mono ?_;rintro e w1 ⟨rfl,hw⟩;rw[hw];clear hw;go_wp2_with fail;refine zM (ae _) fun w2 hn=>?_;replace HN:=tW HN hn;clear hn;go_wp2_with fail;refine zM (af _) fun w3 hn=>?_;replace HN:=tW HN hn;clear hn;have ad:=ah.out;go_wp2_with fail;go_ret2;exact ⟨rfl,HN⟩
 ·have e1:fltBits false R=0:=(res_inf hr).1
  have e2:fltBits true R=0:=by
   unfold fltBits;rw[if_neg hr]
  have e3:decide (R < 2139095040)=false:=decide_eq_false hr
  have z1:(FloatKind.f32.format.order 0 0==some .eq)=true:=by decide +kernel
  rw[e1,e3]at aa;rw[e2,e3];clear hA hB h0 hq hJ hR hn hr e1 e2 e3;refine zh3 ?_ ac ab aa;clear ac ab aa;intro ag ae af;go_in;go_wp2_with fail;refine (ag _).mono ?_;rintro e w1 ⟨rfl,hw⟩;rw[hw];clear hw;go_wp2_with fail;refine zM (ae _) fun w2 hn=>?_;replace HN:=tW HN hn;clear hn;go_wp2_with fail;refine zM (af _) fun w3 hn=>?_;replace HN:=tW HN hn;clear hn;go_wp2_with fail;go_ret2;exact ⟨rfl,HN⟩
theorem rfloatQ_calls (q:Rat)(J R:Nat)(w:World)(hq:RFB J q)(hJ:J≤2000)(hR:NearF q R):
  Calls prog 68 #[.string (rs q)] w fun e w'=>e=.returned (.tuple #[.float .f32 (fltBits (decide (q.num < 0)) R),.bool (decide (R < 2139095040))])∧New w w':=by
 have aa:q.num < 0 ↔ q < 0:=by
  have:=Rat.num_nonneg (q:=q);constructor
  ·intro h;exact Rat.not_le.1 fun h2=>by have:=this.2 h2;omega
  ·intro h;rcases Int.lt_or_le q.num 0 with g | g
   ·exact g
   ·exact absurd (this.1 g) (Rat.not_le.2 h)
 by_cases h:q < 0
 ·rw[decide_eq_true (aa.2 h)];refine rfloat_ng q J R w h hq hJ ?_;obtain ⟨j,h1,h2⟩:=hR
  have e:absR (-q)=absR q:=by unfold absR;rw[if_pos h,if_neg (by grind)]
  exact ⟨j,by rw[e];exact h1,by rw[e];exact h2⟩
 ·rw[decide_eq_false (fun g=>h (aa.1 g))];exact rfloat_nn q J R w (Rat.not_lt.1 h) hq hJ hR
end Go.Proofs.YtnjonlnemagomaaGreatDoor
