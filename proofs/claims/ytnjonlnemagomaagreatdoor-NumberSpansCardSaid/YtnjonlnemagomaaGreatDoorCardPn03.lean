/- Part CardPn03. -/
import Derived.Deep.LoopGhost
import Derived.Test.YtnjonlnemagomaaGreatDoorCardPn02
namespace Go.Proofs.YtnjonlnemagomaaGreatDoor
open Go.RowKit Big Go.Lib Go Tryz
set_option maxRecDepth 100000
set_option maxHeartbeats 8000000
set_option linter.all false
theorem isRt_ex:∀ n:Nat,∃ r:Int,IsRt (n:Int) r
 | 0=>⟨0,isRt_zero⟩
 | n+1=>by
  obtain ⟨r,h0,h1,h2⟩:=isRt_ex n;rcases Int.lt_or_le ((n:Int)+1) ((r+1)*(r+1)) with h | h
  ·exact ⟨r,h0,by omega,by push_cast;exact h⟩
  ·refine ⟨r+1,by omega,by push_cast;exact h,?_⟩
   have e:(r+1+1)*(r+1+1)=(r+1)*(r+1)+(2*r+3):=by grind
   rw[e]
   push_cast
   omega
def NZ (n:Nat):ByteArray:=rs ((n:Int):Rat)
theorem nz_bd {n k:Nat}(h:n < 2^k)(hk:1≤k):RFB k ((n:Int):Rat):=⟨by rw[Rat.num_intCast,Int.natAbs_natCast];exact h,by show (1:Nat) < 2^k;exact Nat.one_lt_two_pow (by omega)⟩
theorem nz_num (a b:Nat):(((a:Int):Rat) - ((b:Int):Rat)).num=(a:Int) - (b:Int):=by
 rw[←Rat.intCast_sub,Rat.num_intCast]
theorem nz_mul (a b k:Nat)(w:World)(ha:a < 2^k)(hb:b < 2^k)(hk:k≤10000)(h1:1≤k):Calls prog 32 #[.string (NZ a),.string (NZ b)] w fun e w'=>e=.returned (.string (NZ (a*b)))∧New w w':=by
 have h:=(rmulQ_calls k k ((a:Int):Rat) ((b:Int):Rat) w (nz_bd ha h1) (nz_bd hb h1) (by omega)).mono fun e w' h=>RetS.to rfl h
 rwa [←Rat.intCast_mul,←Int.natCast_mul] at h
theorem nz_add (a b k:Nat)(w:World)(ha:a < 2^k)(hb:b < 2^k)(hk:k≤10000)(h1:1≤k):Calls prog 45 #[.string (NZ a),.string (NZ b)] w fun e w'=>e=.returned (.string (NZ (a+b)))∧New w w':=by
 have h:=(raddQ_calls k k ((a:Int):Rat) ((b:Int):Rat) w (nz_bd ha h1) (nz_bd hb h1) (by omega)).mono fun e w' h=>RetS.to rfl h
 rwa [←Rat.intCast_add,←Int.natCast_add] at h
theorem nz_sub (a b k:Nat)(w:World)(ha:a < 2^k)(hb:b≤a)(hk:k≤10000)(h1:1≤k):Calls prog 38 #[.string (NZ a),.string (NZ b)] w fun e w'=>e=.returned (.string (NZ (a - b)))∧New w w':=by
 have h:=(rsubQ_calls k k ((a:Int):Rat) ((b:Int):Rat) w (nz_bd ha h1) (nz_bd (Nat.lt_of_le_of_lt hb ha) h1) (by omega)).mono fun e w' h=>RetS.to rfl h
 rwa [←Rat.intCast_sub,←Int.natCast_sub hb] at h
theorem nz_cmp (a b k:Nat)(w:World)(ha:a < 2^k)(hb:b < 2^k)(hk:k≤10000)(h1:1≤k):Calls prog 37 #[.string (NZ a),.string (NZ b)] w fun e w'=>e=.returned (.int .i64 ((a:Int) - (b:Int)).sign)∧New w w':=by
 have h:=rcmpQ_calls k k ((a:Int):Rat) ((b:Int):Rat) w (nz_bd ha h1) (nz_bd hb h1) (by omega)
 rwa [nz_num] at h
theorem half_fl (n:Nat):(((n:Int):Rat)*(1 / 2)).floor=((n / 2:Nat):Int):=by
 have h1:((n / 2:Nat):Int)≤(((n:Int):Rat)*(1 / 2)).floor:=by
  rw[Rat.le_floor_iff]
  have h:(((n / 2:Nat):Int):Rat)*2≤((n:Int):Rat):=by
   have:((((n / 2:Nat):Int)*2:Int):Rat)≤((n:Int):Rat):=Rat.intCast_le_intCast.2 (by omega)
   rwa [Rat.intCast_mul] at this
  generalize (((n / 2:Nat):Int):Rat)=u at h⊢;generalize ((n:Int):Rat)=v at h⊢
  grind
 have h2:¬((n / 2:Nat):Int)+1≤(((n:Int):Rat)*(1 / 2)).floor:=by
  rw[Rat.le_floor_iff,Rat.not_le]
  have h:((n:Int):Rat) < ((((n / 2:Nat):Int)+1:Int):Rat)*2:=by
   have:((n:Int):Rat) < (((((n / 2:Nat):Int)+1)*2:Int):Rat):=Rat.intCast_lt_intCast.2 (by omega)
   rwa [Rat.intCast_mul] at this
  generalize ((((n / 2:Nat):Int)+1:Int):Rat)=u at h⊢;generalize ((n:Int):Rat)=v at h⊢
  grind
 omega
theorem nz_half (a k:Nat)(w:World)(ha:a < 2^k)(hk:k≤10000)(h1:1≤k):Calls prog 44 #[.string (NZ a)] w fun e w'=>e=.returned (.string (rs (((a:Int):Rat)*(1 / 2))))∧New w w':=
 (rhalf_calls k ((a:Int):Rat) w (nz_bd ha h1) (by omega)).mono fun e w' h=>RetS.to rfl h
theorem nz_floor (a k:Nat)(w:World)(ha:a < 2^k)(hk:k≤10000)(h1:1≤k):Calls prog 74 #[.string (rs (((a:Int):Rat)*(1 / 2)))] w fun e w'=>e=.returned (.string (NZ (a / 2)))∧New w w':=by
 have h:=(rfloorQ_calls (k+2) (((a:Int):Rat)*(1 / 2)) w ((nz_bd ha h1).mul rfb_half) (by omega)).mono fun e w' h=>RetS.to rfl h
 rwa [half_fl] at h
theorem nz_one:NZ 1=⟨#[49]⟩:=rs_one
theorem nz_zero:NZ 0=⟨#[48]⟩:=rs_zero
theorem nz_two:NZ 2=⟨#[50]⟩:=by unfold NZ;rw[rs_int];decide +kernel
theorem sgn_le {a b:Int}:(a - b).sign≤0 ↔ a≤b:=by
 rcases Int.lt_trichotomy (a - b) 0 with h | h | h
 ·rw[Int.sign_eq_neg_one_of_neg h];omega
 ·rw[h];simp;omega
 ·rw[Int.sign_eq_one_of_pos h];omega
theorem sgn_gt {a b:Int}:(a - b).sign > 0 ↔ b < a:=by
 have:=sgn_le (a:=a) (b:=b);omega
theorem pow_dbl (k:Nat):2^k*2=2^(k+1):=(Nat.pow_succ ..).symm
theorem pow_sq (k:Nat):2^k*2^k=2^(2*k):=by rw[←Nat.pow_add];congr 1;omega
theorem wroot_gen (z M K:Nat)(w:World)(hz:z < 2^(2*M))(hK:2*M+3≤K)(hK2:K≤10000):Calls prog 138 #[.string (NZ z)] w fun e w'=>(∃ r:Nat,IsRt (z:Int) (r:Int)∧e=.returned (.string (NZ r)))∧New w w':=by
 have ae:∀ k,k≤M+1→2^k*2^k < 2^K∧2^k < 2^K:=fun k hk=>by
  rw[pow_sq];exact ⟨Nat.pow_lt_pow_right (by omega) (by omega),Nat.pow_lt_pow_right (by omega) (by omega)⟩
 have be:z < 2^K:=Nat.lt_trans hz (Nat.pow_lt_pow_right (by omega) (by omega));have bn:=fun (k:Nat) (hk:k≤M+1) W=>nz_mul (2^k) (2^k) K W (ae k hk).2 (ae k hk).2 (by omega) (by omega);have bj:=fun (k:Nat) (hk:k≤M+1) W=>nz_cmp (2^k*2^k) z K W (ae k hk).1 be (by omega) (by omega);have a9:=fun (k:Nat) (hk:k≤M+1) W=>nz_mul (2^k) 2 K W (ae k hk).2 (show 2 < 2^K from Nat.pow_lt_pow_right (a:=2) (m:=1) (by omega) (by omega)) (by omega) (by omega);simp only[pow_dbl,nz_two] at a9
 have ao:∀ k,2^k*2^k≤z→k≤M:=fun k h=>by
  rcases Nat.lt_or_ge M k with h1 | h1
  ·exfalso;rw[pow_sq] at h;have:2^(2*M)≤2^(2*k):=Nat.pow_le_pow_right (by omega) (by omega);omega
  ·exact h1
 have bd:∀ n,n≤2^(M+1)→n < 2^K:=fun n h=>Nat.lt_of_le_of_lt h (Nat.pow_lt_pow_right (by omega) (by omega));have bh:∀ n,n≤2^(M+1)→n*n < 2^K:=fun n h=>Nat.lt_of_le_of_lt (Nat.mul_le_mul h h) (by rw[pow_sq];exact Nat.pow_lt_pow_right (by omega) (by omega));have ax:∀ l h,h≤2^(M+1)→l < h→l+h < 2^K:=fun l h h1 h2=>Nat.lt_of_lt_of_le (show l+h < 2^(M+1)+2^(M+1) by omega) (by rw[←Nat.two_mul,Nat.mul_comm,pow_dbl];exact Nat.pow_le_pow_right (by omega) (by omega));have bq:=fun (l h:Nat) (h1:h≤2^(M+1)) (h2:l < h) W=>nz_sub h l K W (bd h h1) (Nat.le_of_lt h2) (by omega) (by omega);have a8:=fun (l h:Nat) (h1:h≤2^(M+1)) (h2:l < h) W=>nz_cmp (h - l) 1 K W (Nat.lt_of_le_of_lt (Nat.sub_le _ _) (bd h h1)) (show 1 < 2^K from Nat.pow_lt_pow_right (a:=2) (m:=0) (by omega) (by omega)) (by omega) (by omega);rw[nz_one] at a8;have bi:=fun (l h:Nat) (h1:h≤2^(M+1)) (h2:l < h) W=>nz_add l h K W (bd l (by omega)) (bd h h1) (by omega) (by omega);have bl:=fun (l h:Nat) (h1:h≤2^(M+1)) (h2:l < h) W=>nz_half (l+h) K W (ax l h h1 h2) (by omega) (by omega);have bk:=fun (l h:Nat) (h1:h≤2^(M+1)) (h2:l < h) W=>nz_floor (l+h) K W (ax l h h1 h2) (by omega) (by omega);have ad:=fun (m:Nat) (h1:m≤2^(M+1)) W=>nz_mul m m K W (bd m h1) (bd m h1) (by omega) (by omega);have ac:=fun (m:Nat) (h1:m≤2^(M+1)) W=>nz_cmp (m*m) z K W (bh m h1) be (by omega) (by omega);have bp:∃ k:Nat,k+(M+1)=M+1∧(.string ⟨#[49]⟩:Value)=.string (NZ (2^k)):=⟨0,by omega,by rw[Nat.pow_zero,nz_one]⟩;have cd:=hid (nz_zero.symm);have af:∀ k,k≤M+1→2^k≤2^(M+1):=fun k hk=>Nat.pow_le_pow_right (by omega) hk;clear ae be bd bh ax;refine zh12 ?_ bn bj a9 ao bq a8 bi bl bk ad ac bp;intro b7 bu bx bf b9 bw bt b6 b0 b8 bv ai;replace af:=hid af;replace hz:=hid hz;clear bn bj a9 ao bq a8 bi bl bk ad ac bp;go_in;go_wp2_with fail
 go_loopg [4] (M+1) (fun g v wr=>∃ k:Nat,k+g=M+1∧v=.string (NZ (2^k))∧Hid (New w wr))
 case atStart=>
  obtain ⟨k,h1,h2⟩:=ai.out;exact ⟨k,h1,h2,hid (New.refl _)⟩
 case round=>
  clear ai;obtain ⟨k,cf,rfl,HN⟩:=hrel
  have hk:k≤M+1:=by omega
  have hm:=b7.out k hk;have hc:=bu.out k hk;have hd:=bx.out k hk;obtain ⟨S,hS⟩:∃ s,((2^k*2^k:Nat):Int) - (z:Int)=s:=⟨_,rfl⟩
  have aa:(2^k*2^k≤z) ↔ S.sign≤0:=by
   rw[←hS,sgn_le];omega
  obtain ⟨q,hq⟩:∃ q,S.sign=q:=⟨_,rfl⟩;rw[hq] at aa;simp only[hS,hq] at hc;have am:=af.out k hk;obtain ⟨P,hP⟩:∃ P,2^k=P:=⟨_,rfl⟩;simp only[hP] at hm hc hd aa am;rw[hP];obtain ⟨Q,hQ⟩:∃ Q,P*P=Q:=⟨_,rfl⟩;simp only[hQ] at hm hc;rw[hQ] at aa;clear hS hq;by_cases h0:q≤0
  ·have hb:decide (q≤0)=true:=decide_eq_true h0;have ce:=bf.out k (by rw[hP,hQ];exact aa.2 h0);clear aa am;refine zh5 ?_ hm hc hd hP hQ;clear hm hc hd hP hQ;intro al ab bz HP HQ;go_wp2_with fail;refine zM (al _) fun w1 hn=>?_;replace HN:=tW HN hn;clear hn;go_wp2_with fail;refine zM (ab _) fun w2 hn=>?_;replace HN:=tW HN hn;clear hn;go_wp2_with fail;refine zM (bz _) fun w3 hn=>?_;replace HN:=tW HN hn;clear hn;go_wp2_with fail
   go_roundg (gk - 1)
   case rel=>exact ⟨k+1,by omega,rfl,HN⟩
   case measure=>omega
  ·have hb:decide (q≤0)=false:=decide_eq_false h0
   have bm:z < P*P:=by rw[hQ];exact Nat.lt_of_not_le fun h=>h0 (aa.1 h)
   have br:0 < P:=by rw[←hP];exact Nat.two_pow_pos k
   have bo:∃ l h:Nat,h≤2^(M+1)∧l < h∧l*l≤z∧z < h*h∧h - l≤P∧(.string ⟨#[48]⟩:Value)=.string (NZ l)∧(.string (NZ P):Value)=.string (NZ h):=⟨0,P,am,br,by omega,bm,by omega,by rw[nz_zero],rfl⟩;clear aa hd bm am br;refine zh5 ?_ hm hc hP hQ bo;clear hm hc hP hQ bo;intro al ab HP HQ ai;go_wp2_with fail;refine zM (al _) fun w1 hn=>?_;replace HN:=tW HN hn;clear hn;go_wp2_with fail;refine zM (ab _) fun w2 hn=>?_;replace HN:=tW HN hn;clear hn;go_wp2_with fail
   go_loopg [3,4] P (fun g vl vh wr=>∃ l h:Nat,h≤2^(M+1)∧l < h∧l*l≤z∧z < h*h∧h - l≤g∧vl=.string (NZ l)∧vh=.string (NZ h)∧Hid (New w wr))
   case atStart=>
    obtain ⟨l,h,a1,a2,a3,a4,a5,a6,a7⟩:=ai.out;exact ⟨l,h,a1,a2,a3,a4,a5,a6,a7,HN⟩
   case round=>
    clear ai al ab HP HQ HN hb h0;obtain ⟨l,h,a1,a2,a3,a4,a5,rfl,rfl,HN⟩:=hrel;have hs:=b9.out l h a1 a2;have hc:=bw.out l h a1 a2;obtain ⟨q2,bc⟩:∃ q,(((h - l:Nat):Int) - ((1:Nat):Int)).sign=q:=⟨_,rfl⟩
    have aj:1 < h - l ↔ q2 > 0:=by
     rw[←bc,sgn_gt];omega
    simp only[bc]at hc;clear bc;by_cases h1:q2 > 0
    ·have ca:decide (q2 > 0)=true:=decide_eq_true h1;have hw:=aj.2 h1;have ha:=bt.out l h a1 a2;have hh:=b6.out l h a1 a2;have hf:=b0.out l h a1 a2;obtain ⟨m,hm⟩:∃ m,(l+h) / 2=m:=⟨_,rfl⟩
     have bb:l < m:=by omega
     have ba:m < h:=by omega
     have ad:=b8.out m (by omega);have ac:=bv.out m (by omega);obtain ⟨q3,an⟩:∃ q,(((m*m:Nat):Int) - (z:Int)).sign=q:=⟨_,rfl⟩
     have aa:(m*m≤z) ↔ q3≤0:=by
      rw[←an,sgn_le];omega
     simp only[hm]at hf;simp only[an] at ac;obtain ⟨MM,a0⟩:∃ M,m*m=M:=⟨_,rfl⟩;simp only[a0] at ad ac;obtain ⟨LH,az⟩:∃ M,l+h=M:=⟨_,rfl⟩;simp only[az] at ha hh hf;obtain ⟨HF,ay⟩:∃ M,rs (((LH:Int):Rat)*(1 / 2))=M:=⟨_,rfl⟩;simp only[ay] at hh hf;have hA:∃ l h:Nat,h≤2^(M+1)∧l < h∧l*l≤z∧z < h*h:=⟨l,h,a1,a2,a3,a4⟩;by_cases h3:q3≤0
     ·have cb:decide (q3≤0)=true:=decide_eq_true h3;have ak:m < h∧h≤2^(M+1)∧m*m≤z∧z < h*h∧h - m < h - l:=⟨ba,a1,aa.2 h3,a4,by omega⟩;have hg:h - l≤gk:=a5;clear aa aj an hm a0 az ay hA a1 a2 a3 a4 a5 bb ba hw;refine zh9 ?_ hs hc ha hh hf ad ac ak hg;clear hs hc ha hh hf ad ac ak hg;intro ah ab aq av au aw ar ag HG;go_wp2_with fail;refine zM (ah _) fun w3 hn=>?_;replace HN:=tW HN hn;clear hn;go_wp2_with fail;refine zM (ab _) fun w4 hn=>?_;replace HN:=tW HN hn;clear hn;go_wp2_with fail;refine zM (aq _) fun w5 hn=>?_;replace HN:=tW HN hn;clear hn;go_wp2_with fail;refine zM (av _) fun w6 hn=>?_;replace HN:=tW HN hn;clear hn;go_wp2_with fail;refine zM (au _) fun w7 hn=>?_;replace HN:=tW HN hn;clear hn;go_wp2_with fail;refine zM (aw _) fun w8 hn=>?_;replace HN:=tW HN hn;clear hn;go_wp2_with fail;refine zM (ar _) fun w9 hn=>?_;replace HN:=tW HN hn;clear hn;go_wp2_with fail
      go_roundg (h - m)
      case rel=>
       obtain ⟨b1,b2,b3,b4,b5⟩:=ag.out;exact ⟨m,h,b2,b1,b3,b4,Nat.le_refl _,rfl,rfl,HN⟩
      case measure=>
       obtain ⟨b1,b2,b3,b4,b5⟩:=ag.out;have:=HG.out;omega
     ·have cb:decide (q3≤0)=false:=decide_eq_false h3;have ak:l < m∧m≤2^(M+1)∧l*l≤z∧z < m*m∧m - l < h - l:=⟨bb,by omega,a3,Nat.lt_of_not_le fun h=>h3 (aa.1 h),by omega⟩;have hg:h - l≤gk:=a5;clear aa aj an hm a0 az ay hA a1 a2 a3 a4 a5 bb ba hw;refine zh9 ?_ hs hc ha hh hf ad ac ak hg;clear hs hc ha hh hf ad ac ak hg;intro ah ab aq av au aw ar ag HG;go_wp2_with fail;refine zM (ah _) fun w3 hn=>?_;replace HN:=tW HN hn;clear hn;go_wp2_with fail;refine zM (ab _) fun w4 hn=>?_;replace HN:=tW HN hn;clear hn;go_wp2_with fail;refine zM (aq _) fun w5 hn=>?_;replace HN:=tW HN hn;clear hn;go_wp2_with fail;refine zM (av _) fun w6 hn=>?_;replace HN:=tW HN hn;clear hn;go_wp2_with fail;refine zM (au _) fun w7 hn=>?_;replace HN:=tW HN hn;clear hn;go_wp2_with fail;refine zM (aw _) fun w8 hn=>?_;replace HN:=tW HN hn;clear hn;go_wp2_with fail;refine zM (ar _) fun w9 hn=>?_;replace HN:=tW HN hn;clear hn;go_wp2_with fail
      go_roundg (m - l)
      case rel=>
       obtain ⟨b1,b2,b3,b4,b5⟩:=ag.out;exact ⟨l,m,b2,b1,b3,b4,Nat.le_refl _,rfl,rfl,HN⟩
      case measure=>
       obtain ⟨b1,b2,b3,b4,b5⟩:=ag.out;have:=HG.out;omega
    ·have ca:decide (q2 > 0)=false:=decide_eq_false h1
     have ap:IsRt (z:Int) (l:Int):=by
      have e:h=l+1:=by
       have:¬1 < h - l:=fun h2=>h1 (aj.1 h2);omega
      subst e;refine ⟨by omega,by exact_mod_cast a3,by exact_mod_cast a4⟩
     clear aj a1 a2 a3 a4 a5;refine zh3 ?_ hs hc ap;clear hs hc ap;intro ah ab bg;go_wp2_with fail;refine zM (ah _) fun w3 hn=>?_;replace HN:=tW HN hn;clear hn;go_wp2_with fail;refine zM (ab _) fun w4 hn=>?_;replace HN:=tW HN hn;clear hn;go_wp2_with fail;go_ret;exact ⟨⟨l,bg,rfl⟩,HN⟩
theorem rfraction_neg (K:Nat)(vn vd:Value)(x0 y0:Int)(w:World)(hx0:IsZ w vn x0)(hy0':IsZ w vd y0)(hK:K≤90000)(bx0:x0.natAbs < B9^K)(by0:y0.natAbs < B9^K)(hyn:y0 < 0):
  Calls prog 122 #[vn,vd] w (RetS w (Rat.divInt x0 y0)):=by
 obtain ⟨sX,aX,lX,cX,rfl⟩:=hx0.shape;obtain ⟨sY,aY,lY,cY,rfl⟩:=hy0'.shape;have cp:=hy0'.parts.1;rw[decide_eq_true hyn] at cp;subst cp;have bl:=fun W (hW:New w W)=>rminus_calls _ x0 W (hx0.new hW);have bm:=fun W (hW:New w W)=>rminus_calls _ y0 W (hy0'.new hW);obtain ⟨x,av⟩:∃ x, -x0=x:=⟨_,rfl⟩;obtain ⟨y,aw⟩:∃ y, -y0=y:=⟨_,rfl⟩
 have cf:Rat.divInt x0 y0=Rat.divInt x y:=by rw[←av,←aw,Rat.neg_divInt_neg]
 rw[cf];obtain ⟨R,hR⟩:∃ R,Rat.divInt x y=R:=⟨_,rfl⟩;rw[hR]
 have am:0 < y:=by omega
 have bx:x.natAbs < B9^K:=by rw[←av,Int.natAbs_neg];exact bx0
 have af:y.natAbs < B9^K:=by rw[←aw,Int.natAbs_neg];exact by0
 simp only[av]at bl;simp only[aw] at bm;clear cf av aw hyn hx0 hy0' bx0 by0;refine zh7 ?_ hR bl bm am bx af hK;clear hR bl bm am bx af hK;intro b7 b0 b1 cb bu bv bz;go_in;go_upto_region 1 with (fail);obtain ⟨BA,BB,HN⟩:=lay2 w 124 #[.bool sX,.slice aX lX cX] 124 #[.bool true,.slice aY lY cY];have pa:=BA.out.two;have pb:=BB.out.two;go_upto_region 2 with (fail);clear pa;clear pb;refine zR 4 6 (fun W=>zC W w.heap.size (.bool sX) (.slice aX lX cX)∧zC W (w.heap.size+1) (.bool true) (.slice aY lY cY)) ?_;refine zT 0 ⟨cW2 BA,cW2 BB⟩ ?_;refine zT 2 ⟨cW2 BA,cW2 BB⟩ ?_;refine tk1 1 fun K hK=>?_;go_simp;refine zO (b0 _ HN.drew) fun w1 sA a1 l1 c1 hn ct=>?_;have hn:=hn.undr;have ao:=hid ct;clear ct;obtain ⟨HN,BA,BB⟩:=zn3 hn HN BA.new BB.new;clear hn;refine zK hK ⟨cW2 BA,cW2 BB⟩ ?_;clear hK K;refine tk1 3 fun K hK=>?_;go_simp;refine zO (b1 _ HN) fun w2 sB a2 l2 c2 hn ax=>?_;replace ax:=hid ax;obtain ⟨HN,BA,BB,ao⟩:=zn4 hn HN BA.new BB.new ao.new;clear hn;refine zK hK ⟨cW2 BA,cW2 BB⟩ ?_;clear hK K;refine tlW ?_;have pa:=BA.out.two;have pb:=BB.out.two;have pc:=BA.out.lt;have pd:=BB.out.lt;go_upto_region 3 with (fail);clear pa pb;clear pc pd;have fA:=BA.out.noInt;have fB:=BB.out.noInt;have cr:=ao.out.far fA (.bool sA) (.slice a1 l1 c1);have cs:=ax.out.far fA (.bool sA) (.slice a1 l1 c1);have bA:=BA.out.put2 (.bool sA) (.slice a1 l1 c1);have bB:Box ((w2.setCell ⟨w.heap.size,0,none⟩ (.bool sA)).setCell ⟨w.heap.size,1,none⟩ (.slice a1 l1 c1)) (w.heap.size+1) 124 #[.bool true,.slice aY lY cY]:=(BB.out.other (p:=⟨w.heap.size,0,none⟩) (show w.heap.size≠w.heap.size+1 by omega) _).other (p:=⟨w.heap.size,1,none⟩) (show w.heap.size≠w.heap.size+1 by omega) _;have cd:=(HN.out.setCell (p:=⟨w.heap.size,0,none⟩) (Nat.le_refl _) (.bool sA)).setCell (p:=⟨w.heap.size,1,none⟩) (Nat.le_refl _) (.slice a1 l1 c1);have bc:=(cd.setCell (p:=⟨w.heap.size+1,0,none⟩) (by show w.heap.size≤w.heap.size+1;omega) (.bool sB)).setCell (p:=⟨w.heap.size+1,1,none⟩) (by show w.heap.size≤w.heap.size+1;omega) (.slice a2 l2 c2);have hx:=cr.far bB.noInt (.bool sB) (.slice a2 l2 c2);have hy:=cs.far bB.noInt (.bool sB) (.slice a2 l2 c2);have ba:=(bA.other (p:=⟨w.heap.size+1,0,none⟩) (show w.heap.size+1≠w.heap.size by omega) (.bool sB)).other (p:=⟨w.heap.size+1,1,none⟩) (show w.heap.size+1≠w.heap.size by omega) (.slice a2 l2 c2);have bb:=bB.put2 (.bool sB) (.slice a2 l2 c2);clear cr cs bA bB cd fA fB BA BB HN ao ax b0 b1;obtain ⟨w6,cq⟩:∃ W,((((w2.setCell ⟨w.heap.size,0,none⟩ (.bool sA)).setCell ⟨w.heap.size,1,none⟩ (.slice a1 l1 c1)).setCell ⟨w.heap.size+1,0,none⟩ (.bool sB)).setCell ⟨w.heap.size+1,1,none⟩ (.slice a2 l2 c2))=W:=⟨_,rfl⟩;rw[cq] at hx hy ba bb bc⊢;clear cq;have hK:=bz.out;have bx:=bu.out;have af:=bv.out;have am:=cb.out;have hN:=New.refl w6;clear bz bu bv cb;refine zh4 ?_ ba bb bc hN;clear ba bb bc hN;intro BA BB a3 HN;obtain ⟨cn,bf⟩:=hx.parts;obtain ⟨co,bg⟩:=hy.parts;rw[decide_eq_false (by omega)] at co;subst co;obtain ⟨ac,ab⟩:=divInt_parts (x:=x) am;have hR:=b7.out;rw[hR] at ac ab;rw[←cn] at ac;have ak:=fun W (hW:New w6 W)=>rcommon_calls K _ _ _ _ W (bf.new hW) (bg.new hW) hK bx af;have al:0 < Nat.gcd x.natAbs y.natAbs:=Nat.gcd_pos_of_pos_right _ (by omega);have ch:Nat.gcd x.natAbs y.natAbs≤y.natAbs:=Nat.le_of_dvd (by omega) (Nat.gcd_dvd_right _ _);obtain ⟨g,hg⟩:∃ g,Nat.gcd x.natAbs y.natAbs=g:=⟨_,rfl⟩;simp only[hg] at ak ac ab al ch
 have aq:g < B9^K:=by omega
 have bi:=fun W (hW:New w6 W) vg (hvg:IsD W vg g)=>rdivs_calls K _ vg _ g W (bf.new hW) hvg hK bx aq al;have bj:=fun W (hW:New w6 W) vg (hvg:IsD W vg g)=>rdivs_calls K _ vg _ g W (bg.new hW) hvg hK af aq al;have be:x.natAbs / g < B9^K:=Nat.lt_of_le_of_lt (Nat.div_le_self _ _) bx;have ap:y.natAbs / g < B9^K:=Nat.lt_of_le_of_lt (Nat.div_le_self _ _) af;obtain ⟨P,hP⟩:∃ P,x.natAbs / g=P:=⟨_,rfl⟩;obtain ⟨Q,hQ⟩:∃ Q,y.natAbs / g=Q:=⟨_,rfl⟩;simp only[hP] at bi ac be;simp only[hQ] at bj ab ap;have bq:=fun W v (h:IsD W v P)=>rsigned_calls sA v P W h.n;have cm:=fun W v (h:IsD W v Q)=>rsigned_calls false v Q W h.n;rw[←ac] at bq
 have bn:R.num.natAbs < B9^K:=by rw[ac,sgnd_abs];exact be
 have br:=fun W v (h:IsZ W v R.num)=>rtext_calls K v R.num W h hK bn;have bt:=fun W v (h:IsZ W v (Q:Int))=>rtext_calls K v (Q:Int) W h hK (by simpa using ap);have ay:=itoa_size bn;have az:=itoa_size (z:=(Q:Int)) (K:=K) (by simpa using ap);obtain ⟨S,hS⟩:∃ S,bs (itoa R.num)=S:=⟨_,rfl⟩;obtain ⟨D,hD⟩:∃ D,bs (itoa (Q:Int))=D:=⟨_,rfl⟩;simp only[hS] at br ay;simp only[hD] at bt az
 have ar:¬9223372036854775807 < S.size+1:=by omega
 have au:¬9223372036854775807 < S.size+1+D.size:=by omega
 have ci:∀ W v,IsD W v Q→∃ n f,Dg W v n f∧vf B9 f n=Q:=fun W v h=>h
 have ck:Q=1→rs R=S:=fun h=>by
  unfold rs ratText;rw[if_pos (by rw[ab,h]),hS]
 have cl:Q≠1→rs R=S ++ ⟨#[47]⟩ ++ D:=fun h=>by
  unfold rs ratText;rw[if_neg (by rw[ab];exact h),←hS,←hD,Big.itoa_nonneg,ab];have e:(⟨#[47]⟩:ByteArray)=bs [47]:=rfl;rw[e,bs_append,bs_append,List.append_assoc];rfl
 have ce:Q≠0:=by rw[←ab];exact R.den_nz
 clear b7 hx hy bf bg bx af hR hg ch hP hQ hS hD ay az be ap bn ac ab ci hK cn am;refine zh12 ?_ ak bi bj bq cm br bt ck cl ce ar au;intro bw cu cv cx b9 cy ca cw b5 cz b2 b3;replace al:=hid al;replace aq:=hid aq;clear ak bi bj bq cm br bt ck cl ce ar au;have pa:=BA.out.two;have pb:=BB.out.two;go_wp2_with fail;refine zN (bw _ HN) fun w1 v1 hn bk=>?_;obtain ⟨a5,l5,c5,rfl⟩:=bk.shape;have ah:=hid bk;clear bk;clear pa pb;obtain ⟨HN,BA,BB⟩:=zn3 hn HN BA.new BB.new;clear hn;have pa:=BA.out.two;have pb:=BB.out.two;go_wp2_with fail;refine (cu _ HN _ ah).mono ?_;rintro e w2 ⟨vp,vr,rfl,hn,bo,ae⟩;obtain ⟨a6,l6,c6,rfl⟩:=bo.shape;obtain ⟨a7,l7,c7,rfl⟩:=ae.shape;clear ae;have an:=hid bo;clear bo;clear pa pb;obtain ⟨HN,BA,BB,ah⟩:=zn4 hn HN BA.new BB.new ah.new;clear hn;have pa:=BA.out.two;have pb:=BB.out.two;go_wp2_with fail;refine (cv _ HN _ ah).mono ?_;rintro e w3 ⟨vq,db,rfl,hn,bp,ae⟩;obtain ⟨a8,l8,c8,rfl⟩:=bp.shape;obtain ⟨a9,l9,c9,rfl⟩:=ae.shape;clear ae ah;have aa:=hid bp;clear bp;clear pa pb;obtain ⟨HN,BA,BB,an⟩:=zn4 hn HN BA.new BB.new an.new;clear hn;have pa:=BA.out.two;have pb:=BB.out.two;go_wp2_with fail;refine zO (cx _ _ an) fun w4 b4 a4 l4 c4 hn hz=>?_;clear an BB;have HZ:=hid hz;clear hz;clear pa pb;obtain ⟨HN,aa⟩:=zn2 hn HN aa.new;clear hn;go_wp2_with fail;refine zM (cy _ _ HZ) fun w5 hn=>?_;clear HZ BA;obtain ⟨HN,aa⟩:=zn2 hn HN aa.new;clear hn;obtain ⟨n,f,bh,ad⟩:=aa.out;have cj:=bh.1.lt;have ai:=bh.canon;obtain ⟨⟨a0,c0,⟨e0, -⟩,ae, -⟩, -⟩:=bh;injection e0 with e1 e2 e3;subst e1 e2 e3;by_cases hl1:l8=1
 ·subst hl1;obtain ⟨b8,o8,rfl,aj⟩:=ae 0 (by omega)
  have cg:f 0=Q:=by rw[←ad];simp[vf]
  rw[cg,Nat.add_zero]at aj;clear cj ai ae ad cg;by_cases ag:Q=1
  ·have hr:=cw.out ag;have HR:=hid hr;clear hr;subst ag;go_wp2_with fail;go_ret;exact ⟨by rw[HR.out];rfl,a3.out.trans HN.out⟩
  ·have c3:((Q:Int)==1)=false:=by simp;omega
   have hr:=b5.out ag;have ar:=b2.out;have au:=b3.out;clear ag;replace hr:=hid hr;go_wp2_with fail;refine zO (b9 _ _ aa) fun w6 b6 a6 l6 c6 hn hz=>?_;clear aj;replace hz:=hid hz;obtain ⟨HN,aa⟩:=zn2 hn HN aa.new;clear hn;go_wp2_with fail;refine zM (ca _ _ hz) fun w7 hn=>?_;obtain ⟨HN,aa⟩:=zn2 hn HN aa.new;clear hn;go_wp2_with fail;go_ret;exact ⟨by rw[hr.out];rfl,a3.out.trans HN.out⟩
 ·have da:((l8:Int)==1)=false:=by simp;omega
  have ag:Q≠1:=by
   intro h;rw[h] at ad;have h1:=len_le (K:=1) ai ad (by decide)
   have:l8=0:=by omega
   rw[this,vf_zero]at ad;omega
  have hr:=b5.out ag;have ar:=b2.out;have au:=b3.out;clear ag cj ai ae ad hl1;replace hr:=hid hr;go_wp2_with fail;refine zO (b9 _ _ aa) fun w6 b6 a6 l6 c6 hn hz=>?_;replace hz:=hid hz;obtain ⟨HN,aa⟩:=zn2 hn HN aa.new;clear hn;go_wp2_with fail;refine zM (ca _ _ hz) fun w7 hn=>?_;obtain ⟨HN,aa⟩:=zn2 hn HN aa.new;clear hn;go_wp2_with fail;go_ret;exact ⟨by rw[hr.out];rfl,a3.out.trans HN.out⟩
theorem rrecip_neg (k:Nat)(q:Rat)(w:World)(hq:RFB k q)(hk:k≤40000)(h0:q.num < 0):Calls prog 143 #[.string (rs q)] w (RetS w q⁻¹):=by
 have hp:=fun W=>rparts_calls k q W hq hk;have aa:=fun W va vb (ha:IsZ W va (q.den:Int)) (hb:IsZ W vb q.num)=>rfraction_neg k va vb _ _ W ha hb (by omega) (pow_b9 (by simpa using hq.den) (Nat.le_refl _)) (pow_b9 hq.num (Nat.le_refl _)) h0;rw[←Rat.inv_def] at aa;obtain ⟨R,hR⟩:∃ R,q⁻¹=R:=⟨_,rfl⟩;obtain ⟨A,hA⟩:∃ A,rs q=A:=⟨_,rfl⟩;simp only[hA] at hp;simp only[hR] at aa;rw[hA,hR];clear hA hR hq hk h0;have af:=New.refl w;refine zh3 ?_ af hp aa;clear af hp aa;intro HN HP ag;go_in;go_wp2_with fail;refine (HP _).mono ?_;rintro e w1 ⟨v1,v2,rfl,hn,ad,ae⟩;obtain ⟨b1,a1,l1,c1,rfl⟩:=ad.shape;obtain ⟨b2,a2,l2,c2,rfl⟩:=ae.shape;have ab:=hid ad;have ac:=hid ae;clear ad ae;replace HN:=tW HN hn;clear hn;go_upto_region 2 with (fail);obtain ⟨BA,BB,hn⟩:=lay2 w1 124 #[.bool b1,.slice a1 l1 c1] 124 #[.bool b2,.slice a2 l2 c2];obtain ⟨HN,ab,ac⟩:=zn3 hn HN ab.new ac.new;clear hn;have pa:=BA.out.two;have pb:=BB.out.two;go_wp2_with fail;refine zM (ag _ _ _ ac ab) fun w2 hn=>?_;clear pa pb;replace HN:=tW HN hn;clear hn;go_wp2_with fail;go_ret;exact ⟨rfl,HN⟩
theorem rrecipZ_calls (k:Nat)(q:Rat)(w:World)(hq:RFB k q)(hk:k≤40000)(h0:q.num≠0):Calls prog 143 #[.string (rs q)] w (RetS w q⁻¹):=by
 rcases Int.lt_or_gt_of_ne h0 with h | h
 ·exact rrecip_neg k q w hq hk h
 ·exact rrecip_calls k q w hq hk h
theorem rdivZ_calls (j k:Nat)(x y:Rat)(w:World)(hx:RFB j x)(hy:RFB k y)(hjk:j+k≤40000)(h0:y.num≠0):Calls prog 65 #[.string (rs x),.string (rs y)] w (RetS w (x / y)):=by
 have hr:=fun W=>rrecipZ_calls k y W hy (by omega) h0;have hm:=fun W=>rmulQ_calls j k x y⁻¹ W hx (hy.inv (by omega)) hjk;rw[←Rat.div_def] at hm;obtain ⟨R,hR⟩:∃ R,x / y=R:=⟨_,rfl⟩;obtain ⟨A,hA⟩:∃ A,rs x=A:=⟨_,rfl⟩;obtain ⟨B,hB⟩:∃ B,rs y=B:=⟨_,rfl⟩;obtain ⟨C,hC⟩:∃ C,rs y⁻¹=C:=⟨_,rfl⟩;simp only[hB] at hr;have hr:=fun W=>(hr W).mono fun e w' h=>RetS.to hC h;simp only[hA,hC,hR] at hm;rw[hA,hB,hR];clear hA hB hC hR hx hy hjk h0;replace hr:=hid hr;replace hm:=hid hm;go_in;go_wp2_with fail;refine zM (hr _) fun w1 hn=>?_;have HN:=hid hn;clear hn;go_wp2_with fail;refine zM (hm _) fun w2 hn=>?_;replace HN:=tW HN hn;clear hn;go_wp2_with fail;go_ret;exact ⟨rfl,HN⟩
section
variable {P:Program} {ops:Array Oper} {Q:Exit→Act→World→Prop} {md:Region.Mode} {S:World→Prop} {m:Nat}
def wpU (P:Program)(md:Region.Mode)(ops:Array Oper)(Q:Exit→Act→World→Prop)(S:World→Prop)(m:Nat):Nat→Array Bool→Act→World→Prop
 | 0,listed,a,w=>Region.ready md ops listed=[]∧Q .normal a w
 | fuel+1,listed,a,w=>
  (Region.ready md ops listed=[]→Q .normal a w)∧
  ∀ i∈Region.ready md ops listed,wpOp P ops Q i (fun a' w'=>((listed.setIfInBounds i true).getD m true=false→S w')∧wpU P md ops Q S m fuel (listed.setIfInBounds i true) a' w') a w
theorem wpAny_of_U:∀ (fuel:Nat) (listed:Array Bool) (a:Act) (w:World),wpU P md ops Q S m fuel listed a w→wpAny P md ops Q fuel listed a w
 | 0,_,_,_,h=>h
 | fuel+1,_,_,_,h=>⟨h.1,fun i hi=>wpOp_mono (fun a' w' h'=>wpAny_of_U fuel _ a' w' h'.2) (h.2 i hi)⟩
theorem wpU_first {i:Nat} {oi:Oper} {v:Value} {SS:World→Prop} (hi:ops[i]?=some oi) (hsel:∀ (j:Nat) (o:Oper) cs b,ops[j]?=some o→o.op≠.select cs b) (him:i≠m)
  (hSS:∀ (L:Array Bool) (w:World),HeadInv md ops ops.size L→L.getD i true=false→(L.getD m true=false→S w)→SS w)
  (hQ:∀ c a w,Q (.panic c) (a.put oi.dst v) w→Q (.panic c) a w):
  ∀ (ab:Nat) (aa:Array Bool) (a:Act) (w:World),HeadInv md ops ops.size aa→
   (∀ j oj,ops[j]?=some oj→j≠i→aa.getD j true=false→(∀ e∈oj.after,Region.binds md e=true→e.on≠i)→oi.apart ops oj=true)→
   i∈Region.ready md ops aa→YieldsIf P ops SS oi v a→(aa.getD m true=false→S w)→
   wpU P md ops Q S m ab (aa.setIfInBounds i true) (a.put oi.dst v) w→wpU P md ops Q S m (ab+1) aa a w:=by
 intro ab
 induction ab with
 | zero=>
  intro aa a w inv _ hr hy hS H;have ac:=(mem_ready.1 hr).1;refine ⟨fun h=>(by rw[h] at hr;cases hr),fun j hj=>?_⟩;by_cases hji:j=i
  ·subst hji;exact hy.wpOp hi (hSS _ _ inv ac hS) ⟨fun h=>hS (by rw[getD_set_ne true him] at h;exact h),H⟩
  ·have:=ready_mono hj hji;rw[H.1] at this
   cases this
 | succ ab ih=>
  intro aa a w inv ad hr hy hS H;have ac:=(mem_ready.1 hr).1;refine ⟨fun h=>(by rw[h] at hr;cases hr),fun j hj=>?_⟩;by_cases hji:j=i
  ·subst hji;exact hy.wpOp hi (hSS _ _ inv ac hS) ⟨fun h=>hS (by rw[getD_set_ne true him] at h;exact h),H⟩
  ·have h1:=H.2 j (ready_mono hj hji);obtain ⟨ag,oj,af,ai⟩:=mem_ready.1 hj;have al:j < ops.size:=(Array.getElem?_eq_some_iff.1 af).1
   have aj:∀ e∈oj.after,Region.binds md e=true→e.on≠i:=fun e he hb ak=>by
    have h1:=ai e he hb;rw[ak,getD_both ac] at h1
    cases h1
   have h2:=wpOp_putIf af (ad j oj af hji ag aj) (fun cs b=>hsel i oi cs b hi) (fun cs b=>hsel j oj cs b af) hQ hy h1
   have ae:∀ k ok,ops[k]?=some ok→k≠i→(aa.setIfInBounds j true).getD k true=false→
     (∀ e∈ok.after,Region.binds md e=true→e.on≠i)→oi.apart ops ok=true:=fun k ok hk am ac an=>by
    refine ad k ok hk am ?_ an;by_cases hjk:j=k
    ·subst hjk;exact ag
    ·rw[getD_set_ne true hjk] at ac;exact ac
   have ah:∀ w',(((aa.setIfInBounds i true).setIfInBounds j true).getD m true=false→S w')→(aa.setIfInBounds j true).getD m true=false→S w':=fun w' h3 h4=>
    h3 (by rw[Array.setIfInBounds_comm _ _ (Ne.symm hji),getD_set_ne true him];exact h4)
   refine wpOp_mono (fun a' w' h3=>⟨ah w' h3.2.1,ih (aa.setIfInBounds j true) a' w' (inv.set hj al) ae (ready_mono hr (Ne.symm hji)) h3.1 (ah w' h3.2.1) ?_⟩) h2;rw[Array.setIfInBounds_comm _ _ hji];exact h3.2.2
def waitsF (md:Region.Mode)(ops:Array Oper)(i:Nat):Nat→Nat→Bool
 | 0,_=>false
 | f+1,j=>match ops[j]? with | some oj=>oj.after.any fun e=>Region.binds md e && (e.on==i || waitsF md ops i f e.on) | none=>false
def waitsB (md:Region.Mode)(ops:Array Oper)(m i:Nat):Bool:=waitsF md ops i ops.size m
def takeU (md:Region.Mode)(ops:Array Oper)(m:Nat)(listed:Array Bool)(i:Nat):Bool:=
 Region.noSelect ops && decide (i≠m) && Region.free md ops listed i && (Region.ready md ops listed).contains i && headB md ops ops.size listed
theorem waits_spec {i:Nat}{L:Array Bool}(inv:HeadInv md ops ops.size L)(hun:L.getD i true=false):∀ (f j:Nat),waitsF md ops i f j=true→L.getD j true=false:=by
 intro f
 induction f with
 | zero=>intro j h;cases h
 | succ f ih=>
  intro j h;unfold waitsF at h
  cases ho:ops[j]? with
  | none=>rw[ho] at h;cases h
  | some oj=>
   rw[ho]at h;simp only[Array.any_eq_true',Bool.and_eq_true,Bool.or_eq_true,beq_iff_eq] at h;obtain ⟨e,he,hb,aa⟩:=h;have hm:j < ops.size:=(Array.getElem?_eq_some_iff.1 ho).1
   have ab:L.getD e.on true=false:=by
    rcases aa with aa | aa
    ·rw[aa];exact hun
    ·exact ih _ aa
   cases hL:L.getD j true with
   | false=>rfl
   | true=>
    exfalso
    have ac:L.getD j false=true:=by
     have:=inv.size;simp[Array.getD,show j < L.size by omega] at hL⊢;exact hL
    have:=inv.closed j oj ho ac e he hb;rw[getD_both ab] at this
    cases this
theorem tkU (i:Nat) {oi:Oper} {v:Value} {fuel:Nat} {listed:Array Bool} {a:Act} {w:World} (hS:listed.getD m true=false→S w) (h:wpU P md ops Q S m fuel (listed.setIfInBounds i true) (a.put oi.dst v) w)
  (hi:ops[i]?=some oi:=by rfl) (hB:takeU md ops m listed i=true:=by kernel_rfl) (hW:waitsB md ops m i=true:=by kernel_rfl) (hw:Region.wanted oi (yielded ops a.tmps)=true:=by first | kernel_rfl | rfl)
  (hy:∀ W,S W→(execOp a.eval oi).run P W=.ok (.value v) W:=by (intro W hW;(try dsimp only at hW);go_simp;try with_reducible rfl))
  (hQ:∀ c a w,Q (.panic c) (a.put oi.dst v) w→Q (.panic c) a w:=by exact fun _ _ _ h=>h):wpU P md ops Q S m (fuel+1) listed a w:=by
 simp only[takeU,Bool.and_eq_true,decide_eq_true_eq]at hB;obtain ⟨⟨⟨⟨h1,h2⟩,h3⟩,h4⟩,h5⟩:=hB;exact wpU_first (SS:=S) hi (Region.noSelect_spec h1) h2 (fun L w inv aa hS=>hS (waits_spec inv aa _ _ hW)) hQ fuel listed a w (headB_spec h5) (Region.free_spec hi h3) (by simpa using h4) (Or.inl ⟨hw,hy⟩) hS h
theorem tkU0 (i:Nat) {oi:Oper} {v:Value} {fuel:Nat} {listed:Array Bool} {a:Act} {w:World} (hS:listed.getD m true=false→S w) (h:wpU P md ops Q S m fuel (listed.setIfInBounds i true) (a.put oi.dst v) w)
  (hi:ops[i]?=some oi:=by rfl) (hB:takeU md ops m listed i=true:=by kernel_rfl) (hw:Region.wanted oi (yielded ops a.tmps)=true:=by first | kernel_rfl | rfl)
  (hy:∀ W:World,True→(execOp a.eval oi).run P W=.ok (.value v) W:=by (intro W hW;go_simp;try with_reducible rfl))
  (hQ:∀ c a w,Q (.panic c) (a.put oi.dst v) w→Q (.panic c) a w:=by exact fun _ _ _ h=>h):wpU P md ops Q S m (fuel+1) listed a w:=by
 simp only[takeU,Bool.and_eq_true,decide_eq_true_eq]at hB;obtain ⟨⟨⟨⟨h1,h2⟩,h3⟩,h4⟩,h5⟩:=hB;exact wpU_first (SS:=fun _=>True) hi (Region.noSelect_spec h1) h2 (fun L w inv aa hS=>trivial) hQ fuel listed a w (headB_spec h5) (Region.free_spec hi h3) (by simpa using h4) (Or.inl ⟨hw,hy⟩) hS h
theorem wpU_one (i:Nat) {oi:Oper} {fuel:Nat} {listed:Array Bool} {a:Act} {w:World} (hi:ops[i]?=some oi) (hr:Region.ready md ops listed=[i])
  (h:∀ K':Act→World→Prop,Shut (∀ a w,((listed.setIfInBounds i true).getD m true=false→S w)→wpU P md ops Q S m fuel (listed.setIfInBounds i true) a w→K' a w)→if Region.wanted oi (yielded ops a.tmps)=true then Oper.wp P oi a w K' Q else K' (a.put oi.dst undef) w):
  wpU P md ops Q S m (fuel+1) listed a w:=by
 refine ⟨fun h0=>(by rw[hr] at h0;cases h0),fun j hj=>?_⟩;rw[hr] at hj
 obtain rfl:j=i:=by simpa using hj
 exact wpOp_step hi fun K' hK=>h K' fun a w hS hW=>hK a w ⟨hS,hW⟩
theorem wpU_end {listed:Array Bool}{a:Act}{w:World}(hr:Region.ready md ops listed=[])(h:Q .normal a w):wpU P md ops Q S m 0 listed a w:=⟨hr,h⟩
theorem wp_region_U {id:Nat}{a:Act}{w:World}(m:Nat)(S:World→Prop)(N:Nat)(L:Array Bool)(hN:ops.size=N)(hL:Array.replicate N false=L)(hm:P.follows .mixedOrders=true)(h:wpU P .any ops Q S m N L a w.drew):(Code.region id ops true).wp P Q a w:=by
 subst hN hL;exact wp_region_any hm (wpAny_of_U _ _ _ _ h)
end
end Go.Proofs.YtnjonlnemagomaaGreatDoor
