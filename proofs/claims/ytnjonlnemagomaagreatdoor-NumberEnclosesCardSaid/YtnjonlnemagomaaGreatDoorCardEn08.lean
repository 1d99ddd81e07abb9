/- Part CardEn08. -/
import Derived.Test.YtnjonlnemagomaaGreatDoorB31
import Derived.Test.YtnjonlnemagomaaGreatDoorCardEn07
namespace Go.Proofs.YtnjonlnemagomaaGreatDoor
open Go.RowKit Big Go.Lib Go.Proofs.Tryz
set_option maxRecDepth 100000
set_option maxHeartbeats 8000000
set_option linter.all false
theorem rden_calls (s:ByteArray)(w:World)(hl:s.size≤1000000):Calls prog 111 #[.string s] w fun e w'=>(∃ d:ByteArray,d.size≤1000000∧e=.returned (.string d))∧New w w':=by
 have aa:=fun W=>rslash_calls s W hl;have ac:=sl_len s.data.toList
 have ad:s.data.toList.length=s.size:=by simp
 rw[ad]at ac;obtain ⟨m,hm⟩:∃ m,(upTo s.data.toList).length=m:=⟨_,rfl⟩;rw[hm] at ac;simp only[hm] at aa;clear hm ad;by_cases h:m=s.size
 ·have hb:((m:Int)==(s.size:Int))=true:=by rw[h];exact beq_self_eq_true _
  clear ac;have af:=hid aa;have H:=hid h;clear aa h;go_in;go_wp2_with fail;refine (af _).mono ?_;rintro e w1 ⟨rfl,ab⟩;rw[ab];clear ab;go_wp2_with fail;go_ret;exact ⟨⟨_,by decide,rfl⟩,New.refl _⟩
 ·have hb:((m:Int)==(s.size:Int))=false:=beq_false_of_ne (by omega);obtain ⟨m1,ag⟩:∃ z,m+1=z:=⟨_,rfl⟩
  have ah:(m:Int)+1=(m1:Int):=by omega
  have ai:(m1:Int)≤(s.size:Int):=by omega
  have aj:(s.size:Int)≤1000000:=by omega
  have ak:IntKind.i64.wrap (m1:Int)=(m1:Int):=by rw[IntKind.wrap_i64];omega
  have ae:(s.extract m1 s.size).size≤1000000:=by simp;omega
  clear ac h ag;replace aa:=hid aa;replace ae:=hid ae;go_in;go_wp2_with fail;refine (aa _).mono ?_;rintro e w1 ⟨rfl,ab⟩;rw[ab];clear ab;go_wp2_with fail;go_ret;exact ⟨⟨_,ae,rfl⟩,New.refl _⟩
theorem box_strs {w:World}{B:Nat}{t:TypeId}{x y:ByteArray}(h:Box w B t #[.string x,.string y]):RdL w (some ⟨B,0,none⟩) (strs [x,y]):=fun i hi=>by
 refine ⟨B,0,rfl,?_⟩;rw[h.cell]
 match i,hi with
 | 0,_=>rfl
 | 1,_=>rfl
theorem rspan_calls (x y:Rat)(w:World)(hx:Fits x)(hy:Fits y)(hxy:x≤y)(hsx:(rs x).size≤100000)(hsy:(rs y).size≤100000):Calls prog 36 #[.agg #[.string (rs x),.string (rs y)]] w (RetNew w 0):=by
 have ab:=fun W=>rcmpQ_calls 2000 2000 x y W (RFB.of (Fits.fb hx)) (RFB.of (Fits.fb hy)) (by omega);have hs:=sign_le.2 hxy;obtain ⟨r,hr⟩:∃ r,(x - y).num.sign=r:=⟨_,rfl⟩;simp only[hr] at ab;rw[hr] at hs;have ad:decide (0 < r)=false:=decide_eq_false (by omega)
 have aa:=fun (W:World) (B cap:Nat) (t:TypeId) (hB:Box W B t #[.string (rs x),.string (rs y)])=>rrow_calls (some ⟨B,0,none⟩) cap 2 [rs x,rs y] 0 W rfl (by omega) (box_strs hB) (by
  show (if ratErr (rs x).data.toList=0 then (if ratErr (rs y).data.toList=0 then 0 else ratErr (rs y).data.toList) else ratErr (rs x).data.toList)=0
  rw[rs_list,rs_list,ratErr_ratText hx,ratErr_ratText hy];rfl) (fun k h1=>by
   match k,h1 with
   | 0,_=>exact hsx
   | 1,_=>exact hsy)
 obtain ⟨X,hX⟩:∃ X,rs x=X:=⟨_,rfl⟩;obtain ⟨Y,hY⟩:∃ X,rs y=X:=⟨_,rfl⟩;rw[hX,hY] at aa⊢;simp only[hX,hY] at ab;clear hX hY hx hy hxy hsx hsy hr;replace ab:=hid ab;replace aa:=hid aa;go_in;go_upto_region 1 with (fail);obtain ⟨BA,HN⟩:=lay1 w 53 #[.string X,.string Y];obtain ⟨w8,ac⟩:∃ x,w.alloc (.cells #[.string X,.string Y] 53)=x:=⟨_,rfl⟩;rw[ac] at BA HN⊢;clear ac;have pa:=BA.out.two;go_wp2_with fail;clear pa;obtain ⟨BG,hn⟩:=lay1 w8 23 #[.string X,.string Y];obtain ⟨HN,BA⟩:=zn2 hn HN BA.new;clear hn;refine zM (aa _ _ _ _ BG) fun w2 hn=>?_;clear BG;obtain ⟨HN,BA⟩:=zn2 hn HN BA.new;clear hn;have pa:=BA.out.two;go_wp2_with fail;refine zM (ab _) fun w3 hn=>?_;clear pa;replace HN:=tW HN hn;clear hn;go_wp2_with fail;go_ret;exact ⟨rfl,HN⟩
theorem rhas_calls (x y q:Rat)(w:World)(k:Nat)(hk:k≤10000)(hx:RFB k x)(hy:RFB k y)(hq:RFB k q)(h1:x≤q)(h2:q≤y):Calls prog 62 #[.agg #[.string (rs x),.string (rs y)],.string (rs q)] w fun e w'=>e=.returned (.bool true)∧New w w':=by
 have aa:=fun W=>rcmpQ_calls k k x q W hx hq (by omega);have ab:=fun W=>rcmpQ_calls k k q y W hq hy (by omega);have ae:=sign_le.2 h1;have af:=sign_le.2 h2;obtain ⟨r1,ac⟩:∃ r,(x - q).num.sign=r:=⟨_,rfl⟩;obtain ⟨r2,ad⟩:∃ r,(q - y).num.sign=r:=⟨_,rfl⟩;simp only[ac] at aa;simp only[ad] at ab;rw[ac] at ae;rw[ad] at af;have ag:decide (r1≤0)=true:=decide_eq_true ae;have ah:decide (r2≤0)=true:=decide_eq_true af;obtain ⟨X,hX⟩:∃ X,rs x=X:=⟨_,rfl⟩;obtain ⟨Y,hY⟩:∃ X,rs y=X:=⟨_,rfl⟩;obtain ⟨Q,hQ⟩:∃ X,rs q=X:=⟨_,rfl⟩;rw[hX,hY,hQ];simp only[hX,hQ] at aa;simp only[hY,hQ] at ab;clear hX hY hQ hx hy hq h1 h2 ac ad;replace aa:=hid aa;replace ab:=hid ab;go_in;go_upto_region 1 with (fail);obtain ⟨BA,HN⟩:=lay1 w 53 #[.string X,.string Y];have pa:=BA.out.two;go_wp2_with fail;refine zM (aa _) fun w2 hn=>?_;clear pa;obtain ⟨HN,BA⟩:=zn2 hn HN BA.new;clear hn;have pa:=BA.out.two;go_wp2_with fail;refine zM (ab _) fun w3 hn=>?_;clear pa;replace HN:=tW HN hn;clear hn;go_wp2_with fail;go_ret;exact ⟨rfl,HN⟩
theorem eight_tenN {k n:Nat}(h:k≤3*n):2^k≤10^n:=Nat.le_trans (Nat.pow_le_pow_right (by omega) h) (by
 rw[Nat.pow_mul]
 exact Nat.pow_le_pow_left (by decide) n)
theorem fitsN_of {k n:Nat}{q:Rat}(h:FB k q)(hk:k≤3*n):q.num.natAbs < 10^n∧q.den < 10^n:=by
 have h3:q.num.natAbs < 2^k:=h.num
 have h4:q.den < 2^k:=by simpa[BdK] using h.den
 exact ⟨Nat.lt_of_lt_of_le h3 (eight_tenN hk),Nat.lt_of_lt_of_le h4 (eight_tenN hk)⟩
theorem FB.fitsN {k:Nat}{q:Rat}(h:FB k q)(hk:k≤1800):Fits q:=Fits.iff.2 (fitsN_of (n:=600) h (by omega))
theorem minR_l (x y:Rat):minR x y≤x:=by unfold minR;split <;> grind
theorem minR_r (x y:Rat):minR x y≤y:=by unfold minR;split <;> grind
theorem maxR_l (x y:Rat):x≤maxR x y:=by unfold maxR;split <;> grind
theorem maxR_r (x y:Rat):y≤maxR x y:=by unfold maxR;split <;> grind
def min4 (a b c d:Rat):Rat:=minR (minR (minR a b) c) d
def max4 (a b c d:Rat):Rat:=maxR (maxR (maxR a b) c) d
theorem min4_le (a b c d:Rat):min4 a b c d≤a∧min4 a b c d≤b∧min4 a b c d≤c∧min4 a b c d≤d:=by
 unfold min4;have h1:=minR_l a b;have h2:=minR_r a b;have h3:=minR_l (minR a b) c;have h4:=minR_r (minR a b) c;have h5:=minR_l (minR (minR a b) c) d;have h6:=minR_r (minR (minR a b) c) d;exact ⟨Rat.le_trans h5 (Rat.le_trans h3 h1),Rat.le_trans h5 (Rat.le_trans h3 h2),Rat.le_trans h5 h4,h6⟩
theorem max4_ge (a b c d:Rat):a≤max4 a b c d∧b≤max4 a b c d∧c≤max4 a b c d∧d≤max4 a b c d:=by
 unfold max4;have h1:=maxR_l a b;have h2:=maxR_r a b;have h3:=maxR_l (maxR a b) c;have h4:=maxR_r (maxR a b) c;have h5:=maxR_l (maxR (maxR a b) c) d;have h6:=maxR_r (maxR (maxR a b) c) d;exact ⟨Rat.le_trans h1 (Rat.le_trans h3 h5),Rat.le_trans h2 (Rat.le_trans h3 h5),Rat.le_trans h4 h5,h6⟩
theorem mul_between {x0 x x1:Rat}(h0:x0≤x)(h1:x≤x1)(y:Rat):(x0*y≤x*y∧x*y≤x1*y)∨(x1*y≤x*y∧x*y≤x0*y):=by
 rcases Rat.le_total (a:=0) (b:=y) with h | h
 ·exact .inl ⟨Rat.mul_le_mul_of_nonneg_right h0 h,Rat.mul_le_mul_of_nonneg_right h1 h⟩
 ·have hy:0≤ -y:=by grind
  have k0:=Rat.mul_le_mul_of_nonneg_right h0 hy;have k1:=Rat.mul_le_mul_of_nonneg_right h1 hy;exact .inr ⟨by grind,by grind⟩
theorem times_mem {x0 x x1 y0 y y1 m M:Rat}(a0:x0≤x)(a1:x≤x1)(b0:y0≤y)(b1:y≤y1)(m1:m≤x0*y0)(m2:m≤x0*y1)(m3:m≤x1*y0)(m4:m≤x1*y1)(M1:x0*y0≤M)(M2:x0*y1≤M)(M3:x1*y0≤M)(M4:x1*y1≤M):m≤x*y∧x*y≤M:=by
 have h:=mul_between a0 a1 y;have h0:=mul_between b0 b1 x0;have h1:=mul_between b0 b1 x1;rw[Rat.mul_comm y0,Rat.mul_comm y,Rat.mul_comm y1] at h0;rw[Rat.mul_comm y0,Rat.mul_comm y,Rat.mul_comm y1] at h1
 have k0:m≤x0*y∧x0*y≤M:=by
  rcases h0 with ⟨p,q⟩ | ⟨p,q⟩
  ·exact ⟨Rat.le_trans m1 p,Rat.le_trans q M2⟩
  ·exact ⟨Rat.le_trans m2 p,Rat.le_trans q M1⟩
 have k1:m≤x1*y∧x1*y≤M:=by
  rcases h1 with ⟨p,q⟩ | ⟨p,q⟩
  ·exact ⟨Rat.le_trans m3 p,Rat.le_trans q M4⟩
  ·exact ⟨Rat.le_trans m4 p,Rat.le_trans q M3⟩
 rcases h with ⟨p,q⟩ | ⟨p,q⟩
 ·exact ⟨Rat.le_trans k0.1 p,Rat.le_trans q k1.2⟩
 ·exact ⟨Rat.le_trans k1.1 p,Rat.le_trans q k0.2⟩
theorem inv_anti_pos {y z u v:Rat}(h:y≤z)(hy:0 < y)(e1:y*u=1)(e2:z*v=1):v≤u:=by
 have hv:0≤v:=by
  rcases Rat.le_total (a:=0) (b:=v) with h1 | h1
  ·exact h1
  ·have h2:0≤ -v:=by grind
   have h3:=Rat.mul_nonneg (show 0≤z by grind) h2
   grind
 have h1:=Rat.mul_le_mul_of_nonneg_right h hv;rw[e2,←e1] at h1;exact Rat.le_of_mul_le_mul_left h1 hy
theorem inv_anti {y z:Rat}(h:y≤z)(hs:0 < y∨z < 0):z⁻¹≤y⁻¹:=by
 have hy:y≠0:=by rcases hs with h1 | h1 <;> grind
 have hz:z≠0:=by rcases hs with h1 | h1 <;> grind
 have e1:=Rat.mul_inv_cancel y hy;have e2:=Rat.mul_inv_cancel z hz;obtain ⟨u,hu⟩:∃ u,y⁻¹=u:=⟨_,rfl⟩;obtain ⟨v,hv⟩:∃ u,z⁻¹=u:=⟨_,rfl⟩;rw[hu] at e1⊢;rw[hv] at e2⊢;rcases hs with h1 | h1
 ·exact inv_anti_pos h h1 e1 e2
 ·have:=inv_anti_pos (y:= -z) (z:= -y) (u:= -v) (v:= -u) (by grind) (by grind) (by grind) (by grind)
  grind
theorem over_mem {x0 x x1 y0 y y1 m M:Rat}(a0:x0≤x)(a1:x≤x1)(b0:y0≤y)(b1:y≤y1)(hs:0 < y0∨y1 < 0)(m1:m≤x0 / y0)(m2:m≤x0 / y1)(m3:m≤x1 / y0)(m4:m≤x1 / y1)(M1:x0 / y0≤M)(M2:x0 / y1≤M)(M3:x1 / y0≤M)(M4:x1 / y1≤M):m≤x / y∧x / y≤M:=by
 rw[Rat.div_def]at *;have c0:=inv_anti b0 (hs.imp id fun h=>by grind);have c1:=inv_anti b1 (hs.imp (fun h=>by grind) id);exact times_mem a0 a1 c1 c0 m2 m1 m4 m3 M2 M1 M4 M3
theorem plus_mem {x0 x x1 y0 y y1 m M:Rat}(a0:x0≤x)(a1:x≤x1)(b0:y0≤y)(b1:y≤y1)(m1:m≤x0+y0)(M4:x1+y1≤M):m≤x+y∧x+y≤M:=⟨by grind,by grind⟩
theorem minus_mem {x0 x x1 y0 y y1 m M:Rat}(a0:x0≤x)(a1:x≤x1)(b0:y0≤y)(b1:y≤y1)(m2:m≤x0 - y1)(M3:x1 - y0≤M):m≤x - y∧x - y≤M:=⟨by grind,by grind⟩
theorem part_mem {t x0 x1:Rat}(h0:0≤t)(h1:t≤1)(h:x0≤x1):x0≤x0+t*(x1 - x0)∧x0+t*(x1 - x0)≤x1:=by
 have d:0≤x1 - x0:=by grind
 have k0:=Rat.mul_nonneg h0 d;have k1:=Rat.mul_le_mul_of_nonneg_right h1 d;exact ⟨by grind,by grind⟩
theorem csgn_lt {x y:Rat}(h:x < y):(x - y).num.sign= -1:=by
 have h1:¬(y - x).num.sign≤0:=by rw[sign_le];exact Rat.not_le.2 h
 have h2:(x - y).num= -(y - x).num:=by rw[←Rat.neg_sub,Rat.neg_num]
 rw[h2,Int.sign_neg];rcases Int.lt_trichotomy (y - x).num 0 with h3 | h3 | h3
 ·rw[Int.sign_eq_neg_one_of_neg h3] at h1;omega
 ·rw[h3] at h1;exact absurd (by decide) h1
 ·rw[Int.sign_eq_one_of_pos h3]
theorem csgn_gt {x y:Rat}(h:y < x):(x - y).num.sign=1:=by
 have h1:¬(x - y).num.sign≤0:=by rw[sign_le];exact Rat.not_le.2 h
 rcases Int.lt_trichotomy (x - y).num 0 with h3 | h3 | h3
 ·rw[Int.sign_eq_neg_one_of_neg h3] at h1;omega
 ·rw[h3] at h1;exact absurd (by decide) h1
 ·rw[Int.sign_eq_one_of_pos h3]
theorem csgn_eq (x:Rat):(x - x).num.sign=0:=by
 rw[Rat.sub_self];rfl
end Go.Proofs.YtnjonlnemagomaaGreatDoor
