/- Part CardQn07. -/
import Derived.Test.YtnjonlnemagomaaGreatDoorB31
import Derived.Test.YtnjonlnemagomaaGreatDoorCardQn06
namespace Go.Proofs.YtnjonlnemagomaaGreatDoor
open Go.RowKit Big Go.Lib Go.Proofs.Tryz
set_option maxRecDepth 100000
set_option maxHeartbeats 8000000
set_option linter.all false
theorem rden_calls (s:ByteArray)(w:World)(hl:s.size≤1000000):Calls prog 111 #[.string s] w fun e w'=>(∃ d:ByteArray,d.size≤1000000∧e=.returned (.string d))∧New w w':=by
 have aa:=fun W=>rslash_calls s W hl;have ac:=sl_len s.data.toList
 have ad:s.data.toList.length=s.size:=by simp
 rw[ad]at ac;obtain ⟨m,hm⟩:∃ m,(upTo s.data.toList).length=m:=⟨_,rfl⟩;rw[hm] at ac;simp only[hm] at aa;clear hm ad;by_cases h:m=s.size
 ·have hb:((m:Int)==(s.size:Int))=true:=by rw[h];exact beq_self_eq_true _
  clear ac;have af:=hid aa;have H:=hid h;clear aa h;go_in;go_wp2_with fail;refine (af _).mono ?_;rintro e w1 ⟨rfl,ab⟩;rw[ab];clear ab;go_wp2_with fail;go_ret;exact ⟨⟨_,by decide,rfl⟩,New.refl _⟩
 ·have hb:((m:Int)==(s.size:Int))=false:=beq_false_of_ne (by omega);obtain ⟨m1,ag⟩:∃ z,m+1=z:=⟨_,rfl⟩
  have ah:(m:Int)+1=(m1:Int):=by omega
  have ai:(m1:Int)≤(s.size:Int):=by omega
  have aj:(s.size:Int)≤1000000:=by omega
  have ak:IntKind.i64.wrap (m1:Int)=(m1:Int):=by rw[IntKind.wrap_i64];omega
  have ae:(s.extract m1 s.size).size≤1000000:=by simp;omega
  clear ac h ag;replace aa:=hid aa;replace ae:=hid ae;go_in;go_wp2_with fail;refine (aa _).mono ?_;rintro e w1 ⟨rfl,ab⟩;rw[ab];clear ab;go_wp2_with fail;go_ret;exact ⟨⟨_,ae,rfl⟩,New.refl _⟩
theorem box_strs {w:World}{B:Nat}{t:TypeId}{x y:ByteArray}(h:Box w B t #[.string x,.string y]):RdL w (some ⟨B,0,none⟩) (strs [x,y]):=fun i hi=>by
 refine ⟨B,0,rfl,?_⟩;rw[h.cell]
 match i,hi with
 | 0,_=>rfl
 | 1,_=>rfl
theorem rspan_calls (x y:Rat)(w:World)(hx:Fits x)(hy:Fits y)(hxy:x≤y)(hsx:(rs x).size≤100000)(hsy:(rs y).size≤100000):Calls prog 36 #[.agg #[.string (rs x),.string (rs y)]] w (RetNew w 0):=by
 have ab:=fun W=>rcmpQ_calls 2000 2000 x y W (RFB.of (Fits.fb hx)) (RFB.of (Fits.fb hy)) (by omega);have hs:=sign_le.2 hxy;obtain ⟨r,hr⟩:∃ r,(x - y).num.sign=r:=⟨_,rfl⟩;simp only[hr] at ab;rw[hr] at hs;have ad:decide (0 < r)=false:=decide_eq_false (by omega)
 have aa:=fun (W:World) (B cap:Nat) (t:TypeId) (hB:Box W B t #[.string (rs x),.string (rs y)])=>rrow_calls (some ⟨B,0,none⟩) cap 2 [rs x,rs y] 0 W rfl (by omega) (box_strs hB) (by
  show (if ratErr (rs x).data.toList=0 then (if ratErr (rs y).data.toList=0 then 0 else ratErr (rs y).data.toList) else ratErr (rs x).data.toList)=0
  rw[rs_list,rs_list,ratErr_ratText hx,ratErr_ratText hy];rfl) (fun k h1=>by
   match k,h1 with
   | 0,_=>exact hsx
   | 1,_=>exact hsy)
 obtain ⟨X,hX⟩:∃ X,rs x=X:=⟨_,rfl⟩;obtain ⟨Y,hY⟩:∃ X,rs y=X:=⟨_,rfl⟩;rw[hX,hY] at aa⊢;simp only[hX,hY] at ab;clear hX hY hx hy hxy hsx hsy hr;replace ab:=hid ab;replace aa:=hid aa;go_in;go_upto_region 1 with (fail);obtain ⟨BA,HN⟩:=lay1 w 53 #[.string X,.string Y];obtain ⟨w8,ac⟩:∃ x,w.alloc (.cells #[.string X,.string Y] 53)=x:=⟨_,rfl⟩;rw[ac] at BA HN⊢;clear ac;have pa:=BA.out.two;go_wp2_with fail;clear pa;obtain ⟨BG,hn⟩:=lay1 w8 23 #[.string X,.string Y];obtain ⟨HN,BA⟩:=zn2 hn HN BA.new;clear hn;refine zM (aa _ _ _ _ BG) fun w2 hn=>?_;clear BG;obtain ⟨HN,BA⟩:=zn2 hn HN BA.new;clear hn;have pa:=BA.out.two;go_wp2_with fail;refine zM (ab _) fun w3 hn=>?_;clear pa;replace HN:=tW HN hn;clear hn;go_wp2_with fail;go_ret;exact ⟨rfl,HN⟩
theorem eight_tenN {k n:Nat}(h:k≤3*n):2^k≤10^n:=Nat.le_trans (Nat.pow_le_pow_right (by omega) h) (by
 rw[Nat.pow_mul]
 exact Nat.pow_le_pow_left (by decide) n)
theorem fitsN_of {k n:Nat}{q:Rat}(h:FB k q)(hk:k≤3*n):q.num.natAbs < 10^n∧q.den < 10^n:=by
 have h3:q.num.natAbs < 2^k:=h.num
 have h4:q.den < 2^k:=by simpa[BdK] using h.den
 exact ⟨Nat.lt_of_lt_of_le h3 (eight_tenN hk),Nat.lt_of_lt_of_le h4 (eight_tenN hk)⟩
theorem FB.fitsN {k:Nat}{q:Rat}(h:FB k q)(hk:k≤1800):Fits q:=Fits.iff.2 (fitsN_of (n:=600) h (by omega))
end Go.Proofs.YtnjonlnemagomaaGreatDoor
