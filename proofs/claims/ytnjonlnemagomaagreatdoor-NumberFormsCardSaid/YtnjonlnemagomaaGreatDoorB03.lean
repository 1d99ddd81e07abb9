/- Part B03. -/
import Derived.Lib.ItoaNum
import Derived.Test.YtnjonlnemagomaaGreatDoorB02
namespace Go.Proofs.YtnjonlnemagomaaGreatDoor
open Go.RowKit Big
open Go.Lib (hid)
set_option maxRecDepth 100000
set_option maxHeartbeats 8000000
theorem ygq (x y c:Nat)(hx:x < W64)(hy:y < W64)(hc:c<=1):∃ d c':Nat,d < W64/\c'<=1/\d+W64*c'=x+y+c/\
  ∀ w,(callFunc 225 #[.int .u64 x,.int .u64 y,.int .u64 c]).run Tryz.prog w=.ok (.value (.tuple #[.int .u64 d,.int .u64 c'])) w:=by
 unfold W64 at *;refine ⟨(x+y+c) % 18446744073709551616,(x+y+c) / 18446744073709551616,by omega,by omega,by omega,fun w=>?_⟩;have:=yo9 x y c (by omega) (by omega) (by omega) (by omega) w;rw[this];congr 5 <;> omega
theorem y5w (x y:Nat)(hx:x < W64)(hy:y < W64):∃ d c':Nat,d < W64/\c'<=1/\d+W64*c'=x+y/\
  ∀ w,(callFunc 225 #[.int .u64 x,.int .u64 y,.int .u64 0]).run Tryz.prog w=.ok (.value (.tuple #[.int .u64 d,.int .u64 c'])) w:=
 ygq x y 0 hx hy (by omega)
theorem y8o (x y:Nat)(hx:x < W64)(hy:y < W64):∃ hi lo:Nat,lo < W64/\hi+2<=W64/\lo+W64*hi=x*y/\
  ∀ w,Calls Tryz.prog 215 #[.int .u64 x,.int .u64 y] w fun e w'=>e=.returned (.tuple #[.int .u64 hi,.int .u64 lo])/\w=w':=by
 refine ⟨x*y / W64,x*y % W64,Nat.mod_lt _ (by decide),?_,Nat.mod_add_div _ _,fun w=>(Tryz.bits_Mul64 x y hx hy w).mono fun e w' ⟨h1,h2⟩=>⟨h1,h2.symm⟩⟩;have h1:x*y<=18446744073709551615*18446744073709551615:=Nat.mul_le_mul (by unfold W64 at hx;omega) (by unfold W64 at hy;omega);unfold W64;omega
theorem ydb (a b:Option Addr)(m n ca cb:Nat)(f g:Nat->Nat)(w:World)(hm:m<=1000000)(hn:n<=1000000)(ha:Rd w a .u64 m f)(hb:Rd w b .u64 n g)(hfl:∀ i,i < m->f i < W64)(hgl:∀ i,i < n->g i < W64):
  Calls Tryz.prog 217 #[.slice a m ca,.slice b n cb] w fun e w'=>∃ v k h,New w w'/\e=.returned v/\Wds w' v k h/\vf W64 h k=vf W64 f m*vf W64 g n:=by
 have hmk:=fun W=>run_make_row' (P:=Tryz.prog) 111 198 (.int .u64 0) 8 Tryz.underlying111 y5c rfl .i64 .i64 (m+n) (by omega) (by omega) W;rw[show ((m+n:Nat):Int)=(m:Int)+n by omega] at hmk;go_enter Tryz.func217,Tryz.ntmps217;go_wp2;clear hmk;obtain ⟨B,hB⟩:∃ B,B=w.heap.size:=⟨_,rfl⟩;have hrow0:=Row.made w .u64 (m+n) 198;have hnew0:New w (w.alloc (.cells (madeCells #[.int .u64 0] (m+n)) 198)):=(New.refl w).alloc _;rw[<-hB] at hrow0⊢;generalize w.alloc (.cells (madeCells #[.int .u64 0] (m+n)) 198)=w0 at hrow0 hnew0⊢;have HB:=hid hB;clear hB;go_loopw [22] (fun i wr=>∃ (k:Nat) (o:Nat->Nat),k<=m/\i=.int .i64 k/\Row wr B 198 .u64 (m+n) o/\(∀ j,o j < W64)/\(∀ j,k+n<=j->o j=0)/\vf W64 o (m+n)=vf W64 f k*vf W64 g n/\New w wr) (fun i _=>m - (intOf i).toNat)
 case atStart=>exact ⟨0,fun _=>0,Nat.zero_le _,rfl,hrow0,fun _=>by simp[W64],fun _ _=>rfl,by rw[ycg (fun _ _=>rfl),y14,Nat.zero_mul],hnew0⟩
 case round=>
  obtain ⟨k,o,hk,rfl,hrow,hol,hz,hval,hnew⟩:=hrel;have HV:=hid hval;have HZ:=hid hz;have HO:=hid hol;clear hval hrow0 hnew0 hz hol;by_cases hkm:k < m
  ·obtain ⟨b1,o1,rfl,h1⟩:=(ha.new hnew) k hkm;have hf0:=hfl k hkm;go_wp2;obtain ⟨wo,rfl⟩:∃ wo:World,wo=wr:=⟨_,rfl⟩;go_loopw [8,29] (fun c i wr=>∃ (j cc:Nat) (p:Nat->Nat),j<=n/\i=.int .i64 j/\c=.int .u64 cc/\cc < W64/\Row wr B 198 .u64 (m+n) p/\(∀ j,p j < W64)/\(∀ j,k+n<=j->p j=0)/\vf W64 p (m+n)+cc*W64^(k+j)=vf W64 f k*vf W64 g n+f k*vf W64 g j*W64^k/\New w wr) (fun _ i _=>n - (intOf i).toNat)
   case atStart=>exact ⟨0,0,o,Nat.zero_le _,rfl,rfl,by decide,hrow,HO.out,HZ.out,by rw[HV.out];simp[y14],hnew⟩
   case round=>
    clear hrow hnew HO HZ HV;obtain ⟨j,cc,p,hj,rfl,rfl,hcc,hrow,hpl,hpz,hval,hnew⟩:=hrel;have HV:=hid hval;have HP:=hid hpl;have HZ:=hid hpz;clear hval hpz;have h1':=hnew;by_cases hjn:j < n
    ·obtain ⟨b2,o2,rfl,h2⟩:=(hb.new hnew) j hjn;have hg0:=hgl j hjn;have hp0:=hpl (k+j);clear ha hb hgl hfl hpl;have hcell:=hrow.cell (i:=k+j) (by omega);have hfr:=hrow.frozen (k+j);obtain ⟨hi,lo,hlo,hhi,hmulv,hmul⟩:=y8o (f k) (g j) hf0 hg0;obtain ⟨d1,c1,hd1,hc1,hs1,hadd1⟩:=y5w lo (p (k+j)) hlo hp0;obtain ⟨d2,c2,hd2,hc2,hs2,hadd2⟩:=y5w d1 cc hd1 hcc
     have hcar:hi+c1+c2 < W64:=by
      have h3:f k*g j<=18446744073709551615*18446744073709551615:=Nat.mul_le_mul (by unfold W64 at hf0;omega) (by unfold W64 at hg0;omega);unfold W64 at *;omega
     have HS1:=hid hs1;have HS2:=hid hs2;have HM:=hid hmulv;have HMC:=hid hmul;clear hs1 hs2 hmulv hmul
     have b1:(hi:Int)+c1 < 18446744073709551616:=by unfold W64 at hcar;omega
     have b2:(hi:Int)+c1+c2 < 18446744073709551616:=by unfold W64 at hcar;omega
     go_wp2_with (go_at_call 215;refine (HMC.out _).mono ?_;rintro e w' ⟨rfl,rfl⟩);clear hadd1 hadd2 h1 h2 hcell hfr b1 b2;go_roundw
     case rel=>
      refine ⟨j+1,hi+c1+c2,upd p (k+j) d2,by omega,by go_num,by go_num,hcar,hrow.set _ _,y2a HP.out hd2,fun i hi'=>?_,?_,hnew.setCell (Nat.le_of_eq HB.out.symm) _⟩
      ·rw[y0a _ _ (by omega)];exact HZ.out i hi'
      ·refine ygn (by omega) HV.out ?_;have e1:=HS1.out;have e2:=HS2.out;have e3:=HM.out;unfold W64 at *;omega
     case measure=>simp[intOf];omega
    ·obtain rfl:j=n:=by omega
     have hcell:=hrow.cell (i:=k+j) (by omega);have hfr:=hrow.frozen (k+j);clear hpl ha hb hfl hgl;go_wp2;clear hcell hfr h1 h1';go_roundw
     case rel=>
      refine ⟨k+1,upd p (k+j) cc,by omega,by go_num,hrow.set _ _,y2a HP.out hcc,fun i hi'=>?_,?_,hnew.setCell (Nat.le_of_eq HB.out.symm) _⟩
      ·rw[y0a _ _ (by omega)];exact HZ.out i (by omega)
      ·have e1:=HV.out;have e2:=yk9 (B:=W64) (f:=p) (v:=cc) (show k+j < m+j by omega);rw[HZ.out (k+j) (by omega),Nat.zero_mul] at e2
       have e3:f k*vf W64 g j*W64^k=f k*W64^k*vf W64 g j:=by rw[Nat.mul_assoc,Nat.mul_comm (vf W64 g j),<-Nat.mul_assoc]
       rw[y03,Nat.add_mul,<-e3];omega
     case measure=>simp[intOf];omega
  ·obtain rfl:k=m:=by omega
   go_wp2_with fail;refine (y7u _ _ _ _ _ (Nat.le_refl _) (by omega) (by simp) hrow.rd (fun i _=>HO.out i)).mono ?_;rintro e w' ⟨rfl,v,n',rfl,hw,hv⟩;have HV2:=hid hv;clear hv;go_wp2_with fail;go_ret;exact ⟨v,n',_,hnew,rfl,hw,by rw[HV2.out,HV.out]⟩
theorem y3s (va vb:Value)(m n:Nat)(f g:Nat->Nat)(w:World)(hm:m<=1000000)(hn:n<=1000000)(ha:Wds w va m f)(hb:Wds w vb n g):
  Calls Tryz.prog 217 #[va,vb] w fun e w'=>∃ v k h,New w w'/\e=.returned v/\Wds w' v k h/\vf W64 h k=vf W64 f m*vf W64 g n:=by
 obtain ⟨a,ca,⟨rfl,a1,a2,a3⟩,ra,cf⟩:=ha;obtain ⟨b,cb,⟨rfl,b1,b2,b3⟩,rb,cg⟩:=hb;exact ydb a b m n ca cb f g w hm hn ra rb cf.lt cg.lt
theorem y1k (n:Nat):IntKind.u64.wrap (n:Int)=((n % W64:Nat):Int):=by
 have:=IntKind.wrap_u64 (n:Int);unfold W64;rw[this];omega
theorem yam {s:Nat}(hs:s < 64):2^s<=W64:=Nat.pow_le_pow_right (by omega) (by omega:s<=64)
theorem y2j {s:Nat}(hs:s < 64):W64=2^(64 - s)*2^s:=by
 rw[<-Nat.pow_add,Nat.sub_add_cancel (by omega)]
theorem yiw {s x c:Nat}(hs:s < 64)(hc:c < 2^s):bits .or .u64 (c:Int) (IntKind.u64.wrap ((x:Int)*2^s))=((x*2^s % W64+c:Nat):Int):=by
 have e1:((x:Int)*2^s)=((x*2^s:Nat):Int):=by rw[Int.natCast_mul,Int.natCast_pow];rfl
 have hcw:c < 18446744073709551616:=Nat.lt_of_lt_of_le hc (yam hs);have hxw:x*2^s % W64 < 18446744073709551616:=Nat.mod_lt _ (by decide);rw[e1,y1k,u64_or_nat c _ hcw hxw];congr 1
 have e2:x*2^s % W64=2^s*(x % 2^(64 - s)):=by rw[y2j hs,Nat.mul_mod_mul_right,Nat.mul_comm]
 rw[e2,Nat.or_comm,<-Nat.two_pow_add_eq_or_of_lt hc]
theorem ygb {s x:Nat}(hs:s < 64):x / 2^(64 - s)=x*2^s / W64:=by
 rw[y2j hs,Nat.mul_div_mul_right _ _ (Nat.pow_pos (by omega))]
theorem ygr {s x:Nat}:(x:Int) / 2^(64 - s)=((x / 2^(64 - s):Nat):Int):=by
 rw[Int.natCast_ediv,Int.natCast_pow];rfl
theorem yng {s x:Nat}(hs:s < 64)(hx:x < W64):x / 2^(64 - s) < 2^s:=by
 rw[Nat.div_lt_iff_lt_mul (Nat.pow_pos (by omega)),Nat.mul_comm,<-y2j hs];exact hx
theorem yiz {k M c x lo c':Nat}{o f:Nat->Nat}(h:vf W64 o (k+1)=vf W64 f k*M)(hc:o k=c)(hx:f k=x)(hs:lo+W64*c'=x*M+c):
  vf W64 (upd (upd o k lo) (k+1) c') (k+1+1)=vf W64 f (k+1)*M:=by
 rw[y03,upd_same,y0o (Nat.le_refl _)];refine ym6 (o:=upd o k lo) (w:=f) (c:=c) ?_ ?_
 ·rw[y0o (Nat.le_refl _),<-h,y03,hc]
 ·rw[upd_same,hx];exact hs
theorem y9j (a:Option Addr)(m ca s:Nat)(f:Nat->Nat)(w:World)(hm:m<=1000000)(hs:s < 64)(ha:Rd w a .u64 m f)(hfl:∀ i,i < m->f i < W64):
  Calls Tryz.prog 257 #[.slice a m ca,.int .i64 s] w fun e w'=>∃ h,e=.returned (.slice (some ⟨w.heap.size,0,none⟩) (m+1) (m+1))/\New w w'/\Row w' w.heap.size 198 .u64 (m+1) h/\(∀ j,h j < W64)/\vf W64 h (m+1)=vf W64 f m*2^s:=by
 have hmk:=fun W=>run_make_row' (P:=Tryz.prog) 111 198 (.int .u64 0) 8 Tryz.underlying111 y5c rfl .i64 .i64 (m+1) (by omega) (by omega) W;rw[show ((m+1:Nat):Int)=(m:Int)+1 by omega] at hmk
 have hsplit:s=0\/0 < s:=by omega
 rcases hsplit with rfl | hs0
 all_goals
  go_enter Tryz.func257,Tryz.ntmps257;go_wp2;clear hmk;obtain ⟨B,hB⟩:∃ B,B=w.heap.size:=⟨_,rfl⟩;have hrow0:=Row.made w .u64 (m+1) 198;have hnew0:New w (w.alloc (.cells (madeCells #[.int .u64 0] (m+1)) 198)):=(New.refl w).alloc _;rw[<-hB] at hrow0⊢;generalize w.alloc (.cells (madeCells #[.int .u64 0] (m+1)) 198)=w0 at hrow0 hnew0⊢;have HB:=hid hB;clear hB
 ·go_loopw [14] (fun i wr=>∃ (k:Nat) (o:Nat->Nat),k<=m/\i=.int .i64 k/\Row wr B 198 .u64 (m+1) o/\(∀ j,o j < W64)/\(∀ j,k<=j->o j=0)/\vf W64 o k=vf W64 f k/\New w wr) (fun i _=>m - (intOf i).toNat)
  case atStart=>exact ⟨0,fun _=>0,Nat.zero_le _,rfl,hrow0,fun _=>by simp[W64],fun _ _=>rfl,rfl,hnew0⟩
  case round=>
   obtain ⟨k,o,hk,rfl,hrow,hol,hz,hval,hnew⟩:=hrel;have HV:=hid hval;have HZ:=hid hz;have HO:=hid hol;clear hval hrow0 hnew0 hz;by_cases hkm:k < m
   ·obtain ⟨b1,o1,rfl,h1⟩:=(ha.new hnew) k hkm;have hf0:=hfl k hkm;have hcell:=hrow.cell (i:=k) (by omega);have hfr:=hrow.frozen k;clear ha hfl hol;go_wp2
    go_region
    go_wp2;clear hcell hfr h1;go_roundw
    case rel=>
     have e:=yiw (s:=0) (x:=f k) (c:=o k) (by omega) (by rw[HZ.out k (Nat.le_refl _)];decide);simp only[Int.pow_zero,Int.mul_one,Nat.pow_zero,Nat.mul_one] at e;rw[HZ.out k (Nat.le_refl _),Nat.mod_eq_of_lt hf0,Nat.add_zero] at e;refine ⟨k+1,upd o k (f k),by omega,by go_num,?_,y2a HO.out hf0,fun j hj=>?_,?_,(hnew.setCell (Nat.le_of_eq HB.out.symm) _).drew⟩
     ·refine Row.drew (y5b hrow ?_);rw[HZ.out k (Nat.le_refl _)]
      first | exact e | (simp only[Int.pow_zero,Int.mul_one];exact e)
     ·rw[y0a _ _ (by omega)];exact HZ.out j (by omega)
     ·rw[y03,upd_same,y0o (Nat.le_refl _),HV.out,y03]
    case measure=>simp[intOf];omega
   ·obtain rfl:k=m:=by omega
    clear hol ha hfl;go_wp2;go_ret;refine ⟨o,by rw[HB.out];rfl,hnew,by rw[<-HB.out];exact hrow,HO.out,?_⟩;rw[y03,HZ.out k (Nat.le_refl _),HV.out];simp
 ·go_loopw [14] (fun i wr=>∃ (k:Nat) (o:Nat->Nat),k<=m/\i=.int .i64 k/\Row wr B 198 .u64 (m+1) o/\(∀ j,o j < W64)/\o k < 2^s/\vf W64 o (k+1)=vf W64 f k*2^s/\New w wr) (fun i _=>m - (intOf i).toNat)
  case atStart=>exact ⟨0,fun _=>0,Nat.zero_le _,rfl,hrow0,fun _=>by simp[W64],Nat.pow_pos (by omega),by simp[vf],hnew0⟩
  case round=>
   obtain ⟨k,o,hk,rfl,hrow,hol,hz,hval,hnew⟩:=hrel;have HV:=hid hval;have HZ:=hid hz;have HO:=hid hol;clear hval hrow0 hnew0 hz;by_cases hkm:k < m
   ·obtain ⟨b1,o1,rfl,h1⟩:=(ha.new hnew) k hkm;have hf0:=hfl k hkm;have hcell:=hrow.cell (i:=k) (by omega);have hfr:=hrow.frozen k;have hcell2:=hrow.cell (i:=k+1) (by omega);have hfr2:=hrow.frozen (k+1);clear ha hfl hol;go_wp2
    go_region
    go_wp2;clear hcell hfr hcell2 hfr2 h1;go_roundw
    case rel=>
     have e:=yiw (s:=s) (x:=f k) (c:=o k) hs HZ.out
     have hlo:f k*2^s % W64+o k < W64:=by
      have h1:f k*2^s % W64=2^s*(f k % 2^(64 - s)):=by rw[y2j hs,Nat.mul_mod_mul_right,Nat.mul_comm]
      have h2:f k % 2^(64 - s)+1<=2^(64 - s):=Nat.mod_lt _ (Nat.pow_pos (by omega));have h3:2^s*(f k % 2^(64 - s)+1)<=2^s*2^(64 - s):=Nat.mul_le_mul_left _ h2;rw[Nat.mul_add,Nat.mul_one,Nat.mul_comm _ (2^(64 - s)),<-y2j hs] at h3;have:=HZ.out;omega
     have hhi:=yng hs hf0;refine ⟨k+1,upd (upd o k (f k*2^s % W64+o k)) (k+1) (f k / 2^(64 - s)),by omega,by go_num,?_,y2a (y2a HO.out hlo) ?_,?_,?_,((hnew.setCell (Nat.le_of_eq HB.out.symm) _).setCell (Nat.le_of_eq HB.out.symm) _).drew⟩
     ·exact Row.drew (y5b (y5b hrow e) ygr)
     ·exact Nat.lt_of_lt_of_le hhi (yam hs)
     ·rw[upd_same];exact hhi
     ·refine yiz HV.out rfl rfl ?_;rw[ygb hs];have:=Nat.mod_add_div (f k*2^s) W64;omega
    case measure=>simp[intOf];omega
   ·obtain rfl:k=m:=by omega
    clear hol ha hfl;go_wp2;go_ret;exact ⟨o,by rw[HB.out];rfl,hnew,by rw[<-HB.out];exact hrow,HO.out,HV.out⟩
abbrev B32:Nat:=4294967296
structure Half (u d v yn1 yn0 q r:Nat):Prop where
 rest:q*yn1+r=u
 ge:u*B32+d < (q+1)*v
 le:q<=B32+1
 small:r < B32
structure Done (u d v q:Nat):Prop where
 le:q*v<=u*B32+d
 ge:u*B32+d < (q+1)*v
section
variable {u d v yn1 yn0 q r:Nat} (hv:v=yn1*B32+yn0) (h0:yn0 < B32) (h1:B32<=2*yn1) (h1':yn1 < B32) (hu:u < v) (hd:d < B32)
include hv h0 h1 h1' hu hd in
theorem Half.start:Half u d v yn1 yn0 (u / yn1) (u - u / yn1*yn1):=by
 have hpos:0 < yn1:=by omega
 have e1:=Nat.div_mul_le_self u yn1;have e2:u < u / yn1*yn1+yn1:=Nat.lt_div_mul_add hpos;refine ⟨by omega,?_,?_,by omega⟩
 ·rw[Nat.add_mul,Nat.one_mul]
  have h2:u / yn1*v=u / yn1*yn1*B32+u / yn1*yn0:=by rw[hv,Nat.mul_add,Nat.mul_assoc]
  rw[h2];unfold B32 at *;omega
 ·have:u / yn1 < B32+2:=by
   rw[Nat.div_lt_iff_lt_mul hpos];rw[Nat.add_mul,Nat.mul_comm B32];omega
  omega
include hv hu hd in
theorem Half.down (h:Half u d v yn1 yn0 q r)(ht:B32<=q\/B32*r+d < q*yn0):0 < q/\u*B32+d < (q - 1+1)*v:=by
 have hbad:u*B32+d < q*v:=by
  rcases ht with ht | ht
  ·have:B32*v<=q*v:=Nat.mul_le_mul_right _ ht;have h2:(u+1)*B32<=v*B32:=Nat.mul_le_mul_right _ hu;rw[Nat.add_mul,Nat.mul_comm v] at h2;omega
  ·have e:q*v=q*yn1*B32+q*yn0:=by rw[hv,Nat.mul_add,Nat.mul_assoc]
   have h3:u*B32=q*yn1*B32+r*B32:=by rw[<-h.rest,Nat.add_mul]
   rw[e,h3,Nat.mul_comm r B32];omega
 have hq:0 < q:=by
  rcases Nat.eq_zero_or_pos q with e | e
  ·subst e;omega
  ·exact e
 exact ⟨hq,by rw[Nat.sub_add_cancel hq];exact hbad⟩
include hv in
theorem Half.fits (h:Half u d v yn1 yn0 q r)(ht:q*yn0<=B32*r+d):Done u d v q:=by
 refine ⟨?_,h.ge⟩
 have e:q*v=q*yn1*B32+q*yn0:=by rw[hv,Nat.mul_add,Nat.mul_assoc]
 have h3:u*B32=q*yn1*B32+r*B32:=by rw[<-h.rest,Nat.add_mul]
 rw[e,h3,Nat.mul_comm r B32];omega
include hv h0 hu hd in
theorem Half.next (h:Half u d v yn1 yn0 q r)(ht:B32<=q\/B32*r+d < q*yn0):0 < q/\(r+yn1 < B32->Half u d v yn1 yn0 (q - 1) (r+yn1))/\(B32<=r+yn1->Done u d v (q - 1)):=by
 obtain ⟨hq,hge⟩:=h.down hv hu hd ht;obtain ⟨k,rfl⟩:∃ k,q=k+1:=⟨q - 1,by omega⟩
 have hr:k*yn1+(r+yn1)=u:=by have:=h.rest;rw[Nat.add_mul,Nat.one_mul] at this;omega
 simp only[Nat.add_sub_cancel]at hge⊢;refine ⟨hq,fun h2=>⟨hr,hge,by have:=h.le;omega,h2⟩,fun h2=>⟨?_,hge⟩⟩
 have e:k*v=k*yn1*B32+k*yn0:=by rw[hv,Nat.mul_add,Nat.mul_assoc]
 have h3:u*B32=k*yn1*B32+(r+yn1)*B32:=by rw[<-hr,Nat.add_mul]
 have h4:k*yn0<=B32*(B32 - 1):=Nat.mul_le_mul (by have:=h.le;omega) (by omega);have h5:B32*B32<=(r+yn1)*B32:=Nat.mul_le_mul_right _ h2;rw[e,h3];unfold B32 at *;omega
end
theorem Done.lt {u d v q:Nat}(h:Done u d v q)(hu:u < v)(hd:d < B32):q < B32:=by
 have h1:=h.le;have h2:(u+1)*B32<=v*B32:=Nat.mul_le_mul_right _ hu;rcases Nat.lt_or_ge q B32 with h3 | h3
 ·exact h3
 ·have h4:B32*v<=q*v:=Nat.mul_le_mul_right _ h3;rw[Nat.add_mul,Nat.mul_comm v] at h2;omega
theorem Done.rest {u d v q:Nat}(h:Done u d v q):u*B32+d - q*v < v:=by
 have h1:=h.le;have h2:=h.ge;rw[Nat.add_mul,Nat.one_mul] at h2;omega
theorem y9k (n:Nat)(hn:n < W64):bits .and .u64 (n:Int) 4294967295=((n % B32:Nat):Int):=by
 have:=u64_and_nat n 4294967295 hn (by decide);have e:(n &&& 4294967295)=n % B32:=Nat.and_two_pow_sub_one_eq_mod n 32;rw[e] at this;exact this
theorem yni {x s:Nat}(h:x*2^s < W64):IntKind.u64.wrap ((x:Int)*2^s)=((x*2^s:Nat):Int):=by
 have e1:((x:Int)*2^s)=((x*2^s:Nat):Int):=by rw[Int.natCast_mul,Int.natCast_pow];rfl
 rw[e1,y1k,Nat.mod_eq_of_lt h]
theorem yox {x s:Nat}:IntKind.u64.wrap ((x:Int)*2^s)=((x*2^s % W64:Nat):Int):=by
 have e1:((x:Int)*2^s)=((x*2^s:Nat):Int):=by rw[Int.natCast_mul,Int.natCast_pow];rfl
 rw[e1,y1k]
theorem yjn {hi lo s:Nat}(hs:s < 64)(hlo:lo < W64)(h:hi*2^s+2^s<=W64):bits .or .u64 (IntKind.u64.wrap ((hi:Int)*2^s)) ((lo:Int) / 2^(64 - s))=((hi*2^s+lo*2^s / W64:Nat):Int):=by
 have hl:=yng hs hlo;have hp:0 < 2^s:=Nat.pow_pos (by omega);rw[yni (by omega),ygr,u64_or_nat _ _ (by unfold W64 at h;omega) (by unfold W64 at h;omega)];congr 1;rw[<-ygb hs,Nat.mul_comm hi,<-Nat.two_pow_add_eq_or_of_lt hl]
theorem y3z {u d v q:Nat}(_hu:u < W64)(_hd:d < B32)(hv:v < W64)(h:Done u d v q):
  IntKind.u64.wrap (IntKind.u64.wrap (IntKind.u64.wrap ((u:Int)*4294967296)+d) - IntKind.u64.wrap ((q:Int)*v))=((u*B32+d - q*v:Nat):Int):=by
 have h1:=h.le;have h2:=h.rest
 have e:((q:Int)*v)=((q*v:Nat):Int):=by rw[Int.natCast_mul]
 rw[e];generalize q*v=p at *;simp only[IntKind.wrap_u64];unfold B32 W64 at *;omega
theorem y74 {q yn0:Nat}(h:q<=B32+1)(h0:yn0 < B32):∃ p:Nat,p=q*yn0/\IntKind.u64.wrap ((q:Int)*yn0)=p:=by
 have hp1:q*yn0<=4294967297*4294967295:=Nat.mul_le_mul (by unfold B32 at h;omega) (by unfold B32 at h0;omega);exact ⟨_,rfl,by rw[<-Int.natCast_mul,y1k,Nat.mod_eq_of_lt (by unfold W64;omega)]⟩
theorem half_start {X d v yn1 yn0:Nat}(hv:v=yn1*B32+yn0)(h0:yn0 < B32)(h1:B32<=2*yn1)(h1':yn1 < B32)(hu:X < v)(hd:d < B32):
  ∃ q r:Nat,(X:Int) / yn1=q/\(q:Int) < 18446744073709551616/\IntKind.u64.wrap ((X:Int) - IntKind.u64.wrap ((q:Int)*yn1))=r/\Half X d v yn1 yn0 q r:=by
 have hs:=Half.start hv h0 h1 h1' hu hd
 have hvw:v < W64:=by rw[hv];unfold B32 W64 at *;omega
 refine ⟨X / yn1,X - X / yn1*yn1,by rw[Int.natCast_ediv],by have:=hs.le;unfold B32 at this;omega,?_,hs⟩;have e:=Nat.div_mul_le_self X yn1;rw[<-Int.natCast_mul,y1k,Nat.mod_eq_of_lt (by omega),<-Int.ofNat_sub e,y1k,Nat.mod_eq_of_lt (by omega)]
def yp1 (w:World)(U V un1 un0 s:Nat)(e:Ending)(w':World):Prop:=w=w'/\∃ a b z:Nat,e=.returned (.tuple #[.int .u64 ((a:Int)*4294967296+b),.int .u64 z])/\Done U un1 V a/\
 z=((U*B32+un1 - a*V)*B32+un0 - b*V) / 2^s/\Done (U*B32+un1 - a*V) un0 V b
theorem yht (hi lo y s V yn1 yn0 U T un1 un0 q0 r0:Nat) (w:World) (_hlo:lo < W64) (_hy:y < W64) (hlt:hi < y) (hi0:0 < hi) (hs:s < 64)
  (hlz:∀ W,Calls Tryz.prog 256 #[.int .u64 y] W fun e w'=>e=.returned (.int .i64 s)/\W=w')
  (e1:IntKind.u64.wrap ((y:Int)*2^s)=(V:Int)) (e2:(V:Int) / 4294967296=yn1) (e3:bits .and .u64 (V:Int) 4294967295=yn0)
  (e4:bits .or .u64 (IntKind.u64.wrap ((hi:Int)*2^s)) ((lo:Int) / 2^(64 - s))=U) (e5:IntKind.u64.wrap ((lo:Int)*2^s)=T)
  (e6:(T:Int) / 4294967296=un1) (e7:bits .and .u64 (T:Int) 4294967295=un0) (e8:(U:Int) / yn1=q0) (hq0:(q0:Int) < 18446744073709551616) (e9:IntKind.u64.wrap ((U:Int) - IntKind.u64.wrap ((q0:Int)*yn1))=r0)
  (hV:V < W64) (hv:V=yn1*B32+yn0) (h0:yn0 < B32) (h1:B32<=2*yn1) (h1':yn1 < B32) (hu:U < V) (hd:un1 < B32) (hd0:un0 < B32) (hst:Half U un1 V yn1 yn0 q0 r0):
  Calls Tryz.prog 255 #[.int .u64 hi,.int .u64 lo,.int .u64 y] w (yp1 w U V un1 un0 s):=by
 have g1:((y:Int)==0)=false:=by simp;omega
 have g2:((hi:Int)==0)=false:=by simp;omega
 have g3:¬((y:Int)<=hi):=by omega
 have g4:(0:Int) < yn1:=by unfold B32 at h1;omega
 have HLZ:=hid hlz;have HV:=hid hv;have HS0:=hid hs;clear hlz hv;go_enter Tryz.func255,Tryz.ntmps255;go_wp2_with (go_at_call 256;refine (HLZ.out _).mono ?_;rintro e w' ⟨rfl,rfl⟩)
 go_loop [15,16] (fun a b=>∃ q r:Nat,a=.int .u64 q/\b=.int .u64 r/\Half U un1 V yn1 yn0 q r) (fun a _=>(intOf a).toNat)
 case atStart=>first | exact ⟨q0,r0,rfl,rfl,hst⟩ | skip
 case round=>
  obtain ⟨q,r,rfl,rfl,hh⟩:=hrel;have HH:=hid hh;have hql:=hh.le;have hrs:=hh.small;clear hh hst e1 e2 e3 e4 e5 e6 e7 e8 e9 hlt hi0 hs g1 g2 g3 hq0 HLZ;obtain ⟨p,hp,ep⟩:=y74 hql h0;have HP:=hid hp;clear hp
  have hx1:(un1:Int) < 4294967296:=by unfold B32 at hd;omega
  have hx2:(r:Int) < 4294967296:=by unfold B32 at hrs;omega
  have hx3:(yn1:Int) < 4294967296:=by unfold B32 at h1';omega
  have hx4:(q:Int)<=4294967297:=by unfold B32 at hql;omega
  by_cases c1:4294967296<=q
  ·have cc:B32<=q\/B32*r+un1 < q*yn0:=.inl c1
   have d1:(4294967296:Int)<=q:=by omega
   clear c1;obtain ⟨n1,n2,n3⟩:=HH.out.next HV.out h0 hu hd cc;have N2:=hid n2;have N3:=hid n3;clear n2 n3 cc HH HP;obtain ⟨k,rfl⟩:∃ k,q=k+1:=⟨q - 1,by omega⟩
   have hk1:((k+1:Nat):Int)=(k:Int)+1:=by omega
   simp only[hk1]at d1 ep hx4;rw[hk1];clear hk1;by_cases c3:r+yn1 < B32
   ·have d3:¬(4294967296:Int)<=(r:Int)+yn1:=by unfold B32 at c3;omega
    go_wp2;go_round
    case rel=>exact ⟨k,r+yn1,by go_num,by go_num,N2.out c3⟩
    case measure=>simp[intOf]
   ·have d3:(4294967296:Int)<=(r:Int)+yn1:=by unfold B32 at c3;omega
    obtain ⟨qf,hqf⟩:∃ qf,qf=k:=⟨_,rfl⟩;subst hqf;have hdone:Done U un1 V qf:=N3.out (by omega);clear N2 N3;obtain ⟨X,hX⟩:∃ X,X=U*B32+un1 - qf*V:=⟨_,rfl⟩;have eX:=y3z (Nat.lt_trans hu hV) hd hV hdone;rw[<-hX] at eX
    have hXV:X < V:=by rw[hX];exact hdone.rest
    obtain ⟨q1,r1,f1,f2,f3,hst⟩:=half_start HV.out h0 h1 h1' hXV hd0;have HX:=hid hX;have HST:=hid hst;have HDN:=hid hdone;clear hX hst hdone;go_wp2
    go_loop [18,16] (fun a b=>∃ q r:Nat,a=.int .u64 q/\b=.int .u64 r/\Half X un0 V yn1 yn0 q r) (fun a _=>(intOf a).toNat)
    case atStart=>exact ⟨q1,r1,rfl,rfl,HST.out⟩
    case round=>
     obtain ⟨qq,rr,rfl,rfl,hh⟩:=hrel;have HH:=hid hh;have hql:=hh.le;have hrs:=hh.small;clear hh HST f1 f3 eX ep;obtain ⟨p,hp,ep⟩:=y74 hql h0;have HP:=hid hp;clear hp
     have hx1:(un0:Int) < 4294967296:=by unfold B32 at hd0;omega
     have hx2:(rr:Int) < 4294967296:=by unfold B32 at hrs;omega
     have hx4:(qq:Int)<=4294967297:=by unfold B32 at hql;omega
     by_cases c1:4294967296<=qq
     ·have cc:B32<=qq\/B32*rr+un0 < qq*yn0:=.inl c1
      have d1:(4294967296:Int)<=qq:=by omega
      clear c1;obtain ⟨n1,n2,n3⟩:=HH.out.next HV.out h0 hXV hd0 cc;have N2:=hid n2;have N3:=hid n3;clear n2 n3 cc HH HP;obtain ⟨k,rfl⟩:∃ k,qq=k+1:=⟨qq - 1,by omega⟩
      have hk1:((k+1:Nat):Int)=(k:Int)+1:=by omega
      simp only[hk1]at d1 ep hx4;rw[hk1];clear hk1;by_cases c3:rr+yn1 < B32
      ·have d3:¬(4294967296:Int)<=(rr:Int)+yn1:=by unfold B32 at c3;omega
       go_wp2;go_round
       case rel=>exact ⟨k,rr+yn1,by go_num,by go_num,N2.out c3⟩
       case measure=>simp[intOf]
      ·have d3:(4294967296:Int)<=(rr:Int)+yn1:=by unfold B32 at c3;omega
       obtain ⟨qe,hqe⟩:∃ qe,qe=k:=⟨_,rfl⟩;subst hqe;have hdone:Done X un0 V qe:=N3.out (by omega);clear N2 N3;have hqf:=HDN.out.lt hu hd;have hqe:=hdone.lt hXV hd0
       have b1:(qf:Int) < 4294967296:=by unfold B32 at hqf;omega
       have b2:(qe:Int) < 4294967296:=by unfold B32 at hqe;omega
       obtain ⟨Y,hY⟩:∃ Y,Y=X*B32+un0 - qe*V:=⟨_,rfl⟩;have eY:=y3z (Nat.lt_trans hXV hV) hd0 hV hdone;rw[<-hY] at eY;obtain ⟨Z,hZ⟩:∃ Z,Z=Y / 2^s:=⟨_,rfl⟩
       have eZ:(Y:Int) / 2^min s 64=Z:=by rw[hZ,Nat.min_eq_left (Nat.le_of_lt HS0.out),Int.natCast_ediv,Int.natCast_pow];rfl
       have HY:=hid hY;have HZ:=hid hZ;have HDE:=hid hdone;clear hY hZ hdone hqf hqe;go_wp2;go_ret2;exact ⟨rfl,qf,qe,Z,rfl,HDN.out,by rw[HZ.out,HY.out,HX.out],by rw[<-HX.out];exact HDE.out⟩
     ·have d1:¬(4294967296:Int)<=qq:=by omega
      by_cases c2:4294967296*rr+un0 < p
      ·have cc:B32<=qq\/B32*rr+un0 < qq*yn0:=.inr (by rw[<-HP.out];exact c2)
       have d2:4294967296*(rr:Int)+un0 < p:=by omega
       clear c1 c2;obtain ⟨n1,n2,n3⟩:=HH.out.next HV.out h0 hXV hd0 cc;have N2:=hid n2;have N3:=hid n3;clear n2 n3 cc HH HP;obtain ⟨k,rfl⟩:∃ k,qq=k+1:=⟨qq - 1,by omega⟩
       have hk1:((k+1:Nat):Int)=(k:Int)+1:=by omega
       simp only[hk1]at d1 ep hx4;rw[hk1];clear hk1;by_cases c3:rr+yn1 < B32
       ·have d3:¬(4294967296:Int)<=(rr:Int)+yn1:=by unfold B32 at c3;omega
        go_wp2;go_round
        case rel=>exact ⟨k,rr+yn1,by go_num,by go_num,N2.out c3⟩
        case measure=>simp[intOf]
       ·have d3:(4294967296:Int)<=(rr:Int)+yn1:=by unfold B32 at c3;omega
        obtain ⟨qe,hqe⟩:∃ qe,qe=k:=⟨_,rfl⟩;subst hqe;have hdone:Done X un0 V qe:=N3.out (by omega);clear N2 N3;have hqf:=HDN.out.lt hu hd;have hqe:=hdone.lt hXV hd0
        have b1:(qf:Int) < 4294967296:=by unfold B32 at hqf;omega
        have b2:(qe:Int) < 4294967296:=by unfold B32 at hqe;omega
        obtain ⟨Y,hY⟩:∃ Y,Y=X*B32+un0 - qe*V:=⟨_,rfl⟩;have eY:=y3z (Nat.lt_trans hXV hV) hd0 hV hdone;rw[<-hY] at eY;obtain ⟨Z,hZ⟩:∃ Z,Z=Y / 2^s:=⟨_,rfl⟩
        have eZ:(Y:Int) / 2^min s 64=Z:=by rw[hZ,Nat.min_eq_left (Nat.le_of_lt HS0.out),Int.natCast_ediv,Int.natCast_pow];rfl
        have HY:=hid hY;have HZ:=hid hZ;have HDE:=hid hdone;clear hY hZ hdone hqf hqe;go_wp2;go_ret2;exact ⟨rfl,qf,qe,Z,rfl,HDN.out,by rw[HZ.out,HY.out,HX.out],by rw[<-HX.out];exact HDE.out⟩
      ·have d2:¬4294967296*(rr:Int)+un0 < p:=by omega
       obtain ⟨qe,hqe⟩:∃ qe,qe=qq:=⟨_,rfl⟩;subst hqe;have hdone:Done X un0 V qe:=HH.out.fits HV.out (by rw[<-HP.out];unfold B32;omega);clear c1 c2 HH HP;have hqf:=HDN.out.lt hu hd;have hqe:=hdone.lt hXV hd0
       have b1:(qf:Int) < 4294967296:=by unfold B32 at hqf;omega
       have b2:(qe:Int) < 4294967296:=by unfold B32 at hqe;omega
       obtain ⟨Y,hY⟩:∃ Y,Y=X*B32+un0 - qe*V:=⟨_,rfl⟩;have eY:=y3z (Nat.lt_trans hXV hV) hd0 hV hdone;rw[<-hY] at eY;obtain ⟨Z,hZ⟩:∃ Z,Z=Y / 2^s:=⟨_,rfl⟩
       have eZ:(Y:Int) / 2^min s 64=Z:=by rw[hZ,Nat.min_eq_left (Nat.le_of_lt HS0.out),Int.natCast_ediv,Int.natCast_pow];rfl
       have HY:=hid hY;have HZ:=hid hZ;have HDE:=hid hdone;clear hY hZ hdone hqf hqe;go_wp2;go_ret2;exact ⟨rfl,qf,qe,Z,rfl,HDN.out,by rw[HZ.out,HY.out,HX.out],by rw[<-HX.out];exact HDE.out⟩
  ·have d1:¬(4294967296:Int)<=q:=by omega
   by_cases c2:4294967296*r+un1 < p
   ·have cc:B32<=q\/B32*r+un1 < q*yn0:=.inr (by rw[<-HP.out];exact c2)
    have d2:4294967296*(r:Int)+un1 < p:=by omega
    clear c1 c2;obtain ⟨n1,n2,n3⟩:=HH.out.next HV.out h0 hu hd cc;have N2:=hid n2;have N3:=hid n3;clear n2 n3 cc HH HP;obtain ⟨k,rfl⟩:∃ k,q=k+1:=⟨q - 1,by omega⟩
    have hk1:((k+1:Nat):Int)=(k:Int)+1:=by omega
    simp only[hk1]at d1 ep hx4;rw[hk1];clear hk1;by_cases c3:r+yn1 < B32
    ·have d3:¬(4294967296:Int)<=(r:Int)+yn1:=by unfold B32 at c3;omega
     go_wp2;go_round
     case rel=>exact ⟨k,r+yn1,by go_num,by go_num,N2.out c3⟩
     case measure=>simp[intOf]
    ·have d3:(4294967296:Int)<=(r:Int)+yn1:=by unfold B32 at c3;omega
     obtain ⟨qf,hqf⟩:∃ qf,qf=k:=⟨_,rfl⟩;subst hqf;have hdone:Done U un1 V qf:=N3.out (by omega);clear N2 N3;obtain ⟨X,hX⟩:∃ X,X=U*B32+un1 - qf*V:=⟨_,rfl⟩;have eX:=y3z (Nat.lt_trans hu hV) hd hV hdone;rw[<-hX] at eX
     have hXV:X < V:=by rw[hX];exact hdone.rest
     obtain ⟨q1,r1,f1,f2,f3,hst⟩:=half_start HV.out h0 h1 h1' hXV hd0;have HX:=hid hX;have HST:=hid hst;have HDN:=hid hdone;clear hX hst hdone;go_wp2
     go_loop [18,16] (fun a b=>∃ q r:Nat,a=.int .u64 q/\b=.int .u64 r/\Half X un0 V yn1 yn0 q r) (fun a _=>(intOf a).toNat)
     case atStart=>exact ⟨q1,r1,rfl,rfl,HST.out⟩
     case round=>
      obtain ⟨qq,rr,rfl,rfl,hh⟩:=hrel;have HH:=hid hh;have hql:=hh.le;have hrs:=hh.small;clear hh HST f1 f3 eX ep;obtain ⟨p,hp,ep⟩:=y74 hql h0;have HP:=hid hp;clear hp
      have hx1:(un0:Int) < 4294967296:=by unfold B32 at hd0;omega
      have hx2:(rr:Int) < 4294967296:=by unfold B32 at hrs;omega
      have hx4:(qq:Int)<=4294967297:=by unfold B32 at hql;omega
      by_cases c1:4294967296<=qq
      ·have cc:B32<=qq\/B32*rr+un0 < qq*yn0:=.inl c1
       have d1:(4294967296:Int)<=qq:=by omega
       clear c1;obtain ⟨n1,n2,n3⟩:=HH.out.next HV.out h0 hXV hd0 cc;have N2:=hid n2;have N3:=hid n3;clear n2 n3 cc HH HP;obtain ⟨k,rfl⟩:∃ k,qq=k+1:=⟨qq - 1,by omega⟩
       have hk1:((k+1:Nat):Int)=(k:Int)+1:=by omega
       simp only[hk1]at d1 ep hx4;rw[hk1];clear hk1;by_cases c3:rr+yn1 < B32
       ·have d3:¬(4294967296:Int)<=(rr:Int)+yn1:=by unfold B32 at c3;omega
        go_wp2;go_round
        case rel=>exact ⟨k,rr+yn1,by go_num,by go_num,N2.out c3⟩
        case measure=>simp[intOf]
       ·have d3:(4294967296:Int)<=(rr:Int)+yn1:=by unfold B32 at c3;omega
        obtain ⟨qe,hqe⟩:∃ qe,qe=k:=⟨_,rfl⟩;subst hqe;have hdone:Done X un0 V qe:=N3.out (by omega);clear N2 N3;have hqf:=HDN.out.lt hu hd;have hqe:=hdone.lt hXV hd0
        have b1:(qf:Int) < 4294967296:=by unfold B32 at hqf;omega
        have b2:(qe:Int) < 4294967296:=by unfold B32 at hqe;omega
        obtain ⟨Y,hY⟩:∃ Y,Y=X*B32+un0 - qe*V:=⟨_,rfl⟩;have eY:=y3z (Nat.lt_trans hXV hV) hd0 hV hdone;rw[<-hY] at eY;obtain ⟨Z,hZ⟩:∃ Z,Z=Y / 2^s:=⟨_,rfl⟩
        have eZ:(Y:Int) / 2^min s 64=Z:=by rw[hZ,Nat.min_eq_left (Nat.le_of_lt HS0.out),Int.natCast_ediv,Int.natCast_pow];rfl
        have HY:=hid hY;have HZ:=hid hZ;have HDE:=hid hdone;clear hY hZ hdone hqf hqe;go_wp2;go_ret2;exact ⟨rfl,qf,qe,Z,rfl,HDN.out,by rw[HZ.out,HY.out,HX.out],by rw[<-HX.out];exact HDE.out⟩
      ·have d1:¬(4294967296:Int)<=qq:=by omega
       by_cases c2:4294967296*rr+un0 < p
       ·have cc:B32<=qq\/B32*rr+un0 < qq*yn0:=.inr (by rw[<-HP.out];exact c2)
        have d2:4294967296*(rr:Int)+un0 < p:=by omega
        clear c1 c2;obtain ⟨n1,n2,n3⟩:=HH.out.next HV.out h0 hXV hd0 cc;have N2:=hid n2;have N3:=hid n3;clear n2 n3 cc HH HP;obtain ⟨k,rfl⟩:∃ k,qq=k+1:=⟨qq - 1,by omega⟩
        have hk1:((k+1:Nat):Int)=(k:Int)+1:=by omega
        simp only[hk1]at d1 ep hx4;rw[hk1];clear hk1;by_cases c3:rr+yn1 < B32
        ·have d3:¬(4294967296:Int)<=(rr:Int)+yn1:=by unfold B32 at c3;omega
         go_wp2;go_round
         case rel=>exact ⟨k,rr+yn1,by go_num,by go_num,N2.out c3⟩
         case measure=>simp[intOf]
        ·have d3:(4294967296:Int)<=(rr:Int)+yn1:=by unfold B32 at c3;omega
         obtain ⟨qe,hqe⟩:∃ qe,qe=k:=⟨_,rfl⟩;subst hqe;have hdone:Done X un0 V qe:=N3.out (by omega);clear N2 N3;have hqf:=HDN.out.lt hu hd;have hqe:=hdone.lt hXV hd0
         have b1:(qf:Int) < 4294967296:=by unfold B32 at hqf;omega
         have b2:(qe:Int) < 4294967296:=by unfold B32 at hqe;omega
         obtain ⟨Y,hY⟩:∃ Y,Y=X*B32+un0 - qe*V:=⟨_,rfl⟩;have eY:=y3z (Nat.lt_trans hXV hV) hd0 hV hdone;rw[<-hY] at eY;obtain ⟨Z,hZ⟩:∃ Z,Z=Y / 2^s:=⟨_,rfl⟩
         have eZ:(Y:Int) / 2^min s 64=Z:=by rw[hZ,Nat.min_eq_left (Nat.le_of_lt HS0.out),Int.natCast_ediv,Int.natCast_pow];rfl
         have HY:=hid hY;have HZ:=hid hZ;have HDE:=hid hdone;clear hY hZ hdone hqf hqe;go_wp2;go_ret2;exact ⟨rfl,qf,qe,Z,rfl,HDN.out,by rw[HZ.out,HY.out,HX.out],by rw[<-HX.out];exact HDE.out⟩
       ·have d2:¬4294967296*(rr:Int)+un0 < p:=by omega
        obtain ⟨qe,hqe⟩:∃ qe,qe=qq:=⟨_,rfl⟩;subst hqe;have hdone:Done X un0 V qe:=HH.out.fits HV.out (by rw[<-HP.out];unfold B32;omega);clear c1 c2 HH HP;have hqf:=HDN.out.lt hu hd;have hqe:=hdone.lt hXV hd0
        have b1:(qf:Int) < 4294967296:=by unfold B32 at hqf;omega
        have b2:(qe:Int) < 4294967296:=by unfold B32 at hqe;omega
        obtain ⟨Y,hY⟩:∃ Y,Y=X*B32+un0 - qe*V:=⟨_,rfl⟩;have eY:=y3z (Nat.lt_trans hXV hV) hd0 hV hdone;rw[<-hY] at eY;obtain ⟨Z,hZ⟩:∃ Z,Z=Y / 2^s:=⟨_,rfl⟩
        have eZ:(Y:Int) / 2^min s 64=Z:=by rw[hZ,Nat.min_eq_left (Nat.le_of_lt HS0.out),Int.natCast_ediv,Int.natCast_pow];rfl
        have HY:=hid hY;have HZ:=hid hZ;have HDE:=hid hdone;clear hY hZ hdone hqf hqe;go_wp2;go_ret2;exact ⟨rfl,qf,qe,Z,rfl,HDN.out,by rw[HZ.out,HY.out,HX.out],by rw[<-HX.out];exact HDE.out⟩
   ·have d2:¬4294967296*(r:Int)+un1 < p:=by omega
    obtain ⟨qf,hqf⟩:∃ qf,qf=q:=⟨_,rfl⟩;subst hqf;have hdone:Done U un1 V qf:=HH.out.fits HV.out (by rw[<-HP.out];unfold B32;omega);clear c1 c2 HH HP;obtain ⟨X,hX⟩:∃ X,X=U*B32+un1 - qf*V:=⟨_,rfl⟩;have eX:=y3z (Nat.lt_trans hu hV) hd hV hdone;rw[<-hX] at eX
    have hXV:X < V:=by rw[hX];exact hdone.rest
    obtain ⟨q1,r1,f1,f2,f3,hst⟩:=half_start HV.out h0 h1 h1' hXV hd0;have HX:=hid hX;have HST:=hid hst;have HDN:=hid hdone;clear hX hst hdone;go_wp2
    go_loop [18,16] (fun a b=>∃ q r:Nat,a=.int .u64 q/\b=.int .u64 r/\Half X un0 V yn1 yn0 q r) (fun a _=>(intOf a).toNat)
    case atStart=>exact ⟨q1,r1,rfl,rfl,HST.out⟩
    case round=>
     obtain ⟨qq,rr,rfl,rfl,hh⟩:=hrel;have HH:=hid hh;have hql:=hh.le;have hrs:=hh.small;clear hh HST f1 f3 eX ep;obtain ⟨p,hp,ep⟩:=y74 hql h0;have HP:=hid hp;clear hp
     have hx1:(un0:Int) < 4294967296:=by unfold B32 at hd0;omega
     have hx2:(rr:Int) < 4294967296:=by unfold B32 at hrs;omega
     have hx4:(qq:Int)<=4294967297:=by unfold B32 at hql;omega
     by_cases c1:4294967296<=qq
     ·have cc:B32<=qq\/B32*rr+un0 < qq*yn0:=.inl c1
      have d1:(4294967296:Int)<=qq:=by omega
      clear c1;obtain ⟨n1,n2,n3⟩:=HH.out.next HV.out h0 hXV hd0 cc;have N2:=hid n2;have N3:=hid n3;clear n2 n3 cc HH HP;obtain ⟨k,rfl⟩:∃ k,qq=k+1:=⟨qq - 1,by omega⟩
      have hk1:((k+1:Nat):Int)=(k:Int)+1:=by omega
      simp only[hk1]at d1 ep hx4;rw[hk1];clear hk1;by_cases c3:rr+yn1 < B32
      ·have d3:¬(4294967296:Int)<=(rr:Int)+yn1:=by unfold B32 at c3;omega
       go_wp2;go_round
       case rel=>exact ⟨k,rr+yn1,by go_num,by go_num,N2.out c3⟩
       case measure=>simp[intOf]
      ·have d3:(4294967296:Int)<=(rr:Int)+yn1:=by unfold B32 at c3;omega
       obtain ⟨qe,hqe⟩:∃ qe,qe=k:=⟨_,rfl⟩;subst hqe;have hdone:Done X un0 V qe:=N3.out (by omega);clear N2 N3;have hqf:=HDN.out.lt hu hd;have hqe:=hdone.lt hXV hd0
       have b1:(qf:Int) < 4294967296:=by unfold B32 at hqf;omega
       have b2:(qe:Int) < 4294967296:=by unfold B32 at hqe;omega
       obtain ⟨Y,hY⟩:∃ Y,Y=X*B32+un0 - qe*V:=⟨_,rfl⟩;have eY:=y3z (Nat.lt_trans hXV hV) hd0 hV hdone;rw[<-hY] at eY;obtain ⟨Z,hZ⟩:∃ Z,Z=Y / 2^s:=⟨_,rfl⟩
       have eZ:(Y:Int) / 2^min s 64=Z:=by rw[hZ,Nat.min_eq_left (Nat.le_of_lt HS0.out),Int.natCast_ediv,Int.natCast_pow];rfl
       have HY:=hid hY;have HZ:=hid hZ;have HDE:=hid hdone;clear hY hZ hdone hqf hqe;go_wp2;go_ret2;exact ⟨rfl,qf,qe,Z,rfl,HDN.out,by rw[HZ.out,HY.out,HX.out],by rw[<-HX.out];exact HDE.out⟩
     ·have d1:¬(4294967296:Int)<=qq:=by omega
      by_cases c2:4294967296*rr+un0 < p
      ·have cc:B32<=qq\/B32*rr+un0 < qq*yn0:=.inr (by rw[<-HP.out];exact c2)
       have d2:4294967296*(rr:Int)+un0 < p:=by omega
       clear c1 c2;obtain ⟨n1,n2,n3⟩:=HH.out.next HV.out h0 hXV hd0 cc;have N2:=hid n2;have N3:=hid n3;clear n2 n3 cc HH HP;obtain ⟨k,rfl⟩:∃ k,qq=k+1:=⟨qq - 1,by omega⟩
       have hk1:((k+1:Nat):Int)=(k:Int)+1:=by omega
       simp only[hk1]at d1 ep hx4;rw[hk1];clear hk1;by_cases c3:rr+yn1 < B32
       ·have d3:¬(4294967296:Int)<=(rr:Int)+yn1:=by unfold B32 at c3;omega
        go_wp2;go_round
        case rel=>exact ⟨k,rr+yn1,by go_num,by go_num,N2.out c3⟩
        case measure=>simp[intOf]
       ·have d3:(4294967296:Int)<=(rr:Int)+yn1:=by unfold B32 at c3;omega
        obtain ⟨qe,hqe⟩:∃ qe,qe=k:=⟨_,rfl⟩;subst hqe;have hdone:Done X un0 V qe:=N3.out (by omega);clear N2 N3;have hqf:=HDN.out.lt hu hd;have hqe:=hdone.lt hXV hd0
        have b1:(qf:Int) < 4294967296:=by unfold B32 at hqf;omega
        have b2:(qe:Int) < 4294967296:=by unfold B32 at hqe;omega
        obtain ⟨Y,hY⟩:∃ Y,Y=X*B32+un0 - qe*V:=⟨_,rfl⟩;have eY:=y3z (Nat.lt_trans hXV hV) hd0 hV hdone;rw[<-hY] at eY;obtain ⟨Z,hZ⟩:∃ Z,Z=Y / 2^s:=⟨_,rfl⟩
        have eZ:(Y:Int) / 2^min s 64=Z:=by rw[hZ,Nat.min_eq_left (Nat.le_of_lt HS0.out),Int.natCast_ediv,Int.natCast_pow];rfl
        have HY:=hid hY;have HZ:=hid hZ;have HDE:=hid hdone;clear hY hZ hdone hqf hqe;go_wp2;go_ret2;exact ⟨rfl,qf,qe,Z,rfl,HDN.out,by rw[HZ.out,HY.out,HX.out],by rw[<-HX.out];exact HDE.out⟩
      ·have d2:¬4294967296*(rr:Int)+un0 < p:=by omega
       obtain ⟨qe,hqe⟩:∃ qe,qe=qq:=⟨_,rfl⟩;subst hqe;have hdone:Done X un0 V qe:=HH.out.fits HV.out (by rw[<-HP.out];unfold B32;omega);clear c1 c2 HH HP;have hqf:=HDN.out.lt hu hd;have hqe:=hdone.lt hXV hd0
       have b1:(qf:Int) < 4294967296:=by unfold B32 at hqf;omega
       have b2:(qe:Int) < 4294967296:=by unfold B32 at hqe;omega
       obtain ⟨Y,hY⟩:∃ Y,Y=X*B32+un0 - qe*V:=⟨_,rfl⟩;have eY:=y3z (Nat.lt_trans hXV hV) hd0 hV hdone;rw[<-hY] at eY;obtain ⟨Z,hZ⟩:∃ Z,Z=Y / 2^s:=⟨_,rfl⟩
       have eZ:(Y:Int) / 2^min s 64=Z:=by rw[hZ,Nat.min_eq_left (Nat.le_of_lt HS0.out),Int.natCast_ediv,Int.natCast_pow];rfl
       have HY:=hid hY;have HZ:=hid hZ;have HDE:=hid hdone;clear hY hZ hdone hqf hqe;go_wp2;go_ret2;exact ⟨rfl,qf,qe,Z,rfl,HDN.out,by rw[HZ.out,HY.out,HX.out],by rw[<-HX.out];exact HDE.out⟩
theorem y7d {x:Nat}(h:x < W64)(h0:x≠0):1<=Lib.bitLen x/\Lib.bitLen x<=64/\2^(Lib.bitLen x - 1)<=x/\x < 2^Lib.bitLen x:=by
 obtain ⟨a,b,c⟩:=Lib.bitLenAux_bounds 64 x h h0;exact ⟨a,Lib.bitLen_le x 64 (Nat.le_refl _) h,b,c⟩
theorem ygj (x:Nat)(h:x < W64)(h0:x≠0):∃ s:Nat,s < 64/\2^63<=x*2^s/\x*2^s < W64/\
  ∀ w,Calls Tryz.prog 256 #[.int .u64 x] w fun e w'=>e=.returned (.int .i64 s)/\w=w':=by
 obtain ⟨a,b,c,d⟩:=y7d h h0;refine ⟨64 - Lib.bitLen x,by omega,?_,?_,fun w=>?_⟩
 ·have:=Nat.mul_le_mul_right (2^(64 - Lib.bitLen x)) c;rw[<-Nat.pow_add,show Lib.bitLen x - 1+(64 - Lib.bitLen x)=63 by omega] at this;exact this
 ·have:=Nat.mul_lt_mul_of_pos_right d (Nat.pow_pos (n:=64 - Lib.bitLen x) (show 0 < 2 by omega));rw[<-Nat.pow_add,show Lib.bitLen x+(64 - Lib.bitLen x)=64 by omega] at this;exact this
 ·refine (Tryz.bits_LeadingZeros64 x w (by omega) (by unfold W64 at h;omega)).mono fun e w' ⟨h1,h2⟩=>⟨?_,h2.symm⟩;rw[h1];simp only[Int.toNat_natCast];congr 2;omega
theorem ykd (x:Nat)(h:x < W64)(w:World):Calls Tryz.prog 191 #[.int .u64 x] w fun e w'=>e=.returned (.int .i64 (Lib.bitLen x))/\w=w':=by
 refine (Tryz.bits_Len64 x w (by omega) (by unfold W64 at h;omega)).mono fun e w' ⟨h1,h2⟩=>⟨?_,h2.symm⟩;rw[h1];simp only[Int.toNat_natCast]
theorem yig {hi lo y s V U T un1 un0 a b:Nat} (hVe:V=y*2^s) (hUT:U*W64+T=(hi*W64+lo)*2^s) (hT:T=un1*B32+un0)
  (h1:Done U un1 V a) (h2:Done (U*B32+un1 - a*V) un0 V b):
  (a*B32+b)*y+((U*B32+un1 - a*V)*B32+un0 - b*V) / 2^s=hi*W64+lo/\((U*B32+un1 - a*V)*B32+un0 - b*V) / 2^s < y:=by
 have g1:=h1.le;have g2:=h2.le;have g3:=h2.rest;have hp:0 < 2^s:=Nat.pow_pos (by omega)
 have e1:(U*B32+un1 - a*V)*B32=U*B32*B32+un1*B32 - a*V*B32:=by rw[Nat.sub_mul,Nat.add_mul]
 have e2:a*V*B32<=(U*B32+un1)*B32:=Nat.mul_le_mul_right _ g1
 have e3:U*B32*B32=U*W64:=by rw[Nat.mul_assoc,show B32*B32=W64 from rfl]
 have e4:(U*B32+un1)*B32=U*W64+un1*B32:=by rw[Nat.add_mul,e3]
 have e5:(a*B32+b)*V=a*V*B32+b*V:=by rw[Nat.add_mul,Nat.mul_right_comm]
 obtain ⟨Y,hY⟩:∃ Y,Y=(U*B32+un1 - a*V)*B32+un0 - b*V:=⟨_,rfl⟩;rw[<-hY] at g3⊢
 have e6:(a*B32+b)*V+Y=(hi*W64+lo)*2^s:=by omega
 have e7:(a*B32+b)*V=(a*B32+b)*y*2^s:=by rw[hVe,Nat.mul_assoc]
 rw[e7]at e6
 have e8:Y=(hi*W64+lo - (a*B32+b)*y)*2^s:=by rw[Nat.sub_mul];omega
 have e9:(a*B32+b)*y<=hi*W64+lo:=by
  have:(a*B32+b)*y*2^s<=(hi*W64+lo)*2^s:=by omega
  exact Nat.le_of_mul_le_mul_right this hp
 rw[e8,Nat.mul_div_cancel _ hp];refine ⟨by omega,?_⟩;rw[e8,hVe] at g3;exact Nat.lt_of_mul_lt_mul_right g3
theorem yj7 (lo y:Nat)(w:World)(hlo:lo < W64)(hy:y < W64)(h0:0 < y):
  Calls Tryz.prog 255 #[.int .u64 0,.int .u64 lo,.int .u64 y] w fun e w'=>(∃ m,w'=w.drewN m)/\e=.returned (.tuple #[.int .u64 (lo / y:Nat),.int .u64 (lo % y:Nat)]):=by
 have g1:((y:Int)==0)=false:=by simp;omega
 have hy':(0:Int) < y:=by omega
 unfold W64 at *;go_enter Tryz.func255,Tryz.ntmps255;go_wp2
 go_quiet (fail)
 go_wp2;go_ret2
 have e1:IntKind.u64.wrap ((lo:Int) / (y:Int))=((lo / y:Nat):Int):=by
  have:=Nat.div_le_self lo y;rw[<-Int.natCast_ediv,y1k,Nat.mod_eq_of_lt (by unfold W64;omega)]
 have e2:((lo:Int) % (y:Int))=((lo % y:Nat):Int):=by rw[Int.natCast_emod]
 refine ⟨⟨_,rfl⟩,?_⟩;show Ending.returned (Value.tuple #[.int .u64 (IntKind.u64.wrap ((lo:Int) / (y:Int))),.int .u64 ((lo:Int) % (y:Int))])=_;rw[e1,e2]
theorem y9m (hi lo y:Nat)(hlo:lo < W64)(hy:y < W64)(hlt:hi < y)(w:World):∃ q r:Nat,q < W64/\r < y/\q*y+r=hi*W64+lo/\
  Calls Tryz.prog 255 #[.int .u64 hi,.int .u64 lo,.int .u64 y] w fun e w'=>e=.returned (.tuple #[.int .u64 q,.int .u64 r])/\∃ m,w'=w.drewN m:=by
 by_cases h0:hi=0
 ·subst h0;refine ⟨lo / y,lo % y,Nat.lt_of_le_of_lt (Nat.div_le_self _ _) hlo,Nat.mod_lt _ (by omega),?_,(yj7 lo y w hlo hy (by omega)).mono fun e w' ⟨h1,h2⟩=>⟨h2,h1⟩⟩;have:=Nat.div_add_mod lo y;rw[Nat.mul_comm (lo / y)];omega
 ·obtain ⟨s,hs,hlow,hup,hlz⟩:=ygj y hy (by omega);obtain ⟨V,hV⟩:∃ V,V=y*2^s:=⟨_,rfl⟩;rw[<-hV] at hlow hup;have hp:0 < 2^s:=Nat.pow_pos (by omega)
  have hhs:hi*2^s+2^s<=V:=by
   have:=Nat.mul_le_mul_right (2^s) (show hi+1<=y from hlt);rw[Nat.add_mul,Nat.one_mul] at this;rw[hV];exact this
  have hcar:lo*2^s / W64 < 2^s:=by
   rw[Nat.div_lt_iff_lt_mul (by decide),Nat.mul_comm];exact Nat.mul_lt_mul_of_pos_left hlo hp
  obtain ⟨U,hU⟩:∃ U,U=hi*2^s+lo*2^s / W64:=⟨_,rfl⟩;obtain ⟨T,hT⟩:∃ T,T=lo*2^s % W64:=⟨_,rfl⟩
  have hTlt:T < W64:=by rw[hT];exact Nat.mod_lt _ (by decide)
  have hUV:U < V:=by omega
  have hv:V=V / B32*B32+V % B32:=by have:=Nat.div_add_mod V B32;rw[Nat.mul_comm] at this;omega
  have hv0:V % B32 < B32:=Nat.mod_lt _ (by decide)
  have hv1:B32<=2*(V / B32):=by unfold B32;omega
  have hv1':V / B32 < B32:=by unfold B32 W64 at *;omega
  have ht1:T / B32 < B32:=by unfold B32 W64 at *;omega
  have ht0:T % B32 < B32:=Nat.mod_lt _ (by decide);obtain ⟨q0,r0,f1,f2,f3,hst⟩:=half_start hv hv0 hv1 hv1' hUV ht1
  have hUT:U*W64+T=(hi*W64+lo)*2^s:=by
   have h1:=Nat.div_add_mod (lo*2^s) W64;rw[<-hT] at h1
   have h2:(hi*W64+lo)*2^s=hi*2^s*W64+lo*2^s:=by rw[Nat.add_mul,Nat.mul_right_comm]
   rw[h2,hU,Nat.add_mul,Nat.mul_comm (lo*2^s / W64)];omega
  have key:∀ a b z:Nat,Done U (T / B32) V a->Done (U*B32+T / B32 - a*V) (T % B32) V b->z=((U*B32+T / B32 - a*V)*B32+T % B32 - b*V) / 2^s->(a*B32+b)*y+z=hi*W64+lo/\z < y:=fun a b z d1 d2 hz=>by
   rw[hz];exact yig hV hUT (by have:=Nat.div_add_mod T B32;rw[Nat.mul_comm];omega) d1 d2
  have walk:=yht hi lo y s V (V / B32) (V % B32) U T (T / B32) (T % B32) q0 r0 w hlo hy hlt (by omega) hs hlz
   (by rw[hV];exact yni (by rw[<-hV];exact hup)) (by rw[Int.natCast_ediv];rfl) (y9k V hup) (by rw[hU];exact yjn hs hlo (by omega)) (by rw[hT];exact yox)
   (by rw[Int.natCast_ediv];rfl) (y9k T hTlt) f1 f2 f3 hup hv hv0 hv1 hv1' hUV ht1 ht0 hst
  have exq:∃ q r:Nat,q*y+r=hi*W64+lo/\r < y:=⟨(hi*W64+lo) / y,(hi*W64+lo) % y,by have:=Nat.div_add_mod (hi*W64+lo) y;rw[Nat.mul_comm] at this;exact this,Nat.mod_lt _ (by omega)⟩;obtain ⟨q,r,hqr,hr⟩:=exq
  have uniq:∀ q' r',q'*y+r'=hi*W64+lo->r' < y->q'=q/\r'=r:=fun q' r' h1 h2=>by
   have e1:(q'*y+r') / y=q':=by rw[Nat.mul_comm,Nat.mul_add_div (by omega),Nat.div_eq_of_lt h2];omega
   have e2:(q*y+r) / y=q:=by rw[Nat.mul_comm,Nat.mul_add_div (by omega),Nat.div_eq_of_lt hr];omega
   have:q'=q:=by rw[<-e1,<-e2,h1,hqr]
   subst this;exact ⟨rfl,by omega⟩
  refine ⟨q,r,?_,hr,hqr,walk.mono fun e w' ⟨h1,a,b,z,h2,h3,h4,h5⟩=>⟨?_,0,by rw[<-h1];rfl⟩⟩
  ·have:q*y < W64*y:=by
    have:(hi+1)*W64<=y*W64:=Nat.mul_le_mul_right _ hlt;rw[Nat.add_mul,Nat.mul_comm y] at this;omega
   exact Nat.lt_of_mul_lt_mul_right this
  ·obtain ⟨k1,k2⟩:=key a b z h3 h5 h4;obtain ⟨e1,rfl⟩:=uniq _ _ k1 k2;rw[h2,<-e1];congr 3
theorem y5q (hi lo y:Nat)(hlo:lo < W64)(hy:y < W64)(hlt:hi < y):∃ q r:Nat,q < W64/\r < y/\q*y+r=hi*W64+lo/\
  ∀ w,Calls Tryz.prog 255 #[.int .u64 hi,.int .u64 lo,.int .u64 y] w fun e w'=>e=.returned (.tuple #[.int .u64 q,.int .u64 r])/\∃ m,w'=w.drewN m:=by
 have hpos:0 < y:=by omega
 obtain ⟨q,hq⟩:∃ q,q=(hi*W64+lo) / y:=⟨_,rfl⟩;obtain ⟨r,hr⟩:∃ r,r=(hi*W64+lo) % y:=⟨_,rfl⟩
 have uniq:∀ q' r',q'*y+r'=hi*W64+lo->r' < y->q'=q/\r'=r:=fun q' r' h1 h2=>by
  rw[hq,hr,<-h1,Nat.mul_comm,Nat.mul_add_div hpos,Nat.div_eq_of_lt h2,Nat.mul_add_mod,Nat.mod_eq_of_lt h2];exact ⟨by omega,rfl⟩
 obtain ⟨q1,r1,a1,a2,a3,_⟩:=y9m hi lo y hlo hy hlt default;obtain ⟨rfl,rfl⟩:=uniq q1 r1 a3 a2;refine ⟨q1,r1,a1,a2,a3,fun w=>?_⟩;obtain ⟨q2,r2,_,c2,c3,c4⟩:=y9m hi lo y hlo hy hlt w;obtain ⟨rfl,rfl⟩:=uniq q2 r2 c3 c2;exact c4
end Go.Proofs.YtnjonlnemagomaaGreatDoor
