/- Part A03. -/
import Derived.Test.YtnjonlnemagomaaGreatDoorA02
namespace Go.Proofs.YtnjonlnemagomaaGreatDoor
open Go.RowKit Big
open Go.Lib (hid)
set_option maxRecDepth 100000
set_option maxHeartbeats 8000000
theorem info_u64:(Tryz.prog.info? 198).map (fun i=>(i.zero,i.size,i.bytes))=some (some (.int .u64 0),1,8):=by kernel_rfl
theorem vf_padded {B:Nat}{g:Nat→Nat}{n m:Nat}(h:n≤m):vf B (padded g n) m=vf B g n:=by
 rw[vf_pad h (fun i h1 _=>by simp[padded];omega)]
 exact vf_congr fun i hi=>by simp[padded,hi]
theorem row_int {w:World}{b:Nat}{t:TypeId}{n i:Nat}{o:Nat→Nat}(h:Row w b t .u64 n o){z:Int}{d:Nat}(e:z=d):Row (w.setCell ⟨b,i,none⟩ (.int .u64 z)) b t .u64 n (upd o i d):=by
 subst e;exact h.set i d
theorem add_digit {B k cc s:Nat}{o x y:Nat→Nat}(hval:vf B o k+cc*B^k=vf B x k+vf B y k)(hs:s=x k+y k+cc):
  vf B (upd o k (s % B)) (k+1)+s / B*B^(k+1)=vf B x (k+1)+vf B y (k+1):=by
 refine add_step (o:=upd o k (s % B)) (x:=x) (y:=y) (c:=cc) ?_ ?_
 ·rw[vf_upd_above (Nat.le_refl _)];exact hval
 ·rw[upd_same,←hs];exact Nat.mod_add_div s B
theorem addWords_any (sw:Bool)(a b:Option Addr)(m n ca cb:Nat)(f g:Nat→Nat)(w:World)(hm:m≤1000000)(hnm:n≤m)(hsw:sw=true→n < m)(ha:Rd w a .u64 m f)(hb:Rd w b .u64 n g)(hfl:∀ i,i < m→f i < W64)(hgl:∀ i,i < n→g i < W64):
  Calls Tryz.prog 183 (if sw then #[.slice b n cb,.slice a m ca] else #[.slice a m ca,.slice b n cb]) w fun e w'=>∃ v k h,New w w'∧e=.returned v∧Wds w' v k h∧vf W64 h k=vf W64 f m+vf W64 g n:=by
 have hmk:=fun W=>run_make_row' (P:=Tryz.prog) 111 198 (.int .u64 0) 8 Tryz.underlying111 info_u64 rfl .i64 .i64 (m+1) (by omega) (by omega) W;rw[show ((m+1:Nat):Int)=(m:Int)+1 by omega] at hmk
 cases sw
 case' true=>have hlt:=hsw rfl
 all_goals
  clear hsw;simp only[if_true,Bool.false_eq_true,if_false];go_enter Tryz.func183,Tryz.ntmps183;go_wp2;clear hmk;obtain ⟨B,hB⟩:∃ B,B=w.heap.size:=⟨_,rfl⟩;have hrow0:=Row.made w .u64 (m+1) 198;have hnew0:New w (w.alloc (.cells (madeCells #[.int .u64 0] (m+1)) 198)):=(New.refl w).alloc _;rw[←hB] at hrow0⊢;generalize w.alloc (.cells (madeCells #[.int .u64 0] (m+1)) 198)=w0 at hrow0 hnew0⊢;have HB:=hid hB;clear hB;go_loopw [6,22] (fun c i wr=>∃ (k cc:Nat) (o:Nat→Nat),k≤m∧i=.int .i64 k∧c=.int .u64 cc∧cc≤1∧Row wr B 198 .u64 (m+1) o∧(∀ j,o j < W64)∧vf W64 o k+cc*W64^k=vf W64 f k+vf W64 (padded g n) k∧New w wr) (fun _ i _=>m - (intOf i).toNat)
  case atStart=>exact ⟨0,0,fun _=>0,Nat.zero_le _,rfl,rfl,by omega,hrow0,fun _=>by simp[W64],rfl,hnew0⟩
  case round=>
   obtain ⟨k,cc,o,hk,rfl,rfl,hcc,hrow,hol,hval,hnew⟩:=hrel;have HV:=hid hval;clear hval hrow0 hnew0;by_cases hkm:k < m
   ·obtain ⟨b1,o1,rfl,h1⟩:=(ha.new hnew) k hkm;have hb':=hb.new hnew;have hf0:=hfl k hkm;clear ha hb;have hcell:=hrow.cell (i:=k) (by omega);have hfr:=hrow.frozen k;have HO:=hid hol;by_cases hkn:k < n
    ·obtain ⟨b2,o2,rfl,h2⟩:=hb' k hkn;have hg0:=hgl k hkn;clear hb' hgl hfl hol;have hadd:=add64 (f k) (g k) cc (by omega) (by omega) (by omega) (by omega);go_wp2;clear hadd h1 h2 hcell hfr;go_roundw
     case rel=>
      have hs:f k+padded g n k+cc=f k+g k+cc:=by rw[padded_in hkn]
      exact ⟨k+1,(f k+g k+cc) / W64,upd o k ((f k+g k+cc) % W64),by omega,by go_num,by go_num,by unfold W64 at *;omega,row_int hrow (by unfold W64;omega),upd_lt HO.out (Nat.mod_lt _ (by decide)),by rw[←hs];exact add_digit HV.out rfl,hnew.setCell (Nat.le_of_eq HB.out.symm) _⟩
     case measure=>simp[intOf];omega
    ·clear hb' hgl hfl hol;have hadd:=add64 (f k) 0 cc (by omega) (by omega) (by omega) (by omega);simp only[Int.add_zero] at hadd;go_wp2;clear hadd h1 hcell hfr;go_roundw
     case rel=>
      have hs:f k+padded g n k+cc=f k+cc:=by rw[padded_out hkn];rfl
      exact ⟨k+1,(f k+cc) / W64,upd o k ((f k+cc) % W64),by omega,by go_num,by go_num,by unfold W64 at *;omega,row_int hrow (by unfold W64;omega),upd_lt HO.out (Nat.mod_lt _ (by decide)),by rw[←hs];exact add_digit HV.out rfl,hnew.setCell (Nat.le_of_eq HB.out.symm) _⟩
     case measure=>simp[intOf];omega
   ·obtain rfl:k=m:=by omega
    have hcell:=hrow.cell (i:=k) (by omega);have hfr:=hrow.frozen k;clear ha hb;go_wp2_with fail;have hrow':=hrow.set k cc;have hlt:=upd_lt (k:=k) hol (show cc < W64 by unfold W64;omega);refine (trim_calls _ _ _ _ _ (Nat.le_refl _) (by omega) (by simp) hrow'.rd (fun i _=>hlt i)).mono ?_;rintro e w' ⟨rfl,v,n',rfl,hw,hv⟩;clear hcell hfr;have hnew':=hnew.setCell (p:=⟨B,k,none⟩) (Nat.le_of_eq HB.out.symm) (.int .u64 cc);generalize wr.setCell ⟨B,k,none⟩ (.int .u64 cc)=w2 at *;have HV2:=hid hv;clear hv;go_wp2_with fail;go_ret;refine ⟨v,n',_,hnew',rfl,hw,?_⟩;have:=HV.out;rw[HV2.out,vf_succ,upd_same,vf_upd_above (Nat.le_refl _),this,vf_padded hnm]
theorem addWords_calls (va vb:Value)(m n:Nat)(f g:Nat→Nat)(w:World)(hm:m≤1000000)(hn:n≤1000000)(ha:Wds w va m f)(hb:Wds w vb n g):
  Calls Tryz.prog 183 #[va,vb] w fun e w'=>∃ v k h,New w w'∧e=.returned v∧Wds w' v k h∧vf W64 h k=vf W64 f m+vf W64 g n:=by
 obtain ⟨a,ca,⟨rfl,a1,a2,a3⟩,ra,cf⟩:=ha;obtain ⟨b,cb,⟨rfl,b1,b2,b3⟩,rb,cg⟩:=hb;by_cases hnm:n≤m
 ·exact addWords_any false a b m n ca cb f g w hm hnm (by simp) ra rb cf.lt cg.lt
 ·refine (addWords_any true b a n m cb ca g f w hn (by omega) (fun _=>by omega) rb ra cg.lt cf.lt).mono fun e w' ⟨v,k,h,h1,h2,h3,h4⟩=>⟨v,k,h,h1,h2,h3,by omega⟩
theorem sub_digit {B k bb d bb':Nat}{o x y:Nat→Nat}(hval:vf B o k+vf B y k=vf B x k+bb*B^k)(hs:d+y k+bb=x k+B*bb'):
  vf B (upd o k d) (k+1)+vf B y (k+1)=vf B x (k+1)+bb'*B^(k+1):=by
 refine sub_step (o:=upd o k d) (x:=x) (y:=y) (c:=bb) ?_ ?_
 ·rw[vf_upd_above (Nat.le_refl _)];exact hval
 ·rw[upd_same];exact hs
theorem sub64_nat {x y b:Nat}(hx:x < W64)(hy:y < W64)(hb:b≤1):∃ d b':Nat,d < W64∧b'≤1∧((x:Int) - y - b) % 18446744073709551616=d∧bor x y b=b'∧d+y+b=x+W64*b':=by
 unfold W64 at *;by_cases h:x < y+b
 ·refine ⟨x+18446744073709551616 - y - b,1,by omega,by omega,by omega,?_,by omega⟩;unfold bor;rw[if_pos (by omega)];rfl
 ·refine ⟨x - y - b,0,by omega,by omega,by omega,?_,by omega⟩;unfold bor;rw[if_neg (by omega)];rfl
theorem subWords_any (a b:Option Addr)(m n ca cb:Nat)(f g:Nat→Nat)(w:World)(hm:m≤1000000)(hnm:n≤m)(ha:Rd w a .u64 m f)(hb:Rd w b .u64 n g)(hfl:∀ i,i < m→f i < W64)(hgl:∀ i,i < n→g i < W64)(hle:vf W64 g n≤vf W64 f m):
  Calls Tryz.prog 185 #[.slice a m ca,.slice b n cb] w fun e w'=>∃ v k h,New w w'∧e=.returned v∧Wds w' v k h∧vf W64 h k=vf W64 f m - vf W64 g n:=by
 have hmk:=fun W=>run_make_row' (P:=Tryz.prog) 111 198 (.int .u64 0) 8 Tryz.underlying111 info_u64 rfl .i64 .i64 m (by omega) (by omega) W;have HLE:=hid hle;clear hle;go_enter Tryz.func185,Tryz.ntmps185;go_wp2;clear hmk;obtain ⟨B,hB⟩:∃ B,B=w.heap.size:=⟨_,rfl⟩;have hrow0:=Row.made w .u64 m 198;have hnew0:New w (w.alloc (.cells (madeCells #[.int .u64 0] m) 198)):=(New.refl w).alloc _;rw[←hB] at hrow0⊢;generalize w.alloc (.cells (madeCells #[.int .u64 0] m) 198)=w0 at hrow0 hnew0⊢;have HB:=hid hB;clear hB;go_loopw [6,14] (fun c i wr=>∃ (k cc:Nat) (o:Nat→Nat),k≤m∧i=.int .i64 k∧c=.int .u64 cc∧cc≤1∧Row wr B 198 .u64 m o∧(∀ j,o j < W64)∧vf W64 o k+vf W64 (padded g n) k=vf W64 f k+cc*W64^k∧New w wr) (fun _ i _=>m - (intOf i).toNat)
 case atStart=>exact ⟨0,0,fun _=>0,Nat.zero_le _,rfl,rfl,by omega,hrow0,fun _=>by simp[W64],rfl,hnew0⟩
 case round=>
  obtain ⟨k,cc,o,hk,rfl,rfl,hcc,hrow,hol,hval,hnew⟩:=hrel;have HV:=hid hval;clear hval hrow0 hnew0;by_cases hkm:k < m
  ·obtain ⟨b1,o1,rfl,h1⟩:=(ha.new hnew) k hkm;have hb':=hb.new hnew;have hf0:=hfl k hkm;clear ha hb;have hcell:=hrow.cell (i:=k) (by omega);have hfr:=hrow.frozen k;have HO:=hid hol;by_cases hkn:k < n
   ·obtain ⟨b2,o2,rfl,h2⟩:=hb' k hkn;have hg0:=hgl k hkn;clear hb' hgl hfl hol;obtain ⟨d,b',hd,hb',e1,e2,e3⟩:=sub64_nat hf0 hg0 hcc;have hsub:=sub64 (f k) (g k) cc (by omega) (by omega) (by unfold W64 at hg0;omega) (by omega) (by omega);simp only[e1,e2] at hsub;clear e1 e2;have E3:=hid e3;clear e3;go_wp2;clear hsub h1 h2 hcell hfr;go_roundw
    case rel=>
     exact ⟨k+1,b',upd o k d,by omega,by go_num,rfl,hb',hrow.set k d,upd_lt HO.out hd,sub_digit HV.out (by rw[padded_in hkn];exact E3.out),hnew.setCell (Nat.le_of_eq HB.out.symm) _⟩
    case measure=>simp[intOf];omega
   ·clear hb' hgl hfl hol;obtain ⟨d,b',hd,hb',e1,e2,e3⟩:=sub64_nat (y:=0) hf0 (by decide) hcc;have hsub:=sub64 (f k) 0 cc (by omega) (by omega) (by omega) (by omega) (by omega);simp only[Int.natCast_zero,Int.sub_zero] at e1 e2 hsub;simp only[e1,e2] at hsub;clear e1 e2;have E3:=hid e3;clear e3;go_wp2;clear hsub h1 hcell hfr;go_roundw
    case rel=>
     exact ⟨k+1,b',upd o k d,by omega,by go_num,rfl,hb',hrow.set k d,upd_lt HO.out hd,sub_digit HV.out (by rw[padded_out hkn];exact E3.out),hnew.setCell (Nat.le_of_eq HB.out.symm) _⟩
    case measure=>simp[intOf];omega
  ·obtain rfl:k=m:=by omega
   clear ha hb;go_wp2_with fail;refine (trim_calls _ _ _ _ _ (Nat.le_refl _) (by omega) (by simp) hrow.rd (fun i _=>hol i)).mono ?_;rintro e w' ⟨rfl,v,n',rfl,hw,hv⟩;have HV2:=hid hv;clear hv;go_wp2_with fail;go_ret;refine ⟨v,n',_,hnew,rfl,hw,?_⟩;have h1:=HV.out;have h2:=HLE.out;have h3:vf W64 o k < W64^k:=vf_lt fun i _=>hol i;rw[vf_padded hnm] at h1;rw[HV2.out]
   have h4:cc=0:=by
    rcases Nat.eq_zero_or_pos cc with h | h
    ·exact h
    ·obtain rfl:cc=1:=by omega
     rw[Nat.one_mul]at h1;omega
   subst h4;omega
theorem subWords_calls (va vb:Value)(m n:Nat)(f g:Nat→Nat)(w:World)(hm:m≤1000000)(ha:Wds w va m f)(hb:Wds w vb n g)(hle:vf W64 g n≤vf W64 f m):
  Calls Tryz.prog 185 #[va,vb] w fun e w'=>∃ v k h,New w w'∧e=.returned v∧Wds w' v k h∧vf W64 h k=vf W64 f m - vf W64 g n:=by
 obtain ⟨a,ca,⟨rfl,a1,a2,a3⟩,ra,cf⟩:=ha;obtain ⟨b,cb,⟨rfl,b1,b2,b3⟩,rb,cg⟩:=hb
 have hnm:n≤m:=by
  rcases Nat.lt_or_ge m n with h | h
  ·have:=cf.lt_of_len cg (by decide) h;omega
  ·exact h
 exact subWords_any a b m n ca cb f g w hm hnm ra rb cf.lt cg.lt hle
theorem add64_ex (x y c:Nat)(hx:x < W64)(hy:y < W64)(hc:c≤1):∃ d c':Nat,d < W64∧c'≤1∧d+W64*c'=x+y+c∧
  ∀ w,(callFunc 225 #[.int .u64 x,.int .u64 y,.int .u64 c]).run Tryz.prog w=.ok (.value (.tuple #[.int .u64 d,.int .u64 c'])) w:=by
 unfold W64 at *;refine ⟨(x+y+c) % 18446744073709551616,(x+y+c) / 18446744073709551616,by omega,by omega,by omega,fun w=>?_⟩;have:=add64 x y c (by omega) (by omega) (by omega) (by omega) w;rw[this];congr 5 <;> omega
theorem add64_ex0 (x y:Nat)(hx:x < W64)(hy:y < W64):∃ d c':Nat,d < W64∧c'≤1∧d+W64*c'=x+y∧
  ∀ w,(callFunc 225 #[.int .u64 x,.int .u64 y,.int .u64 0]).run Tryz.prog w=.ok (.value (.tuple #[.int .u64 d,.int .u64 c'])) w:=
 add64_ex x y 0 hx hy (by omega)
theorem mul64_ex (x y:Nat)(hx:x < W64)(hy:y < W64):∃ hi lo:Nat,lo < W64∧hi+2≤W64∧lo+W64*hi=x*y∧
  ∀ w,Calls Tryz.prog 215 #[.int .u64 x,.int .u64 y] w fun e w'=>e=.returned (.tuple #[.int .u64 hi,.int .u64 lo])∧w=w':=by
 refine ⟨x*y / W64,x*y % W64,Nat.mod_lt _ (by decide),?_,Nat.mod_add_div _ _,fun w=>(Tryz.bits_Mul64 x y hx hy w).mono fun e w' ⟨h1,h2⟩=>⟨h1,h2.symm⟩⟩;have h1:x*y≤18446744073709551615*18446744073709551615:=Nat.mul_le_mul (by unfold W64 at hx;omega) (by unfold W64 at hy;omega);unfold W64;omega
theorem mulWords_any (a b:Option Addr)(m n ca cb:Nat)(f g:Nat→Nat)(w:World)(hm:m≤1000000)(hn:n≤1000000)(ha:Rd w a .u64 m f)(hb:Rd w b .u64 n g)(hfl:∀ i,i < m→f i < W64)(hgl:∀ i,i < n→g i < W64):
  Calls Tryz.prog 217 #[.slice a m ca,.slice b n cb] w fun e w'=>∃ v k h,New w w'∧e=.returned v∧Wds w' v k h∧vf W64 h k=vf W64 f m*vf W64 g n:=by
 have hmk:=fun W=>run_make_row' (P:=Tryz.prog) 111 198 (.int .u64 0) 8 Tryz.underlying111 info_u64 rfl .i64 .i64 (m+n) (by omega) (by omega) W;rw[show ((m+n:Nat):Int)=(m:Int)+n by omega] at hmk;go_enter Tryz.func217,Tryz.ntmps217;go_wp2;clear hmk;obtain ⟨B,hB⟩:∃ B,B=w.heap.size:=⟨_,rfl⟩;have hrow0:=Row.made w .u64 (m+n) 198;have hnew0:New w (w.alloc (.cells (madeCells #[.int .u64 0] (m+n)) 198)):=(New.refl w).alloc _;rw[←hB] at hrow0⊢;generalize w.alloc (.cells (madeCells #[.int .u64 0] (m+n)) 198)=w0 at hrow0 hnew0⊢;have HB:=hid hB;clear hB;go_loopw [22] (fun i wr=>∃ (k:Nat) (o:Nat→Nat),k≤m∧i=.int .i64 k∧Row wr B 198 .u64 (m+n) o∧(∀ j,o j < W64)∧(∀ j,k+n≤j→o j=0)∧vf W64 o (m+n)=vf W64 f k*vf W64 g n∧New w wr) (fun i _=>m - (intOf i).toNat)
 case atStart=>exact ⟨0,fun _=>0,Nat.zero_le _,rfl,hrow0,fun _=>by simp[W64],fun _ _=>rfl,by rw[vf_zeros (fun _ _=>rfl),vf_zero,Nat.zero_mul],hnew0⟩
 case round=>
  obtain ⟨k,o,hk,rfl,hrow,hol,hz,hval,hnew⟩:=hrel;have HV:=hid hval;have HZ:=hid hz;have HO:=hid hol;clear hval hrow0 hnew0 hz hol;by_cases hkm:k < m
  ·obtain ⟨b1,o1,rfl,h1⟩:=(ha.new hnew) k hkm;have hf0:=hfl k hkm;go_wp2;obtain ⟨wo,rfl⟩:∃ wo:World,wo=wr:=⟨_,rfl⟩;go_loopw [8,29] (fun c i wr=>∃ (j cc:Nat) (p:Nat→Nat),j≤n∧i=.int .i64 j∧c=.int .u64 cc∧cc < W64∧Row wr B 198 .u64 (m+n) p∧(∀ j,p j < W64)∧(∀ j,k+n≤j→p j=0)∧vf W64 p (m+n)+cc*W64^(k+j)=vf W64 f k*vf W64 g n+f k*vf W64 g j*W64^k∧New w wr) (fun _ i _=>n - (intOf i).toNat)
   case atStart=>exact ⟨0,0,o,Nat.zero_le _,rfl,rfl,by decide,hrow,HO.out,HZ.out,by rw[HV.out];simp[vf_zero],hnew⟩
   case round=>
    clear hrow hnew HO HZ HV;obtain ⟨j,cc,p,hj,rfl,rfl,hcc,hrow,hpl,hpz,hval,hnew⟩:=hrel;have HV:=hid hval;have HP:=hid hpl;have HZ:=hid hpz;clear hval hpz;have h1':=hnew;by_cases hjn:j < n
    ·obtain ⟨b2,o2,rfl,h2⟩:=(hb.new hnew) j hjn;have hg0:=hgl j hjn;have hp0:=hpl (k+j);clear ha hb hgl hfl hpl;have hcell:=hrow.cell (i:=k+j) (by omega);have hfr:=hrow.frozen (k+j);obtain ⟨hi,lo,hlo,hhi,hmulv,hmul⟩:=mul64_ex (f k) (g j) hf0 hg0;obtain ⟨d1,c1,hd1,hc1,hs1,hadd1⟩:=add64_ex0 lo (p (k+j)) hlo hp0;obtain ⟨d2,c2,hd2,hc2,hs2,hadd2⟩:=add64_ex0 d1 cc hd1 hcc
     have hcar:hi+c1+c2 < W64:=by
      have h3:f k*g j≤18446744073709551615*18446744073709551615:=Nat.mul_le_mul (by unfold W64 at hf0;omega) (by unfold W64 at hg0;omega);unfold W64 at *;omega
     have HS1:=hid hs1;have HS2:=hid hs2;have HM:=hid hmulv;have HMC:=hid hmul;clear hs1 hs2 hmulv hmul
     have b1:(hi:Int)+c1 < 18446744073709551616:=by unfold W64 at hcar;omega
     have b2:(hi:Int)+c1+c2 < 18446744073709551616:=by unfold W64 at hcar;omega
     go_wp2_with (go_at_call 215;refine (HMC.out _).mono ?_;rintro e w' ⟨rfl,rfl⟩);clear hadd1 hadd2 h1 h2 hcell hfr b1 b2;go_roundw
     case rel=>
      refine ⟨j+1,hi+c1+c2,upd p (k+j) d2,by omega,by go_num,by go_num,hcar,hrow.set _ _,upd_lt HP.out hd2,fun i hi'=>?_,?_,hnew.setCell (Nat.le_of_eq HB.out.symm) _⟩
      ·rw[upd_other _ _ (by omega)];exact HZ.out i hi'
      ·refine mul_step (by omega) HV.out ?_;have e1:=HS1.out;have e2:=HS2.out;have e3:=HM.out;unfold W64 at *;omega
     case measure=>simp[intOf];omega
    ·obtain rfl:j=n:=by omega
     have hcell:=hrow.cell (i:=k+j) (by omega);have hfr:=hrow.frozen (k+j);clear hpl ha hb hfl hgl;go_wp2;clear hcell hfr h1 h1';go_roundw
     case rel=>
      refine ⟨k+1,upd p (k+j) cc,by omega,by go_num,hrow.set _ _,upd_lt HP.out hcc,fun i hi'=>?_,?_,hnew.setCell (Nat.le_of_eq HB.out.symm) _⟩
      ·rw[upd_other _ _ (by omega)];exact HZ.out i (by omega)
      ·have e1:=HV.out;have e2:=vf_upd (B:=W64) (f:=p) (v:=cc) (show k+j < m+j by omega);rw[HZ.out (k+j) (by omega),Nat.zero_mul] at e2
       have e3:f k*vf W64 g j*W64^k=f k*W64^k*vf W64 g j:=by rw[Nat.mul_assoc,Nat.mul_comm (vf W64 g j),←Nat.mul_assoc]
       rw[vf_succ,Nat.add_mul,←e3];omega
     case measure=>simp[intOf];omega
  ·obtain rfl:k=m:=by omega
   go_wp2_with fail;refine (trim_calls _ _ _ _ _ (Nat.le_refl _) (by omega) (by simp) hrow.rd (fun i _=>HO.out i)).mono ?_;rintro e w' ⟨rfl,v,n',rfl,hw,hv⟩;have HV2:=hid hv;clear hv;go_wp2_with fail;go_ret;exact ⟨v,n',_,hnew,rfl,hw,by rw[HV2.out,HV.out]⟩
theorem mulWords_calls (va vb:Value)(m n:Nat)(f g:Nat→Nat)(w:World)(hm:m≤1000000)(hn:n≤1000000)(ha:Wds w va m f)(hb:Wds w vb n g):
  Calls Tryz.prog 217 #[va,vb] w fun e w'=>∃ v k h,New w w'∧e=.returned v∧Wds w' v k h∧vf W64 h k=vf W64 f m*vf W64 g n:=by
 obtain ⟨a,ca,⟨rfl,a1,a2,a3⟩,ra,cf⟩:=ha;obtain ⟨b,cb,⟨rfl,b1,b2,b3⟩,rb,cg⟩:=hb;exact mulWords_any a b m n ca cb f g w hm hn ra rb cf.lt cg.lt
theorem wrap_u64_nat (n:Nat):IntKind.u64.wrap (n:Int)=((n % W64:Nat):Int):=by
 have:=IntKind.wrap_u64 (n:Int);unfold W64;rw[this];omega
theorem pow_le_w64 {s:Nat}(hs:s < 64):2^s≤W64:=Nat.pow_le_pow_right (by omega) (by omega:s≤64)
theorem w64_split {s:Nat}(hs:s < 64):W64=2^(64 - s)*2^s:=by
 rw[←Nat.pow_add,Nat.sub_add_cancel (by omega)]
theorem shl_or {s x c:Nat}(hs:s < 64)(hc:c < 2^s):bits .or .u64 (c:Int) (IntKind.u64.wrap ((x:Int)*2^s))=((x*2^s % W64+c:Nat):Int):=by
 have e1:((x:Int)*2^s)=((x*2^s:Nat):Int):=by rw[Int.natCast_mul,Int.natCast_pow];rfl
 have hcw:c < 18446744073709551616:=Nat.lt_of_lt_of_le hc (pow_le_w64 hs);have hxw:x*2^s % W64 < 18446744073709551616:=Nat.mod_lt _ (by decide);rw[e1,wrap_u64_nat,u64_or_nat c _ hcw hxw];congr 1
 have e2:x*2^s % W64=2^s*(x % 2^(64 - s)):=by rw[w64_split hs,Nat.mul_mod_mul_right,Nat.mul_comm]
 rw[e2,Nat.or_comm,←Nat.two_pow_add_eq_or_of_lt hc]
theorem shr_left {s x:Nat}(hs:s < 64):x / 2^(64 - s)=x*2^s / W64:=by
 rw[w64_split hs,Nat.mul_div_mul_right _ _ (Nat.pow_pos (by omega))]
theorem shr_cast {s x:Nat}:(x:Int) / 2^(64 - s)=((x / 2^(64 - s):Nat):Int):=by
 rw[Int.natCast_ediv,Int.natCast_pow];rfl
theorem shr_lt {s x:Nat}(hs:s < 64)(hx:x < W64):x / 2^(64 - s) < 2^s:=by
 rw[Nat.div_lt_iff_lt_mul (Nat.pow_pos (by omega)),Nat.mul_comm,←w64_split hs];exact hx
theorem shl_digit {k M c x lo c':Nat}{o f:Nat→Nat}(h:vf W64 o (k+1)=vf W64 f k*M)(hc:o k=c)(hx:f k=x)(hs:lo+W64*c'=x*M+c):
  vf W64 (upd (upd o k lo) (k+1) c') (k+1+1)=vf W64 f (k+1)*M:=by
 rw[vf_succ,upd_same,vf_upd_above (Nat.le_refl _)];refine shl_step (o:=upd o k lo) (w:=f) (c:=c) ?_ ?_
 ·rw[vf_upd_above (Nat.le_refl _),←h,vf_succ,hc]
 ·rw[upd_same,hx];exact hs
theorem shiftUp_any (a:Option Addr)(m ca s:Nat)(f:Nat→Nat)(w:World)(hm:m≤1000000)(hs:s < 64)(ha:Rd w a .u64 m f)(hfl:∀ i,i < m→f i < W64):
  Calls Tryz.prog 257 #[.slice a m ca,.int .i64 s] w fun e w'=>∃ h,e=.returned (.slice (some ⟨w.heap.size,0,none⟩) (m+1) (m+1))∧New w w'∧Row w' w.heap.size 198 .u64 (m+1) h∧(∀ j,h j < W64)∧vf W64 h (m+1)=vf W64 f m*2^s:=by
 have hmk:=fun W=>run_make_row' (P:=Tryz.prog) 111 198 (.int .u64 0) 8 Tryz.underlying111 info_u64 rfl .i64 .i64 (m+1) (by omega) (by omega) W;rw[show ((m+1:Nat):Int)=(m:Int)+1 by omega] at hmk
 have hsplit:s=0∨0 < s:=by omega
 rcases hsplit with rfl | hs0
 all_goals
  go_enter Tryz.func257,Tryz.ntmps257;go_wp2;clear hmk;obtain ⟨B,hB⟩:∃ B,B=w.heap.size:=⟨_,rfl⟩;have hrow0:=Row.made w .u64 (m+1) 198;have hnew0:New w (w.alloc (.cells (madeCells #[.int .u64 0] (m+1)) 198)):=(New.refl w).alloc _;rw[←hB] at hrow0⊢;generalize w.alloc (.cells (madeCells #[.int .u64 0] (m+1)) 198)=w0 at hrow0 hnew0⊢;have HB:=hid hB;clear hB
 ·go_loopw [14] (fun i wr=>∃ (k:Nat) (o:Nat→Nat),k≤m∧i=.int .i64 k∧Row wr B 198 .u64 (m+1) o∧(∀ j,o j < W64)∧(∀ j,k≤j→o j=0)∧vf W64 o k=vf W64 f k∧New w wr) (fun i _=>m - (intOf i).toNat)
  case atStart=>exact ⟨0,fun _=>0,Nat.zero_le _,rfl,hrow0,fun _=>by simp[W64],fun _ _=>rfl,rfl,hnew0⟩
  case round=>
   obtain ⟨k,o,hk,rfl,hrow,hol,hz,hval,hnew⟩:=hrel;have HV:=hid hval;have HZ:=hid hz;have HO:=hid hol;clear hval hrow0 hnew0 hz;by_cases hkm:k < m
   ·obtain ⟨b1,o1,rfl,h1⟩:=(ha.new hnew) k hkm;have hf0:=hfl k hkm;have hcell:=hrow.cell (i:=k) (by omega);have hfr:=hrow.frozen k;clear ha hfl hol;go_wp2
    go_region
    go_wp2;clear hcell hfr h1;go_roundw
    case rel=>
     have e:=shl_or (s:=0) (x:=f k) (c:=o k) (by omega) (by rw[HZ.out k (Nat.le_refl _)];decide);simp only[Int.pow_zero,Int.mul_one,Nat.pow_zero,Nat.mul_one] at e;rw[HZ.out k (Nat.le_refl _),Nat.mod_eq_of_lt hf0,Nat.add_zero] at e;refine ⟨k+1,upd o k (f k),by omega,by go_num,?_,upd_lt HO.out hf0,fun j hj=>?_,?_,(hnew.setCell (Nat.le_of_eq HB.out.symm) _).drew⟩
     ·refine Row.drew (row_int hrow ?_);rw[HZ.out k (Nat.le_refl _)]
      first | exact e | (simp only[Int.pow_zero,Int.mul_one];exact e)
     ·rw[upd_other _ _ (by omega)];exact HZ.out j (by omega)
     ·rw[vf_succ,upd_same,vf_upd_above (Nat.le_refl _),HV.out,vf_succ]
    case measure=>simp[intOf];omega
   ·obtain rfl:k=m:=by omega
    clear hol ha hfl;go_wp2;go_ret;refine ⟨o,by rw[HB.out];rfl,hnew,by rw[←HB.out];exact hrow,HO.out,?_⟩;rw[vf_succ,HZ.out k (Nat.le_refl _),HV.out];simp
 ·go_loopw [14] (fun i wr=>∃ (k:Nat) (o:Nat→Nat),k≤m∧i=.int .i64 k∧Row wr B 198 .u64 (m+1) o∧(∀ j,o j < W64)∧o k < 2^s∧vf W64 o (k+1)=vf W64 f k*2^s∧New w wr) (fun i _=>m - (intOf i).toNat)
  case atStart=>exact ⟨0,fun _=>0,Nat.zero_le _,rfl,hrow0,fun _=>by simp[W64],Nat.pow_pos (by omega),by simp[vf],hnew0⟩
  case round=>
   obtain ⟨k,o,hk,rfl,hrow,hol,hz,hval,hnew⟩:=hrel;have HV:=hid hval;have HZ:=hid hz;have HO:=hid hol;clear hval hrow0 hnew0 hz;by_cases hkm:k < m
   ·obtain ⟨b1,o1,rfl,h1⟩:=(ha.new hnew) k hkm;have hf0:=hfl k hkm;have hcell:=hrow.cell (i:=k) (by omega);have hfr:=hrow.frozen k;have hcell2:=hrow.cell (i:=k+1) (by omega);have hfr2:=hrow.frozen (k+1);clear ha hfl hol;go_wp2
    go_region
    go_wp2;clear hcell hfr hcell2 hfr2 h1;go_roundw
    case rel=>
     have e:=shl_or (s:=s) (x:=f k) (c:=o k) hs HZ.out
     have hlo:f k*2^s % W64+o k < W64:=by
      have h1:f k*2^s % W64=2^s*(f k % 2^(64 - s)):=by rw[w64_split hs,Nat.mul_mod_mul_right,Nat.mul_comm]
      have h2:f k % 2^(64 - s)+1≤2^(64 - s):=Nat.mod_lt _ (Nat.pow_pos (by omega));have h3:2^s*(f k % 2^(64 - s)+1)≤2^s*2^(64 - s):=Nat.mul_le_mul_left _ h2;rw[Nat.mul_add,Nat.mul_one,Nat.mul_comm _ (2^(64 - s)),←w64_split hs] at h3;have:=HZ.out;omega
     have hhi:=shr_lt hs hf0;refine ⟨k+1,upd (upd o k (f k*2^s % W64+o k)) (k+1) (f k / 2^(64 - s)),by omega,by go_num,?_,upd_lt (upd_lt HO.out hlo) ?_,?_,?_,((hnew.setCell (Nat.le_of_eq HB.out.symm) _).setCell (Nat.le_of_eq HB.out.symm) _).drew⟩
     ·exact Row.drew (row_int (row_int hrow e) shr_cast)
     ·exact Nat.lt_of_lt_of_le hhi (pow_le_w64 hs)
     ·rw[upd_same];exact hhi
     ·refine shl_digit HV.out rfl rfl ?_;rw[shr_left hs];have:=Nat.mod_add_div (f k*2^s) W64;omega
    case measure=>simp[intOf];omega
   ·obtain rfl:k=m:=by omega
    clear hol ha hfl;go_wp2;go_ret;exact ⟨o,by rw[HB.out];rfl,hnew,by rw[←HB.out];exact hrow,HO.out,HV.out⟩
abbrev B32:Nat:=4294967296
structure Half (u d v yn1 yn0 q r:Nat):Prop where
 rest:q*yn1+r=u
 ge:u*B32+d < (q+1)*v
 le:q≤B32+1
 small:r < B32
structure Done (u d v q:Nat):Prop where
 le:q*v≤u*B32+d
 ge:u*B32+d < (q+1)*v
section
variable {u d v yn1 yn0 q r:Nat} (hv:v=yn1*B32+yn0) (h0:yn0 < B32) (h1:B32≤2*yn1) (h1':yn1 < B32) (hu:u < v) (hd:d < B32)
include hv h0 h1 h1' hu hd in
theorem Half.start:Half u d v yn1 yn0 (u / yn1) (u - u / yn1*yn1):=by
 have hpos:0 < yn1:=by omega
 have e1:=Nat.div_mul_le_self u yn1;have e2:u < u / yn1*yn1+yn1:=Nat.lt_div_mul_add hpos;refine ⟨by omega,?_,?_,by omega⟩
 ·rw[Nat.add_mul,Nat.one_mul]
  have h2:u / yn1*v=u / yn1*yn1*B32+u / yn1*yn0:=by rw[hv,Nat.mul_add,Nat.mul_assoc]
  rw[h2];unfold B32 at *;omega
 ·have:u / yn1 < B32+2:=by
   rw[Nat.div_lt_iff_lt_mul hpos];rw[Nat.add_mul,Nat.mul_comm B32];omega
  omega
include hv hu hd in
theorem Half.down (h:Half u d v yn1 yn0 q r)(ht:B32≤q∨B32*r+d < q*yn0):0 < q∧u*B32+d < (q - 1+1)*v:=by
 have hbad:u*B32+d < q*v:=by
  rcases ht with ht | ht
  ·have:B32*v≤q*v:=Nat.mul_le_mul_right _ ht;have h2:(u+1)*B32≤v*B32:=Nat.mul_le_mul_right _ hu;rw[Nat.add_mul,Nat.mul_comm v] at h2;omega
  ·have e:q*v=q*yn1*B32+q*yn0:=by rw[hv,Nat.mul_add,Nat.mul_assoc]
   have h3:u*B32=q*yn1*B32+r*B32:=by rw[←h.rest,Nat.add_mul]
   rw[e,h3,Nat.mul_comm r B32];omega
 have hq:0 < q:=by
  rcases Nat.eq_zero_or_pos q with e | e
  ·subst e;omega
  ·exact e
 exact ⟨hq,by rw[Nat.sub_add_cancel hq];exact hbad⟩
include hv in
theorem Half.fits (h:Half u d v yn1 yn0 q r)(ht:q*yn0≤B32*r+d):Done u d v q:=by
 refine ⟨?_,h.ge⟩
 have e:q*v=q*yn1*B32+q*yn0:=by rw[hv,Nat.mul_add,Nat.mul_assoc]
 have h3:u*B32=q*yn1*B32+r*B32:=by rw[←h.rest,Nat.add_mul]
 rw[e,h3,Nat.mul_comm r B32];omega
include hv h0 hu hd in
theorem Half.next (h:Half u d v yn1 yn0 q r)(ht:B32≤q∨B32*r+d < q*yn0):0 < q∧(r+yn1 < B32→Half u d v yn1 yn0 (q - 1) (r+yn1))∧(B32≤r+yn1→Done u d v (q - 1)):=by
 obtain ⟨hq,hge⟩:=h.down hv hu hd ht;obtain ⟨k,rfl⟩:∃ k,q=k+1:=⟨q - 1,by omega⟩
 have hr:k*yn1+(r+yn1)=u:=by have:=h.rest;rw[Nat.add_mul,Nat.one_mul] at this;omega
 simp only[Nat.add_sub_cancel]at hge⊢;refine ⟨hq,fun h2=>⟨hr,hge,by have:=h.le;omega,h2⟩,fun h2=>⟨?_,hge⟩⟩
 have e:k*v=k*yn1*B32+k*yn0:=by rw[hv,Nat.mul_add,Nat.mul_assoc]
 have h3:u*B32=k*yn1*B32+(r+yn1)*B32:=by rw[←hr,Nat.add_mul]
 have h4:k*yn0≤B32*(B32 - 1):=Nat.mul_le_mul (by have:=h.le;omega) (by omega);have h5:B32*B32≤(r+yn1)*B32:=Nat.mul_le_mul_right _ h2;rw[e,h3];unfold B32 at *;omega
end
theorem Done.lt {u d v q:Nat}(h:Done u d v q)(hu:u < v)(hd:d < B32):q < B32:=by
 have h1:=h.le;have h2:(u+1)*B32≤v*B32:=Nat.mul_le_mul_right _ hu;rcases Nat.lt_or_ge q B32 with h3 | h3
 ·exact h3
 ·have h4:B32*v≤q*v:=Nat.mul_le_mul_right _ h3;rw[Nat.add_mul,Nat.mul_comm v] at h2;omega
theorem Done.rest {u d v q:Nat}(h:Done u d v q):u*B32+d - q*v < v:=by
 have h1:=h.le;have h2:=h.ge;rw[Nat.add_mul,Nat.one_mul] at h2;omega
theorem bits_mask32 (n:Nat)(hn:n < W64):bits .and .u64 (n:Int) 4294967295=((n % B32:Nat):Int):=by
 have:=u64_and_nat n 4294967295 hn (by decide);have e:(n &&& 4294967295)=n % B32:=Nat.and_two_pow_sub_one_eq_mod n 32;rw[e] at this;exact this
theorem shl_in {x s:Nat}(h:x*2^s < W64):IntKind.u64.wrap ((x:Int)*2^s)=((x*2^s:Nat):Int):=by
 have e1:((x:Int)*2^s)=((x*2^s:Nat):Int):=by rw[Int.natCast_mul,Int.natCast_pow];rfl
 rw[e1,wrap_u64_nat,Nat.mod_eq_of_lt h]
theorem shl_mod {x s:Nat}:IntKind.u64.wrap ((x:Int)*2^s)=((x*2^s % W64:Nat):Int):=by
 have e1:((x:Int)*2^s)=((x*2^s:Nat):Int):=by rw[Int.natCast_mul,Int.natCast_pow];rfl
 rw[e1,wrap_u64_nat]
theorem join_high {hi lo s:Nat}(hs:s < 64)(hlo:lo < W64)(h:hi*2^s+2^s≤W64):bits .or .u64 (IntKind.u64.wrap ((hi:Int)*2^s)) ((lo:Int) / 2^(64 - s))=((hi*2^s+lo*2^s / W64:Nat):Int):=by
 have hl:=shr_lt hs hlo;have hp:0 < 2^s:=Nat.pow_pos (by omega);rw[shl_in (by omega),shr_cast,u64_or_nat _ _ (by unfold W64 at h;omega) (by unfold W64 at h;omega)];congr 1;rw[←shr_left hs,Nat.mul_comm hi,←Nat.two_pow_add_eq_or_of_lt hl]
theorem un21_in {u d v q:Nat}(_hu:u < W64)(_hd:d < B32)(hv:v < W64)(h:Done u d v q):
  IntKind.u64.wrap (IntKind.u64.wrap (IntKind.u64.wrap ((u:Int)*4294967296)+d) - IntKind.u64.wrap ((q:Int)*v))=((u*B32+d - q*v:Nat):Int):=by
 have h1:=h.le;have h2:=h.rest
 have e:((q:Int)*v)=((q*v:Nat):Int):=by rw[Int.natCast_mul]
 rw[e];generalize q*v=p at *;simp only[IntKind.wrap_u64];unfold B32 W64 at *;omega
end Go.Proofs.YtnjonlnemagomaaGreatDoor
