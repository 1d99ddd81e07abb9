/- Part B26. -/
import Derived.Deep.RegionHeld
import Derived.WalkSpells
import Derived.Test.YtbkcjmojgglbkaaGreatDoorB25
namespace Go.Proofs.YtbkcjmojgglbkaaGreatDoor
open Go.RowKit Big
open Go.Lib (hid)
set_option maxRecDepth 100000
set_option maxHeartbeats 8000000
theorem mul_b9 {x y p c z s:Nat}(hx:x < B9)(hy:y < B9)(hp:p < B9)(hc:c < B9)(hz:x*y=z)(hs:p+z+c=s):z≤999999998000000001∧s < B9*B9:=by
 have h:=Nat.mul_le_mul (Nat.le_pred_of_lt hx) (Nat.le_pred_of_lt hy);unfold B9 at *;simp only[Nat.pred_eq_sub_one,Nat.reduceSub,Nat.reduceMul] at h;omega
theorem rmul_any (a b:Option Addr)(m n ca cb:Nat)(f g:Nat→Nat)(w:World)(hm:m≤1000000)(hn:n≤1000000)(ha:Rd w a .i64 m f)(hb:Rd w b .i64 n g)(hfl:∀ i,i < m→f i < B9)(hgl:∀ i,i < n→g i < B9):
  Calls Tryz.prog 171 #[.slice a m ca,.slice b n cb] w (RetD w (vf B9 f m*vf B9 g n)):=by
 have hmk:=fun W=>run_make_row' (P:=Tryz.prog) 57 3 (.int .i64 0) 8 Tryz.underlying57 info_int rfl .i64 .i64 (m+n) (by omega) (by omega) W;rw[show ((m+n:Nat):Int)=(m:Int)+n by omega] at hmk;go_enter Tryz.func171,Tryz.ntmps171;go_wp2;clear hmk;obtain ⟨B,hB⟩:∃ B,B=w.heap.size:=⟨_,rfl⟩;have hrow0:=Row.made w .i64 (m+n) 3;have hnew0:New w (w.alloc (.cells (madeCells #[.int .i64 0] (m+n)) 3)):=(New.refl w).alloc _;rw[←hB] at hrow0⊢;generalize w.alloc (.cells (madeCells #[.int .i64 0] (m+n)) 3)=w0 at hrow0 hnew0⊢;have HB:=hid hB;clear hB;go_loopw [6] (fun i wr=>∃ (k:Nat) (o:Nat→Nat),k≤m∧i=.int .i64 k∧Row wr B 3 .i64 (m+n) o∧(∀ j,o j < B9)∧(∀ j,k+n≤j→o j=0)∧vf B9 o (m+n)=vf B9 f k*vf B9 g n∧New w wr) (fun i _=>m - (intOf i).toNat)
 case atStart=>exact ⟨0,fun _=>0,Nat.zero_le _,rfl,hrow0,fun _=>Nat.zero_lt_succ _,fun _ _=>rfl,by rw[vf_zeros (fun _ _=>rfl),vf_zero,Nat.zero_mul],hnew0⟩
 case round=>
  obtain ⟨k,o,hk,rfl,hrow,hol,hz,hval,hnew⟩:=hrel;have HV:=hid hval;have HZ:=hid hz;have HO:=hid hol;clear hval hrow0 hnew0 hz hol;by_cases hkm:k < m
  ·obtain ⟨b1,o1,rfl,h1⟩:=(ha.new hnew) k hkm;have hf0:=hfl k hkm;go_wp2;obtain ⟨wo,rfl⟩:∃ wo:World,wo=wr:=⟨_,rfl⟩;go_loopw [7,8] (fun c i wr=>∃ (j cc:Nat) (p:Nat→Nat),j≤n∧i=.int .i64 j∧c=.int .i64 cc∧cc < B9∧Row wr B 3 .i64 (m+n) p∧(∀ j,p j < B9)∧(∀ j,k+n≤j→p j=0)∧vf B9 p (m+n)+cc*B9^(k+j)=vf B9 f k*vf B9 g n+f k*vf B9 g j*B9^k∧New w wr) (fun _ i _=>n - (intOf i).toNat)
   case atStart=>exact ⟨0,0,o,Nat.zero_le _,rfl,rfl,by decide,hrow,HO.out,HZ.out,by rw[HV.out];simp[vf_zero],hnew⟩
   case round=>
    clear hrow hnew HO HZ HV;obtain ⟨j,cc,p,hj,rfl,rfl,hcc,hrow,hpl,hpz,hval,hnew⟩:=hrel;have HV:=hid hval;have HP:=hid hpl;have HZ:=hid hpz;clear hval hpz;by_cases hjn:j < n
    ·obtain ⟨b2,o2,rfl,h2⟩:=(hb.new hnew) j hjn;have h1':=(ha.new hnew) k hkm;obtain ⟨b3,o3,e3,h1'⟩:=h1';injection e3 with e3;injection e3 with e3 e4;subst e3 e4;have hg0:=hgl j hjn;have hp0:=hpl (k+j);clear ha hb hgl hfl hpl h1;have hcell:=hrow.cell (i:=k+j) (by omega);have hfr:=hrow.frozen (k+j);obtain ⟨x,hx⟩:∃ x,f k=x:=⟨_,rfl⟩;obtain ⟨y,hy⟩:∃ y,g j=y:=⟨_,rfl⟩;obtain ⟨u,hu⟩:∃ u,p (k+j)=u:=⟨_,rfl⟩;rw[hx] at hf0 h1';rw[hy] at hg0 h2;rw[hu] at hp0 hcell;obtain ⟨z,hz⟩:∃ z,x*y=z:=⟨_,rfl⟩;obtain ⟨s,hs⟩:∃ s,u+z+cc=s:=⟨_,rfl⟩;obtain ⟨hz18,hs18⟩:=mul_b9 hf0 hg0 hp0 hcc hz hs;obtain ⟨q,r,hqr,hr9,e1,e2,e3,e4⟩:=div9 s
     have hq9:q < B9:=by
      rcases Nat.lt_or_ge q B9 with h | h
      ·exact h
      ·have:=Nat.mul_le_mul_left B9 h;omega
     have hzi:(x:Int)*(y:Int)=(z:Int):=by rw[←hz,Int.natCast_mul]
     have hsi:(u:Int)+(z:Int)+(cc:Int)=(s:Int):=by omega
     have b1:(z:Int)≤999999998000000001:=by omega
     have b2:(s:Int) < 1000000000000000000:=by unfold B9 at hs18;omega
     have b3:(u:Int) < 1000000000:=by unfold B9 at hp0;omega
     have b4:(cc:Int) < 1000000000:=by unfold B9 at hcc;omega
     have b5:(x:Int) < 1000000000:=by unfold B9 at hf0;omega
     have b6:(y:Int) < 1000000000:=by unfold B9 at hg0;omega
     have b7:(r:Int) < 1000000000:=by unfold B9 at hr9;omega
     have b8:(q:Int) < 1000000000:=by unfold B9 at hq9;omega
     have hst:r+B9*q=p (k+j)+f k*g j+cc:=by rw[hu,hx,hy,hz,hs,hqr]
     clear hf0 hg0 hp0 hx hy hu hz hs hqr hs18 hz18;have HST:=hid hst;have HR9:=hid hr9;have HQ9:=hid hq9;have HROW:=hid hrow;have HNEW:=hid hnew;have HCC:=hid hcc;clear hst hr9 hq9 hrow hnew hcc;go_wp2_with fail
     go_quiet (fail)
     replace HROW:=hid (HROW.out.drewN nq);replace HNEW:=hid (HNEW.out.drewN nq);obtain ⟨w9,hw9⟩:∃ x,wr.drewN nq=x:=⟨_,rfl⟩;rw[hw9] at HROW HNEW⊢;clear hw9 hcell hfr h2 h1';have hcell:=HROW.out.cell (i:=k+j) (by omega);have hfr:=HROW.out.frozen (k+j);go_wp2_with fail;clear hcell hfr;go_roundw
     case rel=>
      refine ⟨j+1,q,upd p (k+j) r,by omega,by go_num,rfl,HQ9.out,HROW.out.set _ _,upd_lt HP.out HR9.out,fun i hi'=>?_,?_,HNEW.out.setCell (Nat.le_of_eq HB.out.symm) _⟩
      ·rw[upd_other _ _ (by omega)];exact HZ.out i hi'
      ·exact mul_step (by omega) HV.out HST.out
     case measure=>simp[intOf];omega
    ·obtain rfl:j=n:=by omega
     have hcell:=hrow.cell (i:=k+j) (by omega);have hfr:=hrow.frozen (k+j);have hz0:=HZ.out (k+j) (by omega);rw[hz0] at hcell
     have b4:(cc:Int) < 1000000000:=by unfold B9 at hcc;omega
     have hzc:((0:Nat):Int)+(cc:Int)=(cc:Int):=by omega
     clear hpl ha hb hfl hgl hz0;have HCC:=hid hcc;clear hcc;go_wp2_with fail;clear hcell hfr h1;go_roundw
     case rel=>
      refine ⟨k+1,upd p (k+j) cc,by omega,by go_num,hrow.set _ _,upd_lt HP.out HCC.out,fun i hi'=>?_,?_,hnew.setCell (Nat.le_of_eq HB.out.symm) _⟩
      ·rw[upd_other _ _ (by omega)];exact HZ.out i (by omega)
      ·have e1:=HV.out;have e2:=vf_upd (B:=B9) (f:=p) (v:=cc) (show k+j < m+j by omega);rw[HZ.out (k+j) (by omega),Nat.zero_mul] at e2
       have e3:f k*vf B9 g j*B9^k=f k*B9^k*vf B9 g j:=by rw[Nat.mul_assoc,Nat.mul_comm (vf B9 g j),←Nat.mul_assoc]
       rw[vf_succ,Nat.add_mul,←e3];omega
     case measure=>simp[intOf];omega
  ·obtain rfl:k=m:=by omega
   have hd:DgN wr (.slice (some ⟨B,0,none⟩) (k+n) (k+n)) (k+n) o:=⟨_,_,⟨rfl,Nat.le_refl _,by unfold maxLen;omega,fun h=>by cases h⟩,hrow.rd,fun i _=>HO.out i⟩;have htr:=rtrim_calls _ (k+n) o wr hd;clear hrow hd;have HTR:=hid htr;have HNEW:=hid hnew;clear htr hnew;go_wp2_with fail;refine HTR.out.mono ?_;rintro e w' ⟨hw9,v,n',rfl, -,hw,hv⟩;rw[←hw9];rw[HV.out] at hv;clear hw9;have HV2:=hid hv;have HW:=hid hw;clear hv hw;go_wp2_with fail;go_ret;exact ⟨v,rfl,HNEW.out,n',o,HW.out,HV2.out⟩
theorem len_le {f:Nat→Nat}{n x K:Nat}(h:Canon B9 f n)(hv:vf B9 f n=x)(hx:x < B9^K):n≤K:=by
 rcases Nat.eq_zero_or_pos n with h0 | h0
 ·omega
 ·have h1:=h.ge (by omega);rw[hv] at h1;rcases Nat.lt_or_ge K n with h2 | h2
  ·exfalso;have h3:B9^K≤B9^(n - 1):=Nat.pow_le_pow_right (by decide) (by omega);omega
  ·exact h2
theorem rmul_calls (K:Nat)(va vb:Value)(x y:Nat)(w:World)(ha:IsD w va x)(hb:IsD w vb y)(hK:K≤100000)(hx:x < B9^K)(hy:y < B9^K):
  Calls Tryz.prog 171 #[va,vb] w (RetD w (x*y)):=by
 obtain ⟨m,f,hf,hfv⟩:=ha;obtain ⟨n,g,hg,hgv⟩:=hb;have hm:=len_le hf.canon hfv hx;have hn:=len_le hg.canon hgv hy;have hfl:=hf.1.lt;have hgl:=hg.1.lt;obtain ⟨⟨a,ca,⟨rfl, -⟩,hra, -⟩, -⟩:=hf;obtain ⟨⟨b,cb,⟨rfl, -⟩,hrb, -⟩, -⟩:=hg;have:=rmul_any a b m n ca cb f g w (by omega) (by omega) hra hrb hfl hgl;rw[hfv,hgv] at this;exact this
def RDivPost (w:World)(q r:Nat)(e:Ending)(w':World):Prop:=∃ v,e=.returned (.tuple #[v,.int .i64 (r:Nat)])∧New w w'∧IsD w' v q
theorem rdiv_digit {q f:Nat→Nat}{kk m y rr r' d:Nat}(h0:kk≠0)(hm:kk≤m)(h:vf B9 (fun i=>q (kk+i)) (m - kk)*y+rr=vf B9 (fun i=>f (kk+i)) (m - kk))(hs:d*y+r'=rr*B9+f (kk - 1)):
  vf B9 (fun i=>upd q (kk - 1) d (kk - 1+i)) (m - (kk - 1))*y+r'=vf B9 (fun i=>f (kk - 1+i)) (m - (kk - 1)):=by
 obtain ⟨i,rfl⟩:∃ i,kk=i+1:=⟨kk - 1,by omega⟩;simp only[Nat.add_sub_cancel] at hs⊢;refine div1_step (q:=upd q i d) (by omega) (r:=rr) ?_ ?_
 ·rw[←h];congr 2;exact vf_congr fun x hx=>upd_other _ _ (by omega)
 ·rw[upd_same];exact hs
theorem divd (s d:Nat):(s:Int) / (d:Int)=((s / d:Nat):Int)∧Int.tdiv (s:Int) (d:Int)=((s / d:Nat):Int)∧Int.tmod (s:Int) (d:Int)=((s % d:Nat):Int)∧(s:Int) % (d:Int)=((s % d:Nat):Int):=by
 refine ⟨by omega,?_,?_,by omega⟩
 ·rw[Int.tdiv_eq_ediv_of_nonneg (by omega)];omega
 ·rw[Int.tmod_eq_emod_of_nonneg (by omega)];omega
theorem rdivd_any (a:Option Addr)(m ca d:Nat)(f:Nat→Nat)(w:World)(hm:m≤1000000)(ha:Rd w a .i64 m f)(hfl:∀ i,i < m→f i < B9)(hd0:0 < d)(hd:d < B9):
  Calls Tryz.prog 188 #[.slice a m ca,.int .i64 (d:Int)] w (RDivPost w (vf B9 f m / d) (vf B9 f m % d)):=by
 have hmk:=fun W=>run_make_row' (P:=Tryz.prog) 57 3 (.int .i64 0) 8 Tryz.underlying57 info_int rfl .i64 .i64 m (by omega) (by omega) W
 have hdi:(d:Int) < 1000000000:=by unfold B9 at hd;omega
 have hdi0:(0:Int) < (d:Int):=by omega
 have hdne:((d:Int)==0)=false:=by simp;omega
 have hdne2:(d:Int)≠0:=by omega
 have HFL:=hid hfl;have HD:=hid hd;have HD0:=hid hd0;have HDI0:=hid hdi0;have HDI:=hid hdi;clear hfl hd hd0 hdi0 hdi;go_enter Tryz.func188,Tryz.ntmps188;go_wp2_with fail;clear hmk;obtain ⟨B,hB⟩:∃ B,B=w.heap.size:=⟨_,rfl⟩;have hrow0:=Row.made w .i64 m 3;have hnew0:New w (w.alloc (.cells (madeCells #[.int .i64 0] m) 3)):=(New.refl w).alloc _;rw[←hB] at hrow0⊢;generalize w.alloc (.cells (madeCells #[.int .i64 0] m) 3)=w2 at hrow0 hnew0⊢;have HB:=hid hB;clear hB
 go_loopw [7,8] (fun sr si wx=>∃ (kk rr:Nat) (q:Nat→Nat),kk≤m∧si=.int .i64 ((kk:Int) - 1)∧sr=.int .i64 rr∧rr < d∧New w wx∧Row wx B 3 .i64 m q∧(∀ i,q i < B9)∧
  vf B9 (fun i=>q (kk+i)) (m - kk)*d+rr=vf B9 (fun i=>f (kk+i)) (m - kk)) (fun _ si _=>(intOf si+1).toNat)
 case atStart=>exact ⟨m,0,fun _=>0,Nat.le_refl _,rfl,rfl,HD0.out,hnew0,hrow0,fun _=>Nat.zero_lt_succ _,by rw[Nat.sub_self,vf_zero,vf_zero,Nat.zero_mul]⟩
 case round=>
  clear hrow0 hnew0;obtain ⟨kk,rr,q,hkk,rfl,rfl,hrr,hnew,hrow,hql,hval⟩:=hrel;have HV:=hid hval;have HQ:=hid hql;clear hval hql;by_cases hk0:kk=0
  ·subst hk0;simp only[Nat.zero_add,Nat.sub_zero] at HV;have hdg:DgN wr (.slice (some ⟨B,0,none⟩) m m) m q:=⟨_,_,⟨rfl,Nat.le_refl _,by unfold maxLen;omega,fun h=>by cases h⟩,hrow.rd,fun i _=>HQ.out i⟩;have htr:=rtrim_calls _ m q wr hdg;have hd0:=HD0.out
   have hqv:vf B9 q m=vf B9 f m / d∧rr=vf B9 f m % d:=by
    have h1:=HV.out;have e:vf B9 (fun i=>q i) m=vf B9 q m:=rfl;have e':vf B9 (fun i=>f i) m=vf B9 f m:=rfl;rw[e,e'] at h1;constructor
    ·rw[←h1,Nat.mul_comm,Nat.mul_add_div hd0,Nat.div_eq_of_lt hrr,Nat.add_zero]
    ·rw[←h1,Nat.mul_comm,Nat.mul_add_mod,Nat.mod_eq_of_lt hrr]
   clear hrow hdg hd0;have HTR:=hid htr;have HNEW:=hid hnew;have HQV:=hid hqv;clear htr hnew hqv;go_wp2_with fail;refine HTR.out.mono ?_;rintro e w' ⟨hw9,v,n',rfl, -,hw,hv⟩;rw[←hw9];rw[HQV.out.1] at hv;clear hw9;have HV2:=hid hv;have HW:=hid hw;clear hv hw;go_wp2_with fail;go_ret2;have hq2:=HQV.out.2;rw[←hq2];exact ⟨v,rfl,HNEW.out,n',q,HW.out,HV2.out⟩
  ·have hkq:(1:Int)≤(kk:Int):=by omega
   go_upto_region 6 with (fail);have hd0:=HD0.out;have hdi:=HDI.out;have hdi0:=HDI0.out;obtain ⟨b1,o1,rfl,e1⟩:=(ha.new hnew) (kk - 1) (by omega);have hf9:=HFL.out (kk - 1) (by omega);have f1:=hrow.cell (i:=kk - 1) (by omega);have ff:=hrow.frozen (kk - 1);obtain ⟨x,hx⟩:∃ x,f (kk - 1)=x:=⟨_,rfl⟩;rw[hx] at e1 hf9;obtain ⟨s,hs⟩:∃ s,rr*B9+x=s:=⟨_,rfl⟩;obtain ⟨z,hz⟩:∃ z,rr*B9=z:=⟨_,rfl⟩
   have hzi:(rr:Int)*1000000000=(z:Int):=by unfold B9 at hz;omega
   have hsi:(z:Int)+(x:Int)=(s:Int):=by omega
   have b0:(z:Int) < 1000000000000000000:=by unfold B9 at hz;omega
   obtain ⟨g1,g2,g3,g4⟩:=divd s d
   have hq9:s / d < B9:=by
    rw[Nat.div_lt_iff_lt_mul hd0,←hs];have:=Nat.mul_le_mul_right B9 hrr;rw[Nat.succ_eq_add_one,Nat.add_mul,Nat.one_mul,Nat.mul_comm d] at this;omega
   have hr9:s % d < d:=Nat.mod_lt _ hd0
   have hst:s / d*d+s % d=rr*B9+f (kk - 1):=by rw[hx,hs,Nat.mul_comm];exact Nat.div_add_mod s d
   obtain ⟨qq,hqq⟩:∃ z,s / d=z:=⟨_,rfl⟩;obtain ⟨r2,hr2⟩:∃ z,s % d=z:=⟨_,rfl⟩;rw[hqq] at g1 g2 hq9 hst;rw[hr2] at g3 g4 hr9 hst
   have b1':(rr:Int) < 1000000000:=by omega
   have b2:(x:Int) < 1000000000:=by unfold B9 at hf9;omega
   have b3:(s:Int) < 1000000000000000000:=by omega
   have b4:(qq:Int) < 1000000000:=by unfold B9 at hq9;omega
   have b5:(r2:Int) < 1000000000:=by omega
   clear hx hs hqq hr2 hf9 ha hz hd0;have HST:=hid hst;have HQ9:=hid hq9;have HR9:=hid hr9;have HNEW:=hid hnew;have HROW:=hid hrow;have HRR:=hid hrr;clear hst hq9 hr9 hnew hrow hrr;go_wp2_with fail;clear e1 f1 ff;go_roundw
   case rel=>
    exact ⟨kk - 1,r2,upd q (kk - 1) qq,by omega,by go_num,rfl,HR9.out,HNEW.out.setCell (by rw[←HB.out];exact Nat.le_refl _) _,HROW.out.set _ _,upd_lt HQ.out HQ9.out,rdiv_digit hk0 hkk HV.out HST.out⟩
   case measure=>simp[intOf];omega
theorem rdivd_calls (K:Nat)(va:Value)(x d:Nat)(w:World)(ha:IsD w va x)(hK:K≤100000)(hx:x < B9^K)(hd0:0 < d)(hd:d < B9):
  Calls Tryz.prog 188 #[va,.int .i64 (d:Int)] w (RDivPost w (x / d) (x % d)):=by
 obtain ⟨m,f,hf,hfv⟩:=ha;have hm:=len_le hf.canon hfv hx;have hfl:=hf.1.lt;obtain ⟨⟨a,ca,⟨rfl, -⟩,hra, -⟩, -⟩:=hf;have:=rdivd_any a m ca d f w (by omega) hra hfl hd0 hd;rw[hfv] at this;exact this
theorem New.undr {a b:World}(h:New a.drew b):New a b:=((New.refl a).drew).trans h
theorem Rd.far {w:World}{a:Option Addr}{n B:Nat}{f:Nat→Nat}(h:Rd w a .i64 n f)(hb:∀ i x,w.cell? ⟨B,i,none⟩≠some (.int .i64 x))(u u':Value):Rd ((w.setCell ⟨B,0,none⟩ u).setCell ⟨B,1,none⟩ u') a .i64 n f:=fun i hi=>by
 obtain ⟨b,off,e,hc⟩:=h i hi
 have hne:b≠B:=by
  rintro rfl;exact hb _ _ hc
 refine ⟨b,off,e,?_⟩;rw[World.cell?_setCell_far _ _ _ _ (by exact Ne.symm hne),World.cell?_setCell_far _ _ _ _ (by exact Ne.symm hne)];exact hc
theorem Box.noInt {w:World}{B:Nat}{t:TypeId}{b:Bool}{a:Option Addr}{l c:Nat}(h:Box w B t #[.bool b,.slice a l c]):∀ i x,w.cell? ⟨B,i,none⟩≠some (.int .i64 x):=fun i x e=>by
 rw[h.cell i]at e
 match i,e with
 | 0,e=>simp at e
 | 1,e=>simp at e
 | i+2,e=>simp at e
def IsN (w:World)(v:Value)(z:Nat):Prop:=∃ n f,DgN w v n f∧vf B9 f n=z
theorem IsN.new {w w':World}{v:Value}{z:Nat}(h:IsN w v z)(hn:New w w'):IsN w' v z:=by
 obtain ⟨n,f,h1,h2⟩:=h;exact ⟨n,f,h1.new hn,h2⟩
theorem IsD.n {w:World}{v:Value}{z:Nat}(h:IsD w v z):IsN w v z:=by
 obtain ⟨n,f,h1,h2⟩:=h;exact ⟨n,f,h1.1,h2⟩
theorem IsN.shape {w:World}{v:Value}{z:Nat}(h:IsN w v z):∃ a n c,v=.slice a n c:=by
 obtain ⟨n,f,⟨a,cap,⟨rfl, -⟩, -⟩, -⟩:=h;exact ⟨_,_,_,rfl⟩
theorem IsD.shape {w:World}{v:Value}{z:Nat}(h:IsD w v z):∃ a n c,v=.slice a n c:=h.n.shape
def RetN (w:World)(z:Nat)(e:Ending)(w':World):Prop:=∃ v,e=.returned v∧New w w'∧IsN w' v z
theorem RetD.n {w w':World}{z:Nat}{e:Ending}(h:RetD w z e w'):RetN w z e w':=by
 obtain ⟨v,h1,h2,h3⟩:=h;exact ⟨v,h1,h2,h3.n⟩
theorem IsD.far {w:World}{v:Value}{z B:Nat}(h:IsD w v z)(hb:∀ i x,w.cell? ⟨B,i,none⟩≠some (.int .i64 x))(u u':Value):IsD ((w.setCell ⟨B,0,none⟩ u).setCell ⟨B,1,none⟩ u') v z:=by
 obtain ⟨n,f,⟨⟨a,cap,h1,h2,h3⟩,h4⟩,h5⟩:=h;exact ⟨n,f,⟨⟨a,cap,h1,h2.far hb _ _,h3⟩,h4⟩,h5⟩
def IsZ (w:World)(v:Value)(z:Int):Prop:=∃ vw,v=.agg #[.bool (decide (z < 0)),vw]∧IsD w vw z.natAbs
theorem IsZ.new {w w':World}{v:Value}{z:Int}(h:IsZ w v z)(hn:New w w'):IsZ w' v z:=by
 obtain ⟨vw,h1,h2⟩:=h;exact ⟨vw,h1,h2.new hn⟩
theorem IsZ.far {w:World}{v:Value}{z:Int}{B:Nat}(h:IsZ w v z)(hb:∀ i x,w.cell? ⟨B,i,none⟩≠some (.int .i64 x))(u u':Value):IsZ ((w.setCell ⟨B,0,none⟩ u).setCell ⟨B,1,none⟩ u') v z:=by
 obtain ⟨vw,h1,h2⟩:=h;exact ⟨vw,h1,h2.far hb _ _⟩
theorem IsZ.mk' {w:World}{vw:Value}{z:Int}{b:Bool}{m:Nat}(hb:b=decide (z < 0))(hm:z.natAbs=m)(h:IsD w vw m):IsZ w (.agg #[.bool b,vw]) z:=⟨vw,by rw[hb],by rw[hm];exact h⟩
theorem IsZ.shape {w:World}{v:Value}{z:Int}(h:IsZ w v z):∃ b a n c,v=.agg #[.bool b,.slice a n c]:=by
 obtain ⟨vw,rfl,h2⟩:=h;obtain ⟨a,n,c,rfl⟩:=h2.shape;exact ⟨_,_,_,_,rfl⟩
theorem IsZ.parts {w:World}{b:Bool}{a:Option Addr}{n c:Nat}{z:Int}(h:IsZ w (.agg #[.bool b,.slice a n c]) z):b=decide (z < 0)∧IsD w (.slice a n c) z.natAbs:=by
 obtain ⟨vw,h1,h2⟩:=h;injection h1 with h1;simp only[Array.mk.injEq,List.cons.injEq,Value.bool.injEq,and_true] at h1;obtain ⟨h1,rfl⟩:=h1;exact ⟨h1,h2⟩
def RetZ (w:World)(z:Int)(e:Ending)(w':World):Prop:=∃ v,e=.returned v∧New w w'∧IsZ w' v z
theorem z_ret {w w6:World}{z:Int}{B:Nat}{t:TypeId}{b0 b:Bool}{a0 a:Option Addr}{l0 c0 l c:Nat}(hN:New w w6)(bp:Box w6 B t #[.bool b0,.slice a0 l0 c0])(hB:w.heap.size≤B)(h:IsZ w6 (.agg #[.bool b,.slice a l c]) z):
  RetZ w z (.returned (.agg #[.bool b,.slice a l c])) ((w6.setCell ⟨B,0,none⟩ (.bool b)).setCell ⟨B,1,none⟩ (.slice a l c)):=⟨_,rfl,(hN.setCell hB _).setCell hB _,h.far bp.noInt _ _⟩
def sgnd (neg:Bool)(m:Nat):Int:=if neg then -(m:Int) else m
theorem sgnd_abs (neg:Bool)(m:Nat):(sgnd neg m).natAbs=m:=by unfold sgnd;split <;> omega
theorem sgnd_lt (neg:Bool)(m:Nat):decide (sgnd neg m < 0)=(neg && decide (0 < m)):=by
 unfold sgnd
 cases neg with
 | true=>simp
 | false=>simp
theorem sgnd_of (z:Int):sgnd (decide (z < 0)) z.natAbs=z:=by
 unfold sgnd;by_cases h:z < 0
 ·rw[if_pos (by simpa using h)];omega
 ·rw[if_neg (by simpa using h)];omega
theorem rsigned_calls (neg:Bool)(v:Value)(m:Nat)(w:World)(h:IsN w v m):
  Calls Tryz.prog 167 #[.bool neg,v] w (RetZ w (sgnd neg m)):=by
 obtain ⟨n,f,h,hm⟩:=h;have htr:=fun W (hW:New w W)=>rtrim_calls v n f W (h.new hW);rw[hm] at htr;obtain ⟨a,cap,⟨rfl, -⟩, -⟩:=h;clear hm;have HTR:=hid htr;clear htr;go_enter Tryz.func167,Tryz.ntmps167;go_wp2_with fail;obtain ⟨BP,HN⟩:=lay1 w 137 #[.bool false,.slice none 0 0];refine (HTR.out _ HN.out).mono ?_;rintro e w1 ⟨hw1,v1,n1,rfl, -,hd,hv⟩;rw[←hw1];clear hw1;have hz:=hd.canon.zero_iff (by decide);have hdd:IsD _ v1 m:=⟨n1,f,hd,hv⟩;rw[hv] at hz;obtain ⟨⟨a1,cap1,⟨rfl, -⟩, -⟩, -⟩:=hd;clear hv;obtain ⟨w5,hw5⟩:∃ x,w.alloc (.cells #[.bool false,.slice none 0 0] 137)=x:=⟨_,rfl⟩;rw[hw5] at HN BP hdd⊢;clear hw5 HTR;have HDD:=hid hdd;clear hdd;by_cases h0:n1=0
 ·have hm0:=hz.2 h0;subst h0;subst hm0;clear hz
  have hs:decide (sgnd neg 0 < 0)=false:=by rw[sgnd_lt];cases neg <;> rfl
  have HS:=hid hs;clear hs
  cases neg with
  | true=>
   obtain ⟨p0,p1,p2,p3,p4⟩:=BP.out.two;go_wp2_with fail;refine bodyPost_ret (v:=.agg #[.bool false,.slice a1 0 cap1]) (by simp[results,Tryz.results167,go_sem,p0,p1]) rfl ?_;exact z_ret HN.out BP.out (by omega) (IsZ.mk' HS.out.symm (sgnd_abs _ _) HDD.out)
  | false=>
   obtain ⟨p0,p1,p2,p3,p4⟩:=BP.out.two;go_wp2_with fail;refine bodyPost_ret (v:=.agg #[.bool false,.slice a1 0 cap1]) (by simp[results,Tryz.results167,go_sem,p0,p1]) rfl ?_;exact z_ret HN.out BP.out (by omega) (IsZ.mk' HS.out.symm (sgnd_abs _ _) HDD.out)
 ·have h0i:(0:Int) < (n1:Int):=by omega
  have h0n:0 < n1:=by omega
  have hm0:0 < m:=by
   rcases Nat.eq_zero_or_pos m with h | h
   ·exact absurd (hz.1 h) h0
   ·exact h
  have hs:∀ b:Bool,decide (sgnd b m < 0)=b:=fun b=>by rw[sgnd_lt,decide_eq_true hm0,Bool.and_true]
  clear hz h0 hm0;have HS:=hid hs;clear hs
  cases neg with
  | true=>
   obtain ⟨p0,p1,p2,p3,p4⟩:=BP.out.two;go_wp2_with fail;refine bodyPost_ret (v:=.agg #[.bool true,.slice a1 n1 cap1]) (by simp[results,Tryz.results167,go_sem,p0,p1]) rfl ?_;exact z_ret HN.out BP.out (by omega) (IsZ.mk' (HS.out true).symm (sgnd_abs _ _) HDD.out)
  | false=>
   obtain ⟨p0,p1,p2,p3,p4⟩:=BP.out.two;go_wp2_with fail;refine bodyPost_ret (v:=.agg #[.bool false,.slice a1 n1 cap1]) (by simp[results,Tryz.results167,go_sem,p0,p1]) rfl ?_;exact z_ret HN.out BP.out (by omega) (IsZ.mk' (HS.out false).symm (sgnd_abs _ _) HDD.out)
structure GWay (B:Nat)(u v:Nat→Nat)(k t r:Nat):Prop where
 rest:t*v (k+1)+r=u (k+2)*B+u (k+1)
 hr:r < B
 ge:vf B u (k+3) < (t+1)*vf B v (k+2)
structure GFit (B:Nat)(u v:Nat→Nat)(k t:Nat):Prop where
 hh:t < B
 ge:vf B u (k+3) < (t+1)*vf B v (k+2)
 le:t*vf B v (k+2)≤vf B u (k+3)+vf B v (k+2)
section
variable {B:Nat} {u v:Nat→Nat} {k t r:Nat}
theorem topB_le (hv:∀ i,i < k+2→v i < B)(hlt:vf B (fun i=>u (1+i)) (k+2) < vf B v (k+2)):u (k+2)≤v (k+1):=by
 rcases Nat.lt_or_ge (v (k+1)) (u (k+2)) with h | h
 ·exfalso;rw[vf_succ _ v,vf_succ,show 1+(k+1)=k+2 by omega] at hlt;have h1:vf B v (k+1) < B^(k+1):=vf_lt fun i hi=>hv i (by omega);have h2:(v (k+1)+1)*B^(k+1)≤u (k+2)*B^(k+1):=Nat.mul_le_mul_right _ h;rw[Nat.add_mul,Nat.one_mul] at h2;omega
 ·exact h
theorem allB_lt (hu:∀ i,i < k+3→u i < B)(hlt:vf B (fun i=>u (1+i)) (k+2) < vf B v (k+2)):vf B u (k+3) < B*vf B v (k+2):=by
 have e:vf B u (k+3)=u 0+B*vf B (fun i=>u (i+1)) (k+2):=vf_head B u (k+2)
 have e2:(fun i=>u (i+1))=fun i=>u (1+i):=funext fun i=>by rw[Nat.add_comm]
 rw[e,e2];have h1:=hu 0 (by omega);have h2:B*(vf B (fun i=>u (1+i)) (k+2)+1)≤B*vf B v (k+2):=Nat.mul_le_mul_left _ hlt;rw[Nat.mul_add,Nat.mul_one] at h2;omega
theorem GWay.start (hB:0 < B)(hu:∀ i,i < k+3→u i < B)(hv:∀ i,i < k+2→v i < B)(hv0:v (k+1)≠0):
  GWay B u v k ((u (k+2)*B+u (k+1)) / v (k+1)) ((u (k+2)*B+u (k+1)) % v (k+1)):=by
 refine ⟨?_,?_,first_ge hB hu hv0⟩
 ·rw[Nat.mul_comm];exact Nat.div_add_mod _ _
 ·exact Nat.lt_trans (Nat.mod_lt _ (by omega)) (hv _ (by omega))
theorem GWay.bound (h:GWay B u v k t r)(hu:∀ i,i < k+3→u i < B)(hv:∀ i,i < k+2→v i < B)(hv0:v (k+1)≠0)(hlt:vf B (fun i=>u (1+i)) (k+2) < vf B v (k+2)):t < 2*B:=by
 have h1:=topB_le hv hlt;have h2:=hu (k+1) (by omega);have h3:=h.rest;generalize v (k+1)=a at *;generalize u (k+2)=b at *;generalize u (k+1)=c at *;rcases Nat.lt_or_ge t (2*B) with h4 | h4
 ·exact h4
 ·exfalso;have h5:2*B*a≤t*a:=Nat.mul_le_mul_right _ h4;have h6:b*B≤a*B:=Nat.mul_le_mul_right _ h1;have h7:1*B≤a*B:=Nat.mul_le_mul_right _ (by omega);rw[Nat.mul_assoc,Nat.mul_comm B a] at h5;omega
theorem GWay.pass (h:GWay B u v k t r)(hv:∀ i,i < k+2→v i < B)(hv0:v (k+1)≠0)(ht:t < B)(hok:t*v k≤r*B+u k):GFit B u v k t:=
 ⟨ht,h.ge,guess_pass hv hv0 ht ((test_iff h.rest).1 hok)⟩
theorem GWay.less (h:GWay B u v k t r)(hB:0 < B)(hu:∀ i,i < k+3→u i < B)(hv:∀ i,i < k+2→v i < B)(hv0:v (k+1)≠0)(hlt:vf B (fun i=>u (1+i)) (k+2) < vf B v (k+2))(hbad:B≤t∨r*B+u k < t*v k):
  0 < t∧(r+v (k+1) < B→GWay B u v k (t - 1) (r+v (k+1)))∧(B≤r+v (k+1)→GFit B u v k (t - 1)):=by
 have h0:=h.rest
 have hg:0 < t∧vf B u (k+3) < (t - 1+1)*vf B v (k+2):=by
  rcases hbad with h1 | h1
  ·refine ⟨by omega,?_⟩;have h2:=allB_lt hu hlt;have h3:B*vf B v (k+2)≤(t - 1+1)*vf B v (k+2):=Nat.mul_le_mul_right _ (by omega);omega
  ·refine guess_fail hB hu hv0 ?_;rcases Nat.lt_or_ge ((u (k+2)*B+u (k+1))*B+u k) (t*(v (k+1)*B+v k)) with h2 | h2
   ·exact h2
   ·exact absurd ((test_iff h0).2 h2) (by omega)
 obtain ⟨hp,hge⟩:=hg;obtain ⟨n,rfl⟩:∃ n,t=n+1:=⟨t - 1,by omega⟩;rw[Nat.add_mul,Nat.one_mul] at h0;simp only[Nat.add_sub_cancel] at hge⊢
 have hrest:n*v (k+1)+(r+v (k+1))=u (k+2)*B+u (k+1):=by omega
 refine ⟨hp,fun h1=>⟨hrest,h1,hge⟩,fun h1=>?_⟩;have h2:=topB_le hv hlt;have h3:=hu (k+1) (by omega)
 have hn:n < B:=by
  rcases Nat.lt_or_ge n B with h4 | h4
  ·exact h4
  ·exfalso;have h5:B*v (k+1)≤n*v (k+1):=Nat.mul_le_mul_right _ h4;have h6:u (k+2)*B≤v (k+1)*B:=Nat.mul_le_mul_right _ h2;rw[Nat.mul_comm] at h5;omega
 exact ⟨hn,hge,guess_pass hv hv0 hn (test_over hrest h1 hn (hv _ (by omega)))⟩
end
theorem msubB_digit {B:Nat} {p u g:Nat→Nat} {j i t c d _lo c':Nat} (h:vf B (fun i=>p (j+i)) i+t*vf B g i=vf B u i+c*B^i)
  (hs:d+t*g i+c=u i+B*c'):
  vf B (fun x=>upd p (j+i) d (j+x)) (i+1)+t*vf B g (i+1)=vf B u (i+1)+c'*B^(i+1):=by
 have e:vf B (fun x=>upd p (j+i) d (j+x)) i=vf B (fun i=>p (j+i)) i:=vf_congr fun x hx=>upd_other _ _ (by omega)
 have h2:(d+t*g i+c)*B^i=(u i+B*c')*B^i:=by rw[hs]
 rw[Nat.add_mul,Nat.add_mul,Nat.add_mul]at h2;rw[vf_succ _ u,vf_succ _ g,vf_succ,e,upd_same,Nat.pow_succ,Nat.mul_comm (B^i) B,←Nat.mul_assoc,Nat.mul_comm c',Nat.mul_add,←Nat.mul_assoc];omega
theorem msubB_last {B:Nat}{p u:Nat→Nat}{j n c d b' t V:Nat}(h:vf B (fun i=>p (j+i)) n+t*V=vf B u n+c*B^n)(hs:d+c=u n+B*b'):
  vf B (fun x=>upd p (j+n) d (j+x)) (n+1)+t*V=vf B u (n+1)+b'*B^(n+1):=by
 have e:vf B (fun x=>upd p (j+n) d (j+x)) n=vf B (fun i=>p (j+i)) n:=vf_congr fun x hx=>upd_other _ _ (by omega)
 have h2:(d+c)*B^n=(u n+B*b')*B^n:=by rw[hs]
 rw[Nat.add_mul,Nat.add_mul]at h2;rw[vf_succ _ u,vf_succ,e,upd_same,Nat.pow_succ,Nat.mul_comm (B^n) B,←Nat.mul_assoc,Nat.mul_comm b'];omega
theorem backB_digit {B:Nat}{p q g:Nat→Nat}{j i cc d c':Nat}(h:vf B (fun i=>p (j+i)) i+cc*B^i=vf B (fun i=>q (j+i)) i+vf B g i)(hs:d+B*c'=q (j+i)+g i+cc):
  vf B (fun x=>upd p (j+i) d (j+x)) (i+1)+c'*B^(i+1)=vf B (fun i=>q (j+i)) (i+1)+vf B g (i+1):=by
 refine add_step (c:=cc) ?_ ?_
 ·rw[←h];congr 1;exact vf_congr fun x hx=>upd_other _ _ (by omega)
 ·simp only[upd_same];exact hs
end Go.Proofs.YtbkcjmojgglbkaaGreatDoor
namespace Go.Proofs.YtbkcjmojgglbkaaGreatDoor
open Big Go.Lib Go.RowKit
set_option maxRecDepth 100000
set_option maxHeartbeats 8000000
theorem back_done {P U V t e cc un c vo vp vp2:Nat} (h1:vp+t*V=vo+c*P) (hU:U=vo+un*P) (he:c=un+e) (h0:0 < e) (h2:vp2+cc*P=vp+V) (hvp:vp < P) (hvp2:vp2 < P) (_hV:V≤P) (hcc:cc≤1)
  (hle:t*V≤U+V):0 < t∧e=cc∧vp2+(t - 1)*V=U∧vp2 < V:=by
 have hP:U+e*P=vo+c*P:=by rw[hU,he,Nat.add_mul];omega
 have he1:1*P≤e*P:=Nat.mul_le_mul_right _ h0
 have ht:0 < t:=by
  rcases Nat.eq_zero_or_pos t with h | h
  ·subst h;omega
  ·exact h
 obtain ⟨s,rfl⟩:∃ s,t=s+1:=⟨t - 1,by omega⟩;rw[Nat.add_mul,Nat.one_mul] at h1 hle;simp only[Nat.add_sub_cancel];generalize s*V=S at *
 have hc1:cc=1:=by
  rcases Nat.eq_zero_or_pos cc with h | h
  ·subst h;omega
  ·omega
 subst hc1;rw[Nat.one_mul] at h2
 have he2:e=1:=by
  rcases Nat.lt_or_ge e 2 with h | h
  ·omega
  ·exfalso;have:=Nat.mul_le_mul_right P h;omega
 subst he2;omega
theorem unscale {x y M r Q:Nat}(hM:0 < M)(h:r+y*M*Q=x*M)(hr:r < y*M):Q=x / y∧r / M=x % y:=by
 have hy:0 < y:=by
  rcases Nat.eq_zero_or_pos y with h0 | h0
  ·subst h0;omega
  ·exact h0
 have hd:M ∣ r:=by
  have h1:M ∣ r+y*M*Q:=by rw[h];exact Nat.dvd_mul_left _ _
  have h2:M ∣ y*M*Q:=⟨y*Q,by rw[Nat.mul_comm y M,Nat.mul_assoc]⟩;exact (Nat.dvd_add_left h2).1 h1
 obtain ⟨s,rfl⟩:=hd
 have h3:(s+y*Q)*M=x*M:=by
  rw[Nat.add_mul,←h,Nat.mul_comm s M,Nat.mul_right_comm]
 have h4:s+y*Q=x:=Nat.eq_of_mul_eq_mul_right hM h3
 have h5:s < y:=by rw[Nat.mul_comm y M] at hr;exact Nat.lt_of_mul_lt_mul_left hr
 subst h4;rw[Nat.mul_div_cancel_left _ hM];refine ⟨?_,?_⟩
 ·rw[Nat.add_mul_div_left _ _ hy,Nat.div_eq_of_lt h5,Nat.zero_add]
 ·rw[Nat.add_mul_mod_self_left,Nat.mod_eq_of_lt h5]
theorem scaled_len {B k n y M x:Nat}{g v:Nat→Nat}(hB:1 < B)(hgl:∀ i,i < k+2→g i < B)(hy:y=vf B g (k+2))(hx:g (k+1)=x)(hx0:0 < x)(hM:M=B / (x+1))(hv:Canon B v n)(hvv:vf B v n=y*M):
  0 < M∧n=k+2∧x*M*B^(k+1)≤y*M∧y*M≤B^(k+2):=by
 have hxB:x < B:=by rw[←hx];exact hgl _ (by omega)
 have hM0:0 < M:=by rw[hM];exact Nat.div_pos hxB (by omega)
 have hMx:(x+1)*M≤B:=by rw[hM];exact Nat.mul_div_le _ _
 have h0:vf B g (k+1) < B^(k+1):=vf_lt fun i hi=>hgl i (by omega)
 have h1:y=vf B g (k+1)+x*B^(k+1):=by rw[hy,vf_succ,hx]
 have hP2:B^(k+2)=B*B^(k+1):=by rw[Nat.pow_succ,Nat.mul_comm]
 have h3:(y+1)*M≤B^(k+2):=by
  have a:y+1≤(x+1)*B^(k+1):=by rw[Nat.add_mul,Nat.one_mul];omega
  have b:=Nat.mul_le_mul_right M a;rw[Nat.mul_right_comm] at b;rw[hP2];exact Nat.le_trans b (Nat.mul_le_mul_right _ hMx)
 have h4:x*M*B^(k+1)≤y*M:=by
  have a:x*B^(k+1)≤y:=by omega
  have b:=Nat.mul_le_mul_right M a
  rwa [Nat.mul_right_comm] at b
 rw[Nat.add_mul,Nat.one_mul]at h3;refine ⟨hM0,?_,h4,by omega⟩
 have h5:B^(k+1)≤y*M:=by
  have a:1≤x*M:=Nat.mul_pos hx0 hM0;have b:=Nat.mul_le_mul_right (B^(k+1)) a;omega
 have h6:=hv.lt_pow;rw[hvv] at h6;rcases Nat.lt_trichotomy n (k+2) with h | h | h
 ·exfalso;have:=Nat.pow_le_pow_right (n:=B) (by omega) (show n≤k+1 by omega);omega
 ·exact h
 ·exfalso;have h7:=hv.ge (by omega);rw[hvv] at h7;have:=Nat.pow_le_pow_right (n:=B) (by omega) (show k+2≤n - 1 by omega);omega
theorem padDigits_cons (i n:Nat):padDigits (i+1) n=UInt8.ofNat (48+n / 10^i % 10)::padDigits i n:=by
 induction i generalizing n with
 | zero=>simp[padDigits]
 | succ i ih=>
  rw[padDigits,ih (n / 10),List.cons_append,Nat.div_div_eq_div_mul,Nat.pow_succ,Nat.mul_comm (10^i)];rfl
structure DecAt (n0 least i n:Nat):Prop where
 now:n=n0 / 10^i
 few:i≤least∨10^(i - 1)≤n0
theorem DecAt.start (n0 least:Nat):DecAt n0 least 0 n0:=⟨by simp,.inl (Nat.zero_le _)⟩
theorem DecAt.next {n0 least i n:Nat}(h:DecAt n0 least i n)(hg:0 < n∨i < least):DecAt n0 least (i+1) (n / 10):=by
 refine ⟨by rw[h.now,Nat.div_div_eq_div_mul,Nat.pow_succ],?_⟩;rcases hg with h1 | h1
 ·refine .inr ?_;rw[Nat.add_sub_cancel];rw[h.now] at h1;exact (Nat.div_pos_iff.1 h1).2
 ·exact .inl h1
theorem DecAt.done {n0 least i n:Nat}(h:DecAt n0 least i n)(hn:n=0)(hi:least≤i):n0 < 10^i∧(i=least∨10^(i - 1)≤n0):=by
 refine ⟨?_,?_⟩
 ·have h1:=h.now;rw[hn] at h1;exact (Nat.div_eq_zero_iff.1 h1.symm).resolve_left (Nat.ne_of_gt (Nat.pow_pos (by omega)))
 ·rcases h.few with h1 | h1
  ·exact .inl (by omega)
  ·exact .inr h1
theorem DecAt.nine {n0 i n:Nat}(h:DecAt n0 9 i n)(hn:n=0)(hi:9≤i)(h9:n0 < 1000000000):padDigits i n0=padDigits 9 n0:=by
 obtain ⟨h1,h2 | h2⟩:=h.done hn hi
 ·rw[h2]
 ·have:i - 1 < 9:=by
   rcases Nat.lt_or_ge (i - 1) 9 with h3 | h3
   ·exact h3
   ·have:=Nat.pow_le_pow_right (n:=10) (by omega) h3;omega
  rw[show i=9 by omega]
theorem DecAt.one {n0 i n:Nat}(h:DecAt n0 1 i n)(hn:n=0)(hi:1≤i):padDigits i n0=decDigits n0:=by
 obtain ⟨h1,h2⟩:=h.done hn hi;have h3:=(nDigits_le_iff (u:=n0) (k:=i) (by omega)).2 h1;refine padDigits_full ?_;rcases h2 with h2 | h2
 ·have:=nDigits_pos n0;omega
 ·rcases Nat.lt_or_ge (nDigits n0) i with h4 | h4
  ·exfalso;by_cases h5:i=1
   ·have:=nDigits_pos n0;omega
   ·have:=(nDigits_le_iff (u:=n0) (k:=i - 1) (by omega)).1 (by omega);omega
  ·omega
theorem text_step {f:Nat→Nat}{n k:Nat}(hk:0 < k)(hkn:k≤n)(hl:∀ i,i < n→f i < 1000000000)(h0:vf 1000000000 (fun i=>f (k+i)) (n - k)≠0):
  decDigits (vf 1000000000 (fun i=>f (k - 1+i)) (n - (k - 1)))=decDigits (vf 1000000000 (fun i=>f (k+i)) (n - k)) ++ padDigits 9 (f (k - 1))∧vf 1000000000 (fun i=>f (k - 1+i)) (n - (k - 1))≠0:=by
 obtain ⟨j,rfl⟩:∃ j,k=j+1:=⟨k - 1,by omega⟩;rw[Nat.add_sub_cancel]
 have e:n - j=n - (j+1)+1:=by omega
 have e1:(fun i=>f (j+(i+1)))=fun i=>f (j+1+i):=funext fun i=>by rw[show j+(i+1)=j+1+i by omega]
 have h1:vf 1000000000 (fun i=>f (j+i)) (n - j)=vf 1000000000 (fun i=>f (j+1+i)) (n - (j+1))*10^9+f j:=by
  rw[e,vf_head,e1,Nat.add_zero,Nat.mul_comm];omega
 rw[h1,decDigits_pad h0 9 (f j) (hl j (by omega))];exact ⟨rfl,by omega⟩
def bs (l:List UInt8):ByteArray:=⟨l.toArray⟩
theorem bs_size (l:List UInt8):(bs l).size=l.length:=by simp[bs,ByteArray.size]
theorem bs_list (l:List UInt8):(bs l).data.toList=l:=by simp[bs]
theorem bs_append (a b:List UInt8):bs a ++ bs b=bs (a ++ b):=by apply ByteArray.ext;simp[bs,ByteArray.data_append]
theorem dig_cut:∀ d,d < 10→(⟨#[48,49,50,51,52,53,54,55,56,57]⟩:ByteArray).extract d (d+1)=bs [UInt8.ofNat (48+d)]:=by
 intro d hd;apply ByteArray.ext
 have:∀ d,d < 10→(#[48,49,50,51,52,53,54,55,56,57]:Array UInt8).extract d (d+1)=#[UInt8.ofNat (48+d)]:=by decide
 simpa[bs] using this d hd
theorem div10 (s:Nat):∃ q r:Nat,s / 10=q∧s % 10=r∧r < 10∧(s:Int) / 10=(q:Int)∧Int.tdiv (s:Int) 10=(q:Int)∧Int.tmod (s:Int) 10=(r:Int)∧(s:Int) % 10=(r:Int):=by
 refine ⟨s / 10,s % 10,rfl,rfl,by omega,by omega,?_,?_,by omega⟩
 ·rw[Int.tdiv_eq_ediv_of_nonneg (by omega)];omega
 ·rw[Int.tmod_eq_emod_of_nonneg (by omega)];omega
theorem DecAt.le {n0 least i n:Nat}(h:DecAt n0 least i n)(hl:least≤9)(hn:n0 < 9223372036854775808):i≤20:=by
 rcases h.few with h1 | h1
 ·omega
 ·rcases Nat.lt_or_ge 20 i with h2 | h2
  ·exfalso;have:=Nat.pow_le_pow_right (n:=10) (by omega) (show 19≤i - 1 by omega);omega
  ·omega
def lenS:Value→Nat
 | .string s=>s.size
 | _=>0
def DecPost (w:World)(n0 least:Nat)(e:Ending)(w':World):Prop:=∃ i n,e=.returned (.string (bs (padDigits i n0)))∧New w w'∧DecAt n0 least i n∧n=0∧least≤i
theorem rdecimal_any (n0 least:Nat)(w:World)(hn0:n0 < 9223372036854775808)(hl:least≤9):
  Calls Tryz.prog 165 #[.int .i64 (n0:Int),.int .i64 (least:Int)] w (DecPost w n0 least):=by
 have hn0i:(n0:Int) < 9223372036854775808:=by omega
 have HN0:=hid hn0;clear hn0;go_enter Tryz.func165,Tryz.ntmps165;go_wp2_with fail;go_loopw [0,5] (fun sn ss wr=>∃ (n i:Nat),sn=.int .i64 (n:Int)∧ss=.string (bs (padDigits i n0))∧n≤n0∧Hid (DecAt n0 least i n)∧Hid (New w wr)) (fun sn ss _=>(RowKit.intOf sn).toNat+(least - lenS ss))
 case atStart=>exact ⟨n0,0,rfl,rfl,Nat.le_refl _,hid (DecAt.start _ _),hid (New.refl _)⟩
 case round=>
  obtain ⟨n,i,rfl,rfl,hnn,HD,HN⟩:=hrel;obtain ⟨S,hS⟩:∃ S,bs (padDigits i n0)=S:=⟨_,rfl⟩
  have hsz:S.size=i:=by rw[←hS,bs_size,padDigits_length]
  have hi20:=HD.out.le hl HN0.out;rw[hS];obtain ⟨q,d,hq,hd,hd10,e1,e2,e3,e4⟩:=div10 n
  have hszi:(S.size:Int)≤20:=by omega
  have hni:(n:Int)≤(n0:Int):=by omega
  by_cases hgo:0 < n∨i < least
  ·have hcut:=dig_cut d hd10;have hnx:=HD.out.next hgo;rw[hq] at hnx
   have hpd:bs [UInt8.ofNat (48+d)] ++ S=bs (padDigits (i+1) n0):=by
    rw[←hS,bs_append,padDigits_cons,←HD.out.now,hd];rfl
   have hqn:q≤n0:=by omega
   obtain ⟨C,hC⟩:∃ C,bs [UInt8.ofNat (48+d)]=C:=⟨_,rfl⟩
   have hcs:C.size=1:=by rw[←hC,bs_size];rfl
   rw[hC]at hcut hpd
   have hq63:¬9223372036854775807 < C.size+S.size:=by omega
   have hqi:(q:Int) < 9223372036854775808:=by omega
   have hdi:(d:Int) < 10:=by omega
   have hm:q+(least - (i+1)) < n+(least - i):=by omega
   clear hC hS hq hd hd10 hi20 hnn;have hsl:lenS (.string S)=i:=hsz
   have hsm:lenS (.string (C ++ S))=i+1:=by show (C ++ S).size=_;rw[ByteArray.size_append,hcs,hsz];omega
   have HNX:=hid hnx;have HPD:=hid hpd;have HQN:=hid hqn;have HM:=hid hm;have HCS:=hid hcs;have HSL:=hid hsl;have HSM:=hid hsm;clear hnx hpd hqn hm hcs hsl hsm;rcases hgo with hgo | hgo
   ·clear hsz
    have h0:(0:Int) < (n:Int):=by omega
    have h0b:decide ((0:Int) < (n:Int))=true:=decide_eq_true h0;go_wp2_with fail;go_roundw
    case rel=>exact ⟨q,i+1,rfl,by rw[HPD.out],HQN.out,HNX,HN⟩
    case measure=>
     have h1:=HSL.out;have h2:=HSM.out;have h3:=HM.out;simp[RowKit.intOf,h1,h2];omega
   ·by_cases hn00:0 < n
    ·clear hsz
     have h0:(0:Int) < (n:Int):=by omega
     have h0b:decide ((0:Int) < (n:Int))=true:=decide_eq_true h0;go_wp2_with fail;go_roundw
     case rel=>exact ⟨q,i+1,rfl,by rw[HPD.out],HQN.out,HNX,HN⟩
     case measure=>
      have h1:=HSL.out;have h2:=HSM.out;have h3:=HM.out;simp[RowKit.intOf,h1,h2];omega
    ·have h0:¬(0:Int) < (n:Int):=by omega
     have h0b:decide ((0:Int) < (n:Int))=false:=decide_eq_false h0
     have h1:(S.size:Int) < (least:Int):=by have:=hsz;omega
     have h1b:decide ((S.size:Int) < (least:Int))=true:=decide_eq_true h1;clear hsz;go_wp2_with fail;go_roundw
     case rel=>exact ⟨q,i+1,rfl,by rw[HPD.out],HQN.out,HNX,HN⟩
     case measure=>
      have h1:=HSL.out;have h2:=HSM.out;have h3:=HM.out;simp[RowKit.intOf,h1,h2];omega
  ·have hn0':n=0:=by omega
   subst hn0'
   have h1:¬(S.size:Int) < (least:Int):=by omega
   have h1b:decide ((S.size:Int) < (least:Int))=false:=decide_eq_false h1
   have hli:least≤i:=by omega
   clear hgo e1 e2 e3 e4 hsz hi20;have HS:=hid hS;have HLI:=hid hli;clear hS hli;go_wp2_with fail;go_ret;exact ⟨i,0,by rw[HS.out];rfl,HN.out,HD.out,rfl,HLI.out⟩
theorem rdecimal_one (n0:Nat)(w:World)(hn0:n0 < 9223372036854775808):
  Calls Tryz.prog 165 #[.int .i64 (n0:Int),.int .i64 1] w fun e w'=>e=.returned (.string (bs (decDigits n0)))∧New w w':=
 (rdecimal_any n0 1 w hn0 (by omega)).mono fun e w' ⟨i,n,h1,h2,h3,h4,h5⟩=>⟨by rw[h1,h3.one h4 h5],h2⟩
theorem rdecimal_nine (n0:Nat)(w:World)(hn0:n0 < 1000000000):
  Calls Tryz.prog 165 #[.int .i64 (n0:Int),.int .i64 9] w fun e w'=>e=.returned (.string (bs (padDigits 9 n0)))∧New w w':=
 (rdecimal_any n0 9 w (by omega) (by omega)).mono fun e w' ⟨i,n,h1,h2,h3,h4,h5⟩=>⟨by rw[h1,h3.nine h4 h5 hn0],h2⟩
theorem take_snoc (s:ByteArray)(k:Nat)(h:k < s.size):s.data.toList.take (k+1)=s.data.toList.take k ++ [s[k]]:=by
 rw[List.take_succ_eq_append_getElem (by simpa using h)];rfl
theorem rvalue_calls (s:ByteArray)(l:List UInt8)(w:World)(hs:s.data.toList=l)(hd:∀ c∈l,isDig c=true)(hl:l.length≤18):
  Calls Tryz.prog 163 #[.string s] w fun e w'=>e=.returned (.int .i64 (dval 0 l:Nat))∧w'=w:=by
 subst hs
 have hsz:s.size≤18:=by simpa using hl
 have hbd:∀ k,dval 0 (s.data.toList.take k) < 1000000000000000000:=fun k=>by
  have h1:=dval_lt (l:=s.data.toList.take k) fun c hc=>hd c (List.mem_of_mem_take hc);have h2:10^(s.data.toList.take k).length≤10^18:=Nat.pow_le_pow_right (by omega) (by rw[List.length_take];omega);omega
 have HD:=hid hd;have HBD:=hid hbd;clear hd hbd;go_enter Tryz.func163,Tryz.ntmps163;go_wp2
 go_loop [3,4] (fun n i=>∃ k:Nat,k≤s.size∧i=.int .i64 k∧n=.int .i64 (dval 0 (s.data.toList.take k):Nat)) (fun _ i=>s.size - (RowKit.intOf i).toNat)
 case atStart=>exact ⟨0,Nat.zero_le _,rfl,rfl⟩
 case round=>
  obtain ⟨k,hk,rfl,rfl⟩:=hrel;by_cases hlt:k < s.size
  ·have hts:=take_snoc s k hlt
   have hc:=isDig_iff.1 (HD.out s[k] (by
    have:s[k]=s.data.toList[k]'(by simpa using hlt):=rfl;rw[this]
    exact List.getElem_mem _))
   have hx:=HBD.out k
   have hv:dval 0 (s.data.toList.take (k+1))=10*dval 0 (s.data.toList.take k)+(s[k].toNat - 48):=by rw[hts,dval_append,dval_cons,dval_nil]
   obtain ⟨x,hxx⟩:∃ x,dval 0 (s.data.toList.take k)=x:=⟨_,rfl⟩;rw[hxx] at hv hx
   have hx':(x:Int) < 100000000000000000:=by
    have h1:=HBD.out (k+1);rw[hv] at h1;omega
   have h48:48≤(s[k].toNat:Int):=by omega
   have h57:(s[k].toNat:Int)≤57:=by omega
   have hvi:((dval 0 (s.data.toList.take (k+1)):Nat):Int)=10*(x:Int)+(s[k].toNat:Int) - 48:=by rw[hv];omega
   rw[hxx];clear hts hc hv hx hxx;have HVI:=hid hvi;clear hvi;go_wp2;go_round
   case rel=>exact ⟨k+1,by omega,by go_num,by first | (rw[HVI.out];done) | (rw[HVI.out];go_num)⟩
   case measure=>simp[RowKit.intOf];omega
  ·go_wp2;go_ret;exact ⟨by rw[List.take_of_length_le (by simp;omega)];rfl,rfl⟩
theorem sl_len (l:List UInt8):(upTo l).length≤l.length:=by
 unfold upTo;exact (List.takeWhile_sublist _).length_le
theorem upTo_in:∀ {l:List UInt8} {k:Nat},k < (upTo l).length→∃ c,l[k]?=some c∧c≠47
 | [],k,h=>by simp[upTo] at h
 | c::l,k,h=>by
  by_cases hc:c=47
  ·subst hc;simp[upTo] at h
  ·have e:upTo (c::l)=c::upTo l:=by simp[upTo,hc]
   rw[e]at h
   match k,h with
   | 0,_=>exact ⟨c,rfl,hc⟩
   | k+1,h=>exact upTo_in (l:=l) (k:=k) (by simpa using h)
theorem upTo_at {l:List UInt8}(h:(upTo l).length < l.length):l[(upTo l).length]?=some 47:=by
 cases hs:slashed l with
 | true=>
  have e:=split_slash hs;obtain ⟨a,ha⟩:∃ a,upTo l=a:=⟨_,rfl⟩;obtain ⟨b,hb⟩:∃ b,behind l=b:=⟨_,rfl⟩;rw[ha,hb] at e;rw[ha,e];simp
 | false=>
  have e:=(split_plain hs).1;rw[e] at h;omega
theorem byte_at (s:ByteArray){k:Nat}{c:UInt8}(h:s.data.toList[k]?=some c):∃ h':k < s.size,s[k]'h'=c:=by
 obtain ⟨h1,h2⟩:=List.getElem?_eq_some_iff.1 h;exact ⟨by simpa using h1,h2⟩
theorem rslash_calls (s:ByteArray)(w:World)(hl:s.size≤1000000):
  Calls Tryz.prog 79 #[.string s] w fun e w'=>e=.returned (.int .i64 ((upTo s.data.toList).length:Nat))∧w'=w:=by
 obtain ⟨m,hm⟩:∃ m,(upTo s.data.toList).length=m:=⟨_,rfl⟩;have h1:=sl_len s.data.toList;have hin:=fun k=>upTo_in (l:=s.data.toList) (k:=k)
 have hlen:s.data.toList.length=s.size:=by simp
 have hat:m < s.size→s.data.toList[m]?=some 47:=fun h=>by
  have:=upTo_at (l:=s.data.toList) (by rw[hm,hlen];exact h)
  rwa [hm] at this
 simp only[hm]at hin;rw[hm] at h1⊢;rw[hlen] at h1;clear hm hlen;have HIN:=hid hin;have HAT:=hid hat;clear hin hat;go_enter Tryz.func79,Tryz.ntmps79;go_wp2
 go_loop [3] (fun i=>∃ k:Nat,k≤m∧i=.int .i64 k) (fun i=>s.size - (RowKit.intOf i).toNat)
 case atStart=>exact ⟨0,Nat.zero_le _,rfl⟩
 case round=>
  obtain ⟨k,hk,rfl⟩:=hrel;by_cases hlt:k < m
  ·have hks:k < s.size:=by omega
   obtain ⟨c,hc1,hne⟩:=HIN.out k hlt;obtain ⟨h',hc2⟩:=byte_at s hc1
   have hc:¬(s[k].toNat:Int)=47:=by
    intro h;refine hne (UInt8.toNat_inj.1 ?_);rw[←hc2];show s[k].toNat=47;omega
   have hcb:((s[k].toNat:Int)==47)=false:=beq_eq_false_iff_ne.2 hc;clear hne hc1 hc2;go_wp2;go_round
   case rel=>exact ⟨k+1,by omega,by go_num⟩
   case measure=>simp[RowKit.intOf];omega
  ·obtain rfl:k=m:=by omega
   by_cases hks:k < s.size
   ·have h47:=HAT.out hks;obtain ⟨h',hc2⟩:=byte_at s h47
    have hc:(s[k].toNat:Int)=47:=by rw[hc2];rfl
    have hcb:((s[k].toNat:Int)==47)=true:=beq_iff_eq.2 hc;clear h47 hc2;go_wp2;go_ret;exact ⟨rfl,rfl⟩
   ·have hks:k=s.size:=by omega
    subst hks;go_wp2;go_ret;exact ⟨rfl,rfl⟩
end Go.Proofs.YtbkcjmojgglbkaaGreatDoor
