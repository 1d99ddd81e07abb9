/- Part B19. -/
import Derived.Deep.LoopGhost
import Derived.Test.YtnjonlnemagomaaGreatDoorB18
namespace Go.Proofs.YtnjonlnemagomaaGreatDoor
open Go.RowKit Big
open Go.Lib (hid)
set_option maxRecDepth 100000
set_option maxHeartbeats 8000000
theorem ylg {t y c a s:Nat}(ht:t < B9)(hy:y < B9)(hc:c<=B9)(ha:t*y=a)(hs:a+c=s):a<=999999998000000001/\s < B9*B9:=by
 have h:=Nat.mul_le_mul (Nat.le_pred_of_lt ht) (Nat.le_pred_of_lt hy);unfold B9 at *;simp only[Nat.pred_eq_sub_one,Nat.reduceSub,Nat.reduceMul] at h;omega
theorem ylp {f g:Nat->Nat}{k:Nat}(h:∀ i,i < k->f i=g i):ds f k=ds g k:=by
 unfold ds;refine List.map_congr_left fun i hi=>?_;rw[h i (List.mem_range.1 hi)]
theorem yhk (K k:Nat)(va vb:Value)(x y:Nat)(g:Nat->Nat)(w:World)(ha:IsD w va x)(hb:Dg w vb (k+2) g)(hgv:vf B9 g (k+2)=y)(hK:K<=90000)(hx:x < B9^K)(hy:y < B9^K)(hle:y<=x):
  Calls Tryz.prog 171 #[va,vb] w (y7e w (x / y) (x % y)):=by
 have hbD:IsD w vb y:=⟨_,g,hb,hgv⟩;obtain ⟨m,f,hf,hfv⟩:=ha;have haD:IsD w va x:=⟨m,f,hf,hfv⟩;have hm:=y4c hf.canon hfv hx;have hk:=y4c hb.canon hgv hy
 have hmk:k+2<=m:=by
  rcases Nat.lt_or_ge m (k+2) with h | h
  ·have:=hf.canon.lt_of_len hb.canon (by decide) h;omega
  ·exact h
 have hcmp:=y4s va vb m (k+2) f g w hf hb (by omega) (by omega);rw[hfv,hgv] at hcmp
 have hc:0<=y1a x y:=by unfold y1a;rw[if_neg (by omega)];split <;> omega
 obtain ⟨c,hcc⟩:∃ c,y1a x y=c:=⟨_,rfl⟩;rw[hcc] at hc hcmp
 have hcn:¬c < 0:=by omega
 have hcd:decide (c < 0)=false:=decide_eq_false hcn;obtain ⟨xt,hxt⟩:∃ t,g (k+1)=t:=⟨_,rfl⟩
 have hxt0:0 < xt:=by
  have:=hb.2 (by omega);rw[show k+2 - 1=k+1 by omega,hxt] at this;omega
 have hgl:=hb.1.lt;have hfl:=hf.1.lt
 have hxt9:xt < B9:=by rw[<-hxt];exact hgl _ (by omega)
 obtain ⟨M,hM⟩:∃ M,B9 / (xt+1)=M:=⟨_,rfl⟩
 have hM0:0 < M:=by rw[<-hM];exact Nat.div_pos (by omega) (by omega)
 have hM9:M < B9:=by rw[<-hM];exact Nat.div_lt_self (by decide) (by omega)
 have hMx:x*M < B9^(m+1):=by
  have h1:=hf.canon.lt_pow;rw[hfv] at h1;rw[Nat.pow_succ];exact Nat.mul_lt_mul'' h1 hM9
 have hM1K:M < B9^K:=Nat.lt_of_lt_of_le hM9 (by
  have:=Nat.pow_le_pow_right (n:=B9) (by decide) (show 1<=K by omega)
  rwa [Nat.pow_one] at this)
 have hsc:=fun n v (hv:Canon B9 v n) (hvv:vf B9 v n=y*M)=>yi6 (B:=B9) (by decide) hgl hgv.symm hxt hxt0 hM.symm hv hvv;have hmulb:=fun W (hW:New w W) fv (hfv:IsD W fv M)=>yah K vb fv y M W (hbD.new hW) hfv (by omega) hy hM1K;have hmula:=fun W (hW:New w W) fv (hfv:IsD W fv M)=>yah K va fv x M W (haD.new hW) hfv (by omega) hx hM1K;obtain ⟨x1,hx1⟩:∃ z,xt+1=z:=⟨_,rfl⟩;obtain ⟨d1,d2, -, -⟩:=divd 1000000000 x1
 have hM':1000000000 / x1=M:=by rw[<-hx1];exact hM
 rw[hM']at d1 d2
 have hxi:(xt:Int)+1=(x1:Int):=by omega
 have d1':(1000000000:Int) / (x1:Int)=(M:Int):=d1;have d2':Int.tdiv (1000000000:Int) (x1:Int)=(M:Int):=d2
 have dn:((x1:Int)==0)=false:=by simp;omega
 have dn2:(x1:Int)≠0:=by omega
 have dn3:(0:Int) < (x1:Int):=by omega
 have xti:(xt:Int) < 1000000000:=by unfold B9 at hxt9;omega
 have hMi:(M:Int) < 1000000000:=by unfold B9 at hM9;omega
 obtain ⟨mq,hmq⟩:∃ mq,m+1=mq+(k+2):=⟨m - (k+1),by omega⟩
 have hgt:0 < g (k+1):=by rw[hxt];exact hxt0
 obtain ⟨i0,hi0,hz0,hz1,hz2⟩:=info_parts y3b;obtain ⟨⟨aa,ca,⟨rfl, -⟩, -, -⟩, -⟩:=hf;obtain ⟨⟨ab,cb,⟨rfl, -⟩,hrb, -⟩, -⟩:=hb;obtain ⟨b1,o1,rfl,hcell⟩:=hrb (k+1) (by omega);rw[hxt] at hcell;obtain ⟨n2,hn2⟩:∃ n,k+2=n:=⟨_,rfl⟩
 have hcell2:w.cell? ⟨b1,o1+(n2 - 1),none⟩=some (.int .i64 (xt:Int)):=by rw[show n2 - 1=k+1 by omega];exact hcell
 have hn2b:((n2:Int)==1)=false:=by simp;omega
 have hn21:(1:Int) < (n2:Int):=by omega
 have hmi:(m:Int)<=90000:=by omega
 have hni:(n2:Int)<=90000:=by omega
 rw[hn2]at hcmp;simp only[hn2] at hmulb;rw[hn2];clear hcell hrb hcc hc d1 d2 hM' hM hx1 hxt9 hbD haD hxt;have HGT:=hid hgt;have HCMP:=hid hcmp;have HSC:=hid hsc;have HMB:=hid hmulb;have HMA:=hid hmula;have HC:=hid hcell2;have HMQ:=hid hmq;have HFV:=hid hfv;have HFL:=hid hfl;have HGL:=hid hgl;have HMX:=hid hMx;have HM0:=hid hM0;have HM9:=hid hM9;have HM1K:=hid hM1K;have HGV:=hid hgv;have HLE:=hid hle;have HMK:=hid hmk;have HM:=hid hm;have HK:=hid hk;have HN2:=hid hn2;have HX:=hid hx;have HY:=hid hy;have HXT0:=hid hxt0;have HKK:=hid hK;have D1:=hid d1';have D2:=hid d2';have DN:=hid dn;have DN2:=hid dn2;have DN3:=hid dn3;have HXI:=hid hxi;have XTI:=hid xti;have HMI:=hid hMi;have HN21:=hid hn21;have HMII:=hid hmi;have HNI:=hid hni;clear hgt hcmp hsc hmulb hmula hcell2 hmq hfv hfl hgl hMx hM0 hM9 hM1K hgv hle hmk hm hk hn2 hx hy hxt0 hK d1' d2' dn dn2 dn3 hxi xti hMi hn21 hmi hni;go_enter Tryz.func171,Tryz.ntmps171;go_wp2_with fail;refine HCMP.out.mono ?_;rintro e w1 ⟨hn,rfl⟩;have hcell:=hn.cell HC.out;have HN:=hid hn;clear hn;go_upto_region 6 with (fail);clear hcn hcd hn2b;have d1:=D1.out;have d2:=D2.out;have dn:=DN.out;have dn2:=DN2.out;have dn3:=DN3.out;have hxi:=HXI.out;have xti:=XTI.out;have hMi:=HMI.out;have hn21:=HN21.out;have hni:=HNI.out;go_wp2_with fail;clear d1 d2 dn dn2 dn3 hxi hn21 xti hMi hcell hni;have HN1:=HN;clear HN;obtain ⟨BF,HN⟩:=lay1 w1 3 #[.int .i64 (M:Int)];have HN_:=HN1.out.trans HN.out;clear HN HN1;have hfd:=ykb w1 3 M HM9.out (by have:=HM0.out;omega);have HN:=hid HN_;have HFD:=hid hfd;clear HN_ hfd;refine (HMB.out _ HN.out _ HFD.out).mono ?_;rintro e w2 ⟨vv,rfl,hn,hv⟩;replace BF:=bW BF hn;replace HFD:=hid (HFD.out.new hn);replace HN:=tW HN hn;clear hn;obtain ⟨nv,gv,hvd,hvv⟩:=hv;obtain ⟨-,hnk,hVK,hVle⟩:=HSC.out nv gv hvd.canon hvv
 have hnv:nv=n2:=by rw[hnk];exact HN2.out
 rw[hnv]at hvd hvv;clear hnk hnv;obtain ⟨⟨av,cv,⟨rfl,hc1,hc2,hc3⟩,hrv,hgvl⟩,hgv0⟩:=hvd;clear hc1 hc2 hc3 HSC HMB HCMP HC;have HVV:=hid hvv;have HVK:=hid hVK;have HVLE:=hid hVle;have HRV:=hid hrv;have HGVL:=hid hgvl;have HGV0:=hid hgv0;clear hvv hVK hVle hrv hgvl hgv0;go_wp2_with fail;have hna:=(New.refl w2).alloc (.cells #[] 3);have hown:=yjm w2 3 1;have HNA:=hid hna;have HOWN:=hid hown;clear hna hown;refine (HMA.out _ (HN.out.trans HNA.out) _ (HFD.out.new HNA.out)).mono ?_;rintro e w4 ⟨vm,rfl,hn,hm⟩;have hnW:=HNA.out.trans hn;have hown:=yc3 HOWN.out hn;obtain ⟨mu,fm,hmd,hmv⟩:=hm;have hmu:=y4c hmd.canon hmv HMX.out
 have hmu0:0 < mu:=by
  rcases Nat.eq_zero_or_pos mu with h | h
  ·exfalso;rw[h,y14] at hmv
   have h1:0 < y:=by
    have h2:=(show vf B9 g (k+2)=y from HGV.out);rw[y03] at h2;have h3:=HXT0.out;have h4:0 < g (k+1)*B9^(k+1):=Nat.mul_pos HGT.out (Nat.pow_pos (by decide));omega
   have:=Nat.mul_pos (show 0 < x by have:=HLE.out;omega) HM0.out;omega
  ·exact h
 obtain ⟨⟨am,cm,⟨rfl,hm1,hm2,hm3⟩,hrm,hfml⟩, -⟩:=hmd;have hrl:=rd_ds hrm;obtain ⟨ad,rfl,hsrc⟩:=hrl.src (by rw[yh0];exact hmu0)
 have hlen:(ds fm mu).length=mu*1:=by rw[yh0,Nat.mul_one]
 have hmub:mu<=100000:=by have:=HKK.out;have:=HM.out;omega
 have hcl:=yow fm mu;have hpl:=fun j=>y8y (n:=mu) (g:=fm) (B:=B9) (by decide) hfml j;have hpe:=ylp (f:=fm) (g:=padded fm mu) (k:=mu) fun i hi=>(y4j hi).symm
 have hpv:vf B9 (padded fm mu) mu=x*M:=by rw[<-hmv];exact y0s fun i hi=>y4j hi
 obtain ⟨fo,hfo⟩:∃ fo,padded fm mu=fo:=⟨_,rfl⟩;rw[hfo] at hpe hpv;simp only[hfo] at hpl
 have hb1:0+mu<=maxLen:=by unfold maxLen;omega
 have hb2:(0+mu)*8<=140737488355328:=by omega
 have hb3:w2.heap.size<=w4.heap.size:=hnW.size;clear hn hm1 hm2 hm3 hrm hfml hrl hmv hfo HOWN HNA HMA;have HNW:=hid hnW;have HOWN:=hid hown;have HSRC:=hid hsrc;have HLEN:=hid hlen;have HCL:=hid hcl;have HB1:=hid hb1;have HB2:=hid hb2;have HB3:=hid hb3;have HMU:=hid hmu;have HMU0:=hid hmu0;have HMUB:=hid hmub;have HPL:=hid hpl;have HPE:=hid hpe;have HPV:=hid hpv;clear hnW hown hsrc hlen hcl hb1 hb2 hb3 hmu hmu0 hmub hpl hpe hpv;go_wp2_with (at_builtin;refine wpList_append_own _ rfl _ _ 24 rfl w2.heap.size 3 i0 (.int .i64 0) 1 8 Tryz.underlying24 hi0 hz0 hz1 hz2 rfl (by decide) _ 0 [] rfl HOWN.out ad mu cm (ds fm mu) rfl HLEN.out HSRC.out HCL.out HB1.out HB2.out HB3.out ?_);intro v' w5 hown' hgrow _;have hN5:=ya2 HNW.out HOWN.out hgrow;rw[HPE.out] at hown';clear hgrow HNW HOWN HSRC HLEN HCL HB1 HB2 HB3 HPE;have HN5:=hid hN5;have HO5:=hid hown';clear hN5 hown';go_wp2_with fail;obtain ⟨N1,hN1⟩:∃ z,m+1=z:=⟨_,rfl⟩;have hmii:=HMII.out
 have hN1i:(m:Int)+1=(N1:Int):=by omega
 have hmuN:mu<=N1:=by have:=HMU.out;omega
 have hN1b:N1<=90001:=by have:=HMII.out;omega
 have HN1:=hid hN1;have HMUN:=hid hmuN;have HN1B:=hid hN1b;clear hN1 hmuN hN1b;go_loopw [11] (fun v wr=>∃ (n:Nat) (o:Nat->Nat),0 < n/\n<=N1/\Hid (wr.ownsRow w2.heap.size 3 1 v n (ds o n))/\Hid (New w2 wr)/\Hid (∀ j,o j < B9)/\Hid (vf B9 o n=x*M)) (fun v _=>N1 - lenOf v)
 case atStart=>exact ⟨mu,fo,HMU0.out,HMUN.out,HO5,HN5,HPL,HPV⟩
 case round=>
  clear HMUN HO5 HN5 HPL HPV HMU HMU0 HMUB;obtain ⟨n,o,hn0,hnN,HO,HNR,HB,HV⟩:=hrel;obtain ⟨a5,c5,⟨rfl, -⟩, -⟩:=yjd HO.out;by_cases hlt:n < N1
  ·have hlti:(n:Int) < (N1:Int):=by omega
   have hltb:decide ((n:Int) < (N1:Int))=true:=decide_eq_true hlti;have hdn:=y6j (k:=n) HB.out (show 0 < B9 by decide)
   have hvn:vf B9 (upd o n 0) (n+1)=x*M:=by rw[y03,upd_same,y0o (Nat.le_refl _),Nat.zero_mul,Nat.add_zero];exact HV.out
   have hk63:n+1<=maxLen:=by have:=HN1B.out;unfold maxLen;omega
   have hk47:(n+1)*8<=140737488355328:=by have:=HN1B.out;omega
   have HDN:=hid hdn;have HVN:=hid hvn;have HK63:=hid hk63;have HK47:=hid hk47;clear hdn hvn hk63 hk47;go_wp2_with (at_builtin;refine wpList_append_own _ rfl _ _ 24 rfl w2.heap.size 3 i0 (.int .i64 0) 1 8 Tryz.underlying24 hi0 hz0 hz1 hz2 rfl (by decide) _ _ _ rfl (HO.out.alloc _) ⟨wr.heap.size,0,none⟩ 1 1 [.int .i64 0] rfl rfl (y3i _ _ _) (y4m _) HK63.out HK47.out (by have:=HNR.out.size;rw[<-size_alloc];omega) ?_);intro v' w9 hown' hgrow _;have hN1':=y11 HNR.out HO.out hgrow
   have hown':w9.ownsRow w2.heap.size 3 1 v' (n+1) (ds (upd o n 0) (n+1)):=by rw[y4b];exact hown'
   clear hgrow;have HN1':=hid hN1';have HO1:=hid hown';clear hN1' hown';go_wp2_with fail;go_roundw
   case rel=>exact ⟨n+1,upd o n 0,by omega,by omega,HO1,HN1',HDN,HVN⟩
   case measure=>
    obtain ⟨a6,c6,⟨e6, -⟩, -⟩:=yjd HO1.out;simp[lenOf,e6];omega
  ·have hnN':n=N1:=by omega
   subst hnN'
   have hnlt:¬(n:Int) < (n:Int):=by omega
   have hnlb:decide ((n:Int) < (n:Int))=false:=decide_eq_false hnlt
   have hq1:n=mq+n2:=by have:=HN1.out;have:=HMQ.out;have:=HN2.out;omega
   have hqi:(n:Int) - (n2:Int)=(mq:Int):=by omega
   have hmq0:0 < mq:=by have:=HMK.out;have:=HN1.out;have:=HN2.out;omega
   have hnb:n<=90001:=HN1B.out;have hni:=HNI.out
   have hnbi:(n:Int)<=90001:=by omega
   have hmqi:(mq:Int)<=90001:=by omega
   have hmk':=fun W=>run_make_row' (P:=Tryz.prog) 24 3 (.int .i64 0) 8 Tryz.underlying24 y3b rfl .i64 .i64 mq (by omega) (by omega) W;obtain ⟨bu,cu,e5,hbu,hcu,hcm,hrow⟩:=RowZ.of_own (o:=o) HO.out hn0 (fun i hi=>by simp[ds,hi]);injection e5 with e5 e6 e7;subst e5 e7
   have hgs:∀ (W:World) (o:Nat->Nat) (jj:Nat),New w2 W->RowZ W bu 3 n (fun i=>(o i:Int))->(∀ i,o i < B9)->jj+n2 < n->vf B9 (fun i=>o (jj+1+i)) n2 < vf B9 gv n2->
     Calls Tryz.prog 221 #[.slice (some ⟨bu,0,none⟩) n c5,.slice av n2 cv,.int .i64 (jj:Int)] W (yb6 W (fun i=>o (jj+i)) gv k):=by
    intro W o jj h1 h2 h3 h4 h5;have e2:=HN2.out;have a1:=HGVL.out;have a2:=HGV0.out;have a3:=HRV.out.new h1;subst e2;exact yi0 _ _ n c5 cv k jj o gv W (by omega) h4 h2.rd a3 h3 a1 (a2 (by omega)) h5
   have hDv:=Dv.start (W:=B9) (m:=m) (k:=k) (mq:=mq) (A:=x) (V:=y*M) (M:=M) (K:=xt*M) (f:=f) (g:=gv) (o:=o) (by decide) (Nat.le_mul_of_pos_left M HXT0.out) HM0.out HMQ.out HFL.out HFV.out.symm HB.out
    (by rw[HN1.out];exact HV.out) HVK.out
   have HGS:=hid hgs;have HD:=hid hDv;have HROW:=hid hrow;have HBU:=hid hbu;have HCU:=hid hcu;have HCM:=hid hcm;have HQ1:=hid hq1;have HMQ0:=hid hmq0;clear hgs hDv hrow hbu hcu hcm hq1 hmq0;clear hn0 hnN hnb HMX HGT HVK HXT0 HFL HFV HLE HMK HM1K HX HY;go_wp2_with fail;clear hmk' hqi hnlt hnlb hni;obtain ⟨bq,hbq⟩:∃ B,B=wr.heap.size:=⟨_,rfl⟩;have hq0:=Row.made wr .i64 mq 3;have hrow0:=HROW.out.new ((New.refl wr).alloc (.cells (madeCells #[.int .i64 0] mq) 3));have hnew0:=HNR.out.alloc (.cells (madeCells #[.int .i64 0] mq) 3)
   have hne:bq≠bu:=by have:=HROW.out.lt;omega
   have hbq2:w2.heap.size<=bq:=by rw[hbq];exact HNR.out.size
   rw[<-hbq]at hq0⊢;generalize wr.alloc (.cells (madeCells #[.int .i64 0] mq) 3)=w7 at hq0 hrow0 hnew0⊢;clear HROW HO HNR HB HV;have HQ0:=hid hq0;have HROW0:=hid hrow0;have HNEW0:=hid hnew0;have HNE:=hid hne;have HBQ:=hid hbq2;have HBQE:=hid hbq;clear hq0 hrow0 hnew0 hne hbq2 hbq;go_loopw [13] (fun sj wx=>∃ (jj:Nat) (o qf:Nat->Nat),jj<=mq/\sj=.int .i64 ((jj:Int) - 1)/\Hid (RowZ wx bu 3 n (fun i=>(o i:Int)))/\Hid (Row wx bq 3 .i64 mq qf)/\Hid (New w2 wx)/\Hid (Dv B9 m k mq jj (x*M) (y*M) gv o qf)) (fun sj _=>(intOf sj+1).toNat)
   case atStart=>exact ⟨mq,o,fun _=>0,Nat.le_refl _,rfl,HROW0,HQ0,HNEW0,HD⟩
   case round=>
    clear HROW0 HQ0 HNEW0 HD HBQE;obtain ⟨jj,o,qf,hjj,rfl,HR,HQ,HN5,HD⟩:=hrel;rcases Nat.eq_zero_or_pos jj with h0 | h0
    ·subst h0;obtain ⟨hz0,hfin,hflt⟩:=HD.out.finish HMQ.out HMQ0.out;have hun:=yob HM0.out hfin hflt;have hRK:=Nat.lt_of_lt_of_le hflt HVLE.out;have hol:=HD.out.ol;have hql:=HD.out.ql;rw[HN2.out] at hun hRK;have hud:DgN wr (.slice (some ⟨bu,0,none⟩) n2 c5) n2 o:=⟨_,_,⟨rfl,by have:=HQ1.out;have:=HCU.out;omega,HCM.out,fun h=>by cases h⟩,(HR.out.le (by have:=HQ1.out;omega)).rd,fun i _=>hol i⟩;have hqd:DgN wr (.slice (some ⟨bq,0,none⟩) mq mq) mq qf:=⟨_,_,⟨rfl,Nat.le_refl _,by unfold maxLen;omega,fun h=>by cases h⟩,HQ.out.rd,fun i _=>hql i⟩;have hcf:=(BF.out.new HN5.out).cell 0;have hcf:wr.cell? ⟨w1.heap.size,0,none⟩=some (.int .i64 (M:Int)):=hcf;have htu:=fun W (h:New wr W)=>y3q _ n2 o W (hud.new h);have htq:=fun W (h:New wr W)=>y3q _ mq qf W (hqd.new h);have hni:=HNI.out
     have hn2c:(n2:Int)<=(c5:Int):=by have:=HQ1.out;have:=HCU.out;omega
     have hcmi:(c5:Int)<=9223372036854775807:=by have:=HCM.out;unfold maxLen at this;omega
     clear hud hqd hz0 hfin hflt hol hql hjj;have HUN:=hid hun;have HRK:=hid hRK;have HTU:=hid htu;have HTQ:=hid htq;clear hun hRK htu htq;go_wp2_with fail;refine y00 12 (fun W=>W.cell? ⟨w1.heap.size,0,none⟩=some (.int .i64 (M:Int))) 13 #[false,false,false,false,false,false,false,false,false,false,false,false,false] rfl (by kernel_rfl) (by kernel_rfl) ?_;refine tk 0 (by exact hcf) ?_
     try simp only[PE,PT]
     refine tk 1 (by exact hcf) ?_
     try simp only[PE,PT]
     refine tk 2 (by exact hcf) ?_
     try simp only[PE,PT]
     refine tk 4 (by exact hcf) ?_
     try simp only[PE,PT]
     refine tk 5 (by exact hcf) ?_
     try simp only[PE,PT]
     refine tk 6 (by exact hcf) ?_
     try simp only[PE,PT]
     refine tk1 3 fun K hK=>?_
     try simp only[PE]
     go_simp;refine (HTU.out _ ((New.refl wr).drew)).mono ?_;rintro e w9 ⟨hw9,v9,n9,rfl, -,hd9,hv9⟩;rw[<-hw9];have hvd:IsD wr.drew v9 (vf B9 o n2):=⟨n9,o,hd9,hv9⟩;obtain ⟨a9,l9,c9,rfl⟩:=hvd.shape;clear hw9 hd9 hv9;have HVD:=hid hvd;clear hvd;refine hK.out _ _ (fun _=>hcf) ?_;clear hK K
     try simp only[PE,PT]
     refine tk1 7 fun K hK=>?_
     try simp only[PE]
     go_simp;refine (y9a (k+2) _ _ M _ HVD.out (by have:=HK.out;have:=HKK.out;omega) (by have h:=HRK.out;have e:=HN2.out;rw[e];exact h) HM0.out HM9.out).mono ?_;rintro e w10 ⟨v10,rfl,hn,hq10⟩;have hn10:=hn.undr;have hcf:=hn10.cell hcf;obtain ⟨a10,l10,c10,rfl⟩:=hq10.shape;clear hn;have HN10:=hid hn10;have HQ10:=hid hq10;clear hn10 hq10;refine hK.out _ _ (fun _=>hcf) ?_;clear hK K
     try simp only[PE,PT]
     refine tk 8 (by exact hcf) ?_
     try simp only[PE,PT]
     refine tk 9 (by exact hcf) ?_
     try simp only[PE,PT]
     refine tk 10 (by exact hcf) ?_
     try simp only[PE,PT]
     refine tk 11 (by exact hcf) ?_
     try simp only[PE,PT]
     refine tlW ?_;clear hcf;go_wp2_with fail;refine (HTQ.out _ HN10.out).mono ?_;rintro e w11 ⟨hw11,v11,n11,rfl, -,hd11,hv11⟩;rw[<-hw11];have hqd:IsD w10 v11 (vf B9 qf mq):=⟨n11,qf,hd11,hv11⟩;obtain ⟨a11,l11,c11,rfl⟩:=hqd.shape;have hNF:=HN.out.trans (HN5.out.trans HN10.out);clear hw11 hd11 hv11;have HNF:=hid hNF;have HQD:=hid hqd;clear hNF hqd;go_wp2_with fail;go_ret2;exact ⟨_,_,rfl,HNF.out,by rw[<-HUN.out.1];exact HQD.out,by rw[<-HUN.out.2];exact HQ10.out⟩
    ·obtain ⟨j,rfl⟩:∃ j,jj=j+1:=⟨jj - 1,by omega⟩
     have hji:((j+1:Nat):Int) - 1=(j:Int):=by omega
     rw[hji]
     have hj0:(0:Int)<=(j:Int):=by omega
     have hjb:decide ((0:Int)<=(j:Int))=true:=decide_eq_true hj0
     have hjN:j+n2 < n:=by have:=HQ1.out;omega
     have hjmi:(j:Int)<=90001:=by omega
     have hol:=HD.out.ol
     have hgc:=HGS.out wr o j HN5.out HR.out hol hjN (by
      have:=HD.out.low;rw[HN2.out] at this;have e:=HVV.out;rw[e]
      exact this)
     have HGC:=hid hgc;have HOL:=hid hol;have HJN:=hid hjN;have HJJ:=hid hjj;clear hgc hol hjN hjj;go_wp2_with fail;refine HGC.out.mono ?_;rintro e w8 ⟨hn,t,rfl,hfit⟩;have HR_:=HR.out.new hn;have HQ_:=HQ.out.new hn;have HN_:=HN5.out.trans hn;have ht9:=hfit.hh
     have hti:(t:Int) < 1000000000:=by unfold B9 at ht9;omega
     clear HR HQ HN5 HGC hn hjb hj0;have HR8:=hid HR_;have HQ8:=hid HQ_;have HN8:=hid HN_;have HFIT:=hid hfit;have HT9:=hid ht9;clear HR_ HQ_ HN_ hfit ht9;go_wp2_with fail;go_loopw [15,16] (fun sb si wx=>∃ (i c:Nat) (p:Nat->Nat),i<=n2/\si=.int .i64 (i:Int)/\sb=.int .i64 (c:Int)/\(c:Int)<=1000000000/\Hid (RowZ wx bu 3 n (fun i=>(p i:Int)))/\Hid (Row wx bq 3 .i64 mq qf)/\Hid (New w2 wx)/\Hid (∀ j,p j < B9)/\Hid (∀ a,(a < j\/j+i<=a)->p a=o a)/\Hid (vf B9 (fun a=>p (j+a)) i+t*vf B9 gv i=vf B9 (fun a=>o (j+a)) i+c*B9^i)) (fun _ si _=>n2 - (intOf si).toNat)
     case atStart=>exact ⟨0,0,o,Nat.zero_le _,rfl,rfl,by omega,HR8,HQ8,HN8,HOL,hid (fun _ _=>rfl),hid (by simp[y14])⟩
     case round=>
      clear HR8 HQ8 HN8;obtain ⟨i,c,p,hi,rfl,rfl,hci,HR,HQ,HN5,HP,HOUT,HV⟩:=hrel;by_cases hin:i < n2
      ·obtain ⟨bv,ov,rfl,hcv⟩:=(HRV.out.new HN5.out) i hin;have hjN:=HJN.out;have hcu:=HR.out.cell (i:=i+j) (by omega);have hfr:=HR.out.frozen (i+j)
       have hpo:p (i+j)=o (j+i):=by rw[Nat.add_comm];exact HOUT.out (j+i) (.inr (Nat.le_refl _))
       rw[hpo]at hcu;have hy9:=HGVL.out i hin;have hu9:=HOL.out (j+i);obtain ⟨y',hy'⟩:∃ z,gv i=z:=⟨_,rfl⟩;obtain ⟨u',hu'⟩:∃ z,o (j+i)=z:=⟨_,rfl⟩;rw[hy'] at hcv hy9;rw[hu'] at hcu hu9;obtain ⟨a,ha⟩:∃ a,t*y'=a:=⟨_,rfl⟩;obtain ⟨s,hs⟩:∃ s,a+c=s:=⟨_,rfl⟩;obtain ⟨ha18,hs18⟩:=ylg HT9.out hy9 (by unfold B9;omega) ha hs;obtain ⟨q',r',hqr,hr9,e1,e2,e3,e4⟩:=div9 s
       have hq9:q' < B9:=by
        rcases Nat.lt_or_ge q' B9 with h | h
        ·exact h
        ·have:=Nat.mul_le_mul_left B9 h;omega
       have i1:(t:Int)*(y':Int)=(a:Int):=by rw[<-ha,Int.natCast_mul]
       have i2:(a:Int)+(c:Int)=(s:Int):=by omega
       have i3:(a:Int)<=999999998000000001:=by omega
       have i4:(s:Int) < 1000000000000000000:=by unfold B9 at hs18;omega
       have i5:(y':Int) < 1000000000:=by unfold B9 at hy9;omega
       have i6:(u':Int) < 1000000000:=by unfold B9 at hu9;omega
       have i7:(r':Int) < 1000000000:=by unfold B9 at hr9;omega
       have i8:(q':Int) < 1000000000:=by unfold B9 at hq9;omega
       have hini:(i:Int) < (n2:Int):=by omega
       have hinb:decide ((i:Int) < (n2:Int))=true:=decide_eq_true hini;have hni:=HNI.out
       have hjni:(i:Int)+(j:Int) < (n:Int):=by omega
       obtain ⟨z,hz⟩:∃ z:Int,(u':Int) - (r':Int)=z:=⟨_,rfl⟩;by_cases hneg:u' < r'
       ·obtain ⟨d,hd⟩:∃ d,u'+B9 - r'=d:=⟨_,rfl⟩
        have hd9:d < B9:=by unfold B9 at *;omega
        have z0:z < 0:=by omega
        have z1:decide (z < 0)=true:=decide_eq_true z0
        have z2:z+1000000000=(d:Int):=by unfold B9 at hd;omega
        have z3: -1000000000 < z:=by omega
        have d9:(d:Int) < 1000000000:=by unfold B9 at hd9;omega
        have hst:d+t*gv i+c=o (j+i)+B9*(q'+1):=by rw[hy',hu',ha];unfold B9 at *;omega
        obtain ⟨c9,hc9⟩:∃ z,q'+1=z:=⟨_,rfl⟩;rw[hc9] at hst
        have hci2:(q':Int)+1=(c9:Int):=by omega
        have hci3:(c9:Int)<=1000000000:=by omega
        clear hc9;clear hy9 hu9 hy' hu' ha hs hqr hr9 hq9 hs18 ha18 hd hpo hneg;have HST:=hid hst;have HD9:=hid hd9;clear hst hd9;go_wp2_with fail;clear hcv hcu hfr;go_roundw
        case rel=>
         refine ⟨i+1,c9,upd p (i+j) d,by omega,by go_num,by first | rfl | go_num,by omega,hid ?_,hid (HQ.out.other (p:=⟨bu,i+j,none⟩) HNE.out _),hid (HN5.out.setCell (p:=⟨bu,i+j,none⟩) HBU.out _),hid (y2a HP.out HD9.out),hid (fun a ha=>?_),hid ?_⟩
         ·have:=HR.out.set (i+j) (d:Int);rw[y8q] at this;exact this
         ·rw[y0a _ _ (by omega)];exact HOUT.out a (by omega)
         ·rw[Nat.add_comm i j];exact y9g (B:=B9) (p:=p) (u:=fun a=>o (j+a)) (g:=gv) (j:=j) (i:=i) (t:=t) (c:=c) (d:=d) (_lo := 0) (c':=c9) HV.out HST.out
        case measure=>simp[intOf];omega
       ·obtain ⟨d,hd⟩:∃ d,u' - r'=d:=⟨_,rfl⟩
        have hd9:d < B9:=by unfold B9 at *;omega
        have z0:z=(d:Int):=by omega
        subst z0
        have z1:¬(d:Int) < 0:=by omega
        have z2:decide ((d:Int) < 0)=false:=decide_eq_false z1
        have d9:(d:Int) < 1000000000:=by unfold B9 at hd9;omega
        have hst:d+t*gv i+c=o (j+i)+B9*q':=by rw[hy',hu',ha];unfold B9 at *;omega
        clear hy9 hu9 hy' hu' ha hs hqr hr9 hq9 hs18 ha18 hd hpo hneg;have HST:=hid hst;have HD9:=hid hd9;clear hst hd9;go_wp2_with fail;clear hcv hcu hfr;go_roundw
        case rel=>
         refine ⟨i+1,q',upd p (i+j) d,by omega,by go_num,by first | rfl | go_num,by omega,hid ?_,hid (HQ.out.other (p:=⟨bu,i+j,none⟩) HNE.out _),hid (HN5.out.setCell (p:=⟨bu,i+j,none⟩) HBU.out _),hid (y2a HP.out HD9.out),hid (fun a ha=>?_),hid ?_⟩
         ·have:=HR.out.set (i+j) (d:Int);rw[y8q] at this;exact this
         ·rw[y0a _ _ (by omega)];exact HOUT.out a (by omega)
         ·rw[Nat.add_comm i j];exact y9g (B:=B9) (p:=p) (u:=fun a=>o (j+a)) (g:=gv) (j:=j) (i:=i) (t:=t) (c:=c) (d:=d) (_lo := 0) (c':=q') HV.out HST.out
        case measure=>simp[intOf];omega
      ·obtain rfl:n2=i:=by omega
       have hnin:¬(n2:Int) < (n2:Int):=by omega
       have hninb:decide ((n2:Int) < (n2:Int))=false:=decide_eq_false hnin;have hjN:=HJN.out;have hcu:=HR.out.cell (i:=j+n2) (by omega);have hfr:=HR.out.frozen (j+n2);have hpo:p (j+n2)=o (j+n2):=HOUT.out _ (.inr (Nat.le_refl _));rw[hpo] at hcu;have hun9:=HOL.out (j+n2);obtain ⟨un,hun⟩:∃ z,o (j+n2)=z:=⟨_,rfl⟩;rw[hun] at hcu hun9
       have huni:(un:Int) < 1000000000:=by unfold B9 at hun9;omega
       have hni:=HNI.out
       have hjni:(j:Int)+(n2:Int) < (n:Int):=by omega
       have hjmq:j < mq:=by have:=HJJ.out;omega
       have hjmqi:(j:Int) < (mq:Int):=by omega
       obtain ⟨z,hz⟩:∃ z:Int,(un:Int) - (c:Int)=z:=⟨_,rfl⟩
       have z3: -1000000001 < z:=by omega
       have z4:z < 1000000000:=by omega
       clear hpo hun9;have HJMQ:=hid hjmq;clear hjmq;go_upto_region 29 with (fail);obtain ⟨w9,hw9⟩:∃ x,wr.setCell ⟨bu,j+n2,none⟩ (.int .i64 z)=x:=⟨_,rfl⟩;have hR9:=HR.out.set (j+n2) z;have hQ9:=HQ.out.other (p:=⟨bu,j+n2,none⟩) HNE.out (.int .i64 z);have hN9:=HN5.out.setCell (p:=⟨bu,j+n2,none⟩) HBU.out (.int .i64 z);rw[hw9] at hR9 hQ9 hN9⊢;clear hw9 hcu hfr HR HQ HN5 hnin hninb huni;have hcu:=hR9.cell (i:=j+n2) (by omega);rw[ydk] at hcu;by_cases hneg:un < c
       ·have z0:z < 0:=by omega
        have z1:decide (z < 0)=true:=decide_eq_true z0;have ht0:=yll (B:=B9) (by decide) HP.out HV.out (by omega);obtain ⟨t1,ht1⟩:∃ x,t - 1=x:=⟨_,rfl⟩
        have hti2:(t:Int) - 1=(t1:Int):=by omega
        have hti3:(t1:Int) < 1000000000:=by omega
        have HT1:=hid ht1;have HR9:=hid hR9;have HQ9:=hid hQ9;have HN9:=hid hN9;have HT0:=hid ht0;clear ht1 hR9 hQ9 hN9 ht0;go_wp2_with fail;clear hcu z1 hti2;go_loopw [19,20] (fun sc si wx=>∃ (i cc:Nat) (p2:Nat->Nat),i<=n2/\si=.int .i64 (i:Int)/\sc=.int .i64 (cc:Int)/\(cc:Int)<=1/\Hid (RowZ wx bu 3 n (updZ (fun i=>(p2 i:Int)) (j+n2) z))/\Hid (Row wx bq 3 .i64 mq qf)/\Hid (New w2 wx)/\Hid (∀ j,p2 j < B9)/\Hid (∀ a,(a < j\/j+i<=a)->p2 a=p a)/\Hid (vf B9 (fun a=>p2 (j+a)) i+cc*B9^i=vf B9 (fun a=>p (j+a)) i+vf B9 gv i)) (fun _ si _=>n2 - (intOf si).toNat)
        case atStart=>exact ⟨0,0,p,Nat.zero_le _,rfl,rfl,by omega,HR9,HQ9,HN9,HP,hid (fun _ _=>rfl),hid (by simp[y14])⟩
        case round=>
         clear HR9 HQ9 HN9;obtain ⟨i,cc,p2,hi,rfl,rfl,hcci,HR,HQ,HN5,HP2,HOUT2,HV2⟩:=hrel;by_cases hin:i < n2
         ·obtain ⟨bv,ov,rfl,hcv⟩:=(HRV.out.new HN5.out) i hin;have hcu:=HR.out.cell (i:=i+j) (by omega);have hfr:=HR.out.frozen (i+j)
          have hpo:p2 (i+j)=p (j+i):=by rw[Nat.add_comm];exact HOUT2.out (j+i) (.inr (Nat.le_refl _))
          rw[yij _ _ (by omega),hpo]at hcu;have hy9:=HGVL.out i hin;have hu9:=HP.out (j+i);obtain ⟨y',hy'⟩:∃ z,gv i=z:=⟨_,rfl⟩;obtain ⟨u',hu'⟩:∃ z,p (j+i)=z:=⟨_,rfl⟩;rw[hy'] at hcv hy9;rw[hu'] at hcu hu9;obtain ⟨s,hs⟩:∃ s,u'+y'+cc=s:=⟨_,rfl⟩;obtain ⟨q',r',hqr,hr9,e1,e2,e3,e4⟩:=div9 s
          have i2:(u':Int)+(y':Int)+(cc:Int)=(s:Int):=by omega
          have i5:(y':Int) < 1000000000:=by unfold B9 at hy9;omega
          have i6:(u':Int) < 1000000000:=by unfold B9 at hu9;omega
          have i4:(s:Int) < 3000000000:=by omega
          have i7:(r':Int) < 1000000000:=by unfold B9 at hr9;omega
          have i8:(q':Int)<=1:=by unfold B9 at *;omega
          have hini:(i:Int) < (n2:Int):=by omega
          have hinb:decide ((i:Int) < (n2:Int))=true:=decide_eq_true hini
          have hijn:(i:Int)+(j:Int) < (n:Int):=by omega
          have hst:r'+B9*q'=p (j+i)+gv i+cc:=by rw[hy',hu',hs];exact hqr
          clear hy9 hu9 hy' hu' hs hqr hpo z0 z3 z4 hz;have HST:=hid hst;have HD9:=hid hr9;clear hst hr9;go_wp2_with fail
          go_quiet (fail)
          have HR_:=HR.out.drewN nq;have HQ_:=HQ.out.drewN nq;have HN_:=HN5.out.drewN nq;obtain ⟨w12,hw12⟩:∃ x,wr.drewN nq=x:=⟨_,rfl⟩;rw[hw12] at HR_ HQ_ HN_⊢;clear hw12 hcu hcv hfr HR HQ HN5;have hcu:=HR_.cell (i:=i+j) (by omega);have hfr:=HR_.frozen (i+j);have HR:=hid HR_;have HQ:=hid HQ_;have HN5:=hid HN_;clear HR_ HQ_ HN_;go_wp2_with fail;clear hcu hfr;go_roundw
          case rel=>
           refine ⟨i+1,q',upd p2 (i+j) r',by omega,by go_num,rfl,i8,hid ?_,hid (HQ.out.other (p:=⟨bu,i+j,none⟩) HNE.out _),hid (HN5.out.setCell (p:=⟨bu,i+j,none⟩) HBU.out _),hid (y2a HP2.out HD9.out),hid (fun a ha=>?_),hid ?_⟩
           ·refine (HR.out.set (i+j) (r':Int)).congr fun a _=>?_;unfold updZ upd;dsimp only;by_cases e1:a=i+j
            ·rw[if_pos e1,if_neg (by omega),if_pos e1]
            ·rw[if_neg e1,if_neg e1]
           ·rw[y0a _ _ (by omega)];exact HOUT2.out a (by omega)
           ·rw[Nat.add_comm i j];exact yf4 HV2.out HST.out
          case measure=>simp[intOf];omega
         ·obtain rfl:n2=i:=by omega
          have hnin:¬(n2:Int) < (n2:Int):=by omega
          have hninb:decide ((n2:Int) < (n2:Int))=false:=decide_eq_false hnin;obtain ⟨hce,hDn⟩:=yh8 HD.out (by decide) HN2.out HFIT.out HVV.out HVLE.out HMQ.out HJMQ.out HP.out HP2.out HOUT.out HOUT2.out HV.out (by rw[hun];exact hneg) HV2.out (by omega);rw[hun] at hce;rw[HT1.out] at hDn
          have hzc:z+(cc:Int)=0:=by omega
          have hcu:=HR.out.cell (i:=j+n2) (by omega);rw[ydk] at hcu;have hfr:=HR.out.frozen (j+n2);clear hce hz hneg;have HDN:=hid hDn;clear hDn;go_upto_region 39 with (fail);obtain ⟨w12,hw12⟩:∃ x,wr.setCell ⟨bu,j+n2,none⟩ (.int .i64 0)=x:=⟨_,rfl⟩
          have hR12:=(HR.out.set (j+n2) 0).congr (g:=fun i=>((upd p2 (j+n2) 0 i:Nat):Int)) fun a _=>by
           unfold updZ upd;by_cases e1:a=j+n2
           ·rw[if_pos e1,if_pos e1];rfl
           ·rw[if_neg e1,if_neg e1,if_neg e1]
          have hQ12:=HQ.out.other (p:=⟨bu,j+n2,none⟩) HNE.out (.int .i64 0);have hN12:=HN5.out.setCell (p:=⟨bu,j+n2,none⟩) HBU.out (.int .i64 0);rw[hw12] at hR12 hQ12 hN12⊢;clear hw12 hcu hfr HR HQ HN5;have hqf:=hQ12.frozen j;have hqc:=hQ12.cell (i:=j) HJMQ.out;have HR9:=hid hR12;have HQ9:=hid hQ12;have HN9:=hid hN12;clear hR12 hQ12 hN12;go_wp2_with fail;clear hqf hqc;go_roundw
          case rel=>exact ⟨j,_,upd qf j t1,by have:=HJMQ.out;omega,rfl,hid (HR9.out.other (p:=⟨bq,j,none⟩) (Ne.symm HNE.out) _),hid (HQ9.out.set j t1),hid (HN9.out.setCell (p:=⟨bq,j,none⟩) HBQ.out _),HDN⟩
          case measure=>simp[intOf] <;> omega
       ·obtain ⟨d,hd⟩:∃ d:Nat,z=(d:Int):=⟨z.toNat,by omega⟩;subst hd
        have z0:¬(d:Int) < 0:=by omega
        have z1:decide ((d:Int) < 0)=false:=decide_eq_false z0;rw[y8q] at hR9;have hqf:=hQ9.frozen j;have hqc:=hQ9.cell (i:=j) HJMQ.out;have hDn:=ym3 HD.out HN2.out HFIT.out HVV.out HVLE.out HMQ.out HJMQ.out HP.out HOUT.out HV.out (by rw[hun];omega);rw[hun,show un - c=d by omega] at hDn;have HR9:=hid hR9;have HQ9:=hid hQ9;have HN9:=hid hN9;have HDN:=hid hDn;clear hR9 hQ9 hN9 hDn;go_wp2_with fail;clear hcu hqf hqc;go_roundw
        case rel=>exact ⟨j,_,upd qf j t,by have:=HJMQ.out;omega,rfl,hid (HR9.out.other (p:=⟨bq,j,none⟩) (Ne.symm HNE.out) _),hid (HQ9.out.set j t),hid (HN9.out.setCell (p:=⟨bq,j,none⟩) HBQ.out _),HDN⟩
        case measure=>simp[intOf] <;> omega
theorem y6q (K:Nat)(va vb:Value)(x y:Nat)(w:World)(ha:IsD w va x)(hb:IsD w vb y)(hK:K<=90000)(hx:x < B9^K)(hy:y < B9^K)(hy0:0 < y):
  Calls Tryz.prog 171 #[va,vb] w (y7e w (x / y) (x % y)):=by
 rcases Nat.lt_or_ge x y with h | h
 ·have:=yh4 K va vb x y w ha hb hK hx hy h;rw[Nat.div_eq_of_lt h,Nat.mod_eq_of_lt h];exact this
 ·have hb2:=hb;obtain ⟨n,g,hg,hgv⟩:=hb2;rcases Nat.lt_or_ge n 2 with h2 | h2
  ·have h3:=hg.canon.lt_pow;rw[hgv] at h3;have h4:B9^n<=B9^1:=Nat.pow_le_pow_right (by decide) (by omega);rw[Nat.pow_one] at h4;exact yld K va vb x y w ha hb hK hx (by omega) hy0 h
  ·obtain ⟨k,rfl⟩:∃ k,n=k+2:=⟨n - 2,by omega⟩;exact yhk K k va vb x y g w ha hg hgv hK hx hy h
theorem y7g (K:Nat)(va vb:Value)(x y:Nat)(w:World)(ha:IsD w va x)(hb:IsD w vb y)(hK:K<=90000)(hx:x < B9^K)(hy:y < B9^K):
  Calls Tryz.prog 99 #[va,vb] w (RetD w (Nat.gcd x y)):=by
 obtain ⟨G,hG⟩:∃ G,Nat.gcd x y=G:=⟨_,rfl⟩;rw[hG];obtain ⟨a1,l1,c1,rfl⟩:=ha.shape;obtain ⟨a2,l2,c2,rfl⟩:=hb.shape;have hst:∃ (x':Nat) (a1':Option Addr) (l1' c1':Nat) (a2':Option Addr) (l2' c2':Nat),Value.slice a1 l1 c1=.slice a1' l1' c1'/\Value.slice a2 l2 c2=.slice a2' l2' c2'/\IsD w (.slice a1 l1 c1) x'/\IsD w (.slice a2 l2 c2) y/\Nat.gcd x' y=G/\x' < B9^K/\y < B9^K/\New w w:=⟨x,_,_,_,_,_,_,rfl,rfl,ha,hb,hG,hx,hy,New.refl _⟩;clear ha hb hG hx hy;have HST:=hid hst;have HKK:=hid hK;clear hst hK;go_enter Tryz.func99,Tryz.ntmps99;go_wp2_with fail
 go_loopg [0,1] y (fun g va vb wr=>∃ (x':Nat) (a1':Option Addr) (l1' c1':Nat) (a2':Option Addr) (l2' c2':Nat),va=.slice a1' l1' c1'/\vb=.slice a2' l2' c2'/\IsD wr va x'/\IsD wr vb g/\Nat.gcd x' g=G/\x' < B9^K/\g < B9^K/\New w wr)
 case atStart=>exact HST.out
 case round=>
  clear HST;obtain ⟨x',a3,l3,c3,a4,l4,c4,rfl,rfl,h1,h2,h3,h4,h5,h6⟩:=hrel;rcases Nat.eq_zero_or_pos l4 with h0 | h0
  ·have hg0:gk=0:=by
    obtain ⟨n,f,⟨⟨a,c,⟨e, -⟩, -⟩, -⟩,hv⟩:=h2;injection e with e1 e2 e3;subst e2;subst h0;rw[<-hv];rfl
   subst hg0;rw[Nat.gcd_zero_right] at h3;rw[h3] at h1;subst h0;clear h2 h3 h4 h5;have H1:=hid h1;have H6:=hid h6;clear h1 h6;go_wp2_with fail;go_ret;exact ⟨_,rfl,H6.out,H1.out⟩
  ·have hg0:0 < gk:=by
    obtain ⟨n,f,hd,hv⟩:=h2
    have:=hd.canon.pos (by decide) (by
     obtain ⟨⟨a,c,⟨e, -⟩, -⟩, -⟩:=hd;injection e with e1 e2 e3
     omega)
    rw[hv]at this;exact this
   have hdv:=y6q K _ _ x' gk wr h1 h2 HKK.out h4 h5 hg0;have hml:=Nat.mod_lt x' hg0
   have hgc:Nat.gcd gk (x' % gk)=G:=by rw[<-h3,Nat.gcd_comm x' gk,Nat.gcd_rec gk x',Nat.gcd_comm]
   have h0i:(0:Int) < (l4:Int):=by omega
   have h0b:decide ((0:Int) < (l4:Int))=true:=decide_eq_true h0i;clear h1 h3 h4 hg0;have HDV:=hid hdv;have HML:=hid hml;have HGC:=hid hgc;have H2:=hid h2;have H5:=hid h5;have H6:=hid h6;clear hdv hml hgc h2 h5 h6;go_wp2_with fail;refine HDV.out.mono ?_;rintro e w2 ⟨vq,vr,rfl,hn,hq,hr⟩;obtain ⟨a5,l5,c5,rfl⟩:=hq.shape;obtain ⟨a6,l6,c6,rfl⟩:=hr.shape;have h2:=H2.out.new hn;have h6:=H6.out.trans hn;clear hq H2 H6 hn;have HR:=hid hr;have H2:=hid h2;have H6:=hid h6;clear hr h2 h6;go_wp2_with fail
   go_roundg (x' % gk)
   case measure=>exact HML.out
   case rel=>exact ⟨gk,_,_,_,_,_,_,rfl,rfl,H2.out,HR.out,HGC.out,H5.out,Nat.lt_trans HML.out H5.out,H6.out⟩
theorem y6a (x y:Nat)(w:World)(_hx:x < 9223372036854775808)(_hy:y < 9223372036854775808):
  Calls Tryz.prog 150 #[.int .i64 (x:Int),.int .i64 (y:Int)] w fun e w'=>e=.returned (.int .i64 (Nat.gcd x y:Nat))/\New w w':=by
 obtain ⟨G,hG⟩:∃ G,Nat.gcd x y=G:=⟨_,rfl⟩;rw[hG];go_enter Tryz.func150,Tryz.ntmps150;go_wp2_with fail;go_loopw [0,1] (fun sa sb wr=>∃ x' y':Nat,sa=.int .i64 (x':Int)/\sb=.int .i64 (y':Int)/\Hid (Nat.gcd x' y'=G)/\Hid (New w wr)) (fun _ sb _=>(intOf sb).toNat)
 case atStart=>exact ⟨x,y,rfl,rfl,hid hG,hid (New.refl _)⟩
 case round=>
  clear _hx _hy hG;obtain ⟨x',y',rfl,rfl,HG,HN⟩:=hrel;rcases Nat.eq_zero_or_pos y' with h0 | h0
  ·subst h0;have h:=HG.out;rw[Nat.gcd_zero_right] at h;subst h;go_wp2_with fail;go_ret;exact ⟨rfl,HN.out⟩
  ·obtain ⟨d1,d2,d3,d4⟩:=divd x' y';have hml:=Nat.mod_lt x' h0
   have hgc:Nat.gcd y' (x' % y')=G:=by rw[<-HG.out,Nat.gcd_comm x' y',Nat.gcd_rec y' x',Nat.gcd_comm]
   obtain ⟨r,hr⟩:∃ r,x' % y'=r:=⟨_,rfl⟩;rw[hr] at d3 d4 hml hgc
   have h0i:(0:Int) < (y':Int):=by omega
   have h0b:decide ((0:Int) < (y':Int))=true:=decide_eq_true h0i
   have h0e:((y':Int)==0)=false:=by simp;omega
   have h0n:(y':Int)≠0:=by omega
   clear hr d1 d2 h0;have HML:=hid hml;have HGC:=hid hgc;clear hml hgc;go_wp2_with fail
   go_quiet (fail)
   go_wp2_with fail;go_roundw
   case rel=>exact ⟨y',r,rfl,rfl,HGC,hid (HN.out.drewN _)⟩
   case measure=>simp[intOf];exact HML.out
end Go.Proofs.YtnjonlnemagomaaGreatDoor
namespace Go.Proofs.YtnjonlnemagomaaGreatDoor
open Go.RowKit Big Go.Lib
set_option maxRecDepth 100000
set_option maxHeartbeats 8000000
theorem ybd {f:Nat->Nat}{n k:Nat}(hk:k < n)(hl:∀ i,i < n->f i < B9):(decDigits (vf B9 (fun i=>f (k+i)) (n - k))).length<=9*(n - k):=by
 rw[decDigits_length,y0w (by omega)];have h1:vf B9 (fun i=>f (k+i)) (n - k) < B9^(n - k):=y4t fun i hi=>hl _ (by omega);rw[Nat.pow_mul];exact h1
theorem yh7 (b:Bool)(a:Option Addr)(c:Nat)(w:World):Calls Tryz.prog 153 #[.agg #[.bool b,.slice a 0 c]] w fun e w'=>e=.returned (.string (bs [48]))/\New w w':=by
 go_enter Tryz.func153,Tryz.ntmps153;go_wp2_with fail;obtain ⟨BA,HN⟩:=lay1 w 124 #[.bool b,.slice a 0 c];obtain ⟨p0,p1,p2,p3,p4⟩:=BA.out.two;go_wp2_with fail;go_ret;exact ⟨rfl,HN.out⟩
theorem yjf (a:Option Addr)(n c:Nat)(f:Nat->Nat)(x:Nat)(w:World)(hn0:0 < n)(hn:n<=90000)(hr:Rd w a .i64 n f)(hl:∀ i,i < n->f i < B9)(h0:f (n - 1)≠0)(hx:vf B9 f n=x):
  Calls Tryz.prog 153 #[.agg #[.bool false,.slice a n c]] w fun e w'=>e=.returned (.string (bs (decDigits x)))/\New w w':=by
 have hfew:=fun k (hk:k < n)=>ybd hk hl
 have hni:(n:Int)<=90000:=by omega
 have hn0i:(0:Int) < (n:Int):=by omega
 have hn0b:((n:Int)==0)=false:=by simp;omega
 obtain ⟨t,ht⟩:∃ t,f (n - 1)=t:=⟨_,rfl⟩;have ht9:=hl (n - 1) (by omega)
 have hstart:vf B9 (fun i=>f (n - 1+i)) (n - (n - 1))=t:=by
  rw[show n - (n - 1)=1 by omega];simp[vf,ht]
 have hcall:=fun W=>y1e t W (by rw[<-ht];unfold B9 at ht9;omega)
 have ht9i:(t:Int) < 1000000000:=by rw[ht] at ht9;unfold B9 at ht9;omega
 obtain ⟨b1,o1,rfl,hc0⟩:=hr (n - 1) (by omega);rw[ht] at hc0 h0;have HR:=hid hr;have HL:=hid hl;have H0:=hid h0;have HX:=hid hx;have HFEW:=hid hfew;have HCALL:=hid hcall;have HST:=hid hstart;have HC0:=hid hc0;have HT9:=hid ht9;have HT:=hid ht;clear hr hl h0 hx hfew hcall hstart hc0 ht9 ht;go_enter Tryz.func153,Tryz.ntmps153;go_upto_region 1 with (fail);obtain ⟨BA,HN⟩:=lay1 w 124 #[.bool false,.slice (some ⟨b1,o1,none⟩) n c];have hc0:=HN.out.cell HC0.out;obtain ⟨p0,p1,p2,p3,p4⟩:=BA.out.two;go_wp2_with fail;refine (HCALL.out _).mono ?_;rintro e w1 ⟨rfl,hn⟩;clear hc0 ht9i HC0;clear p0 p1 p2 p3 p4;replace BA:=bW BA hn;replace HN:=tW HN hn;clear hn;obtain ⟨p0,p1,p2,p3,p4⟩:=BA.out.two;go_wp2_with fail;clear p0 p1 p2 p3 p4;obtain ⟨w0,hw0⟩:∃ x,x=w1:=⟨_,rfl⟩;rw[<-hw0] at BA HN⊢;clear hw0;have HN0:=HN;have BA0:=BA;clear HN BA
 have hi0:(n:Int) - 2=((n - 1:Nat):Int) - 1:=by omega
 go_loopw [3,4] (fun ss si wr=>∃ k:Nat,k < n/\si=.int .i64 ((k:Int) - 1)/\ss=.string (bs (decDigits (vf B9 (fun i=>f (k+i)) (n - k))))/\Hid (vf B9 (fun i=>f (k+i)) (n - k)≠0)/\Hid (New w0 wr)) (fun _ si _=>(RowKit.intOf si+1).toNat)
 case atStart=>exact ⟨n - 1,by omega,by rw[hi0],by rw[HST.out],hid (by rw[HST.out];exact H0.out),hid (New.refl _)⟩
 case round=>
  clear hi0 HST HCALL;obtain ⟨k,hk,rfl,rfl,HZ,HN⟩:=hrel;obtain ⟨S,hS⟩:∃ S,bs (decDigits (vf B9 (fun i=>f (k+i)) (n - k)))=S:=⟨_,rfl⟩
  have hsz:S.size<=810000:=by rw[<-hS,y1d];have:=HFEW.out k hk;omega
  rw[hS];have hN0:=HN0.out.trans HN.out;rcases Nat.eq_zero_or_pos k with hk0 | hk0
  ·subst hk0
   have e:(fun i=>f (0+i))=f:=funext fun i=>by rw[Nat.zero_add]
   rw[e,Nat.sub_zero,HX.out]at hS
   have hq:¬9223372036854775807 < 1+S.size:=by omega
   replace BA0:=hid (BA0.out.new HN.out);clear HN HZ e;have HS:=hid hS;have HN9:=hid hN0;clear hS hN0;obtain ⟨p0,p1,p2,p3,p4⟩:=BA0.out.two;go_wp2_with fail;go_ret;exact ⟨by rw[HS.out];rfl,HN9.out⟩
  ·obtain ⟨j,rfl⟩:∃ j,k=j+1:=⟨k - 1,by omega⟩;obtain ⟨hst,hnz⟩:=yef (f:=f) (n:=n) (k:=j+1) (by omega) (by omega) HL.out HZ.out;rw[Nat.add_sub_cancel] at hst hnz
   have hji:((j+1:Nat):Int) - 1=(j:Int):=by omega
   have hj0:(0:Int)<=(j:Int):=by omega
   have hjb:decide ((0:Int)<=(j:Int))=true:=decide_eq_true hj0
   have hjn:(j:Int) < (n:Int):=by omega
   obtain ⟨b2,o2,e2,hc⟩:=HR.out j (by omega);injection e2 with e2;injection e2 with e2 e3;subst e2 e3;have hc:=hN0.cell hc;have hl9:=HL.out j (by omega);obtain ⟨t2,ht2⟩:∃ t,f j=t:=⟨_,rfl⟩;rw[ht2] at hc hl9 hst
   have hl9i:(t2:Int) < 1000000000:=by unfold B9 at hl9;omega
   have hcall:=fun W=>y72 t2 W hl9;obtain ⟨C,hC⟩:∃ C,bs (y0g 9 t2)=C:=⟨_,rfl⟩;simp only[hC] at hcall
   have hcs:C.size=9:=by rw[<-hC,y1d,y2y]
   have hq:¬9223372036854775807 < S.size+C.size:=by omega
   have hcat:S ++ C=bs (decDigits (vf B9 (fun i=>f (j+i)) (n - j))):=by
    rw[<-hS,<-hC,y2b];exact congrArg bs hst.symm
   have hBA:=BA0.out.new HN.out;rw[hji];clear hC hS hst hl9 ht2 hcs hN0 hsz HZ;have HCALL:=hid hcall;have HCAT:=hid hcat;have HNZ:=hid hnz;have BA:=hid hBA;clear hcall hcat hnz hBA;obtain ⟨p0,p1,p2,p3,p4⟩:=BA.out.two;go_wp2_with fail;refine (HCALL.out _).mono ?_;rintro e w2 ⟨rfl,hn⟩;clear p0 p1 p2 p3 p4;have hN2:=HN.out.trans hn;clear HN hn hc BA;have HN:=hid hN2;clear hN2;go_wp2_with fail;go_roundw
   case rel=>exact ⟨j,by omega,rfl,by rw[HCAT.out],HNZ,HN⟩
   case measure=>simp[RowKit.intOf] <;> omega
theorem yle (a:Option Addr)(n c:Nat)(f:Nat->Nat)(x:Nat)(w:World)(hn0:0 < n)(hn:n<=90000)(hr:Rd w a .i64 n f)(hl:∀ i,i < n->f i < B9)(h0:f (n - 1)≠0)(hx:vf B9 f n=x):
  Calls Tryz.prog 153 #[.agg #[.bool true,.slice a n c]] w fun e w'=>e=.returned (.string (bs (45::decDigits x)))/\New w w':=by
 have hfew:=fun k (hk:k < n)=>ybd hk hl
 have hni:(n:Int)<=90000:=by omega
 have hn0i:(0:Int) < (n:Int):=by omega
 have hn0b:((n:Int)==0)=false:=by simp;omega
 obtain ⟨t,ht⟩:∃ t,f (n - 1)=t:=⟨_,rfl⟩;have ht9:=hl (n - 1) (by omega)
 have hstart:vf B9 (fun i=>f (n - 1+i)) (n - (n - 1))=t:=by
  rw[show n - (n - 1)=1 by omega];simp[vf,ht]
 have hcall:=fun W=>y1e t W (by rw[<-ht];unfold B9 at ht9;omega)
 have ht9i:(t:Int) < 1000000000:=by rw[ht] at ht9;unfold B9 at ht9;omega
 obtain ⟨b1,o1,rfl,hc0⟩:=hr (n - 1) (by omega);rw[ht] at hc0 h0;have HR:=hid hr;have HL:=hid hl;have H0:=hid h0;have HX:=hid hx;have HFEW:=hid hfew;have HCALL:=hid hcall;have HST:=hid hstart;have HC0:=hid hc0;have HT9:=hid ht9;have HT:=hid ht;clear hr hl h0 hx hfew hcall hstart hc0 ht9 ht;go_enter Tryz.func153,Tryz.ntmps153;go_upto_region 1 with (fail);obtain ⟨BA,HN⟩:=lay1 w 124 #[.bool true,.slice (some ⟨b1,o1,none⟩) n c];have hc0:=HN.out.cell HC0.out;obtain ⟨p0,p1,p2,p3,p4⟩:=BA.out.two;go_wp2_with fail;refine (HCALL.out _).mono ?_;rintro e w1 ⟨rfl,hn⟩;clear hc0 ht9i HC0;clear p0 p1 p2 p3 p4;replace BA:=bW BA hn;replace HN:=tW HN hn;clear hn;obtain ⟨p0,p1,p2,p3,p4⟩:=BA.out.two;go_wp2_with fail;clear p0 p1 p2 p3 p4;obtain ⟨w0,hw0⟩:∃ x,x=w1:=⟨_,rfl⟩;rw[<-hw0] at BA HN⊢;clear hw0;have HN0:=HN;have BA0:=BA;clear HN BA
 have hi0:(n:Int) - 2=((n - 1:Nat):Int) - 1:=by omega
 go_loopw [3,4] (fun ss si wr=>∃ k:Nat,k < n/\si=.int .i64 ((k:Int) - 1)/\ss=.string (bs (decDigits (vf B9 (fun i=>f (k+i)) (n - k))))/\Hid (vf B9 (fun i=>f (k+i)) (n - k)≠0)/\Hid (New w0 wr)) (fun _ si _=>(RowKit.intOf si+1).toNat)
 case atStart=>exact ⟨n - 1,by omega,by rw[hi0],by rw[HST.out],hid (by rw[HST.out];exact H0.out),hid (New.refl _)⟩
 case round=>
  clear hi0 HST HCALL;obtain ⟨k,hk,rfl,rfl,HZ,HN⟩:=hrel;obtain ⟨S,hS⟩:∃ S,bs (decDigits (vf B9 (fun i=>f (k+i)) (n - k)))=S:=⟨_,rfl⟩
  have hsz:S.size<=810000:=by rw[<-hS,y1d];have:=HFEW.out k hk;omega
  rw[hS];have hN0:=HN0.out.trans HN.out;rcases Nat.eq_zero_or_pos k with hk0 | hk0
  ·subst hk0
   have e:(fun i=>f (0+i))=f:=funext fun i=>by rw[Nat.zero_add]
   rw[e,Nat.sub_zero,HX.out]at hS
   have hq:¬9223372036854775807 < 1+S.size:=by omega
   replace BA0:=hid (BA0.out.new HN.out);clear HN HZ e;have HS:=hid hS;have HN9:=hid hN0;clear hS hN0;obtain ⟨p0,p1,p2,p3,p4⟩:=BA0.out.two;go_wp2_with fail;go_ret;exact ⟨by have h:=y2b [45] (decDigits x);rw[HS.out] at h;exact congrArg (fun s=>Ending.returned (.string s)) h,HN9.out⟩
  ·obtain ⟨j,rfl⟩:∃ j,k=j+1:=⟨k - 1,by omega⟩;obtain ⟨hst,hnz⟩:=yef (f:=f) (n:=n) (k:=j+1) (by omega) (by omega) HL.out HZ.out;rw[Nat.add_sub_cancel] at hst hnz
   have hji:((j+1:Nat):Int) - 1=(j:Int):=by omega
   have hj0:(0:Int)<=(j:Int):=by omega
   have hjb:decide ((0:Int)<=(j:Int))=true:=decide_eq_true hj0
   have hjn:(j:Int) < (n:Int):=by omega
   obtain ⟨b2,o2,e2,hc⟩:=HR.out j (by omega);injection e2 with e2;injection e2 with e2 e3;subst e2 e3;have hc:=hN0.cell hc;have hl9:=HL.out j (by omega);obtain ⟨t2,ht2⟩:∃ t,f j=t:=⟨_,rfl⟩;rw[ht2] at hc hl9 hst
   have hl9i:(t2:Int) < 1000000000:=by unfold B9 at hl9;omega
   have hcall:=fun W=>y72 t2 W hl9;obtain ⟨C,hC⟩:∃ C,bs (y0g 9 t2)=C:=⟨_,rfl⟩;simp only[hC] at hcall
   have hcs:C.size=9:=by rw[<-hC,y1d,y2y]
   have hq:¬9223372036854775807 < S.size+C.size:=by omega
   have hcat:S ++ C=bs (decDigits (vf B9 (fun i=>f (j+i)) (n - j))):=by
    rw[<-hS,<-hC,y2b];exact congrArg bs hst.symm
   have hBA:=BA0.out.new HN.out;rw[hji];clear hC hS hst hl9 ht2 hcs hN0 hsz HZ;have HCALL:=hid hcall;have HCAT:=hid hcat;have HNZ:=hid hnz;have BA:=hid hBA;clear hcall hcat hnz hBA;obtain ⟨p0,p1,p2,p3,p4⟩:=BA.out.two;go_wp2_with fail;refine (HCALL.out _).mono ?_;rintro e w2 ⟨rfl,hn⟩;clear p0 p1 p2 p3 p4;have hN2:=HN.out.trans hn;clear HN hn hc BA;have HN:=hid hN2;clear hN2;go_wp2_with fail;go_roundw
   case rel=>exact ⟨j,by omega,rfl,by rw[HCAT.out],HNZ,HN⟩
   case measure=>simp[RowKit.intOf] <;> omega
theorem yf9 (K:Nat)(v:Value)(z:Int)(w:World)(h:IsZ w v z)(hK:K<=90000)(hz:z.natAbs < B9^K):Calls Tryz.prog 153 #[v] w fun e w'=>e=.returned (.string (bs (itoa z)))/\New w w':=by
 obtain ⟨b,a,n,c,rfl⟩:=h.shape;obtain ⟨hb,hd⟩:=h.parts;obtain ⟨n',f,hd,hv⟩:=hd;have hn:=y4c hd.canon hv hz;have hpos:=hd.canon.pos (by decide);obtain ⟨⟨a',cap,⟨e, -⟩,hr,hl⟩,h0⟩:=hd;injection e with e1 e2 e3;subst e1 e2 e3;rcases Nat.eq_zero_or_pos n with hn0 | hn0
 ·subst hn0
  have hz0:z=0:=by
   rw[y14]at hv;omega
  rw[hz0,show itoa 0=[48] by rw[show (0:Int)=((0:Nat):Int) from rfl,Big.itoa_nonneg,y1f]];exact yh7 b a c w
 ·have hzp:0 < z.natAbs:=by rw[<-hv];exact hpos (by omega)
  by_cases hneg:z < 0
  ·rw[hb,decide_eq_true hneg];have:=yle a n c f _ w hn0 (by omega) hr hl (h0 (by omega)) hv
   have e:itoa z=45::decDigits z.natAbs:=by
    have:=Big.itoa_neg (n:=z.natAbs) (by omega);rw[<-this];congr 1;omega
   rw[e];exact this
  ·rw[hb,decide_eq_false hneg];have:=yjf a n c f _ w hn0 (by omega) hr hl (h0 (by omega)) hv
   have e:itoa z=decDigits z.natAbs:=by
    rw[<-Big.itoa_nonneg];congr 1;omega
   rw[e];exact this
end Go.Proofs.YtnjonlnemagomaaGreatDoor
