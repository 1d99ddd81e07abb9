/- Part CardCal02. -/
import Derived.Test.YtbkcjmojgglbkaaGreatDoorCardCal01
namespace Go.Proofs.YtbkcjmojgglbkaaGreatDoor
open Go.RowKit Big Go.Lib
set_option maxRecDepth 100000
set_option maxHeartbeats 8000000
theorem rfraction_neg (K:Nat)(vn vd:Value)(x0 y0:Int)(w:World)(hx0:IsZ w vn x0)(hy0':IsZ w vd y0)(hK:K≤90000)(bx0:x0.natAbs < B9^K)(by0:y0.natAbs < B9^K)(hyn:y0 < 0):
  Calls Tryz.prog 110 #[vn,vd] w (RetS w (Rat.divInt x0 y0)):=by
 obtain ⟨sX,aX,lX,cX,rfl⟩:=hx0.shape;obtain ⟨sY,aY,lY,cY,rfl⟩:=hy0'.shape;have hsY:=hy0'.parts.1;rw[decide_eq_true hyn] at hsY;subst hsY;have hm1:=fun W (hW:New w W)=>rminus_calls _ x0 W (hx0.new hW);have hm2:=fun W (hW:New w W)=>rminus_calls _ y0 W (hy0'.new hW);obtain ⟨x,hxe⟩:∃ x, -x0=x:=⟨_,rfl⟩;obtain ⟨y,hye⟩:∃ y, -y0=y:=⟨_,rfl⟩
 have hdv:Rat.divInt x0 y0=Rat.divInt x y:=by rw[←hxe,←hye,Rat.neg_divInt_neg]
 rw[hdv];obtain ⟨R,hR⟩:∃ R,Rat.divInt x y=R:=⟨_,rfl⟩;rw[hR]
 have hy0:0 < y:=by omega
 have bx:x.natAbs < B9^K:=by rw[←hxe,Int.natAbs_neg];exact bx0
 have by':y.natAbs < B9^K:=by rw[←hye,Int.natAbs_neg];exact by0
 simp only[hxe]at hm1;simp only[hye] at hm2;clear hdv hxe hye hyn hx0 hy0' bx0 by0;have HRR:=hid hR;have HM1:=hid hm1;have HM2:=hid hm2;have HY0:=hid hy0;have HBX:=hid bx;have HBY:=hid by';have HKK:=hid hK;clear hR hm1 hm2 hy0 bx by' hK;go_enter Tryz.func110,Tryz.ntmps110;go_upto_region 1 with (fail);obtain ⟨BA,BB,HN⟩:=lay2 w 137 #[.bool sX,.slice aX lX cX] 137 #[.bool true,.slice aY lY cY];obtain ⟨pa0,pa1,pa2,pa3,pa4⟩:=BA.out.two;obtain ⟨pb0,pb1,pb2,pb3,pb4⟩:=BB.out.two;go_upto_region 2 with (fail);clear pa0 pa1 pa2 pa3 pa4;clear pb0 pb1 pb2 pb3 pb4;refine wp_region_T 4 (fun W=>(W.cell? ⟨w.heap.size,0,none⟩=some (.bool sX)∧W.cell? ⟨w.heap.size,1,none⟩=some (.slice aX lX cX))∧(W.cell? ⟨w.heap.size+1,0,none⟩=some (.bool true)∧W.cell? ⟨w.heap.size+1,1,none⟩=some (.slice aY lY cY))) 6 #[false,false,false,false,false,false] rfl (by kernel_rfl) (by kernel_rfl) ?_;refine tk 0 (by exact ⟨cW2 BA,cW2 BB⟩) ?_
 try simp only[PT]
 refine tk 2 (by exact ⟨cW2 BA,cW2 BB⟩) ?_
 try simp only[PT]
 refine tk1 1 fun K hK=>?_;go_simp;refine (HM1.out _ HN.out.drew).mono ?_;rintro e w1 ⟨v1,rfl,hn,hz1⟩;obtain ⟨sA,a1,l1,c1,rfl⟩:=hz1.shape;have hn:=hn.undr;have HZ1:=hid hz1;clear hz1;replace BA:=bW BA hn;replace BB:=bW BB hn;replace HN:=tW HN hn;clear hn;refine hK.out _ _ (fun _=>⟨cW2 BA,cW2 BB⟩) ?_;clear hK K
 try simp only[PT]
 refine tk1 3 fun K hK=>?_;go_simp;refine (HM2.out _ HN.out).mono ?_;rintro e w2 ⟨v2,rfl,hn,hz2⟩;obtain ⟨sB,a2,l2,c2,rfl⟩:=hz2.shape;have HZ2:=hid hz2;clear hz2;replace BA:=bW BA hn;replace BB:=bW BB hn;replace HZ1:=hid (HZ1.out.new hn);replace HN:=tW HN hn;clear hn;refine hK.out _ _ (fun _=>⟨cW2 BA,cW2 BB⟩) ?_;clear hK K
 try simp only[PT]
 refine tlW ?_;obtain ⟨pa0,pa1,pa2,pa3,pa4⟩:=BA.out.two;obtain ⟨pb0,pb1,pb2,pb3,pb4⟩:=BB.out.two;have pc:=BA.out.lt;have pd:=BB.out.lt;go_upto_region 3 with (fail);clear pa0 pa1 pa2 pa3 pa4 pb0 pb1 pb2 pb3 pb4;clear pc pd;have fA:=BA.out.noInt;have fB:=BB.out.noInt;have hx1:=HZ1.out.far fA (.bool sA) (.slice a1 l1 c1);have hy1:=HZ2.out.far fA (.bool sA) (.slice a1 l1 c1);have bA:=BA.out.put2 (.bool sA) (.slice a1 l1 c1);have bB:Box ((w2.setCell ⟨w.heap.size,0,none⟩ (.bool sA)).setCell ⟨w.heap.size,1,none⟩ (.slice a1 l1 c1)) (w.heap.size+1) 137 #[.bool true,.slice aY lY cY]:=(BB.out.other (p:=⟨w.heap.size,0,none⟩) (show w.heap.size≠w.heap.size+1 by omega) _).other (p:=⟨w.heap.size,1,none⟩) (show w.heap.size≠w.heap.size+1 by omega) _;have hNa:=(HN.out.setCell (p:=⟨w.heap.size,0,none⟩) (Nat.le_refl _) (.bool sA)).setCell (p:=⟨w.heap.size,1,none⟩) (Nat.le_refl _) (.slice a1 l1 c1);have hNb:=(hNa.setCell (p:=⟨w.heap.size+1,0,none⟩) (by show w.heap.size≤w.heap.size+1;omega) (.bool sB)).setCell (p:=⟨w.heap.size+1,1,none⟩) (by show w.heap.size≤w.heap.size+1;omega) (.slice a2 l2 c2);have hx:=hx1.far bB.noInt (.bool sB) (.slice a2 l2 c2);have hy:=hy1.far bB.noInt (.bool sB) (.slice a2 l2 c2);have bA2:=(bA.other (p:=⟨w.heap.size+1,0,none⟩) (show w.heap.size+1≠w.heap.size by omega) (.bool sB)).other (p:=⟨w.heap.size+1,1,none⟩) (show w.heap.size+1≠w.heap.size by omega) (.slice a2 l2 c2);have bB2:=bB.put2 (.bool sB) (.slice a2 l2 c2);clear hx1 hy1 bA bB hNa fA fB BA BB HN HZ1 HZ2 HM1 HM2;obtain ⟨w6,hw6⟩:∃ W,((((w2.setCell ⟨w.heap.size,0,none⟩ (.bool sA)).setCell ⟨w.heap.size,1,none⟩ (.slice a1 l1 c1)).setCell ⟨w.heap.size+1,0,none⟩ (.bool sB)).setCell ⟨w.heap.size+1,1,none⟩ (.slice a2 l2 c2))=W:=⟨_,rfl⟩;rw[hw6] at hx hy bA2 bB2 hNb⊢;clear hw6;have hK:=HKK.out;have bx:=HBX.out;have by':=HBY.out;have hy0:=HY0.out;have hN:=New.refl w6;clear HKK HBX HBY HY0;have BA:=hid bA2;have BB:=hid bB2;have HNZ:=hid hNb;have HN:=hid hN;clear bA2 bB2 hNb hN;obtain ⟨hsA,hda⟩:=hx.parts;obtain ⟨hsB,hdb⟩:=hy.parts;rw[decide_eq_false (by omega)] at hsB;subst hsB;obtain ⟨hnum,hden⟩:=divInt_parts (x:=x) hy0;have hR:=HRR.out;rw[hR] at hnum hden;rw[←hsA] at hnum;have hcom:=fun W (hW:New w6 W)=>rcommon_calls K _ _ _ _ W (hda.new hW) (hdb.new hW) hK bx by';have hg0:0 < Nat.gcd x.natAbs y.natAbs:=Nat.gcd_pos_of_pos_right _ (by omega);have hgy:Nat.gcd x.natAbs y.natAbs≤y.natAbs:=Nat.le_of_dvd (by omega) (Nat.gcd_dvd_right _ _);obtain ⟨g,hg⟩:∃ g,Nat.gcd x.natAbs y.natAbs=g:=⟨_,rfl⟩;simp only[hg] at hcom hnum hden hg0 hgy
 have hgK:g < B9^K:=by omega
 have hdp:=fun W (hW:New w6 W) vg (hvg:IsD W vg g)=>rdivs_calls K _ vg _ g W (hda.new hW) hvg hK bx hgK hg0;have hdq:=fun W (hW:New w6 W) vg (hvg:IsD W vg g)=>rdivs_calls K _ vg _ g W (hdb.new hW) hvg hK by' hgK hg0;have hPK:x.natAbs / g < B9^K:=Nat.lt_of_le_of_lt (Nat.div_le_self _ _) bx;have hQK:y.natAbs / g < B9^K:=Nat.lt_of_le_of_lt (Nat.div_le_self _ _) by';obtain ⟨P,hP⟩:∃ P,x.natAbs / g=P:=⟨_,rfl⟩;obtain ⟨Q,hQ⟩:∃ Q,y.natAbs / g=Q:=⟨_,rfl⟩;simp only[hP] at hdp hnum hPK;simp only[hQ] at hdq hden hQK;have hs1:=fun W v (h:IsD W v P)=>rsigned_calls sA v P W h.n;have hs2:=fun W v (h:IsD W v Q)=>rsigned_calls false v Q W h.n;rw[←hnum] at hs1
 have hnK:R.num.natAbs < B9^K:=by rw[hnum,sgnd_abs];exact hPK
 have ht1:=fun W v (h:IsZ W v R.num)=>rtext_calls K v R.num W h hK hnK;have ht2:=fun W v (h:IsZ W v (Q:Int))=>rtext_calls K v (Q:Int) W h hK (by simpa using hQK);have hsz1:=itoa_size hnK;have hsz2:=itoa_size (z:=(Q:Int)) (K:=K) (by simpa using hQK);obtain ⟨S,hS⟩:∃ S,bs (itoa R.num)=S:=⟨_,rfl⟩;obtain ⟨D,hD⟩:∃ D,bs (itoa (Q:Int))=D:=⟨_,rfl⟩;simp only[hS] at ht1 hsz1;simp only[hD] at ht2 hsz2
 have hq1:¬9223372036854775807 < S.size+1:=by omega
 have hq2:¬9223372036854775807 < S.size+1+D.size:=by omega
 have hlen:∀ W v,IsD W v Q→∃ n f,Dg W v n f∧vf B9 f n=Q:=fun W v h=>h
 have hr1:Q=1→rs R=S:=fun h=>by
  unfold rs ratText;rw[if_pos (by rw[hden,h]),hS]
 have hr2:Q≠1→rs R=S ++ ⟨#[47]⟩ ++ D:=fun h=>by
  unfold rs ratText;rw[if_neg (by rw[hden];exact h),←hS,←hD,Big.itoa_nonneg,hden];have e:(⟨#[47]⟩:ByteArray)=bs [47]:=rfl;rw[e,bs_append,bs_append,List.append_assoc];rfl
 have hQ0:Q≠0:=by rw[←hden];exact R.den_nz
 clear HRR hx hy hda hdb bx by' hR hg hgy hP hQ hS hD hsz1 hsz2 hPK hQK hnK hnum hden hlen hK hsA hy0;have HCOM:=hid hcom;have HDP:=hid hdp;have HDQ:=hid hdq;have HS1:=hid hs1;have HS2:=hid hs2;have HT1:=hid ht1;have HT2:=hid ht2;have HR1:=hid hr1;have HR2:=hid hr2;have HQ0:=hid hQ0;have HQ1:=hid hq1;have HQ2:=hid hq2;have HG0:=hid hg0;have HGK:=hid hgK;clear hcom hdp hdq hs1 hs2 ht1 ht2 hr1 hr2 hQ0 hq1 hq2 hg0 hgK;obtain ⟨pa0,pa1,pa2,pa3,pa4⟩:=BA.out.two;obtain ⟨pb0,pb1,pb2,pb3,pb4⟩:=BB.out.two;go_wp2_with fail;refine (HCOM.out _ HN.out).mono ?_;rintro e w1 ⟨v1,rfl,hn,hgd⟩;obtain ⟨a5,l5,c5,rfl⟩:=hgd.shape;have HGD:=hid hgd;clear hgd;clear pa0 pa1 pa2 pa3 pa4 pb0 pb1 pb2 pb3 pb4;replace BA:=bW BA hn;replace BB:=bW BB hn;replace HN:=tW HN hn;clear hn;obtain ⟨pa0,pa1,pa2,pa3,pa4⟩:=BA.out.two;obtain ⟨pb0,pb1,pb2,pb3,pb4⟩:=BB.out.two;go_wp2_with fail;refine (HDP.out _ HN.out _ HGD.out).mono ?_;rintro e w2 ⟨vp,vr,rfl,hn,hpd,hrd⟩;obtain ⟨a6,l6,c6,rfl⟩:=hpd.shape;obtain ⟨a7,l7,c7,rfl⟩:=hrd.shape;clear hrd;have HPD:=hid hpd;clear hpd;clear pa0 pa1 pa2 pa3 pa4 pb0 pb1 pb2 pb3 pb4;replace BA:=bW BA hn;replace BB:=bW BB hn;replace HGD:=hid (HGD.out.new hn);replace HN:=tW HN hn;clear hn;obtain ⟨pa0,pa1,pa2,pa3,pa4⟩:=BA.out.two;obtain ⟨pb0,pb1,pb2,pb3,pb4⟩:=BB.out.two;go_wp2_with fail;refine (HDQ.out _ HN.out _ HGD.out).mono ?_;rintro e w3 ⟨vq,vr2,rfl,hn,hqd,hrd⟩;obtain ⟨a8,l8,c8,rfl⟩:=hqd.shape;obtain ⟨a9,l9,c9,rfl⟩:=hrd.shape;clear hrd HGD;have HQD:=hid hqd;clear hqd;clear pa0 pa1 pa2 pa3 pa4 pb0 pb1 pb2 pb3 pb4;replace BA:=bW BA hn;replace BB:=bW BB hn;replace HPD:=hid (HPD.out.new hn);replace HN:=tW HN hn;clear hn;obtain ⟨pa0,pa1,pa2,pa3,pa4⟩:=BA.out.two;obtain ⟨pb0,pb1,pb2,pb3,pb4⟩:=BB.out.two;go_wp2_with fail;refine (HS1.out _ _ HPD.out).mono ?_;rintro e w4 ⟨v4,rfl,hn,hz⟩;obtain ⟨b4,a4,l4,c4,rfl⟩:=hz.shape;clear HPD BB;have HZ:=hid hz;clear hz;clear pa0 pa1 pa2 pa3 pa4 pb0 pb1 pb2 pb3 pb4;replace HQD:=hid (HQD.out.new hn);replace HN:=tW HN hn;clear hn;go_wp2_with fail;refine (HT1.out _ _ HZ.out).mono ?_;rintro e w5 ⟨rfl,hn⟩;clear HZ BA;replace HQD:=hid (HQD.out.new hn);replace HN:=tW HN hn;clear hn;obtain ⟨n,f,hdg,hval⟩:=HQD.out;have hlt:=hdg.1.lt;have hcan:=hdg.canon;obtain ⟨⟨a0,c0,⟨e0, -⟩,hrd, -⟩, -⟩:=hdg;injection e0 with e1 e2 e3;subst e1 e2 e3;by_cases hl1:l8=1
 ·subst hl1;obtain ⟨b8,o8,rfl,hcell⟩:=hrd 0 (by omega)
  have hf0:f 0=Q:=by rw[←hval];simp[vf]
  rw[hf0,Nat.add_zero]at hcell;clear hlt hcan hrd hval hf0;by_cases hQ1:Q=1
  ·have hr:=HR1.out hQ1;have HR:=hid hr;clear hr;subst hQ1;go_wp2_with fail;go_ret;exact ⟨by rw[HR.out];rfl,HNZ.out.trans HN.out⟩
  ·have hQb:((Q:Int)==1)=false:=by simp;omega
   have hr:=HR2.out hQ1;have hq1:=HQ1.out;have hq2:=HQ2.out;clear hQ1;have HR:=hid hr;clear hr;go_wp2_with fail;refine (HS2.out _ _ HQD.out).mono ?_;rintro e w6 ⟨v6,rfl,hn,hz⟩;obtain ⟨b6,a6,l6,c6,rfl⟩:=hz.shape;clear hcell;have HZ:=hid hz;clear hz;replace HQD:=hid (HQD.out.new hn);replace HN:=tW HN hn;clear hn;go_wp2_with fail;refine (HT2.out _ _ HZ.out).mono ?_;rintro e w7 ⟨rfl,hn⟩;replace HQD:=hid (HQD.out.new hn);replace HN:=tW HN hn;clear hn;go_wp2_with fail;go_ret;exact ⟨by rw[HR.out];rfl,HNZ.out.trans HN.out⟩
 ·have hlb:((l8:Int)==1)=false:=by simp;omega
  have hQ1:Q≠1:=by
   intro h;rw[h] at hval;have h1:=len_le (K:=1) hcan hval (by decide)
   have:l8=0:=by omega
   rw[this,vf_zero]at hval;omega
  have hr:=HR2.out hQ1;have hq1:=HQ1.out;have hq2:=HQ2.out;clear hQ1 hlt hcan hrd hval hl1;have HR:=hid hr;clear hr;go_wp2_with fail;refine (HS2.out _ _ HQD.out).mono ?_;rintro e w6 ⟨v6,rfl,hn,hz⟩;obtain ⟨b6,a6,l6,c6,rfl⟩:=hz.shape;have HZ:=hid hz;clear hz;replace HQD:=hid (HQD.out.new hn);replace HN:=tW HN hn;clear hn;go_wp2_with fail;refine (HT2.out _ _ HZ.out).mono ?_;rintro e w7 ⟨rfl,hn⟩;replace HQD:=hid (HQD.out.new hn);replace HN:=tW HN hn;clear hn;go_wp2_with fail;go_ret;exact ⟨by rw[HR.out];rfl,HNZ.out.trans HN.out⟩
theorem rrecip_neg (k:Nat)(q:Rat)(w:World)(hq:RFB k q)(hk:k≤40000)(h0:q.num < 0):Calls Tryz.prog 150 #[.string (rs q)] w (RetS w q⁻¹):=by
 have hp:=fun W=>rparts_calls k q W hq hk;have hfr:=fun W va vb (ha:IsZ W va (q.den:Int)) (hb:IsZ W vb q.num)=>rfraction_neg k va vb _ _ W ha hb (by omega) (pow_b9 (by simpa using hq.den) (Nat.le_refl _)) (pow_b9 hq.num (Nat.le_refl _)) h0;rw[←Rat.inv_def] at hfr;obtain ⟨R,hR⟩:∃ R,q⁻¹=R:=⟨_,rfl⟩;obtain ⟨A,hA⟩:∃ A,rs q=A:=⟨_,rfl⟩;simp only[hA] at hp;simp only[hR] at hfr;rw[hA,hR];clear hA hR hq hk h0;have hn0:=New.refl w;have HN:=hid hn0;have HP:=hid hp;have HFR:=hid hfr;clear hn0 hp hfr;go_enter Tryz.func150,Tryz.ntmps150;go_wp2_with fail;refine (HP.out _).mono ?_;rintro e w1 ⟨v1,v2,rfl,hn,hz1,hz2⟩;obtain ⟨b1,a1,l1,c1,rfl⟩:=hz1.shape;obtain ⟨b2,a2,l2,c2,rfl⟩:=hz2.shape;have HZ1:=hid hz1;have HZ2:=hid hz2;clear hz1 hz2;replace HN:=tW HN hn;clear hn;go_upto_region 2 with (fail);have HN0:=HN;clear HN;obtain ⟨BA,BB,HN⟩:=lay2 w1 137 #[.bool b1,.slice a1 l1 c1] 137 #[.bool b2,.slice a2 l2 c2];replace HZ1:=hid (HZ1.out.new HN.out);replace HZ2:=hid (HZ2.out.new HN.out);have HN_:=HN0.out.trans HN.out;clear HN HN0;have HN:=hid HN_;clear HN_;obtain ⟨pa0,pa1,pa2,pa3,pa4⟩:=BA.out.two;obtain ⟨pb0,pb1,pb2,pb3,pb4⟩:=BB.out.two;go_wp2_with fail;refine (HFR.out _ _ _ HZ2.out HZ1.out).mono ?_;rintro e w2 ⟨rfl,hn⟩;clear pa0 pa1 pa2 pa3 pa4 pb0 pb1 pb2 pb3 pb4;replace HN:=tW HN hn;clear hn;go_wp2_with fail;go_ret;exact ⟨rfl,HN.out⟩
theorem rrecipZ_calls (k:Nat)(q:Rat)(w:World)(hq:RFB k q)(hk:k≤40000)(h0:q.num≠0):Calls Tryz.prog 150 #[.string (rs q)] w (RetS w q⁻¹):=by
 rcases Int.lt_or_gt_of_ne h0 with h | h
 ·exact rrecip_neg k q w hq hk h
 ·exact rrecip_calls k q w hq hk h
theorem rdivZ_calls (j k:Nat)(x y:Rat)(w:World)(hx:RFB j x)(hy:RFB k y)(hjk:j+k≤40000)(h0:y.num≠0):Calls Tryz.prog 84 #[.string (rs x),.string (rs y)] w (RetS w (x / y)):=by
 have hr:=fun W=>rrecipZ_calls k y W hy (by omega) h0;have hm:=fun W=>rmulQ_calls j k x y⁻¹ W hx (hy.inv (by omega)) hjk;rw[←Rat.div_def] at hm;obtain ⟨R,hR⟩:∃ R,x / y=R:=⟨_,rfl⟩;obtain ⟨A,hA⟩:∃ A,rs x=A:=⟨_,rfl⟩;obtain ⟨B,hB⟩:∃ B,rs y=B:=⟨_,rfl⟩;obtain ⟨C,hC⟩:∃ C,rs y⁻¹=C:=⟨_,rfl⟩;simp only[hB] at hr;have hr:=fun W=>(hr W).mono fun e w' h=>RetS.to hC h;simp only[hA,hC,hR] at hm;rw[hA,hB,hR];clear hA hB hC hR hx hy hjk h0;have HR:=hid hr;have HM:=hid hm;clear hr hm;go_enter Tryz.func84,Tryz.ntmps84;go_wp2_with fail;refine (HR.out _).mono ?_;rintro e w1 ⟨rfl,hn⟩;have HN:=hid hn;clear hn;go_wp2_with fail;refine (HM.out _).mono ?_;rintro e w2 ⟨rfl,hn⟩;replace HN:=tW HN hn;clear hn;go_wp2_with fail;go_ret;exact ⟨rfl,HN.out⟩
theorem rshort_calls (b s z:Int)(g o:ByteArray)(w:World)(hg:g.size≤9223372036854775807)(ho:o.size≤9223372036854775807):
  Calls Tryz.prog 9 #[.agg #[.int .i64 b,.int .i64 s,.int .i64 z,.string g,.string o]] w fun e w'=>e=.returned (.bool (decide (g.size≤60) && decide (o.size≤60)))∧New w w':=by
 have hgi:(g.size:Int)≤9223372036854775807:=by omega
 have hoi:(o.size:Int)≤9223372036854775807:=by omega
 by_cases h1:g.size≤60
 ·have h1i:(g.size:Int)≤60:=by omega
  have h1b:decide ((g.size:Int)≤60)=true:=decide_eq_true h1i;obtain ⟨r,hr⟩:∃ r,decide ((o.size:Int)≤60)=r:=⟨_,rfl⟩
  have hres:(decide (g.size≤60) && decide (o.size≤60))=r:=by
   rw[decide_eq_true h1,Bool.true_and,←hr];exact decide_eq_decide.2 (by omega)
  rw[hres];clear hres;go_enter Tryz.func9,Tryz.ntmps9;go_upto_region 1 with (fail);obtain ⟨BA,HN⟩:=lay1 w 24 #[.int .i64 b,.int .i64 s,.int .i64 z,.string g,.string o];obtain ⟨⟨pa0,pa1,pa2,pa3,pa4⟩,pa5⟩:=BA.out.five;go_wp2_with fail;go_ret;exact ⟨rfl,HN.out⟩
 ·have h1i:¬(g.size:Int)≤60:=by omega
  have h1b:decide ((g.size:Int)≤60)=false:=decide_eq_false h1i;rw[decide_eq_false h1,Bool.false_and];go_enter Tryz.func9,Tryz.ntmps9;go_upto_region 1 with (fail);obtain ⟨BA,HN⟩:=lay1 w 24 #[.int .i64 b,.int .i64 s,.int .i64 z,.string g,.string o];obtain ⟨⟨pa0,pa1,pa2,pa3,pa4⟩,pa5⟩:=BA.out.five;go_wp2_with fail;go_ret;exact ⟨rfl,HN.out⟩
theorem adc_err (b s z:Int)(g o:ByteArray)(hgl:g.size≤100000)(hol:o.size≤100000):∃ n:Int,
  (∀ W,Env W→Calls Tryz.prog 15 #[adcV b s z g o] W (RetNew W n))∧(∀ W,Calls Tryz.prog 14 #[adcV b s z g o] W (RetNew W n))∧
  (n=0→∃ qg qo,AdcOk b s z g o qg qo):=by
 by_cases h1:outside b 8 12=true∨outside s (-20) 4=true
 ·exact ⟨3,fun W hW=>checkAdc_a b s z g o W h1,fun W=>rcheckAdc_a b s z g o W h1,fun h=>by omega⟩
 rw[not_or,Bool.not_eq_true,Bool.not_eq_true]at h1;by_cases h2:outside z 0 (2^b.toNat - 1)=true
 ·exact ⟨3,fun W hW=>checkAdc_b b s z g o W hW hgl h1.1 h1.2 3 (.inl ⟨h2,rfl⟩),fun W=>rcheckAdc_b b s z g o W hgl h1.1 h1.2 3 (.inl ⟨h2,rfl⟩),fun h=>by omega⟩
 rw[Bool.not_eq_true]at h2;by_cases h3:ratErr g.data.toList=0
 ·obtain ⟨q,hf,hg⟩:=ratText_of_err h3;refine ⟨_,fun W hW=>checkAdc_c b s z g o W hW hgl hol h1.1 h1.2 h2 q hf hg,fun W=>rcheckAdc_c b s z g o W hgl hol h1.1 h1.2 h2 q hf hg,fun h=>?_⟩;by_cases h4:q.num.sign≤0
  ·rw[if_pos h4] at h;omega
  rw[if_neg h4]at h;obtain ⟨q2,hf2,ho⟩:=ratText_of_err h;simp only[outside,Bool.or_eq_false_iff,decide_eq_false_iff_not] at h1 h2;exact ⟨q,q2,by omega,by omega,by omega,by omega,by omega,by omega,hg,hf,Int.sign_pos_iff.1 (by omega),hgl,ho,hf2,hol⟩
 ·exact ⟨_,fun W hW=>checkAdc_b b s z g o W hW hgl h1.1 h1.2 _ (.inr ⟨h2,rfl,h3⟩),fun W=>rcheckAdc_b b s z g o W hgl h1.1 h1.2 _ (.inr ⟨h2,rfl,h3⟩),fun h=>absurd h h3⟩
theorem checkCode_err (b s z:Int)(g o:ByteArray)(code n:Int)(h0:n≠0)(hc:∀ W,Env W→Calls Tryz.prog 15 #[adcV b s z g o] W (RetNew W n))(w:World)(he:Env w):
  Calls Tryz.prog 71 #[adcV b s z g o,.int .i64 code] w (RetNew w n):=by
 have ht:(n != 0)=true:=by simpa using h0
 unfold adcV at *;have HC:=hid hc;have HE:=hid he;have H0:=hid h0;clear hc he h0;go_enter Tryz.func71,Tryz.ntmps71;go_wp2_with fail;obtain ⟨BA,HN⟩:=lay1 w 32 #[.int .i64 b,.int .i64 s,.int .i64 z,.string g,.string o];refine (HC.out _ (HE.out.new HN.out)).mono ?_;rintro e w1 ⟨rfl,hn⟩;replace BA:=bW BA hn;replace HN:=tW HN hn;clear hn;go_wp2_with fail;go_ret;exact ⟨rfl,HN.out⟩
end Go.Proofs.YtbkcjmojgglbkaaGreatDoor
