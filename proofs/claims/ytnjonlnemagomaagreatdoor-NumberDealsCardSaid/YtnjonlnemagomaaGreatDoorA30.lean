/- Part A30. -/
import Derived.Test.YtnjonlnemagomaaGreatDoorA29
namespace Go.Proofs.YtnjonlnemagomaaGreatDoor
open Go.RowKit Big Go.Lib
set_option maxRecDepth 100000
set_option maxHeartbeats 8000000
theorem absR_parts (q:Rat):(absR q).num=(q.num.natAbs:Int)∧(absR q).den=q.den:=by
 unfold absR;by_cases h:q < 0
 ·rw[if_pos h]
  have hn:q.num < 0:=by
   have:=mt Rat.num_nonneg.1 (Rat.not_le.2 h);omega
  rw[Rat.neg_num,Rat.neg_den];exact ⟨by omega,rfl⟩
 ·rw[if_neg h];have hn:0≤q.num:=Rat.num_nonneg.2 (Rat.not_lt.1 h);exact ⟨by omega,rfl⟩
theorem flo_bd {x:Rat}{j:Nat}(h:0≤x)(hi:x < ((2^(j+24):Nat):Rat)):0≤(x / ((2^j:Nat):Rat)).floor∧(x / ((2^j:Nat):Rat)).floor < 16777216:=by
 have h2:=two_pos j;constructor
 ·exact Rat.le_floor_iff.2 ((le_div h2).2 (by simpa using h))
 ·refine Rat.floor_lt_iff.2 ?_
  rw[Rat.div_lt_iff h2,show ((16777216:Int):Rat)*((2^j:Nat):Rat)=((2^(j+24):Nat):Rat) by
   rw[Nat.pow_add,Nat.mul_comm,Rat.natCast_mul];rfl]
  exact hi
theorem rung_fin {n R:Nat}{k:Int}(hn:n≤16777216)(lo: -149≤k)(hi:k≤104)(hR:(Flo.V Ieee.single R:Int)=(n:Int)*((2^(k+149).toNat:Nat):Int)):R < 2139095040 ↔ ¬(n=16777216∧k=104):=by
 rw[←V_inf_le]
 have e:(2:Nat)^277=16777216*2^253:=by decide +kernel
 have hV:Flo.V Ieee.single R=n*2^(k+149).toNat:=by exact_mod_cast hR
 rw[hV,e];have hp:0 < (2:Nat)^253:=Nat.two_pow_pos _;rcases Int.lt_or_le k 104 with h | h
 ·have h1:(2:Nat)^(k+149).toNat≤2^252:=Nat.pow_le_pow_right (by omega) (by omega)
  have h2:(2:Nat)^253=2*2^252:=by rw[Nat.pow_succ,Nat.mul_comm]
  have h3:=Nat.mul_le_mul hn h1;have hp2:0 < (2:Nat)^252:=Nat.two_pow_pos _;rw[h2];constructor
  ·intro _ h4;omega
  ·intro _;generalize (2:Nat)^252=D at h3 hp2⊢;generalize n*2^(k+149).toNat=X at h3⊢;omega
 ·have h4:k=104:=by omega
  subst h4;show n*2^253 < 16777216*2^253 ↔ _;rw[Nat.mul_lt_mul_right hp];omega
def FltPost (w:World)(b:Nat)(E:Int)(e:Ending)(w':World):Prop:=e=.returned (.tuple #[.float .f32 b,.int .i64 E])∧New w w'
def FracAt (w:World)(P:Nat)(q:Rat):Prop:=∃ (s:Int) (a:Option Addr) (l c:Nat) (t:Int) (d:Option Addr) (m k:Nat),Box w P 115 #[.int .i64 s,.slice a l c,.int .i64 t,.slice d m k]∧IsFrac w (.agg #[.int .i64 s,.slice a l c,.int .i64 t,.slice d m k]) q
structure NearF (q:Rat)(R:Nat):Prop where
 ex:∃ j,IsPl (absR q*twoQ 149) j∧(Flo.V Ieee.single R:Int)=sigF (absR q*twoQ 149) j*((2^j:Nat):Int)
def fltBits (neg:Bool)(R:Nat):Nat:=if R < 2139095040 then (if neg && R != 0 then R+2147483648 else R) else 0
def fltErr (R:Nat):Int:=if R < 2139095040 then 0 else 4
theorem bdk_abs {k:Nat} {x y:Int} (h:x=(y.natAbs:Int)) (hy:BdK k y):BdK k x:=by
 unfold BdK at hy⊢
 rw[h,Int.natAbs_natCast]
 exact hy
theorem nfloat_calls (s:ByteArray)(q:Rat)(R:Nat)(hs:s.data.toList=ratText q)(hf:Fits q)(hl:s.size≤100000)(h0:q.num≠0)(hR:NearF q R)(w:World)(he:Env w):Calls Tryz.prog 41 #[.string s] w (FltPost w (fltBits (decide (q.num < 0)) R) (fltErr R)):=by
 have hck:=fun W hW=>check_calls s W hW hl;rw[hs,ratErr_ratText hf] at hck;have hfr:=fun W hW=>from_calls s q W hW hs (by omega);obtain ⟨t,ht,htn⟩:∃ t,q.num.sign=t∧t≠0:=⟨_,rfl,fun h=>h0 (Int.sign_eq_zero_iff_zero.1 h)⟩
 have htz:(t==0)=false:=by simpa using htn
 have htl:decide (t < 0)=decide (q.num < 0):=by
  rw[←ht];by_cases h:q.num < 0
  ·rw[decide_eq_true h,decide_eq_true (Int.sign_neg_iff.2 h)]
  ·rw[decide_eq_false h,decide_eq_false (fun h2=>h (Int.sign_neg_iff.1 h2))]
 have fq:=Fits.fb hf;obtain ⟨sz,hsz⟩:∃ x,absR q=x:=⟨_,rfl⟩;have hpn:=(absR_parts q).1;have hpd:=(absR_parts q).2;rw[hsz] at hpn hpd;have fs:FB 2000 sz:=⟨bdk_abs hpn fq.num,by rw[hpd];exact fq.den⟩;have hab:=fun v W h=>abs_calls v q.num W h;rw[←hpn] at hab;have hbn:=fun v W h=>bits_calls v sz.num W h ⟨2000,by omega,fs.num⟩;have hbd:=fun v W h=>bits_calls v (sz.den:Int) W h ⟨2000,by omega,fs.den⟩
 have hbits:∀ bn bd:Nat,IsBits sz.num.natAbs bn→IsBits (sz.den:Int).natAbs bd→bn≤2000∧bd≤2000∧sz < twoQ (bn - bd+1)∧twoQ (bn - bd - 1)≤sz:=fun bn bd h1 h2=>by
  have n1:0 < sz.num.natAbs:=by omega
  have n2:0 < (sz.den:Int).natAbs:=by have:=sz.den_pos;omega
  have g1:2^bn≤2*sz.num.natAbs:=by
   rcases h1.ge with h | h
   ·rw[h];omega
   ·have:2^bn≤2^(bn - 1+1):=Nat.pow_le_pow_right (by omega) (by omega);rw[Nat.pow_succ] at this;omega
  have g2:2^bd≤2*(sz.den:Int).natAbs:=by
   rcases h2.ge with h | h
   ·rw[h];omega
   ·have:2^bd≤2^(bd - 1+1):=Nat.pow_le_pow_right (by omega) (by omega);rw[Nat.pow_succ] at this;omega
  have key:=size_bits h1.lt g1 h2.lt g2
  have e:((sz.num.natAbs:Nat):Rat) / (((sz.den:Int).natAbs:Nat):Rat)=sz:=by
   have:=absR_eq sz;rw[Int.natAbs_natCast,←this,←hsz];unfold absR;by_cases h:q < 0
   ·rw[if_pos h,if_neg (by grind)]
   ·rw[if_neg h,if_neg h]
  rw[e]at key;exact ⟨h1.le fs.num,h2.le fs.den,key⟩
 have hcm:=fun va vb k W (l: -4000≤k) (h:k≤4000) h1 h2=>fcmp_calls va vb sz (twoQ k) 2000 8001 W h1 h2 fs (twoQ_fb l h) (by omega);have hpw:=fun k W (l: -4000≤k) (h:k≤4000)=>power_calls k W l h;have hml:=fun va vb k W (l: -4000≤k) (h:k≤4000) h1 h2=>fmul_calls va vb sz (twoQ k) 2000 8001 W h1 h2 fs (twoQ_fb l h) (by omega);unfold SignPost at hcm;unfold FltPost;have hsg:=htn;clear htn hs hf hl;have HE:=hid he;have HCK:=hid hck;have HFR:=hid hfr;have HSG:=hid ht;have HAB:=hid hab;have HBN:=hid hbn;have HBD:=hid hbd;have HBITS:=hid hbits;have HCM:=hid hcm;have HPW:=hid hpw;have HML:=hid hml;have HR:=hid hR;have FS:=hid fs;have HPN:=hid hpn;have HPD:=hid hpd;have HSZ:=hid hsz;have HTL:=hid htl;have HQ0:=hid h0;clear he hck hfr ht hab hbn hbd hbits hcm hpw hml hR fs hpn hpd hsz htl h0;go_enter Tryz.func41,Tryz.ntmps41;go_wp2_with fail;refine (HCK.out _ HE.out).mono ?_;rintro e w1 ⟨rfl,hn⟩;have HN:=hid hn;clear hn;go_upto_region 4 with (fail);go_wp2_with fail;refine (HFR.out _ (HE.out.new HN.out)).mono ?_;rintro e w2 ⟨v2,rfl,hn,hf⟩;obtain ⟨s2,a2,l2,c2,t2,d2,m2,k2,rfl⟩:=hf.shape;have HF:=hid hf;clear hf;replace HN:=hid (HN.out.trans hn);clear hn;go_upto_region 5 with (fail);have HN0:=HN;clear HN;obtain ⟨BX,HN⟩:=lay1 w2 115 #[.int .i64 s2,.slice a2 l2 c2,.int .i64 t2,.slice d2 m2 k2];replace HF:=hid (HF.out.new HN.out);have HN_:=HN0.out.trans HN.out;clear HN HN0;have HN:=hid HN_;clear HN_;obtain ⟨⟨pa0,pa1,pa2,pa3⟩,pa4,pa5,pa6,pa7,pa8⟩:=BX.out.four;go_wp2_with fail;refine (fsign_calls _ q _ HF.out).mono ?_;rintro e w3 ⟨rfl,hn⟩;rw[HSG.out];clear pa0 pa1 pa2 pa3 pa4 pa5 pa6 pa7 pa8;replace BX:=hid (BX.out.new hn);replace HF:=hid (HF.out.new hn);replace HN:=hid (HN.out.trans hn);clear hn;go_upto_region 7 with (fail);have HN1:=HN;clear HN
 go_cut [6] (fun x wx=>∃ (P:Nat),x=.pointer (some ⟨P,0,none⟩)∧New w3 wx∧w3.heap.size≤P∧FracAt wx P sz)
 case first=>
  have HN:=hid (New.refl w3);obtain ⟨⟨pa0,pa1,pa2,pa3⟩,pa4,pa5,pa6,pa7,pa8⟩:=BX.out.four;refine wp_region_T 7 (fun W=>W.cell? ⟨w2.heap.size,0,none⟩=some (.int .i64 s2)∧W.cell? ⟨w2.heap.size,1,none⟩=some (.slice a2 l2 c2)∧W.cell? ⟨w2.heap.size,2,none⟩=some (.int .i64 t2)∧W.cell? ⟨w2.heap.size,3,none⟩=some (.slice d2 m2 k2)) 8 #[false,false,false,false,false,false,false,false] rfl (by kernel_rfl) (by kernel_rfl) ?_;clear pa0 pa1 pa2 pa3 pa4 pa5 pa6 pa7 pa8;replace BX:=hid (BX.out.new (New.refl w3).drew);replace HF:=hid (HF.out.new (New.refl w3).drew);replace HN:=hid (HN.out.drew);obtain ⟨wdr,hwd⟩:∃ x,w3.drew=x:=⟨_,rfl⟩;rw[hwd] at HN BX HF⊢;clear hwd;obtain ⟨⟨pa0,pa1,pa2,pa3⟩,pa4,pa5,pa6,pa7,pa8⟩:=BX.out.four;refine tk 0 (by exact ⟨pa0,pa1,pa2,pa3⟩) ?_
  try simp only[PT]
  refine tk 1 (by exact ⟨pa0,pa1,pa2,pa3⟩) ?_
  try simp only[PT]
  refine tk 3 (by exact ⟨pa0,pa1,pa2,pa3⟩) ?_
  try simp only[PT]
  refine tk 4 (by exact ⟨pa0,pa1,pa2,pa3⟩) ?_
  try simp only[PT]
  refine wpT_two 2 6 rfl rfl (by kernel_rfl) (fun K hK=>?_) (fun K hK=>?_)
  ·skip
   go_simp;refine (HAB.out _ _ HF.out.parts.1).mono ?_;rintro e w4 ⟨v4,rfl,hn,hi⟩;obtain ⟨s4,a4,l4,c4,rfl⟩:=hi.shape;have HI4:=hid hi;clear hi;clear pa0 pa1 pa2 pa3 pa4 pa5 pa6 pa7 pa8;replace BX:=hid (BX.out.new hn);replace HF:=hid (HF.out.new hn);replace HN:=hid (HN.out.trans hn);clear hn;obtain ⟨⟨pa0,pa1,pa2,pa3⟩,pa4,pa5,pa6,pa7,pa8⟩:=BX.out.four;refine hK.out _ _ (fun _=>?_) ?_
   ·exact ⟨pa0,pa1,pa2,pa3⟩
   clear hK K
   try simp only[PT]
   refine tk 5 (by exact ⟨pa0,pa1,pa2,pa3⟩) ?_
   try simp only[PT]
   refine wpT_one 6 rfl (by kernel_rfl) (fun K hK=>?_);go_simp;clear pa0 pa1 pa2 pa3 pa4 pa5 pa6 pa7 pa8;have LBM:=hid (HN.out.size);obtain ⟨wa1,hwa,BM_,hn⟩:=laid1 w4 115 #[.int .i64 0,.slice none 0 0,.int .i64 0,.slice none 0 0];rw[hwa];clear hwa;have BM:=hid BM_;clear BM_;replace BX:=hid (BX.out.new hn);replace HF:=hid (HF.out.new hn);replace HI4:=hid (HI4.out.new hn);replace HN:=hid (HN.out.trans hn);clear hn;obtain ⟨⟨pa0,pa1,pa2,pa3⟩,pa4,pa5,pa6,pa7,pa8⟩:=BX.out.four;refine hK.out _ _ (fun _=>?_) ?_
   ·exact ⟨pa0,pa1,pa2,pa3⟩
   clear hK K
   try simp only[PT]
   refine wpT_tail rfl (by kernel_rfl) ?_;simp only[List.drop_succ_cons,List.drop_zero];clear pa0 pa1 pa2 pa3 pa4 pa5 pa6 pa7 pa8;obtain ⟨⟨u0,u1,u2,u3⟩,u4,u5,u6,u7,u8⟩:=BM.out.four;go_wp2_with fail
   go_meet
   exact ⟨_,rfl,HN.out.put4 LBM.out _ _ _ _,LBM.out,⟨_,_,_,_,_,_,_,_,BM.out.put4 _ _ _ _,IsFrac.put4 ⟨_,_,_,_,_,_,_,_,rfl,HI4.out,by rw[HPD.out];exact HF.out.parts.2⟩ BM.out _ _ _ _ _ _ _ _⟩⟩
  ·skip
   go_simp;clear pa0 pa1 pa2 pa3 pa4 pa5 pa6 pa7 pa8;have LBM:=hid (HN.out.size);obtain ⟨wa1,hwa,BM_,hn⟩:=laid1 wdr 115 #[.int .i64 0,.slice none 0 0,.int .i64 0,.slice none 0 0];rw[hwa];clear hwa;have BM:=hid BM_;clear BM_;replace BX:=hid (BX.out.new hn);replace HF:=hid (HF.out.new hn);replace HN:=hid (HN.out.trans hn);clear hn;obtain ⟨⟨pa0,pa1,pa2,pa3⟩,pa4,pa5,pa6,pa7,pa8⟩:=BX.out.four;refine hK.out _ _ (fun _=>?_) ?_
   ·exact ⟨pa0,pa1,pa2,pa3⟩
   clear hK K
   try simp only[PT]
   refine wpT_one 2 rfl (by kernel_rfl) (fun K hK=>?_);go_simp;refine (HAB.out _ _ HF.out.parts.1).mono ?_;rintro e w4 ⟨v4,rfl,hn,hi⟩;obtain ⟨s4,a4,l4,c4,rfl⟩:=hi.shape;have HI4:=hid hi;clear hi;clear pa0 pa1 pa2 pa3 pa4 pa5 pa6 pa7 pa8;replace BX:=hid (BX.out.new hn);replace HF:=hid (HF.out.new hn);replace BM:=hid (BM.out.new hn);replace HN:=hid (HN.out.trans hn);clear hn;obtain ⟨⟨pa0,pa1,pa2,pa3⟩,pa4,pa5,pa6,pa7,pa8⟩:=BX.out.four;refine hK.out _ _ (fun _=>?_) ?_
   ·exact ⟨pa0,pa1,pa2,pa3⟩
   clear hK K
   try simp only[PT]
   refine tk 5 (by exact ⟨pa0,pa1,pa2,pa3⟩) ?_
   try simp only[PT]
   refine wpT_tail rfl (by kernel_rfl) ?_;simp only[List.drop_succ_cons,List.drop_zero];clear pa0 pa1 pa2 pa3 pa4 pa5 pa6 pa7 pa8;obtain ⟨⟨u0,u1,u2,u3⟩,u4,u5,u6,u7,u8⟩:=BM.out.four;go_wp2_with fail
   go_meet
   exact ⟨_,rfl,HN.out.put4 LBM.out _ _ _ _,LBM.out,⟨_,_,_,_,_,_,_,_,BM.out.put4 _ _ _ _,IsFrac.put4 ⟨_,_,_,_,_,_,_,_,rfl,HI4.out,by rw[HPD.out];exact HF.out.parts.2⟩ BM.out _ _ _ _ _ _ _ _⟩⟩
 case rest=>
  obtain ⟨P,rfl,hn,hP,s4,a4,l4,c4,t4,d4,m4,k4,hb4,hf4⟩:=hcut;obtain ⟨w10,hw10⟩:∃ x,x=wc:=⟨_,rfl⟩;rw[←hw10] at hn hb4 hf4⊢;clear hw10;replace BX:=hid (BX.out.new hn);replace HF:=hid (HF.out.new hn);have HN:=hid (HN1.out.trans hn);clear HN1 hn hP;have BY:=hid hb4;have HY:=hid hf4;clear hb4 hf4;go_upto_region 8 with (fail);obtain ⟨⟨pb0,pb1,pb2,pb3⟩,pb4,pb5,pb6,pb7,pb8⟩:=BY.out.four;refine wp_region_T 8 (fun W=>W.cell? ⟨P,0,none⟩=some (.int .i64 s4)∧W.cell? ⟨P,1,none⟩=some (.slice a4 l4 c4)∧W.cell? ⟨P,2,none⟩=some (.int .i64 t4)∧W.cell? ⟨P,3,none⟩=some (.slice d4 m4 k4)) 9 #[false,false,false,false,false,false,false,false,false] rfl (by kernel_rfl) (by kernel_rfl) ?_;refine tk 0 (by exact ⟨pb0,pb1,pb2,pb3⟩) ?_
  try simp only[PT]
  refine tk 1 (by exact ⟨pb0,pb1,pb2,pb3⟩) ?_
  try simp only[PT]
  refine tk 3 (by exact ⟨pb0,pb1,pb2,pb3⟩) ?_
  try simp only[PT]
  refine tk 4 (by exact ⟨pb0,pb1,pb2,pb3⟩) ?_
  try simp only[PT]
  refine wpT_one 2 rfl (by kernel_rfl) (fun K hK=>?_);go_simp;refine (HBN.out _ _ (HY.out.parts.1.new (New.refl _).drew)).mono ?_;rintro e w11 ⟨bn,rfl,hn,hb⟩;have hn:=hn.undrew;have HB1:=hid hb;clear hb;clear pb0 pb1 pb2 pb3 pb4 pb5 pb6 pb7 pb8;replace BX:=hid (BX.out.new hn);replace HF:=hid (HF.out.new hn);replace BY:=hid (BY.out.new hn);replace HY:=hid (HY.out.new hn);replace HN:=hid (HN.out.trans hn);clear hn;obtain ⟨⟨pb0,pb1,pb2,pb3⟩,pb4,pb5,pb6,pb7,pb8⟩:=BY.out.four;refine hK.out _ _ (fun _=>?_) ?_
  ·exact ⟨pb0,pb1,pb2,pb3⟩
  clear hK K
  try simp only[PT]
  refine wpT_one 5 rfl (by kernel_rfl) (fun K hK=>?_);go_simp;refine (HBD.out _ _ HY.out.parts.2).mono ?_;rintro e w12 ⟨bd,rfl,hn,hb⟩;have HB2:=hid hb;clear hb;clear pb0 pb1 pb2 pb3 pb4 pb5 pb6 pb7 pb8;replace BX:=hid (BX.out.new hn);replace HF:=hid (HF.out.new hn);replace BY:=hid (BY.out.new hn);replace HY:=hid (HY.out.new hn);replace HN:=hid (HN.out.trans hn);clear hn;obtain ⟨l1,l2,hs1,hs2⟩:=HBITS.out bn bd HB1.out HB2.out
  have l1i:(bn:Int)≤2000:=by omega
  have l2i:(bd:Int)≤2000:=by omega
  clear HB1 HB2 HBITS l1 l2;have HS1:=hid hs1;have HS2:=hid hs2;clear hs1 hs2;obtain ⟨⟨pb0,pb1,pb2,pb3⟩,pb4,pb5,pb6,pb7,pb8⟩:=BY.out.four;refine hK.out _ _ (fun _=>?_) ?_
  ·exact ⟨pb0,pb1,pb2,pb3⟩
  clear hK K
  try simp only[PT]
  refine tk 6 (by exact ⟨pb0,pb1,pb2,pb3⟩) ?_
  try simp only[PT]
  refine tk 7 (by exact ⟨pb0,pb1,pb2,pb3⟩) ?_
  try simp only[PT]
  refine wpT_tail rfl (by kernel_rfl) ?_;simp only[List.drop_succ_cons,List.drop_zero];go_wp2_with fail;clear pb0 pb1 pb2 pb3 pb4 pb5 pb6 pb7 pb8;obtain ⟨k0,hk0⟩:∃ k0:Int,(bn:Int) - bd - 24=k0:=⟨_,rfl⟩;simp only[hk0];have hs1:=HS1.out;have hs2:=HS2.out;rw[show (bn:Int) - bd+1=k0+25 by omega] at hs1;rw[show (bn:Int) - bd - 1=k0+23 by omega] at hs2
  have hk1: -2024≤k0:=by omega
  have hk2:k0≤1976:=by omega
  clear HS1 HS2 hk0 l1i l2i;have HS1:=hid hs1;have HS2:=hid hs2;have HK1:=hid hk1;have HK2:=hid hk2;clear hs1 hs2 hk1 hk2;have HW:=HN;clear HN;go_loopw [7] (fun i wr=>∃ kk:Int,i=.int .i64 kk∧Hid (kk=k0∨(kk=k0+1∧twoQ (k0+24)≤sz))∧Hid (New w12 wr)) (fun i _=>(k0+1 - RowKit.intOf i).toNat)
  case atStart=>exact ⟨k0,rfl,hid (.inl rfl),hid (New.refl _)⟩
  case round=>
   obtain ⟨kk,rfl,HK,HN⟩:=hrel;have hn:=HN.out;replace BX:=hid (BX.out.new hn);replace HF:=hid (HF.out.new hn);replace BY:=hid (BY.out.new hn);replace HY:=hid (HY.out.new hn);clear hn
   have kl: -2024≤kk:=by have:=HK1.out;rcases HK.out with h | ⟨h, -⟩ <;> omega
   have kh:kk≤1977:=by have:=HK2.out;rcases HK.out with h | ⟨h, -⟩ <;> omega
   obtain ⟨r,hr⟩:∃ r,(crossed sz (twoQ (kk+24))).sign=r:=⟨_,rfl⟩
   have hi:r < 0 ↔ sz < twoQ (kk+24):=by rw[←hr];exact crossed_neg
   by_cases hlt:sz < twoQ (kk+24)
   ·have rb:decide (r ≥ 0)=false:=decide_eq_false (by have:=hi.2 hlt;omega)
    have hlo:twoQ (kk+23)≤sz:=by
     rcases HK.out with h | ⟨h,h2⟩
     ·rw[h];exact HS2.out
     ·rw[h,show k0+1+23=k0+24 by omega];exact h2
    obtain ⟨k9,hk9⟩:∃ k9,max kk (-149)=k9:=⟨_,rfl⟩;obtain ⟨hpl,hxx⟩:=place hlt hlo hk9.symm;obtain ⟨j,hpj,hRj⟩:=HR.out.ex;rw[HSZ.out] at hpj hRj;have hj:j=(k9+149).toNat:=hpj.unique hpl;subst hj
    have k9l: -149≤k9:=by omega
    have k9h:k9≤1977:=by omega
    clear hi hlt hpl;have HLO:=hid hlo;have HRR:=hid hr;have HKM:=hid hk9;have HXX:=hid hxx;have HPJ:=hid hpj;have HRJ:=hid hRj;clear hlo hr hk9 hxx hpj hRj;go_upto_region 9 with (fail);obtain ⟨⟨pb0,pb1,pb2,pb3⟩,pb4,pb5,pb6,pb7,pb8⟩:=BY.out.four;refine wp_region_T 5 (fun W=>W.cell? ⟨P,0,none⟩=some (.int .i64 s4)∧W.cell? ⟨P,1,none⟩=some (.slice a4 l4 c4)∧W.cell? ⟨P,2,none⟩=some (.int .i64 t4)∧W.cell? ⟨P,3,none⟩=some (.slice d4 m4 k4)) 6 #[false,false,false,false,false,false] rfl (by kernel_rfl) (by kernel_rfl) ?_;refine tk 0 (by exact ⟨pb0,pb1,pb2,pb3⟩) ?_
    try simp only[PT]
    refine tk 1 (by exact ⟨pb0,pb1,pb2,pb3⟩) ?_
    try simp only[PT]
    refine tk 2 (by exact ⟨pb0,pb1,pb2,pb3⟩) ?_
    try simp only[PT]
    refine wpT_one 3 rfl (by kernel_rfl) (fun K hK=>?_);go_simp;rw[show IntKind.i64.wrap (kk+24)=kk+24 by rw[IntKind.wrap_i64];omega];refine (HPW.out (kk+24) _ (by omega) (by omega)).mono ?_;rintro e w13 ⟨v13,rfl,hn,hf⟩;have hn:=hn.undrew;have HG:=hid hf;clear hf;clear pb0 pb1 pb2 pb3 pb4 pb5 pb6 pb7 pb8;replace BX:=hid (BX.out.new hn);replace HF:=hid (HF.out.new hn);replace BY:=hid (BY.out.new hn);replace HY:=hid (HY.out.new hn);replace HN:=hid (HN.out.trans hn);clear hn;obtain ⟨⟨pb0,pb1,pb2,pb3⟩,pb4,pb5,pb6,pb7,pb8⟩:=BY.out.four;refine hK.out _ _ (fun _=>?_) ?_
    ·exact ⟨pb0,pb1,pb2,pb3⟩
    clear hK K
    try simp only[PT]
    refine wpT_one 4 rfl (by kernel_rfl) (fun K hK=>?_);go_simp;refine (HCM.out _ _ (kk+24) _ (by omega) (by omega) HY.out HG.out).mono ?_;rintro e w14 ⟨rfl,hn⟩;rw[HRR.out];clear HG;clear pb0 pb1 pb2 pb3 pb4 pb5 pb6 pb7 pb8;replace BX:=hid (BX.out.new hn);replace HF:=hid (HF.out.new hn);replace BY:=hid (BY.out.new hn);replace HY:=hid (HY.out.new hn);replace HN:=hid (HN.out.trans hn);clear hn;obtain ⟨⟨pb0,pb1,pb2,pb3⟩,pb4,pb5,pb6,pb7,pb8⟩:=BY.out.four;refine hK.out _ _ (fun _=>?_) ?_
    ·exact ⟨pb0,pb1,pb2,pb3⟩
    clear hK K
    try simp only[PT]
    refine wpT_tail rfl (by kernel_rfl) ?_;simp only[List.drop_succ_cons,List.drop_zero];clear pb0 pb1 pb2 pb3 pb4 pb5 pb6 pb7 pb8;go_upto_region 12 with (fail);rw[HKM.out];by_cases hbig:104 < k9
    ·have tb:decide (k9 > 104)=true:=decide_eq_true hbig;have hbR:=rung_big HPJ.out HRJ.out (by omega)
     have e1:fltBits (decide (q.num < 0)) R=0:=by unfold fltBits;rw[if_neg (by omega)]
     have e2:fltErr R=4:=by unfold fltErr;rw[if_neg (by omega)]
     clear hbR;have E1:=hid e1;have E2:=hid e2;clear e1 e2;go_wp2_with fail;go_ret2;exact ⟨by rw[E1.out,E2.out];rfl,HW.out.trans HN.out⟩
    ·have tb:decide (k9 > 104)=false:=decide_eq_false hbig
     have k9m:k9≤104:=by omega
     clear hbig;have hsz0:(0:Rat)≤sz*twoQ 149:=Rat.mul_nonneg (Std.le_trans (Rat.le_of_lt (twoQ_pos _)) HLO.out) (Rat.le_of_lt (twoQ_pos _));obtain ⟨g1,g2⟩:=flo_bd hsz0 HPJ.out.hi;have hev:=fun v W h=>even_calls v (sz*twoQ (-k9)) 10001 W h ((FS.out.mul (twoQ_fb (by omega) (by omega))).mono (by omega)) (by omega) (by rw[HXX.out];exact g1) (by rw[HXX.out];omega);rw[show rndE (sz*twoQ (-k9))=sigF (sz*twoQ 149) (k9+149).toNat by rw[HXX.out];rfl] at hev;have n1:=sigF_nonneg hsz0 (k9+149).toNat;have n2:=sigF_le HPJ.out.hi;obtain ⟨n,hn9,hnn⟩:∃ n:Nat,sigF (sz*twoQ 149) (k9+149).toNat=(n:Int)∧n≤16777216:=⟨_,(Int.toNat_of_nonneg n1).symm,by omega⟩;rw[hn9] at hev;have hRn:=HRJ.out;rw[hn9] at hRn;clear n1 n2 g1 g2 hsz0;have HEV:=hid hev;have HN9:=hid hn9;have HRN:=hid hRn;clear hev hn9 hRn;go_upto_region 14 with (fail);obtain ⟨⟨pb0,pb1,pb2,pb3⟩,pb4,pb5,pb6,pb7,pb8⟩:=BY.out.four;refine wp_region_T 6 (fun W=>W.cell? ⟨P,0,none⟩=some (.int .i64 s4)∧W.cell? ⟨P,1,none⟩=some (.slice a4 l4 c4)∧W.cell? ⟨P,2,none⟩=some (.int .i64 t4)∧W.cell? ⟨P,3,none⟩=some (.slice d4 m4 k4)) 7 #[false,false,false,false,false,false,false] rfl (by kernel_rfl) (by kernel_rfl) ?_;refine tk 0 (by exact ⟨pb0,pb1,pb2,pb3⟩) ?_
     try simp only[PT]
     refine tk 1 (by exact ⟨pb0,pb1,pb2,pb3⟩) ?_
     try simp only[PT]
     refine tk 2 (by exact ⟨pb0,pb1,pb2,pb3⟩) ?_
     try simp only[PT]
     refine wpT_one 3 rfl (by kernel_rfl) (fun K hK=>?_);go_simp;rw[show IntKind.i64.wrap (-k9)= -k9 by rw[IntKind.wrap_i64];omega];refine (HPW.out (-k9) _ (by omega) (by omega)).mono ?_;rintro e w15 ⟨v15,rfl,hn,hf⟩;have hn:=hn.undrew;have HG:=hid hf;clear hf;clear pb0 pb1 pb2 pb3 pb4 pb5 pb6 pb7 pb8;replace BX:=hid (BX.out.new hn);replace HF:=hid (HF.out.new hn);replace BY:=hid (BY.out.new hn);replace HY:=hid (HY.out.new hn);replace HN:=hid (HN.out.trans hn);clear hn;obtain ⟨⟨pb0,pb1,pb2,pb3⟩,pb4,pb5,pb6,pb7,pb8⟩:=BY.out.four;refine hK.out _ _ (fun _=>?_) ?_
     ·exact ⟨pb0,pb1,pb2,pb3⟩
     clear hK K
     try simp only[PT]
     refine wpT_one 4 rfl (by kernel_rfl) (fun K hK=>?_);go_simp;refine (HML.out _ _ (-k9) _ (by omega) (by omega) HY.out HG.out).mono ?_;rintro e w16 ⟨v16,rfl,hn,hf⟩;clear HG;have HG:=hid hf;clear hf;clear pb0 pb1 pb2 pb3 pb4 pb5 pb6 pb7 pb8;replace BX:=hid (BX.out.new hn);replace HF:=hid (HF.out.new hn);replace BY:=hid (BY.out.new hn);replace HY:=hid (HY.out.new hn);replace HN:=hid (HN.out.trans hn);clear hn;obtain ⟨⟨pb0,pb1,pb2,pb3⟩,pb4,pb5,pb6,pb7,pb8⟩:=BY.out.four;refine hK.out _ _ (fun _=>?_) ?_
     ·exact ⟨pb0,pb1,pb2,pb3⟩
     clear hK K
     try simp only[PT]
     refine wpT_one 5 rfl (by kernel_rfl) (fun K hK=>?_);go_simp;refine (HEV.out _ _ HG.out).mono ?_;rintro e w17 ⟨rfl,hn⟩;clear HG;clear pb0 pb1 pb2 pb3 pb4 pb5 pb6 pb7 pb8;replace BX:=hid (BX.out.new hn);replace HF:=hid (HF.out.new hn);replace BY:=hid (BY.out.new hn);replace HY:=hid (HY.out.new hn);replace HN:=hid (HN.out.trans hn);clear hn;obtain ⟨⟨pb0,pb1,pb2,pb3⟩,pb4,pb5,pb6,pb7,pb8⟩:=BY.out.four;refine hK.out _ _ (fun _=>?_) ?_
     ·exact ⟨pb0,pb1,pb2,pb3⟩
     clear hK K
     try simp only[PT]
     refine wpT_tail rfl (by kernel_rfl) ?_;simp only[List.drop_succ_cons,List.drop_zero];clear pb0 pb1 pb2 pb3 pb4 pb5 pb6 pb7 pb8;go_upto_region 15 with (fail);have hfin:=rung_fin hnn k9l k9m HRN.out;by_cases hmx:n=16777216∧k9=104
     ·obtain ⟨rfl,rfl⟩:=hmx;have hbR:¬R < 2139095040:=fun h=>hfin.1 h ⟨rfl,rfl⟩
      have e1:fltBits (decide (q.num < 0)) R=0:=by unfold fltBits;rw[if_neg hbR]
      have e2:fltErr R=4:=by unfold fltErr;rw[if_neg hbR]
      clear hbR hfin;have E1:=hid e1;have E2:=hid e2;clear e1 e2;go_wp2_with fail;go_ret2;exact ⟨by rw[E1.out,E2.out];rfl,HW.out.trans HN.out⟩
     ·have hbR:R < 2139095040:=hfin.2 hmx
      have hv:n*2^(k9+149).toNat=Flo.V Ieee.single R:=by
       have:=HRN.out
       exact_mod_cast this.symm
      have c1:=fun W=>Ldexp_nat n k9 hnn k9l k9m W;have c2:=conv_nat hnn k9l k9m hbR hv;obtain ⟨x,hx⟩:∃ x,FloatKind.f64.nearest (n:Int)=x:=⟨_,rfl⟩;have hx':floatOfInt .f64 (n:Int)=x:=hx;obtain ⟨y,hy⟩:∃ y,Ieee.double.nearest false n k9=y:=⟨_,rfl⟩;rw[hy] at c2;simp only[hx,hy] at c1;have c3:=fun W=>run_convert_float_float (P:=Tryz.prog) W 151 62 .f64 .f32 y R (by kernel_rfl) (by kernel_rfl) c2
      have hni:(n:Int)≤16777216:=by omega
      clear hfin c2 hv;have C1:=hid c1;have HX9:=hid hx;have HY9:=hid hy;have HBR:=hid hbR;clear c1 hx hy hbR;by_cases hn24:(n:Int)=16777216
      ·have t1:((n:Int)==16777216)=true:=by simpa using hn24
       have t2:(k9==104)=false:=by
        have:k9≠104:=fun h=>hmx ⟨by omega,h⟩;simpa using this
       clear hn24 hmx;obtain ⟨⟨pa0,pa1,pa2,pa3⟩,pa4,pa5,pa6,pa7,pa8⟩:=BX.out.four;go_wp2_with fail;refine (C1.out _).mono ?_;rintro e w18 ⟨rfl,rfl⟩;go_wp2_with fail;refine (fsign_calls _ q _ HF.out).mono ?_;rintro e w19 ⟨rfl,hn⟩;rw[HSG.out];clear pa0 pa1 pa2 pa3 pa4 pa5 pa6 pa7 pa8;replace HN:=hid (HN.out.trans hn);clear hn;by_cases hq:q.num < 0
       ·have tq:decide (t < 0)=true:=by rw[HTL.out];exact decide_eq_true hq
        by_cases hn0:(n:Int) > 0
        ·have tn:decide ((n:Int) > 0)=true:=decide_eq_true hn0;have hRb:=HBR.out
         have hneg:Op.negFloat .f32 R=R+2147483648:=by
          have:=Flo.neg_sw false (x:=R) (by omega);show Op.negFloat .f32 (Flo.sw false R)=_;rw[this];show 2147483648+R=_;omega
         have hR0:R≠0:=by
          intro h0;have h2:=HRN.out;rw[h0,Flo.V_zero] at h2;have h3:(0:Int) < (n:Int)*((2^(k9+149).toNat:Nat):Int):=Int.mul_pos hn0 (by exact_mod_cast Nat.two_pow_pos _);omega
         have e1:fltBits (decide (q.num < 0)) R=R+2147483648:=by
          unfold fltBits;rw[if_pos hRb,decide_eq_true hq]
          have:(R != 0)=true:=by simpa using hR0
          rw[this];rfl
         have e2:fltErr R=0:=by unfold fltErr;rw[if_pos hRb]
         clear hRb hR0;have E1:=hid e1;have E2:=hid e2;clear e1 e2;go_wp2_with (refine Flo.wpList_neg32 rfl rfl rfl hneg ?_);go_wp2_with fail;go_ret2;exact ⟨by rw[E1.out,E2.out];rfl,HW.out.trans HN.out⟩
        ·have tn:decide ((n:Int) > 0)=false:=decide_eq_false hn0;go_wp2_with fail;go_ret2
         have hR0:R=0:=by
          have h1:n=0:=by omega
          have h2:=HRN.out;rw[h1] at h2
          have h3:Flo.V Ieee.single R=0:=by simpa using h2
          exact Flo.V_inj Ieee.single (by rw[h3,Flo.V_zero])
         have e0:∀ b,fltBits b 0=0:=by decide
         have e1:fltBits (decide (q.num < 0)) R=R:=by rw[hR0,e0]
         have e2:fltErr R=0:=by rw[hR0];rfl
         exact ⟨by rw[e1,e2];rfl,HW.out.trans HN.out⟩
       ·have tq:decide (t < 0)=false:=by rw[HTL.out];exact decide_eq_false hq
        go_wp2_with fail;go_ret2;have hRb:=HBR.out
        have e1:fltBits (decide (q.num < 0)) R=R:=by unfold fltBits;rw[if_pos hRb,decide_eq_false (by omega)];rfl
        have e2:fltErr R=0:=by unfold fltErr;rw[if_pos hRb]
        exact ⟨by rw[e1,e2];rfl,HW.out.trans HN.out⟩
      ·have t1:((n:Int)==16777216)=false:=by simpa using hn24
       clear hn24 hmx;obtain ⟨⟨pa0,pa1,pa2,pa3⟩,pa4,pa5,pa6,pa7,pa8⟩:=BX.out.four;go_wp2_with fail;refine (C1.out _).mono ?_;rintro e w18 ⟨rfl,rfl⟩;go_wp2_with fail;refine (fsign_calls _ q _ HF.out).mono ?_;rintro e w19 ⟨rfl,hn⟩;rw[HSG.out];clear pa0 pa1 pa2 pa3 pa4 pa5 pa6 pa7 pa8;replace HN:=hid (HN.out.trans hn);clear hn;by_cases hq:q.num < 0
       ·have tq:decide (t < 0)=true:=by rw[HTL.out];exact decide_eq_true hq
        by_cases hn0:(n:Int) > 0
        ·have tn:decide ((n:Int) > 0)=true:=decide_eq_true hn0;have hRb:=HBR.out
         have hneg:Op.negFloat .f32 R=R+2147483648:=by
          have:=Flo.neg_sw false (x:=R) (by omega);show Op.negFloat .f32 (Flo.sw false R)=_;rw[this];show 2147483648+R=_;omega
         have hR0:R≠0:=by
          intro h0;have h2:=HRN.out;rw[h0,Flo.V_zero] at h2;have h3:(0:Int) < (n:Int)*((2^(k9+149).toNat:Nat):Int):=Int.mul_pos hn0 (by exact_mod_cast Nat.two_pow_pos _);omega
         have e1:fltBits (decide (q.num < 0)) R=R+2147483648:=by
          unfold fltBits;rw[if_pos hRb,decide_eq_true hq]
          have:(R != 0)=true:=by simpa using hR0
          rw[this];rfl
         have e2:fltErr R=0:=by unfold fltErr;rw[if_pos hRb]
         clear hRb hR0;have E1:=hid e1;have E2:=hid e2;clear e1 e2;go_wp2_with (refine Flo.wpList_neg32 rfl rfl rfl hneg ?_);go_wp2_with fail;go_ret2;exact ⟨by rw[E1.out,E2.out];rfl,HW.out.trans HN.out⟩
        ·have tn:decide ((n:Int) > 0)=false:=decide_eq_false hn0;go_wp2_with fail;go_ret2
         have hR0:R=0:=by
          have h1:n=0:=by omega
          have h2:=HRN.out;rw[h1] at h2
          have h3:Flo.V Ieee.single R=0:=by simpa using h2
          exact Flo.V_inj Ieee.single (by rw[h3,Flo.V_zero])
         have e0:∀ b,fltBits b 0=0:=by decide
         have e1:fltBits (decide (q.num < 0)) R=R:=by rw[hR0,e0]
         have e2:fltErr R=0:=by rw[hR0];rfl
         exact ⟨by rw[e1,e2];rfl,HW.out.trans HN.out⟩
       ·have tq:decide (t < 0)=false:=by rw[HTL.out];exact decide_eq_false hq
        go_wp2_with fail;go_ret2;have hRb:=HBR.out
        have e1:fltBits (decide (q.num < 0)) R=R:=by unfold fltBits;rw[if_pos hRb,decide_eq_false (by omega)];rfl
        have e2:fltErr R=0:=by unfold fltErr;rw[if_pos hRb]
        exact ⟨by rw[e1,e2];rfl,HW.out.trans HN.out⟩
   ·have rb:decide (r ≥ 0)=true:=decide_eq_true (by
     rcases Int.lt_or_le r 0 with h | h
     ·exact absurd (hi.1 h) hlt
     ·exact h)
    have hK:kk=k0:=by
     rcases HK.out with h | ⟨h, -⟩
     ·exact h
     ·exact absurd (by rw[h,show k0+1+24=k0+25 by omega];exact HS1.out) hlt
    have hge:twoQ (k0+24)≤sz:=by rw[←hK];exact Rat.not_lt.1 hlt
    clear hi hlt;have HRR:=hid hr;have HKK:=hid hK;have HGE:=hid hge;clear hr hK hge;go_upto_region 9 with (fail);obtain ⟨⟨pb0,pb1,pb2,pb3⟩,pb4,pb5,pb6,pb7,pb8⟩:=BY.out.four;refine wp_region_T 5 (fun W=>W.cell? ⟨P,0,none⟩=some (.int .i64 s4)∧W.cell? ⟨P,1,none⟩=some (.slice a4 l4 c4)∧W.cell? ⟨P,2,none⟩=some (.int .i64 t4)∧W.cell? ⟨P,3,none⟩=some (.slice d4 m4 k4)) 6 #[false,false,false,false,false,false] rfl (by kernel_rfl) (by kernel_rfl) ?_;refine tk 0 (by exact ⟨pb0,pb1,pb2,pb3⟩) ?_
    try simp only[PT]
    refine tk 1 (by exact ⟨pb0,pb1,pb2,pb3⟩) ?_
    try simp only[PT]
    refine tk 2 (by exact ⟨pb0,pb1,pb2,pb3⟩) ?_
    try simp only[PT]
    refine wpT_one 3 rfl (by kernel_rfl) (fun K hK=>?_);go_simp;rw[show IntKind.i64.wrap (kk+24)=kk+24 by rw[IntKind.wrap_i64];omega];refine (HPW.out (kk+24) _ (by omega) (by omega)).mono ?_;rintro e w13 ⟨v13,rfl,hn,hf⟩;have hn:=hn.undrew;have HG:=hid hf;clear hf;clear pb0 pb1 pb2 pb3 pb4 pb5 pb6 pb7 pb8;replace BX:=hid (BX.out.new hn);replace HF:=hid (HF.out.new hn);replace BY:=hid (BY.out.new hn);replace HY:=hid (HY.out.new hn);replace HN:=hid (HN.out.trans hn);clear hn;obtain ⟨⟨pb0,pb1,pb2,pb3⟩,pb4,pb5,pb6,pb7,pb8⟩:=BY.out.four;refine hK.out _ _ (fun _=>?_) ?_
    ·exact ⟨pb0,pb1,pb2,pb3⟩
    clear hK K
    try simp only[PT]
    refine wpT_one 4 rfl (by kernel_rfl) (fun K hK=>?_);go_simp;refine (HCM.out _ _ (kk+24) _ (by omega) (by omega) HY.out HG.out).mono ?_;rintro e w14 ⟨rfl,hn⟩;rw[HRR.out];clear HG;clear pb0 pb1 pb2 pb3 pb4 pb5 pb6 pb7 pb8;replace BX:=hid (BX.out.new hn);replace HF:=hid (HF.out.new hn);replace BY:=hid (BY.out.new hn);replace HY:=hid (HY.out.new hn);replace HN:=hid (HN.out.trans hn);clear hn;obtain ⟨⟨pb0,pb1,pb2,pb3⟩,pb4,pb5,pb6,pb7,pb8⟩:=BY.out.four;refine hK.out _ _ (fun _=>?_) ?_
    ·exact ⟨pb0,pb1,pb2,pb3⟩
    clear hK K
    try simp only[PT]
    refine wpT_tail rfl (by kernel_rfl) ?_;simp only[List.drop_succ_cons,List.drop_zero];clear pb0 pb1 pb2 pb3 pb4 pb5 pb6 pb7 pb8;go_wp2_with fail;go_roundw
    case rel=>exact ⟨kk+1,by go_num,hid (.inr ⟨by rw[HKK.out],HGE.out⟩),HN⟩
    case measure=>have:=HKK.out;simp[RowKit.intOf];omega
theorem stepQ_two (k:Int):stepQ k=twoQ k:=by
 unfold stepQ twoQ;split
 ·rw[Rat.intCast_pow];rfl
 ·rw[Rat.intCast_pow];rfl
theorem part_val_sw (s:Bool){x n i j:Nat}(hx:x < 2139095040)(h:Flo.V Ieee.single x*2^i=n*2^149*2^j):(((if s then -(n:Int) else (n:Int)):Int):Rat)*twoQ ((j:Int) - (i:Int))=fq (Flo.sw s x):=by
 rw[←stepQ_two]
 cases s
 ·exact part_val hx h
 ·rw[if_pos rfl,Rat.intCast_neg,Rat.neg_mul,part_val hx h];exact (fq_neg hx).symm
theorem exact_calls (s:Bool)(x:Nat)(w:World)(h:x < 2139095040):
  Calls Tryz.prog 125 #[.float .f32 (Flo.sw s x)] w (FracPost w (fq (Flo.sw s x))):=by
 have hval:=fun (n i j:Nat) hh=>part_val_sw s (x:=x) (n:=n) (i:=i) (j:=j) h hh;obtain ⟨U,hU⟩:∃ U,U=2^149:=⟨_,rfl⟩;obtain ⟨V,hV⟩:∃ V,Flo.V Ieee.single=V:=⟨_,rfl⟩
 have hVx:∀ y,16777216≤y→V y=V (y - 8388608)*2:=fun y hy=>by
  have:=Flo.V_up (x:=y - 8388608) (by omega);rw[Nat.sub_add_cancel (by omega),hV] at this;omega
 have hge:∀ y,y < 2139095040→geqF y 1266679808=decide (1266679808≤y):=fun y hy=>by
  unfold geqF;rw[ord_pos hy (by omega),cmp_gt,cmp_eq];rw[Bool.eq_iff_iff,Bool.or_eq_true,decide_eq_true_eq,decide_eq_true_eq,decide_eq_true_eq];constructor
  ·intro hh;rcases Nat.lt_or_ge y 1266679808 with h1 | h1
   ·have:=Flo.V_lt Ieee.single h1;omega
   ·exact h1
  ·intro hh;have:=Flo.V_le Ieee.single hh;omega
 have hng:∀ y,y < 2139095040→Op.negFloat .f32 (Flo.sw s y)=Flo.sw (!s) y:=fun y hy=>Flo.neg_sw s (by omega);have hmx:∀ y,y < 2139095040→∀ (ts:Array TypeId) (t:TypeId) (W:World),(Builtin.max_ ts t #[.float .f32 (Flo.sw s y),.float .f32 (Flo.sw (!s) y)]).run Tryz.prog W=.ok (.float .f32 y) W:=fun y hy ts t W=>Flo.max_sw s hy ts t W;have hhalf:∀ y,1266679808≤y→y < 2139095040→∀ W,(binOp .quo 62 (.float .f32 (Flo.sw s y)) (.float .f32 1073741824)).run Tryz.prog W=.ok (.float .f32 (Flo.sw s (y - 8388608))) W:=fun y h1 h2 W=>run_float_arith W .quo 62 .f32 _ _ _ (Flo.shalve_sw s (y:=y - 8388608) (by omega) (by omega) h2)
 have hlim:∀ y,y < 1266679808→V y < 16777216*U:=fun y hy=>by
  have:=Flo.V_lt Ieee.single hy;rw[Flo.one_unit,←hU,hV] at this;exact this
 have hdbl:∀ z,z≠0→z < 1258291200→(∀ W,(binOp .mul 62 (.float .f32 (Flo.sw s z)) (.float .f32 1073741824)).run Tryz.prog W=.ok (.float .f32 (Flo.sw s (Flo.dbl z))) W)∧V (Flo.dbl z)=V z*2:=fun z h1 h2=>⟨fun W=>run_float_arith W .mul 62 .f32 _ _ _ (Flo.sdouble_sw s h1 (by omega)),by rw[←hV,Flo.V_dbl];omega⟩;have hti:∀ z,V z < 16777216*U→z < 1266679808:=fun z hz=>Flo.inf_lt (by rw[hV,←hU];exact hz)
 have hint:∀ z,z < 1266679808→∃ (r n:Nat) (N:Int),n < 16777216∧N.natAbs=n∧n=V z / U∧N=(if s then -(n:Int) else (n:Int))∧floatToIntVal .f32 (Flo.sw s z) .i64=some N∧floatOfInt .f32 N=r∧(FloatKind.f32.format.order (Flo.sw s z) r != some .eq)=!decide (V z=n*U):=fun z hz=>by
  have h1:=Flo.swhole s hz;rw[hV,←hU] at h1;exact h1
 have hstep:∀ z,V z < 16777216*U→¬V z % U=0→V z*2 < 16777216*U∧z≠0∧z < 1258291200:=fun z h1 h2=>by
  rw[←hV]at h1 h2⊢;exact part_step hU h1 h2
 simp only[hV,←hU]at hval
 have hdu:∀ v i:Nat,149≤i→v*2^i % U=0:=fun v i hi=>by
  obtain ⟨k,rfl⟩:∃ k,i=149+k:=⟨i - 149,by omega⟩;rw[hU,Nat.pow_add,Nat.mul_left_comm];exact Nat.mul_mod_right _ _
 obtain ⟨q,hq⟩:∃ q,fq (Flo.sw s x)=q:=⟨_,rfl⟩;rw[hq] at hval⊢;obtain ⟨S,hS⟩:∃ S,Flo.sw s=S:=⟨_,rfl⟩;obtain ⟨T,hT⟩:∃ T,Flo.sw (!s)=T:=⟨_,rfl⟩;simp only[hS,hT] at hng hmx hhalf hdbl hint;rw[hS];clear hV hU hq hS hT;have HVAL:=hid hval;have HVX:=hid hVx;have HGE:=hid hge;have HNG:=hid hng;have HMX:=hid hmx;have HHALF:=hid hhalf;have HLIM:=hid hlim;have HDBL:=hid hdbl;have HTI:=hid hti;have HINT:=hid hint;have HSTEP:=hid hstep;have H:=hid h;have HDU:=hid hdu;clear hval hVx hge hng hmx hhalf hlim hdbl hti hint hstep h hdu;go_enter Tryz.func125,Tryz.ntmps125;go_wp2_with fail;obtain ⟨BP,HN⟩:=lay1 w 115 #[.int .i64 0,.slice none 0 0,.int .i64 0,.slice none 0 0];go_loopw [0,3] (fun f k wr=>∃ (y F j:Nat) (K:Int),Hid (K=(j:Int)∧S y=F∧y+8388608*j=x∧V x=V y*2^j∧j≤104)∧f=.float .f32 F∧k=.int .i64 K∧Hid (New w wr)∧Hid (Box wr w.heap.size 115 #[.int .i64 0,.slice none 0 0,.int .i64 0,.slice none 0 0])) (fun _ k _=>(105 - RowKit.intOf k).toNat)
 case atStart=>exact ⟨x,_,0,0,hid ⟨rfl,rfl,by omega,by rw[Nat.pow_zero,Nat.mul_one],by omega⟩,rfl,rfl,HN,BP⟩
 case round=>
  obtain ⟨y,F,j,K,HI,rfl,rfl,HN,BP⟩:=hrel;obtain ⟨hK,hSF,hyx,hVV,hj⟩:=HI.out;have hx:=H.out
  have hKl:0≤K:=by omega
  have hKh:K≤104:=by omega
  have hn1:=HNG.out y (by omega);have hn2:=HMX.out y (by omega);rw[hSF] at hn1 hn2;obtain ⟨G,hG⟩:∃ G,T y=G:=⟨_,rfl⟩;rw[hG] at hn1;simp only[hG] at hn2;by_cases hlt:1266679808≤y
  ·have hg:=HGE.out y (by omega);rw[decide_eq_true hlt] at hg;unfold geqF at hg;have hr:=HHALF.out y hlt (by omega);have hv:=HVX.out y (by omega);obtain ⟨y1,hy1⟩:∃ q,y - 8388608=q:=⟨_,rfl⟩;obtain ⟨F1,hF1⟩:∃ F1,S y1=F1:=⟨_,rfl⟩;rw[hy1] at hv;simp only[hy1,hF1,hSF] at hr
   have HI2:Hid (K+1=((j+1:Nat):Int)∧S y1=F1∧y1+8388608*(j+1)=x∧V x=V y1*2^(j+1)∧j+1≤104):=by
    refine hid ⟨by omega,hF1,by omega,?_,by omega⟩;rw[hVV,hv,Nat.pow_succ,Nat.mul_comm (2^j),Nat.mul_assoc]
   clear HI hyx hVV hlt hy1 hv hK hj hx hF1 hSF hG;go_wp2_with (refine Flo.wpList_neg32 rfl rfl rfl hn1 ?_);go_wp2_with fail;go_roundw
   case rel=>exact ⟨y1,F1,j+1,K+1,HI2,rfl,rfl,HN,BP⟩
   case measure=>simp[RowKit.intOf];omega
  ·have hg:=HGE.out y (by omega);rw[decide_eq_false hlt] at hg;unfold geqF at hg;rw[Bool.or_eq_false_iff] at hg;obtain ⟨hg1,hg2⟩:=hg;have hly:=HLIM.out y (by omega);have HL:=hid hly;have HSF:=hid hSF;clear HI hyx hlt hx hly hSF hG;have HV:=hid hVV;have HJ:=hid hj;have HKE:=hid hK;clear hVV hj hK;go_wp2_with (refine Flo.wpList_neg32 rfl rfl rfl hn1 ?_);go_wp2_with fail;clear hg1 hg2 hn1 hn2;go_loopw [0,3] (fun f k wr=>∃ (z F1 i:Nat) (L:Int),Hid (L=(j:Int) - (i:Int)∧S z=F1∧V z=V y*2^i∧i≤149∧V z < 16777216*U)∧f=.float .f32 F1∧k=.int .i64 L∧Hid (New w wr)∧Hid (Box wr w.heap.size 115 #[.int .i64 0,.slice none 0 0,.int .i64 0,.slice none 0 0])) (fun _ k _=>(150+RowKit.intOf k).toNat)
   case atStart=>exact ⟨y,F,0,K,hid ⟨by have:=HKE.out;omega,HSF.out,by rw[Nat.pow_zero,Nat.mul_one],by omega,HL.out⟩,rfl,rfl,HN,BP⟩
   case round=>
    clear hKl hKh;obtain ⟨z,F1,i,L,HI,rfl,rfl,HN,BP⟩:=hrel;obtain ⟨hL,hSz,hVz,hi,hzl⟩:=HI.out;have hj:=HJ.out
    have hLl: -149≤L:=by omega
    have hLh:L≤104:=by omega
    obtain ⟨r,n,N,hn,hNn,hnV,hN,hfi,hof,hqq⟩:=HINT.out z (HTI.out z hzl);rw[hSz] at hfi hqq
    have hNl: -16777216≤N:=by omega
    have hNh:N≤16777216:=by omega
    have hcv:=fun W=>run_convert_float_int (P:=Tryz.prog) W 62 3 .f32 .i64 F1 N (by kernel_rfl) Tryz.underlying3 hfi;by_cases hd:V z % U=0
    ·have e:V z=n*U:=by
      rw[hnV];have:=Nat.div_add_mod (V z) U;rw[hd,Nat.add_zero,Nat.mul_comm] at this;exact this.symm
     rw[decide_eq_true e]at hqq;replace hqq:(FloatKind.f32.format.order F1 r != some .eq)=false:=hqq;have hres:=HVAL.out n i j (by rw[HV.out,Nat.mul_right_comm,←hVz,e]);rw[←hN] at hres;have hfm:=fun va vb W h1 h2=>fmul_calls va vb (N:Rat) (twoQ ((j:Int) - (i:Int))) 62 8001 W h1 h2 (FB.int (k:=62) (Nat.lt_of_le_of_lt (m:=16777216) (by omega) (by decide)) (by omega)) (twoQ_fb (by omega) (by omega)) (by omega);rw[hres] at hfm;have hpw:=fun W=>power_calls ((j:Int) - (i:Int)) W (by omega) (by omega);rw[←hL] at hpw hfm;have hff:=fun W=>f_calls N W (by omega) (by omega);clear HI hVz hzl hn hnV hN hNn hd e hres hi hL hj hSz;have HFM:=hid hfm;have HPW:=hid hpw;have HFF:=hid hff;clear hfm hpw hff;go_wp2_with fail;refine (HFF.out _).mono ?_;rintro e w1 ⟨v1,rfl,hn,hf⟩;have HF1:=hid hf;clear hf;replace BP:=hid (BP.out.new hn);replace HN:=hid (HN.out.trans hn);clear hn;go_wp2_with fail;refine (HPW.out _).mono ?_;rintro e w2 ⟨v2,rfl,hn,hf⟩;have HF2:=hid hf;clear hf;replace BP:=hid (BP.out.new hn);replace HF1:=hid (HF1.out.new hn);replace HN:=hid (HN.out.trans hn);clear hn;go_wp2_with fail;refine (HFM.out _ _ _ HF1.out HF2.out).mono ?_;rintro e w3 ⟨v3,rfl,hn,hf⟩;clear HF1 HF2;obtain ⟨s9,a9,l9,k9,t9,b9,m9,n9,rfl⟩:=hf.shape;have HF:=hid hf;clear hf;replace BP:=hid (BP.out.new hn);replace HN:=hid (HN.out.trans hn);clear hn;obtain ⟨⟨p0,p1,p2,p3⟩,p4,p5,p6,p7,p8⟩:=BP.out.four;go_wp2_with fail;refine bodyPost_ret (v:=.agg #[.int .i64 s9,.slice a9 l9 k9,.int .i64 t9,.slice b9 m9 n9]) (by simp[results,Tryz.results125,go_sem,p0,p1,p2,p3]) rfl ?_;exact frac_ret HN.out BP.out (by omega) HF.out.parts.1 HF.out.parts.2
    ·have e:¬V z=n*U:=by
      intro e;apply hd;rw[e];exact Nat.mul_mod_left _ _
     rw[decide_eq_false e]at hqq;replace hqq:(FloatKind.f32.format.order F1 r != some .eq)=true:=hqq;obtain ⟨hs1,hs2,hs3⟩:=HSTEP.out z hzl hd;obtain ⟨hmul,hdv⟩:=HDBL.out z hs2 hs3;obtain ⟨z1,hz1⟩:∃ q,Flo.dbl z=q:=⟨_,rfl⟩;obtain ⟨F2,hF2⟩:∃ q,S z1=q:=⟨_,rfl⟩;rw[hz1] at hdv;simp only[hz1,hF2,hSz] at hmul
     have hi1:i < 149:=by
      rcases Nat.lt_or_ge i 149 with h | h
      ·exact h
      ·rw[hVz] at hd;exact absurd (HDU.out _ _ h) hd
     have HI2:Hid (L - 1=(j:Int) - ((i+1:Nat):Int)∧S z1=F2∧V z1=V y*2^(i+1)∧i+1≤149∧V z1 < 16777216*U):=by
      refine hid ⟨by omega,hF2,?_,hi1,by omega⟩;rw[hdv,hVz,Nat.pow_succ,Nat.mul_assoc]
     have hLl2: -149≤L - 1:=by omega
     clear HI hVz hzl hn hnV hN hNn hd e hi hL hj hs1 hs2 hs3 hdv hz1 hi1 hLl hSz hF2;go_wp2_with fail;go_roundw
     case rel=>exact ⟨z1,F2,i+1,L - 1,HI2,rfl,rfl,HN,BP⟩
     case measure=>simp[RowKit.intOf];omega
theorem fq_fb (s:Bool){y:Nat}(h:y < 2139095040):FB 280 (fq (Flo.sw s y)):=by
 unfold fq;rw[(Flo.sw_fin s h).2.2.2];have h1:=Flo.V_lt Ieee.single h
 have h2:Flo.V Ieee.single 2139095040 < 2^280:=by decide +kernel
 refine FB.divInt ?_ (by unfold BdK;decide +kernel) (by decide);unfold BdK
 cases s
 ·rw[if_neg (by decide),Int.natAbs_natCast];exact Nat.lt_trans h1 h2
 ·rw[if_pos rfl,Int.natAbs_neg,Int.natAbs_natCast];exact Nat.lt_trans h1 h2
theorem nexact_calls (x:Nat)(hx:x < 4294967296)(h:isFin x=true)(w:World)(he:Env w):Calls Tryz.prog 40 #[.float .f32 x] w (TxtPost w (rs (fq x)) 0):=by
 obtain ⟨s,y,hy,rfl⟩:∃ (s:Bool) (y:Nat),y < 2139095040∧x=Flo.sw s y:=by
  have hr:x % 2147483648 < 2139095040:=by
   unfold isFin Ieee.Format.read at h;simp only[Flo.ssw,Flo.sbin,Flo.sinf] at h;split at h
   ·rename_i hh;split at hh
    ·omega
    ·split at hh
     ·assumption
     ·split at hh <;> cases hh
   ·cases h
  by_cases h1:x < 2147483648
  ·exact ⟨false,x,by omega,rfl⟩
  ·exact ⟨true,x - 2147483648,by omega,by show x=2147483648+_;omega⟩
 have hfb:=fq_fb s hy;have hfi:=fun W=>finite_calls (Flo.sw s y) W;rw[h] at hfi;have hex:=fun W=>exact_calls s y W hy;have htx:=fun (W:World) v hh hW=>text_calls v (fq (Flo.sw s y)) W hh (hfb.mono (by omega)) hW;obtain ⟨q,hq⟩:∃ q,fq (Flo.sw s y)=q:=⟨_,rfl⟩;obtain ⟨x,hxx⟩:∃ x,Flo.sw s y=x:=⟨_,rfl⟩;obtain ⟨X,hX⟩:∃ X,rs q=X:=⟨_,rfl⟩;have hX2:(⟨(ratText q).toArray⟩:ByteArray)=X:=hX;simp only[hxx] at hq;simp only[hxx,hq,hX2] at hex htx hfi;rw[hxx,hq,hX];unfold TxtPost;clear hq hxx hX hX2 hfb hx h hy;have HN:=hid (New.refl w);have HFI:=hid hfi;have HEX:=hid hex;have HTX:=hid htx;have HE:=hid he;clear hfi hex htx he;go_enter Tryz.func40,Tryz.ntmps40;go_wp2_with fail;refine (HFI.out _).mono ?_;rintro e w1 ⟨rfl,m,rfl⟩;have hn:=(New.refl w).drewN m;replace HN:=hid (HN.out.trans hn);clear hn;go_wp2_with fail;refine (HEX.out _).mono ?_;rintro e w2 ⟨v2,rfl,hn,hf⟩;have HF:=hid hf;clear hf;replace HN:=hid (HN.out.trans hn);clear hn;go_wp2_with fail;refine (HTX.out _ _ HF.out (HE.out.new HN.out)).mono ?_;rintro e w3 ⟨rfl,hn⟩;replace HN:=hid (HN.out.trans hn);clear hn;go_wp2_with fail;refine bodyPost_ret (v:=.tuple #[.string X,.int .i64 0]) (by simp[results,Tryz.results40,go_sem]) rfl ?_;exact ⟨rfl,HN.out⟩
end Go.Proofs.YtnjonlnemagomaaGreatDoor
