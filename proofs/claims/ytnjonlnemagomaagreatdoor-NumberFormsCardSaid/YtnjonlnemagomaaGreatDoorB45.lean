/- Part B45. -/
import Derived.Test.YtnjonlnemagomaaGreatDoorB44
namespace Go.Proofs.YtnjonlnemagomaaGreatDoor
open Go.RowKit Big Go.Lib
set_option maxRecDepth 100000
set_option maxHeartbeats 8000000
theorem yjb (k:Int):yjs k=twoQ k:=by
 unfold yjs twoQ;split
 ·rw[Rat.intCast_pow];rfl
 ·rw[Rat.intCast_pow];rfl
theorem yfx (s:Bool){x n i j:Nat}(hx:x < 2139095040)(h:Flo.V Ieee.single x*2^i=n*2^149*2^j):(((if s then -(n:Int) else (n:Int)):Int):Rat)*twoQ ((j:Int) - (i:Int))=fq (Flo.sw s x):=by
 rw[<-yjb]
 cases s
 ·exact ygo hx h
 ·rw[if_pos rfl,Rat.intCast_neg,Rat.neg_mul,ygo hx h];exact (ypo hx).symm
theorem yfb (s:Bool)(x:Nat)(w:World)(h:x < 2139095040):
  Calls Tryz.prog 125 #[.float .f32 (Flo.sw s x)] w (y1h w (fq (Flo.sw s x))):=by
 have hval:=fun (n i j:Nat) hh=>yfx s (x:=x) (n:=n) (i:=i) (j:=j) h hh;obtain ⟨U,hU⟩:∃ U,U=2^149:=⟨_,rfl⟩;obtain ⟨V,hV⟩:∃ V,Flo.V Ieee.single=V:=⟨_,rfl⟩
 have hVx:∀ y,16777216<=y->V y=V (y - 8388608)*2:=fun y hy=>by
  have:=Flo.V_up (x:=y - 8388608) (by omega);rw[Nat.sub_add_cancel (by omega),hV] at this;omega
 have hge:∀ y,y < 2139095040->geqF y 1266679808=decide (1266679808<=y):=fun y hy=>by
  unfold geqF;rw[ynp hy (by omega),yph,cmp_eq];rw[Bool.eq_iff_iff,Bool.or_eq_true,decide_eq_true_eq,decide_eq_true_eq,decide_eq_true_eq];constructor
  ·intro hh;rcases Nat.lt_or_ge y 1266679808 with h1 | h1
   ·have:=Flo.V_lt Ieee.single h1;omega
   ·exact h1
  ·intro hh;have:=Flo.V_le Ieee.single hh;omega
 have hng:∀ y,y < 2139095040->Op.negFloat .f32 (Flo.sw s y)=Flo.sw (!s) y:=fun y hy=>Flo.neg_sw s (by omega);have hmx:∀ y,y < 2139095040->∀ (ts:Array TypeId) (t:TypeId) (W:World),(Builtin.max_ ts t #[.float .f32 (Flo.sw s y),.float .f32 (Flo.sw (!s) y)]).run Tryz.prog W=.ok (.float .f32 y) W:=fun y hy ts t W=>Flo.max_sw s hy ts t W;have hhalf:∀ y,1266679808<=y->y < 2139095040->∀ W,(binOp .quo 62 (.float .f32 (Flo.sw s y)) (.float .f32 1073741824)).run Tryz.prog W=.ok (.float .f32 (Flo.sw s (y - 8388608))) W:=fun y h1 h2 W=>run_float_arith W .quo 62 .f32 _ _ _ (Flo.shalve_sw s (y:=y - 8388608) (by omega) (by omega) h2)
 have hlim:∀ y,y < 1266679808->V y < 16777216*U:=fun y hy=>by
  have:=Flo.V_lt Ieee.single hy;rw[Flo.one_unit,<-hU,hV] at this;exact this
 have hdbl:∀ z,z≠0->z < 1258291200->(∀ W,(binOp .mul 62 (.float .f32 (Flo.sw s z)) (.float .f32 1073741824)).run Tryz.prog W=.ok (.float .f32 (Flo.sw s (Flo.dbl z))) W)/\V (Flo.dbl z)=V z*2:=fun z h1 h2=>⟨fun W=>run_float_arith W .mul 62 .f32 _ _ _ (Flo.sdouble_sw s h1 (by omega)),by rw[<-hV,Flo.V_dbl];omega⟩;have hti:∀ z,V z < 16777216*U->z < 1266679808:=fun z hz=>Flo.inf_lt (by rw[hV,<-hU];exact hz)
 have hint:∀ z,z < 1266679808->∃ (r n:Nat) (N:Int),n < 16777216/\N.natAbs=n/\n=V z / U/\N=(if s then -(n:Int) else (n:Int))/\floatToIntVal .f32 (Flo.sw s z) .i64=some N/\floatOfInt .f32 N=r/\(FloatKind.f32.format.order (Flo.sw s z) r != some .eq)=!decide (V z=n*U):=fun z hz=>by
  have h1:=Flo.swhole s hz;rw[hV,<-hU] at h1;exact h1
 have hstep:∀ z,V z < 16777216*U->¬V z % U=0->V z*2 < 16777216*U/\z≠0/\z < 1258291200:=fun z h1 h2=>by
  rw[<-hV]at h1 h2⊢;exact yjw hU h1 h2
 simp only[hV,<-hU]at hval
 have hdu:∀ v i:Nat,149<=i->v*2^i % U=0:=fun v i hi=>by
  obtain ⟨k,rfl⟩:∃ k,i=149+k:=⟨i - 149,by omega⟩;rw[hU,Nat.pow_add,Nat.mul_left_comm];exact Nat.mul_mod_right _ _
 obtain ⟨q,hq⟩:∃ q,fq (Flo.sw s x)=q:=⟨_,rfl⟩;rw[hq] at hval⊢;obtain ⟨S,hS⟩:∃ S,Flo.sw s=S:=⟨_,rfl⟩;obtain ⟨T,hT⟩:∃ T,Flo.sw (!s)=T:=⟨_,rfl⟩;simp only[hS,hT] at hng hmx hhalf hdbl hint;rw[hS];clear hV hU hq hS hT;have HVAL:=hid hval;have HVX:=hid hVx;have HGE:=hid hge;have HNG:=hid hng;have HMX:=hid hmx;have HHALF:=hid hhalf;have HLIM:=hid hlim;have HDBL:=hid hdbl;have HTI:=hid hti;have HINT:=hid hint;have HSTEP:=hid hstep;have H:=hid h;have HDU:=hid hdu;clear hval hVx hge hng hmx hhalf hlim hdbl hti hint hstep h hdu;go_enter Tryz.func125,Tryz.ntmps125;go_wp2_with fail;obtain ⟨BP,HN⟩:=lay1 w 115 #[.int .i64 0,.slice none 0 0,.int .i64 0,.slice none 0 0];go_loopw [0,3] (fun f k wr=>∃ (y F j:Nat) (K:Int),Hid (K=(j:Int)/\S y=F/\y+8388608*j=x/\V x=V y*2^j/\j<=104)/\f=.float .f32 F/\k=.int .i64 K/\Hid (New w wr)/\Hid (Box wr w.heap.size 115 #[.int .i64 0,.slice none 0 0,.int .i64 0,.slice none 0 0])) (fun _ k _=>(105 - RowKit.intOf k).toNat)
 case atStart=>exact ⟨x,_,0,0,hid ⟨rfl,rfl,by omega,by rw[Nat.pow_zero,Nat.mul_one],by omega⟩,rfl,rfl,HN,BP⟩
 case round=>
  obtain ⟨y,F,j,K,HI,rfl,rfl,HN,BP⟩:=hrel;obtain ⟨hK,hSF,hyx,hVV,hj⟩:=HI.out;have hx:=H.out
  have hKl:0<=K:=by omega
  have hKh:K<=104:=by omega
  have hn1:=HNG.out y (by omega);have hn2:=HMX.out y (by omega);rw[hSF] at hn1 hn2;obtain ⟨G,hG⟩:∃ G,T y=G:=⟨_,rfl⟩;rw[hG] at hn1;simp only[hG] at hn2;by_cases hlt:1266679808<=y
  ·have hg:=HGE.out y (by omega);rw[decide_eq_true hlt] at hg;unfold geqF at hg;have hr:=HHALF.out y hlt (by omega);have hv:=HVX.out y (by omega);obtain ⟨y1,hy1⟩:∃ q,y - 8388608=q:=⟨_,rfl⟩;obtain ⟨F1,hF1⟩:∃ F1,S y1=F1:=⟨_,rfl⟩;rw[hy1] at hv;simp only[hy1,hF1,hSF] at hr
   have HI2:Hid (K+1=((j+1:Nat):Int)/\S y1=F1/\y1+8388608*(j+1)=x/\V x=V y1*2^(j+1)/\j+1<=104):=by
    refine hid ⟨by omega,hF1,by omega,?_,by omega⟩;rw[hVV,hv,Nat.pow_succ,Nat.mul_comm (2^j),Nat.mul_assoc]
   clear HI hyx hVV hlt hy1 hv hK hj hx hF1 hSF hG;go_wp2_with (refine Flo.wpList_neg32 rfl rfl rfl hn1 ?_);go_wp2_with fail;go_roundw
   case rel=>exact ⟨y1,F1,j+1,K+1,HI2,rfl,rfl,HN,BP⟩
   case measure=>simp[RowKit.intOf];omega
  ·have hg:=HGE.out y (by omega);rw[decide_eq_false hlt] at hg;unfold geqF at hg;rw[Bool.or_eq_false_iff] at hg;obtain ⟨hg1,hg2⟩:=hg;have hly:=HLIM.out y (by omega);have HL:=hid hly;have HSF:=hid hSF;clear HI hyx hlt hx hly hSF hG;have HV:=hid hVV;have HJ:=hid hj;have HKE:=hid hK;clear hVV hj hK;go_wp2_with (refine Flo.wpList_neg32 rfl rfl rfl hn1 ?_);go_wp2_with fail;clear hg1 hg2 hn1 hn2;go_loopw [0,3] (fun f k wr=>∃ (z F1 i:Nat) (L:Int),Hid (L=(j:Int) - (i:Int)/\S z=F1/\V z=V y*2^i/\i<=149/\V z < 16777216*U)/\f=.float .f32 F1/\k=.int .i64 L/\Hid (New w wr)/\Hid (Box wr w.heap.size 115 #[.int .i64 0,.slice none 0 0,.int .i64 0,.slice none 0 0])) (fun _ k _=>(150+RowKit.intOf k).toNat)
   case atStart=>exact ⟨y,F,0,K,hid ⟨by have:=HKE.out;omega,HSF.out,by rw[Nat.pow_zero,Nat.mul_one],by omega,HL.out⟩,rfl,rfl,HN,BP⟩
   case round=>
    clear hKl hKh;obtain ⟨z,F1,i,L,HI,rfl,rfl,HN,BP⟩:=hrel;obtain ⟨hL,hSz,hVz,hi,hzl⟩:=HI.out;have hj:=HJ.out
    have hLl: -149<=L:=by omega
    have hLh:L<=104:=by omega
    obtain ⟨r,n,N,hn,hNn,hnV,hN,hfi,hof,hqq⟩:=HINT.out z (HTI.out z hzl);rw[hSz] at hfi hqq
    have hNl: -16777216<=N:=by omega
    have hNh:N<=16777216:=by omega
    have hcv:=fun W=>run_convert_float_int (P:=Tryz.prog) W 62 3 .f32 .i64 F1 N (by kernel_rfl) Tryz.underlying3 hfi;by_cases hd:V z % U=0
    ·have e:V z=n*U:=by
      rw[hnV];have:=Nat.div_add_mod (V z) U;rw[hd,Nat.add_zero,Nat.mul_comm] at this;exact this.symm
     rw[decide_eq_true e]at hqq;replace hqq:(FloatKind.f32.format.order F1 r != some .eq)=false:=hqq;have hres:=HVAL.out n i j (by rw[HV.out,Nat.mul_right_comm,<-hVz,e]);rw[<-hN] at hres;have hfm:=fun va vb W h1 h2=>y3n va vb (N:Rat) (twoQ ((j:Int) - (i:Int))) 62 8001 W h1 h2 (FB.int (k:=62) (Nat.lt_of_le_of_lt (m:=16777216) (by omega) (by decide)) (by omega)) (yc5 (by omega) (by omega)) (by omega);rw[hres] at hfm;have hpw:=fun W=>y8x ((j:Int) - (i:Int)) W (by omega) (by omega);rw[<-hL] at hpw hfm;have hff:=fun W=>y9l N W (by omega) (by omega);clear HI hVz hzl hn hnV hN hNn hd e hres hi hL hj hSz;have HFM:=hid hfm;have HPW:=hid hpw;have HFF:=hid hff;clear hfm hpw hff;go_wp2_with fail;refine (HFF.out _).mono ?_;rintro e w1 ⟨v1,rfl,hn,hf⟩;have HF1:=hid hf;clear hf;replace BP:=bW BP hn;replace HN:=tW HN hn;clear hn;go_wp2_with fail;refine (HPW.out _).mono ?_;rintro e w2 ⟨v2,rfl,hn,hf⟩;have HF2:=hid hf;clear hf;replace BP:=bW BP hn;replace HF1:=hid (HF1.out.new hn);replace HN:=tW HN hn;clear hn;go_wp2_with fail;refine (HFM.out _ _ _ HF1.out HF2.out).mono ?_;rintro e w3 ⟨v3,rfl,hn,hf⟩;clear HF1 HF2;obtain ⟨s9,a9,l9,k9,t9,b9,m9,n9,rfl⟩:=hf.shape;have HF:=hid hf;clear hf;replace BP:=bW BP hn;replace HN:=tW HN hn;clear hn;obtain ⟨⟨p0,p1,p2,p3⟩,p4,p5,p6,p7,p8⟩:=BP.out.four;go_wp2_with fail;refine bodyPost_ret (v:=.agg #[.int .i64 s9,.slice a9 l9 k9,.int .i64 t9,.slice b9 m9 n9]) (by simp[results,Tryz.results125,go_sem,p0,p1,p2,p3]) rfl ?_;exact y10 HN.out BP.out (by omega) HF.out.parts.1 HF.out.parts.2
    ·have e:¬V z=n*U:=by
      intro e;apply hd;rw[e];exact Nat.mul_mod_left _ _
     rw[decide_eq_false e]at hqq;replace hqq:(FloatKind.f32.format.order F1 r != some .eq)=true:=hqq;obtain ⟨hs1,hs2,hs3⟩:=HSTEP.out z hzl hd;obtain ⟨hmul,hdv⟩:=HDBL.out z hs2 hs3;obtain ⟨z1,hz1⟩:∃ q,Flo.dbl z=q:=⟨_,rfl⟩;obtain ⟨F2,hF2⟩:∃ q,S z1=q:=⟨_,rfl⟩;rw[hz1] at hdv;simp only[hz1,hF2,hSz] at hmul
     have hi1:i < 149:=by
      rcases Nat.lt_or_ge i 149 with h | h
      ·exact h
      ·rw[hVz] at hd;exact absurd (HDU.out _ _ h) hd
     have HI2:Hid (L - 1=(j:Int) - ((i+1:Nat):Int)/\S z1=F2/\V z1=V y*2^(i+1)/\i+1<=149/\V z1 < 16777216*U):=by
      refine hid ⟨by omega,hF2,?_,hi1,by omega⟩;rw[hdv,hVz,Nat.pow_succ,Nat.mul_assoc]
     have hLl2: -149<=L - 1:=by omega
     clear HI hVz hzl hn hnV hN hNn hd e hi hL hj hs1 hs2 hs3 hdv hz1 hi1 hLl hSz hF2;go_wp2_with fail;go_roundw
     case rel=>exact ⟨z1,F2,i+1,L - 1,HI2,rfl,rfl,HN,BP⟩
     case measure=>simp[RowKit.intOf];omega
theorem fq_fb (s:Bool){y:Nat}(h:y < 2139095040):FB 280 (fq (Flo.sw s y)):=by
 unfold fq;rw[(Flo.sw_fin s h).2.2.2];have h1:=Flo.V_lt Ieee.single h
 have h2:Flo.V Ieee.single 2139095040 < 2^280:=by decide +kernel
 refine FB.divInt ?_ (by unfold BdK;decide +kernel) (by decide);unfold BdK
 cases s
 ·rw[if_neg (by decide),Int.natAbs_natCast];exact Nat.lt_trans h1 h2
 ·rw[if_pos rfl,Int.natAbs_neg,Int.natAbs_natCast];exact Nat.lt_trans h1 h2
theorem ycq (x:Nat)(hx:x < 4294967296)(h:isFin x=true)(w:World)(he:Env w):Calls Tryz.prog 40 #[.float .f32 x] w (y2e w (rs (fq x)) 0):=by
 obtain ⟨s,y,hy,rfl⟩:∃ (s:Bool) (y:Nat),y < 2139095040/\x=Flo.sw s y:=by
  have hr:x % 2147483648 < 2139095040:=by
   unfold isFin Ieee.Format.read at h;simp only[Flo.ssw,Flo.sbin,Flo.sinf] at h;split at h
   ·rename_i hh;split at hh
    ·omega
    ·split at hh
     ·assumption
     ·split at hh <;> cases hh
   ·cases h
  by_cases h1:x < 2147483648
  ·exact ⟨false,x,by omega,rfl⟩
  ·exact ⟨true,x - 2147483648,by omega,by show x=2147483648+_;omega⟩
 have hfb:=fq_fb s hy;have hfi:=fun W=>ydd (Flo.sw s y) W;rw[h] at hfi;have hex:=fun W=>yfb s y W hy;have htx:=fun (W:World) v hh hW=>y35 v (fq (Flo.sw s y)) W hh (hfb.mono (by omega)) hW;obtain ⟨q,hq⟩:∃ q,fq (Flo.sw s y)=q:=⟨_,rfl⟩;obtain ⟨x,hxx⟩:∃ x,Flo.sw s y=x:=⟨_,rfl⟩;obtain ⟨X,hX⟩:∃ X,rs q=X:=⟨_,rfl⟩;have hX2:(⟨(y02 q).toArray⟩:ByteArray)=X:=hX;simp only[hxx] at hq;simp only[hxx,hq,hX2] at hex htx hfi;rw[hxx,hq,hX];unfold y2e;clear hq hxx hX hX2 hfb hx h hy;have HN:=hid (New.refl w);have HFI:=hid hfi;have HEX:=hid hex;have HTX:=hid htx;have HE:=hid he;clear hfi hex htx he;go_enter Tryz.func40,Tryz.ntmps40;go_wp2_with fail;refine (HFI.out _).mono ?_;rintro e w1 ⟨rfl,m,rfl⟩;have hn:=(New.refl w).drewN m;replace HN:=tW HN hn;clear hn;go_wp2_with fail;refine (HEX.out _).mono ?_;rintro e w2 ⟨v2,rfl,hn,hf⟩;have HF:=hid hf;clear hf;replace HN:=tW HN hn;clear hn;go_wp2_with fail;refine (HTX.out _ _ HF.out (HE.out.new HN.out)).mono ?_;rintro e w3 ⟨rfl,hn⟩;replace HN:=tW HN hn;clear hn;go_wp2_with fail;refine bodyPost_ret (v:=.tuple #[.string X,.int .i64 0]) (by simp[results,Tryz.results40,go_sem]) rfl ?_;exact ⟨rfl,HN.out⟩
end Go.Proofs.YtnjonlnemagomaaGreatDoor
