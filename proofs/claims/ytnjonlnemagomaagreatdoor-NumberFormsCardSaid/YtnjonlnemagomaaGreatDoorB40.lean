/- Part B40. -/
import Derived.Test.YtnjonlnemagomaaGreatDoorB39
namespace Go.Proofs.YtnjonlnemagomaaGreatDoor
open Go.RowKit Big Go.Lib
set_option maxRecDepth 100000
set_option maxHeartbeats 8000000
def FrAt (w:World)(P:Nat)(q:Rat):Prop:=∃ (s:Int) (a:Option Addr) (l c:Nat) (t:Int) (d:Option Addr) (m k:Nat),Box w P 115 #[.int .i64 s,.slice a l c,.int .i64 t,.slice d m k]/\y07 w (.agg #[.int .i64 s,.slice a l c,.int .i64 t,.slice d m k]) q
theorem y2g {w0 w:World} {A B:Nat} {e0 e1 f0 f1 s t s' t':Int} {r0 r1 g0 g1 a d a' d':Option Addr} {i0 j0 i1 j1 k0 l0 k1 l1 l c m k l' c' m' k':Nat} {p q:Rat} (HN:Hid (New w0 w)) (LA:Hid (w0.heap.size<=A)) (LB:Hid (w0.heap.size<=B)) (BA:Hid (Box w A 115 #[.int .i64 e0,.slice r0 i0 j0,.int .i64 e1,.slice r1 i1 j1])) (BB:Hid (Box w B 115 #[.int .i64 f0,.slice g0 k0 l0,.int .i64 f1,.slice g1 k1 l1])) (NE:Hid (A≠B))
  (HP:Hid (y07 w (.agg #[.int .i64 s,.slice a l c,.int .i64 t,.slice d m k]) p)) (HQ:Hid (y07 w (.agg #[.int .i64 s',.slice a' l' c',.int .i64 t',.slice d' m' k']) q)):
  ∃ P1 P2:Nat,Value.pointer (some ⟨A,0,none⟩)=.pointer (some ⟨P1,0,none⟩)/\Value.pointer (some ⟨B,0,none⟩)=.pointer (some ⟨P2,0,none⟩)/\New w0 ((((((((w.setCell ⟨A,0,none⟩ (.int .i64 s)).setCell ⟨A,1,none⟩ (.slice a l c)).setCell ⟨A,2,none⟩ (.int .i64 t)).setCell ⟨A,3,none⟩ (.slice d m k)).setCell ⟨B,0,none⟩ (.int .i64 s')).setCell ⟨B,1,none⟩ (.slice a' l' c')).setCell ⟨B,2,none⟩ (.int .i64 t')).setCell ⟨B,3,none⟩ (.slice d' m' k'))/\
   FrAt ((((((((w.setCell ⟨A,0,none⟩ (.int .i64 s)).setCell ⟨A,1,none⟩ (.slice a l c)).setCell ⟨A,2,none⟩ (.int .i64 t)).setCell ⟨A,3,none⟩ (.slice d m k)).setCell ⟨B,0,none⟩ (.int .i64 s')).setCell ⟨B,1,none⟩ (.slice a' l' c')).setCell ⟨B,2,none⟩ (.int .i64 t')).setCell ⟨B,3,none⟩ (.slice d' m' k')) P1 p/\
   FrAt ((((((((w.setCell ⟨A,0,none⟩ (.int .i64 s)).setCell ⟨A,1,none⟩ (.slice a l c)).setCell ⟨A,2,none⟩ (.int .i64 t)).setCell ⟨A,3,none⟩ (.slice d m k)).setCell ⟨B,0,none⟩ (.int .i64 s')).setCell ⟨B,1,none⟩ (.slice a' l' c')).setCell ⟨B,2,none⟩ (.int .i64 t')).setCell ⟨B,3,none⟩ (.slice d' m' k')) P2 q:=
 ⟨_,_,rfl,rfl,(HN.out.put4 LA.out _ _ _ _).put4 LB.out _ _ _ _,⟨_,_,_,_,_,_,_,_,(BA.out.put4 _ _ _ _).other4w (Ne.symm NE.out) _ _ _ _,(HP.out.put4 BA.out _ _ _ _ _ _ _ _).put4 (BB.out.other4w NE.out _ _ _ _) _ _ _ _ _ _ _ _⟩,⟨_,_,_,_,_,_,_,_,(BB.out.other4w NE.out _ _ _ _).put4 _ _ _ _,(HQ.out.put4 BA.out _ _ _ _ _ _ _ _).put4 (BB.out.other4w NE.out _ _ _ _) _ _ _ _ _ _ _ _⟩⟩
def Tx2 (W:World)(b o1:Nat)(X:ByteArray)(o2:Nat)(Y:ByteArray):Prop:=W.cell? ⟨b,o1,none⟩=some (.string X)/\W.cell? ⟨b,o2,none⟩=some (.string Y)
theorem Tx2.new {w w':World}{b o1 o2:Nat}{X Y:ByteArray}(h:Tx2 w b o1 X o2 Y)(hn:New w w'):Tx2 w' b o1 X o2 Y:=⟨hn.cell h.1,hn.cell h.2⟩
def y8u (y z q a b:Rat):Rat:=y+(z - y)*(q - a) / (b - a)
theorem ykr (pts:List (ByteArray × ByteArray))(xs ys:Nat->Rat)(ht:yma pts xs ys)(hl:pts.length<=64)(i:Nat)(hi:i+1 < pts.length)(s:ByteArray)(q:Rat)(hs:y4k s q)(hlow:∀ j,j < i+1->xs j < q)(hhigh:q < xs (i+1))(a:Option Addr)(cap:Nat)(w:World)(he:Env w)(hr:RdP w a pts):
  Calls Tryz.prog 16 #[.slice a pts.length cap,.string s] w (y2e w (resS (y8u (ys i) (ys (i+1)) q (xs i) (xs (i+1)))) (resE (y8u (ys i) (ys (i+1)) q (xs i) (xs (i+1))))):=by
 have h0:0 < pts.length:=by omega
 have hx0:=ht.x i (by omega);have hx1:=ht.x (i+1) hi;have hy0:=ht.y i (by omega);have hy1:=ht.y (i+1) hi;have hne:=hs.ne hx1 (fun e=>by rw[e] at hhigh;exact Rat.lt_irrefl hhigh)
 have hba:xs (i+1) - xs i≠0:=fun e=>by
  have h1:=hlow i (by omega);have h2:xs i < xs (i+1):=Std.lt_trans h1 hhigh
  have h3:xs (i+1)=xs i:=by grind
  rw[h3]at h2;exact Rat.lt_irrefl h2
 have hct:=fun W h1 (h2:RdP W a pts)=>y8h pts xs ys ht h0 hl a cap W h1 h2;have hck:=fun W hW=>y33 s W hW hs.2.2;rw[hs.1,y18 hs.2.1] at hck;have hfr:=fun W hW=>y0c s q W hW hs.1 (by have:=hs.2.2;omega);have hix:=fun P u t b d l c m k W h1 h2 h3 (h4:RdP W a pts)=>ydc pts xs ht.x hl q (Fits.fb hs.2.1) P u t b d l c m k a cap W h1 h2 h3 h4;have HN:=hid (New.refl w);have fq:=Fits.fb hs.2.1;have fx0:=Fits.fb hx0.2.1;have fx1:=Fits.fb hx1.2.1;have fy0:=Fits.fb hy0.2.1;have fy1:=Fits.fb hy1.2.1;obtain ⟨b,off,e,h1,h2⟩:=hr i (by omega);obtain ⟨b',off',e',h3,h4⟩:=hr (i+1) hi;rw[e] at e';injection e' with e';injection e' with e1 e2;subst e1 e2;obtain ⟨X0,hX0⟩:∃ X,(pts[i]'(by omega)).1=X:=⟨_,rfl⟩;obtain ⟨Y0,hY0⟩:∃ X,(pts[i]'(by omega)).2=X:=⟨_,rfl⟩;obtain ⟨X1,hX1⟩:∃ X,pts[i+1].1=X:=⟨_,rfl⟩;obtain ⟨Y1,hY1⟩:∃ X,pts[i+1].2=X:=⟨_,rfl⟩;rw[hX0] at h1 hx0;rw[hY0] at h2 hy0;rw[hX1] at h3 hx1 hne;rw[hY1] at h4 hy1;have hfx0:=fun W hW=>y0c X0 (xs i) W hW hx0.1 (by have:=hx0.2.2;omega);have hfx1:=fun W hW=>y0c X1 (xs (i+1)) W hW hx1.1 (by have:=hx1.2.2;omega);have hfy0:=fun W hW=>y0c Y0 (ys i) W hW hy0.1 (by have:=hy0.2.2;omega);have hfy1:=fun W hW=>y0c Y1 (ys (i+1)) W hW hy1.1 (by have:=hy1.2.2;omega);have hq2:q<=xs (i+1):=Rat.le_of_lt hhigh;have hfi:=fun n r (h:y6r n xs q r) (hi:i+1 < n)=>h.eq hi hq2 hlow;obtain ⟨x0,hx0e⟩:∃ x,xs i=x:=⟨_,rfl⟩;obtain ⟨x1,hx1e⟩:∃ x,xs (i+1)=x:=⟨_,rfl⟩;obtain ⟨y0,hy0e⟩:∃ x,ys i=x:=⟨_,rfl⟩;obtain ⟨y1,hy1e⟩:∃ x,ys (i+1)=x:=⟨_,rfl⟩;simp only[hx0e,hx1e,hy0e,hy1e] at hfx0 hfx1 hfy0 hfy1 fx0 fx1 fy0 fy1 hba;rw[hx0e,hx1e,hy0e,hy1e];have hs1:=fun va vb W h1 h2=>y2c va vb y1 y0 2000 2000 W h1 h2 fy1 fy0 (by omega);have hs2:=fun va vb W h1 h2=>y2c va vb q x0 2000 2000 W h1 h2 fq fx0 (by omega);have hs3:=fun va vb W h1 h2=>y2c va vb x1 x0 2000 2000 W h1 h2 fx1 fx0 (by omega);have hml:=fun va vb W h1 h2=>y3n va vb (y1 - y0) (q - x0) 4001 4001 W h1 h2 (fy1.sub fy0) (fq.sub fx0) (by omega);have hdv:=fun va vb W h1 h2=>yav va vb ((y1 - y0)*(q - x0)) (x1 - x0) 8002 4001 W h1 h2 ((fy1.sub fy0).mul (fq.sub fx0)) (fx1.sub fx0) (by omega) hba;have had:=fun va vb W h1 h2=>yaw va vb y0 ((y1 - y0)*(q - x0) / (x1 - x0)) 2000 12003 W h1 h2 fy0 (((fy1.sub fy0).mul (fq.sub fx0)).div (fx1.sub fx0) hba) (by omega);have hrs:=fun W v h hW=>y9i v (y8u y0 y1 q x0 x1) W h ((fy0.add (((fy1.sub fy0).mul (fq.sub fx0)).div (fx1.sub fx0) hba)).mono (by omega)) hW;rw[show y0+(y1 - y0)*(q - x0) / (x1 - x0)=y8u y0 y1 q x0 x1 from rfl] at had;obtain ⟨v,hv⟩:∃ v,y8u y0 y1 q x0 x1=v:=⟨_,rfl⟩;obtain ⟨U,hU⟩:∃ U,resS v=U:=⟨_,rfl⟩;obtain ⟨E,hE⟩:∃ U,resE v=U:=⟨_,rfl⟩;unfold y2e at *;simp only[hv,hU,hE] at had hrs;rw[hv,hU,hE];obtain ⟨n,hn⟩:∃ n,pts.length=n:=⟨_,rfl⟩;rw[hn] at h0 hi hct hix⊢
 have hl64:n<=64:=by omega
 have hin:(i:Int)+1 < n:=by omega
 have hi1:(0:Int)<=(i:Int)+1:=by omega
 have hb0:((i:Int)+1==0)=false:=beq_false_of_ne (by omega)
 have hwj:IntKind.i64.wrap (i:Int)=i:=by rw[IntKind.wrap_i64];omega
 have hi2:(0:Int)<=(i:Int)/\(i:Int) < n:=by omega
 have hi3:(0:Int)<=(i:Int):=by omega
 have hi4:(i:Int) < n:=by omega
 have hi5:(0:Int)<=(i:Int)+1/\(i:Int)+1 < n:=by omega
 subst e;clear ht hs hl hx0 hx1 hy0 hy1 hX0 hX1 hY0 hY1 hx0e hx1e hy0e hy1e hv hU hE hq2 hlow hhigh hba fq fx0 fx1 fy0 fy1 hn;have HE:=hid he;have HR:=hid hr;have HCT:=hid hct;have HCK:=hid hck;have HFR:=hid hfr;have HIX:=hid hix;have HFI:=hid hfi;have HFX0:=hid hfx0;have HFX1:=hid hfx1;have HFY0:=hid hfy0;have HFY1:=hid hfy1;have HS1:=hid hs1;have HS2:=hid hs2;have HS3:=hid hs3;have HML:=hid hml;have HDV:=hid hdv;have HAD:=hid had;have HRS:=hid hrs;clear he hr hct hck hfr hix hfi hfx0 hfx1 hfy0 hfy1 hs1 hs2 hs3 hml hdv had hrs;go_enter Tryz.func16,Tryz.ntmps16;go_wp2_with fail;refine (HCT.out _ (HE.out.new HN.out) (HR.out.new HN.out)).mono ?_;rintro e w1 ⟨rfl,hn⟩;replace HN:=tW HN hn;clear hn;go_wp2_with fail;refine (HCK.out _ (HE.out.new HN.out)).mono ?_;rintro e w2 ⟨rfl,hn⟩;replace HN:=tW HN hn;clear hn;go_wp2_with fail;have HN0:=HN;clear HN;obtain ⟨BG,HN⟩:=lay1 w2 32 #[.int .i64 0,.int .i64 0];have HN_:=HN0.out.trans HN.out;clear HN HN0;have HN:=hid HN_;clear HN_;refine (y15 0 0 _ _ 32 _ BG.out).mono ?_;rintro e w3 ⟨rfl,hn⟩;clear BG;replace HN:=tW HN hn;clear hn;go_wp2_with fail;refine (HFR.out _ (HE.out.new HN.out)).mono ?_;rintro e w4 ⟨v4,rfl,hn,hf⟩;obtain ⟨s4,a4,l4,c4,t4,d4,m4,k4,rfl⟩:=hf.shape;have HFT:=hid hf;clear hf;replace HN:=tW HN hn;clear hn;go_upto_region 5 with (fail);have HN0:=HN;clear HN;obtain ⟨BT,HN⟩:=lay1 w4 115 #[.int .i64 s4,.slice a4 l4 c4,.int .i64 t4,.slice d4 m4 k4];replace HFT:=hid (HFT.out.new HN.out);have HN_:=HN0.out.trans HN.out;clear HN HN0;have HN:=hid HN_;clear HN_;obtain ⟨w5,hw5⟩:∃ u,w4.alloc (.cells #[.int .i64 s4,.slice a4 l4 c4,.int .i64 t4,.slice d4 m4 k4] 115)=u:=⟨_,rfl⟩;rw[hw5] at BT HN HFT⊢;clear hw5;go_wp2_with fail;refine (HIX.out _ _ _ _ _ _ _ _ _ _ (HE.out.new HN.out) BT.out HFT.out (HR.out.new HN.out)).mono ?_;rintro e w6 ⟨r,rfl,hn,hfa⟩;replace BT:=bW BT hn;replace HFT:=hid (HFT.out.new hn);replace HN:=tW HN hn;clear hn;obtain rfl:=HFI.out _ _ hfa hi;clear hfa;replace h1:=HN.out.cell h1;replace h2:=HN.out.cell h2;replace h3:=HN.out.cell h3;replace h4:=HN.out.cell h4;rw[show (((i+1:Nat)):Int)=(i:Int)+1 by omega] at *;have H1:=hid h1;have H2:=hid h2;have H4:=hid h4;clear h1 h2 h4;have hwx:=(show Tx2 w6 b (off+i*2) X0 (off+(i+1)*2) X1 from ⟨H1.out,h3⟩);have hwy:=(show Tx2 w6 b (off+i*2+1) Y0 (off+(i+1)*2+1) Y1 from ⟨H2.out,H4.out⟩);have HWX:=hid hwx;have HWY:=hid hwy;clear hwx hwy;go_upto_region 10 with (fail);clear h3 H1 H2 H4 hne hi5 hb0;have HE6:=hid (HE.out.new HN.out);have HN1:=HN;clear HN
 go_cut [9,10] (fun x y wx=>∃ P1 P2:Nat,x=.pointer (some ⟨P1,0,none⟩)/\y=.pointer (some ⟨P2,0,none⟩)/\New w6 wx/\FrAt wx P1 x0/\FrAt wx P2 x1)
 case first=>
  have HN:=hid (New.refl w6);refine y00 15 (fun W=>Tx2 W b (off+i*2) X0 (off+(i+1)*2) X1) 17 #[false,false,false,false,false,false,false,false,false,false,false,false,false,false,false,false,false] rfl (by kernel_rfl) (by kernel_rfl) ?_
  skip
  replace HWX:=hid (HWX.out.new (New.refl w6).drew);replace HN:=hid (HN.out.drew);obtain ⟨wdr,hwd⟩:∃ x,w6.drew=x:=⟨_,rfl⟩;rw[hwd] at HN HWX⊢;clear hwd
  skip
  refine tk 0 (by exact HWX.out) ?_
  try simp only[PE,PT]
  refine tk 1 (by exact HWX.out) ?_
  try simp only[PE,PT]
  refine y0q 2 (v:=?_) rfl (by kernel_rfl) (fun _ _ _ h=>h) (by exact HWX.out) (Or.inl ⟨by first | kernel_rfl | rfl,?_⟩) ?_;rotate_left
  ·(intro W hW;(try dsimp only at hW);(go_simp;try simp only[hwj]);try with_reducible rfl)
  try simp only[PE,PT]
  refine tk 3 (by exact HWX.out) ?_
  try simp only[PE,PT]
  refine tk 4 (by exact HWX.out) ?_
  try simp only[PE,PT]
  refine y0q 5 (v:=?_) rfl (by kernel_rfl) (fun _ _ _ h=>h) (by exact HWX.out) (Or.inl ⟨by first | kernel_rfl | rfl,?_⟩) ?_;rotate_left
  ·(intro W hW;(try dsimp only at hW);(obtain ⟨g1, -⟩:=hW;go_simp);try with_reducible rfl)
  try simp only[PE,PT]
  refine tk 7 (by exact HWX.out) ?_
  try simp only[PE,PT]
  refine tk 8 (by exact HWX.out) ?_
  try simp only[PE,PT]
  refine tk 9 (by exact HWX.out) ?_
  try simp only[PE,PT]
  refine tk 10 (by exact HWX.out) ?_
  try simp only[PE,PT]
  refine y0q 11 (v:=?_) rfl (by kernel_rfl) (fun _ _ _ h=>h) (by exact HWX.out) (Or.inl ⟨by first | kernel_rfl | rfl,?_⟩) ?_;rotate_left
  ·(intro W hW;(try dsimp only at hW);(obtain ⟨-,g2⟩:=hW;go_simp);try with_reducible rfl)
  try simp only[PE,PT]
  refine y51 6 13 14 rfl rfl rfl (by kernel_rfl) (fun K hK=>?_) (fun K hK=>?_) (fun K hK=>?_)
  ·skip
   go_simp;refine (HFX0.out _ (HE6.out.new HN.out)).mono ?_;rintro e wp ⟨vp,rfl,hn,hf⟩;obtain ⟨s1,a1,l1,q1,t1,d1,m1,n1,rfl⟩:=hf.shape;have HFP:=hid hf;clear hf
   skip
   replace HWX:=hid (HWX.out.new hn);replace HN:=tW HN hn;clear hn
   skip
   refine hK.out _ _ (fun _=>HWX.out) ?_;clear hK K
   try simp only[PE,PT]
   refine y51 12 13 14 rfl rfl rfl (by kernel_rfl) (fun K hK=>?_) (fun K hK=>?_) (fun K hK=>?_)
   ·skip
    go_simp;refine (HFX1.out _ (HE6.out.new HN.out)).mono ?_;rintro e wq ⟨vq,rfl,hn,hf⟩;obtain ⟨s2,a2,l2,q2,t2,d2,m2,n2,rfl⟩:=hf.shape;have HFQ:=hid hf;clear hf
    skip
    replace HWX:=hid (HWX.out.new hn);replace HFP:=hid (HFP.out.new hn);replace HN:=tW HN hn;clear hn
    skip
    refine hK.out _ _ (fun _=>HWX.out) ?_;clear hK K
    try simp only[PE,PT]
    refine y0h 13 14 rfl rfl (by kernel_rfl) (fun K hK=>?_) (fun K hK=>?_)
    ·skip
     go_simp
     skip
     have LBMA:=hid (HN.out.size);obtain ⟨wa1,hwa,BMA_,hn⟩:=y0j wq 115 #[.int .i64 0,.slice none 0 0,.int .i64 0,.slice none 0 0];rw[hwa];clear hwa;have BMA:=hid BMA_;clear BMA_;replace HWX:=hid (HWX.out.new hn);replace HFP:=hid (HFP.out.new hn);replace HFQ:=hid (HFQ.out.new hn);replace HN:=tW HN hn;clear hn
     skip
     refine hK.out _ _ (fun _=>HWX.out) ?_;clear hK K
     try simp only[PE,PT]
     refine tk1 14 fun K hK=>?_;go_simp
     skip
     have LBMB:=hid (HN.out.size);have NEB:=hid (Nat.ne_of_lt BMA.out.lt);obtain ⟨wa2,hwa,BMB_,hn⟩:=y0j wa1 115 #[.int .i64 0,.slice none 0 0,.int .i64 0,.slice none 0 0];rw[hwa];clear hwa;have BMB:=hid BMB_;clear BMB_;replace HWX:=hid (HWX.out.new hn);replace HFP:=hid (HFP.out.new hn);replace HFQ:=hid (HFQ.out.new hn);replace BMA:=bW BMA hn;replace HN:=tW HN hn;clear hn
     skip
     refine hK.out _ _ (fun _=>HWX.out) ?_;clear hK K
     try simp only[PE,PT]
     refine tlW ?_;obtain ⟨⟨u0,u1,u2,u3⟩,u4,u5,u6,u7,u8⟩:=BMA.out.four;obtain ⟨⟨v0,v1,v2,v3⟩,v4,v5,v6,v7,v8⟩:=BMB.out.four;have ne1:=NEB.out;have ne2:=Ne.symm NEB.out;go_wp2_with fail
     go_meet
     exact y2g HN LBMA LBMB BMA BMB NEB HFP HFQ
    ·skip
     go_simp
     skip
     have LBMB:=hid (HN.out.size);obtain ⟨wa1,hwa,BMB_,hn⟩:=y0j wq 115 #[.int .i64 0,.slice none 0 0,.int .i64 0,.slice none 0 0];rw[hwa];clear hwa;have BMB:=hid BMB_;clear BMB_;replace HWX:=hid (HWX.out.new hn);replace HFP:=hid (HFP.out.new hn);replace HFQ:=hid (HFQ.out.new hn);replace HN:=tW HN hn;clear hn
     skip
     refine hK.out _ _ (fun _=>HWX.out) ?_;clear hK K
     try simp only[PE,PT]
     refine tk1 13 fun K hK=>?_;go_simp
     skip
     have LBMA:=hid (HN.out.size);have NEB:=hid (Nat.ne_of_gt BMB.out.lt);obtain ⟨wa2,hwa,BMA_,hn⟩:=y0j wa1 115 #[.int .i64 0,.slice none 0 0,.int .i64 0,.slice none 0 0];rw[hwa];clear hwa;have BMA:=hid BMA_;clear BMA_;replace HWX:=hid (HWX.out.new hn);replace HFP:=hid (HFP.out.new hn);replace HFQ:=hid (HFQ.out.new hn);replace BMB:=bW BMB hn;replace HN:=tW HN hn;clear hn
     skip
     refine hK.out _ _ (fun _=>HWX.out) ?_;clear hK K
     try simp only[PE,PT]
     refine tlW ?_;obtain ⟨⟨u0,u1,u2,u3⟩,u4,u5,u6,u7,u8⟩:=BMA.out.four;obtain ⟨⟨v0,v1,v2,v3⟩,v4,v5,v6,v7,v8⟩:=BMB.out.four;have ne1:=NEB.out;have ne2:=Ne.symm NEB.out;go_wp2_with fail
     go_meet
     exact y2g HN LBMA LBMB BMA BMB NEB HFP HFQ
   ·skip
    go_simp
    skip
    have LBMA:=hid (HN.out.size);obtain ⟨wa1,hwa,BMA_,hn⟩:=y0j wp 115 #[.int .i64 0,.slice none 0 0,.int .i64 0,.slice none 0 0];rw[hwa];clear hwa;have BMA:=hid BMA_;clear BMA_;replace HWX:=hid (HWX.out.new hn);replace HFP:=hid (HFP.out.new hn);replace HN:=tW HN hn;clear hn
    skip
    refine hK.out _ _ (fun _=>HWX.out) ?_;clear hK K
    try simp only[PE,PT]
    refine y0h 12 14 rfl rfl (by kernel_rfl) (fun K hK=>?_) (fun K hK=>?_)
    ·skip
     go_simp;refine (HFX1.out _ (HE6.out.new HN.out)).mono ?_;rintro e wq ⟨vq,rfl,hn,hf⟩;obtain ⟨s2,a2,l2,q2,t2,d2,m2,n2,rfl⟩:=hf.shape;have HFQ:=hid hf;clear hf
     skip
     replace HWX:=hid (HWX.out.new hn);replace HFP:=hid (HFP.out.new hn);replace BMA:=bW BMA hn;replace HN:=tW HN hn;clear hn
     skip
     refine hK.out _ _ (fun _=>HWX.out) ?_;clear hK K
     try simp only[PE,PT]
     refine tk1 14 fun K hK=>?_;go_simp
     skip
     have LBMB:=hid (HN.out.size);have NEB:=hid (Nat.ne_of_lt BMA.out.lt);obtain ⟨wa2,hwa,BMB_,hn⟩:=y0j wq 115 #[.int .i64 0,.slice none 0 0,.int .i64 0,.slice none 0 0];rw[hwa];clear hwa;have BMB:=hid BMB_;clear BMB_;replace HWX:=hid (HWX.out.new hn);replace HFP:=hid (HFP.out.new hn);replace BMA:=bW BMA hn;replace HFQ:=hid (HFQ.out.new hn);replace HN:=tW HN hn;clear hn
     skip
     refine hK.out _ _ (fun _=>HWX.out) ?_;clear hK K
     try simp only[PE,PT]
     refine tlW ?_;obtain ⟨⟨u0,u1,u2,u3⟩,u4,u5,u6,u7,u8⟩:=BMA.out.four;obtain ⟨⟨v0,v1,v2,v3⟩,v4,v5,v6,v7,v8⟩:=BMB.out.four;have ne1:=NEB.out;have ne2:=Ne.symm NEB.out;go_wp2_with fail
     go_meet
     exact y2g HN LBMA LBMB BMA BMB NEB HFP HFQ
    ·skip
     go_simp
     skip
     have LBMB:=hid (HN.out.size);have NEB:=hid (Nat.ne_of_lt BMA.out.lt);obtain ⟨wa2,hwa,BMB_,hn⟩:=y0j wa1 115 #[.int .i64 0,.slice none 0 0,.int .i64 0,.slice none 0 0];rw[hwa];clear hwa;have BMB:=hid BMB_;clear BMB_;replace HWX:=hid (HWX.out.new hn);replace HFP:=hid (HFP.out.new hn);replace BMA:=bW BMA hn;replace HN:=tW HN hn;clear hn
     skip
     refine hK.out _ _ (fun _=>HWX.out) ?_;clear hK K
     try simp only[PE,PT]
     refine tk1 12 fun K hK=>?_;go_simp;refine (HFX1.out _ (HE6.out.new HN.out)).mono ?_;rintro e wq ⟨vq,rfl,hn,hf⟩;obtain ⟨s2,a2,l2,q2,t2,d2,m2,n2,rfl⟩:=hf.shape;have HFQ:=hid hf;clear hf
     skip
     replace HWX:=hid (HWX.out.new hn);replace HFP:=hid (HFP.out.new hn);replace BMA:=bW BMA hn;replace BMB:=bW BMB hn;replace HN:=tW HN hn;clear hn
     skip
     refine hK.out _ _ (fun _=>HWX.out) ?_;clear hK K
     try simp only[PE,PT]
     refine tlW ?_;obtain ⟨⟨u0,u1,u2,u3⟩,u4,u5,u6,u7,u8⟩:=BMA.out.four;obtain ⟨⟨v0,v1,v2,v3⟩,v4,v5,v6,v7,v8⟩:=BMB.out.four;have ne1:=NEB.out;have ne2:=Ne.symm NEB.out;go_wp2_with fail
     go_meet
     exact y2g HN LBMA LBMB BMA BMB NEB HFP HFQ
   ·skip
    go_simp
    skip
    have LBMB:=hid (HN.out.size);obtain ⟨wa1,hwa,BMB_,hn⟩:=y0j wp 115 #[.int .i64 0,.slice none 0 0,.int .i64 0,.slice none 0 0];rw[hwa];clear hwa;have BMB:=hid BMB_;clear BMB_;replace HWX:=hid (HWX.out.new hn);replace HFP:=hid (HFP.out.new hn);replace HN:=tW HN hn;clear hn
    skip
    refine hK.out _ _ (fun _=>HWX.out) ?_;clear hK K
    try simp only[PE,PT]
    refine y0h 12 13 rfl rfl (by kernel_rfl) (fun K hK=>?_) (fun K hK=>?_)
    ·skip
     go_simp;refine (HFX1.out _ (HE6.out.new HN.out)).mono ?_;rintro e wq ⟨vq,rfl,hn,hf⟩;obtain ⟨s2,a2,l2,q2,t2,d2,m2,n2,rfl⟩:=hf.shape;have HFQ:=hid hf;clear hf
     skip
     replace HWX:=hid (HWX.out.new hn);replace HFP:=hid (HFP.out.new hn);replace BMB:=bW BMB hn;replace HN:=tW HN hn;clear hn
     skip
     refine hK.out _ _ (fun _=>HWX.out) ?_;clear hK K
     try simp only[PE,PT]
     refine tk1 13 fun K hK=>?_;go_simp
     skip
     have LBMA:=hid (HN.out.size);have NEB:=hid (Nat.ne_of_gt BMB.out.lt);obtain ⟨wa2,hwa,BMA_,hn⟩:=y0j wq 115 #[.int .i64 0,.slice none 0 0,.int .i64 0,.slice none 0 0];rw[hwa];clear hwa;have BMA:=hid BMA_;clear BMA_;replace HWX:=hid (HWX.out.new hn);replace HFP:=hid (HFP.out.new hn);replace BMB:=bW BMB hn;replace HFQ:=hid (HFQ.out.new hn);replace HN:=tW HN hn;clear hn
     skip
     refine hK.out _ _ (fun _=>HWX.out) ?_;clear hK K
     try simp only[PE,PT]
     refine tlW ?_;obtain ⟨⟨u0,u1,u2,u3⟩,u4,u5,u6,u7,u8⟩:=BMA.out.four;obtain ⟨⟨v0,v1,v2,v3⟩,v4,v5,v6,v7,v8⟩:=BMB.out.four;have ne1:=NEB.out;have ne2:=Ne.symm NEB.out;go_wp2_with fail
     go_meet
     exact y2g HN LBMA LBMB BMA BMB NEB HFP HFQ
    ·skip
     go_simp
     skip
     have LBMA:=hid (HN.out.size);have NEB:=hid (Nat.ne_of_gt BMB.out.lt);obtain ⟨wa2,hwa,BMA_,hn⟩:=y0j wa1 115 #[.int .i64 0,.slice none 0 0,.int .i64 0,.slice none 0 0];rw[hwa];clear hwa;have BMA:=hid BMA_;clear BMA_;replace HWX:=hid (HWX.out.new hn);replace HFP:=hid (HFP.out.new hn);replace BMB:=bW BMB hn;replace HN:=tW HN hn;clear hn
     skip
     refine hK.out _ _ (fun _=>HWX.out) ?_;clear hK K
     try simp only[PE,PT]
     refine tk1 12 fun K hK=>?_;go_simp;refine (HFX1.out _ (HE6.out.new HN.out)).mono ?_;rintro e wq ⟨vq,rfl,hn,hf⟩;obtain ⟨s2,a2,l2,q2,t2,d2,m2,n2,rfl⟩:=hf.shape;have HFQ:=hid hf;clear hf
     skip
     replace HWX:=hid (HWX.out.new hn);replace HFP:=hid (HFP.out.new hn);replace BMB:=bW BMB hn;replace BMA:=bW BMA hn;replace HN:=tW HN hn;clear hn
     skip
     refine hK.out _ _ (fun _=>HWX.out) ?_;clear hK K
     try simp only[PE,PT]
     refine tlW ?_;obtain ⟨⟨u0,u1,u2,u3⟩,u4,u5,u6,u7,u8⟩:=BMA.out.four;obtain ⟨⟨v0,v1,v2,v3⟩,v4,v5,v6,v7,v8⟩:=BMB.out.four;have ne1:=NEB.out;have ne2:=Ne.symm NEB.out;go_wp2_with fail
     go_meet
     exact y2g HN LBMA LBMB BMA BMB NEB HFP HFQ
  ·skip
   go_simp
   skip
   have LBMA:=hid (HN.out.size);obtain ⟨wa1,hwa,BMA_,hn⟩:=y0j wdr 115 #[.int .i64 0,.slice none 0 0,.int .i64 0,.slice none 0 0];rw[hwa];clear hwa;have BMA:=hid BMA_;clear BMA_;replace HWX:=hid (HWX.out.new hn);replace HN:=tW HN hn;clear hn
   skip
   refine hK.out _ _ (fun _=>HWX.out) ?_;clear hK K
   try simp only[PE,PT]
   refine y0h 6 14 rfl rfl (by kernel_rfl) (fun K hK=>?_) (fun K hK=>?_)
   ·skip
    go_simp;refine (HFX0.out _ (HE6.out.new HN.out)).mono ?_;rintro e wp ⟨vp,rfl,hn,hf⟩;obtain ⟨s1,a1,l1,q1,t1,d1,m1,n1,rfl⟩:=hf.shape;have HFP:=hid hf;clear hf
    skip
    replace HWX:=hid (HWX.out.new hn);replace BMA:=bW BMA hn;replace HN:=tW HN hn;clear hn
    skip
    refine hK.out _ _ (fun _=>HWX.out) ?_;clear hK K
    try simp only[PE,PT]
    refine y0h 12 14 rfl rfl (by kernel_rfl) (fun K hK=>?_) (fun K hK=>?_)
    ·skip
     go_simp;refine (HFX1.out _ (HE6.out.new HN.out)).mono ?_;rintro e wq ⟨vq,rfl,hn,hf⟩;obtain ⟨s2,a2,l2,q2,t2,d2,m2,n2,rfl⟩:=hf.shape;have HFQ:=hid hf;clear hf
     skip
     replace HWX:=hid (HWX.out.new hn);replace BMA:=bW BMA hn;replace HFP:=hid (HFP.out.new hn);replace HN:=tW HN hn;clear hn
     skip
     refine hK.out _ _ (fun _=>HWX.out) ?_;clear hK K
     try simp only[PE,PT]
     refine tk1 14 fun K hK=>?_;go_simp
     skip
     have LBMB:=hid (HN.out.size);have NEB:=hid (Nat.ne_of_lt BMA.out.lt);obtain ⟨wa2,hwa,BMB_,hn⟩:=y0j wq 115 #[.int .i64 0,.slice none 0 0,.int .i64 0,.slice none 0 0];rw[hwa];clear hwa;have BMB:=hid BMB_;clear BMB_;replace HWX:=hid (HWX.out.new hn);replace BMA:=bW BMA hn;replace HFP:=hid (HFP.out.new hn);replace HFQ:=hid (HFQ.out.new hn);replace HN:=tW HN hn;clear hn
     skip
     refine hK.out _ _ (fun _=>HWX.out) ?_;clear hK K
     try simp only[PE,PT]
     refine tlW ?_;obtain ⟨⟨u0,u1,u2,u3⟩,u4,u5,u6,u7,u8⟩:=BMA.out.four;obtain ⟨⟨v0,v1,v2,v3⟩,v4,v5,v6,v7,v8⟩:=BMB.out.four;have ne1:=NEB.out;have ne2:=Ne.symm NEB.out;go_wp2_with fail
     go_meet
     exact y2g HN LBMA LBMB BMA BMB NEB HFP HFQ
    ·skip
     go_simp
     skip
     have LBMB:=hid (HN.out.size);have NEB:=hid (Nat.ne_of_lt BMA.out.lt);obtain ⟨wa2,hwa,BMB_,hn⟩:=y0j wp 115 #[.int .i64 0,.slice none 0 0,.int .i64 0,.slice none 0 0];rw[hwa];clear hwa;have BMB:=hid BMB_;clear BMB_;replace HWX:=hid (HWX.out.new hn);replace BMA:=bW BMA hn;replace HFP:=hid (HFP.out.new hn);replace HN:=tW HN hn;clear hn
     skip
     refine hK.out _ _ (fun _=>HWX.out) ?_;clear hK K
     try simp only[PE,PT]
     refine tk1 12 fun K hK=>?_;go_simp;refine (HFX1.out _ (HE6.out.new HN.out)).mono ?_;rintro e wq ⟨vq,rfl,hn,hf⟩;obtain ⟨s2,a2,l2,q2,t2,d2,m2,n2,rfl⟩:=hf.shape;have HFQ:=hid hf;clear hf
     skip
     replace HWX:=hid (HWX.out.new hn);replace BMA:=bW BMA hn;replace HFP:=hid (HFP.out.new hn);replace BMB:=bW BMB hn;replace HN:=tW HN hn;clear hn
     skip
     refine hK.out _ _ (fun _=>HWX.out) ?_;clear hK K
     try simp only[PE,PT]
     refine tlW ?_;obtain ⟨⟨u0,u1,u2,u3⟩,u4,u5,u6,u7,u8⟩:=BMA.out.four;obtain ⟨⟨v0,v1,v2,v3⟩,v4,v5,v6,v7,v8⟩:=BMB.out.four;have ne1:=NEB.out;have ne2:=Ne.symm NEB.out;go_wp2_with fail
     go_meet
     exact y2g HN LBMA LBMB BMA BMB NEB HFP HFQ
   ·skip
    go_simp
    skip
    have LBMB:=hid (HN.out.size);have NEB:=hid (Nat.ne_of_lt BMA.out.lt);obtain ⟨wa2,hwa,BMB_,hn⟩:=y0j wa1 115 #[.int .i64 0,.slice none 0 0,.int .i64 0,.slice none 0 0];rw[hwa];clear hwa;have BMB:=hid BMB_;clear BMB_;replace HWX:=hid (HWX.out.new hn);replace BMA:=bW BMA hn;replace HN:=tW HN hn;clear hn
    skip
    refine hK.out _ _ (fun _=>HWX.out) ?_;clear hK K
    try simp only[PE,PT]
    refine tk1 6 fun K hK=>?_;go_simp;refine (HFX0.out _ (HE6.out.new HN.out)).mono ?_;rintro e wp ⟨vp,rfl,hn,hf⟩;obtain ⟨s1,a1,l1,q1,t1,d1,m1,n1,rfl⟩:=hf.shape;have HFP:=hid hf;clear hf
    skip
    replace HWX:=hid (HWX.out.new hn);replace BMA:=bW BMA hn;replace BMB:=bW BMB hn;replace HN:=tW HN hn;clear hn
    skip
    refine hK.out _ _ (fun _=>HWX.out) ?_;clear hK K
    try simp only[PE,PT]
    refine tk1 12 fun K hK=>?_;go_simp;refine (HFX1.out _ (HE6.out.new HN.out)).mono ?_;rintro e wq ⟨vq,rfl,hn,hf⟩;obtain ⟨s2,a2,l2,q2,t2,d2,m2,n2,rfl⟩:=hf.shape;have HFQ:=hid hf;clear hf
    skip
    replace HWX:=hid (HWX.out.new hn);replace BMA:=bW BMA hn;replace BMB:=bW BMB hn;replace HFP:=hid (HFP.out.new hn);replace HN:=tW HN hn;clear hn
    skip
    refine hK.out _ _ (fun _=>HWX.out) ?_;clear hK K
    try simp only[PE,PT]
    refine tlW ?_;obtain ⟨⟨u0,u1,u2,u3⟩,u4,u5,u6,u7,u8⟩:=BMA.out.four;obtain ⟨⟨v0,v1,v2,v3⟩,v4,v5,v6,v7,v8⟩:=BMB.out.four;have ne1:=NEB.out;have ne2:=Ne.symm NEB.out;go_wp2_with fail
    go_meet
    exact y2g HN LBMA LBMB BMA BMB NEB HFP HFQ
  ·skip
   go_simp
   skip
   have LBMB:=hid (HN.out.size);obtain ⟨wa1,hwa,BMB_,hn⟩:=y0j wdr 115 #[.int .i64 0,.slice none 0 0,.int .i64 0,.slice none 0 0];rw[hwa];clear hwa;have BMB:=hid BMB_;clear BMB_;replace HWX:=hid (HWX.out.new hn);replace HN:=tW HN hn;clear hn
   skip
   refine hK.out _ _ (fun _=>HWX.out) ?_;clear hK K
   try simp only[PE,PT]
   refine y0h 6 13 rfl rfl (by kernel_rfl) (fun K hK=>?_) (fun K hK=>?_)
   ·skip
    go_simp;refine (HFX0.out _ (HE6.out.new HN.out)).mono ?_;rintro e wp ⟨vp,rfl,hn,hf⟩;obtain ⟨s1,a1,l1,q1,t1,d1,m1,n1,rfl⟩:=hf.shape;have HFP:=hid hf;clear hf
    skip
    replace HWX:=hid (HWX.out.new hn);replace BMB:=bW BMB hn;replace HN:=tW HN hn;clear hn
    skip
    refine hK.out _ _ (fun _=>HWX.out) ?_;clear hK K
    try simp only[PE,PT]
    refine y0h 12 13 rfl rfl (by kernel_rfl) (fun K hK=>?_) (fun K hK=>?_)
    ·skip
     go_simp;refine (HFX1.out _ (HE6.out.new HN.out)).mono ?_;rintro e wq ⟨vq,rfl,hn,hf⟩;obtain ⟨s2,a2,l2,q2,t2,d2,m2,n2,rfl⟩:=hf.shape;have HFQ:=hid hf;clear hf
     skip
     replace HWX:=hid (HWX.out.new hn);replace BMB:=bW BMB hn;replace HFP:=hid (HFP.out.new hn);replace HN:=tW HN hn;clear hn
     skip
     refine hK.out _ _ (fun _=>HWX.out) ?_;clear hK K
     try simp only[PE,PT]
     refine tk1 13 fun K hK=>?_;go_simp
     skip
     have LBMA:=hid (HN.out.size);have NEB:=hid (Nat.ne_of_gt BMB.out.lt);obtain ⟨wa2,hwa,BMA_,hn⟩:=y0j wq 115 #[.int .i64 0,.slice none 0 0,.int .i64 0,.slice none 0 0];rw[hwa];clear hwa;have BMA:=hid BMA_;clear BMA_;replace HWX:=hid (HWX.out.new hn);replace BMB:=bW BMB hn;replace HFP:=hid (HFP.out.new hn);replace HFQ:=hid (HFQ.out.new hn);replace HN:=tW HN hn;clear hn
     skip
     refine hK.out _ _ (fun _=>HWX.out) ?_;clear hK K
     try simp only[PE,PT]
     refine tlW ?_;obtain ⟨⟨u0,u1,u2,u3⟩,u4,u5,u6,u7,u8⟩:=BMA.out.four;obtain ⟨⟨v0,v1,v2,v3⟩,v4,v5,v6,v7,v8⟩:=BMB.out.four;have ne1:=NEB.out;have ne2:=Ne.symm NEB.out;go_wp2_with fail
     go_meet
     exact y2g HN LBMA LBMB BMA BMB NEB HFP HFQ
    ·skip
     go_simp
     skip
     have LBMA:=hid (HN.out.size);have NEB:=hid (Nat.ne_of_gt BMB.out.lt);obtain ⟨wa2,hwa,BMA_,hn⟩:=y0j wp 115 #[.int .i64 0,.slice none 0 0,.int .i64 0,.slice none 0 0];rw[hwa];clear hwa;have BMA:=hid BMA_;clear BMA_;replace HWX:=hid (HWX.out.new hn);replace BMB:=bW BMB hn;replace HFP:=hid (HFP.out.new hn);replace HN:=tW HN hn;clear hn
     skip
     refine hK.out _ _ (fun _=>HWX.out) ?_;clear hK K
     try simp only[PE,PT]
     refine tk1 12 fun K hK=>?_;go_simp;refine (HFX1.out _ (HE6.out.new HN.out)).mono ?_;rintro e wq ⟨vq,rfl,hn,hf⟩;obtain ⟨s2,a2,l2,q2,t2,d2,m2,n2,rfl⟩:=hf.shape;have HFQ:=hid hf;clear hf
     skip
     replace HWX:=hid (HWX.out.new hn);replace BMB:=bW BMB hn;replace HFP:=hid (HFP.out.new hn);replace BMA:=bW BMA hn;replace HN:=tW HN hn;clear hn
     skip
     refine hK.out _ _ (fun _=>HWX.out) ?_;clear hK K
     try simp only[PE,PT]
     refine tlW ?_;obtain ⟨⟨u0,u1,u2,u3⟩,u4,u5,u6,u7,u8⟩:=BMA.out.four;obtain ⟨⟨v0,v1,v2,v3⟩,v4,v5,v6,v7,v8⟩:=BMB.out.four;have ne1:=NEB.out;have ne2:=Ne.symm NEB.out;go_wp2_with fail
     go_meet
     exact y2g HN LBMA LBMB BMA BMB NEB HFP HFQ
   ·skip
    go_simp
    skip
    have LBMA:=hid (HN.out.size);have NEB:=hid (Nat.ne_of_gt BMB.out.lt);obtain ⟨wa2,hwa,BMA_,hn⟩:=y0j wa1 115 #[.int .i64 0,.slice none 0 0,.int .i64 0,.slice none 0 0];rw[hwa];clear hwa;have BMA:=hid BMA_;clear BMA_;replace HWX:=hid (HWX.out.new hn);replace BMB:=bW BMB hn;replace HN:=tW HN hn;clear hn
    skip
    refine hK.out _ _ (fun _=>HWX.out) ?_;clear hK K
    try simp only[PE,PT]
    refine tk1 6 fun K hK=>?_;go_simp;refine (HFX0.out _ (HE6.out.new HN.out)).mono ?_;rintro e wp ⟨vp,rfl,hn,hf⟩;obtain ⟨s1,a1,l1,q1,t1,d1,m1,n1,rfl⟩:=hf.shape;have HFP:=hid hf;clear hf
    skip
    replace HWX:=hid (HWX.out.new hn);replace BMB:=bW BMB hn;replace BMA:=bW BMA hn;replace HN:=tW HN hn;clear hn
    skip
    refine hK.out _ _ (fun _=>HWX.out) ?_;clear hK K
    try simp only[PE,PT]
    refine tk1 12 fun K hK=>?_;go_simp;refine (HFX1.out _ (HE6.out.new HN.out)).mono ?_;rintro e wq ⟨vq,rfl,hn,hf⟩;obtain ⟨s2,a2,l2,q2,t2,d2,m2,n2,rfl⟩:=hf.shape;have HFQ:=hid hf;clear hf
    skip
    replace HWX:=hid (HWX.out.new hn);replace BMB:=bW BMB hn;replace BMA:=bW BMA hn;replace HFP:=hid (HFP.out.new hn);replace HN:=tW HN hn;clear hn
    skip
    refine hK.out _ _ (fun _=>HWX.out) ?_;clear hK K
    try simp only[PE,PT]
    refine tlW ?_;obtain ⟨⟨u0,u1,u2,u3⟩,u4,u5,u6,u7,u8⟩:=BMA.out.four;obtain ⟨⟨v0,v1,v2,v3⟩,v4,v5,v6,v7,v8⟩:=BMB.out.four;have ne1:=NEB.out;have ne2:=Ne.symm NEB.out;go_wp2_with fail
    go_meet
    exact y2g HN LBMA LBMB BMA BMB NEB HFP HFQ
 case rest=>
  obtain ⟨P1,P2,rfl,rfl,hn,⟨s5,a5,l5,c5,t5,d5,m5,k5,hb5,hf5⟩,⟨s6,a6,l6,c6,t6,d6,m6,k6,hb6,hf6⟩⟩:=hcut;obtain ⟨w7,hw7⟩:∃ x,x=wc:=⟨_,rfl⟩;rw[<-hw7] at hn hb5 hf5 hb6 hf6⊢;clear hw7 HWX HE6;replace BT:=bW BT hn;replace HFT:=hid (HFT.out.new hn);replace HWY:=hid (HWY.out.new hn);have HN:=hid (HN1.out.trans hn);clear HN1 hn;have BA:=hid hb5;have HA:=hid hf5;have BB:=hid hb6;have HB:=hid hf6;clear hb5 hf5 hb6 hf6;have HE6:=hid (HE.out.new HN.out)
  go_step
  go_upto_region 11 with (fail);have HN1:=HN;clear HN
  go_cut [11,12] (fun x y wx=>∃ P1 P2:Nat,x=.pointer (some ⟨P1,0,none⟩)/\y=.pointer (some ⟨P2,0,none⟩)/\New w7 wx/\FrAt wx P1 y0/\FrAt wx P2 y1)
  case first=>
   have HN:=hid (New.refl w7);refine y00 15 (fun W=>Tx2 W b (off+i*2+1) Y0 (off+(i+1)*2+1) Y1) 17 #[false,false,false,false,false,false,false,false,false,false,false,false,false,false,false,false,false] rfl (by kernel_rfl) (by kernel_rfl) ?_
   skip
   replace HWY:=hid (HWY.out.new (New.refl w7).drew);replace HN:=hid (HN.out.drew);obtain ⟨wdr,hwd⟩:∃ x,w7.drew=x:=⟨_,rfl⟩;rw[hwd] at HN HWY⊢;clear hwd
   skip
   refine tk 0 (by exact HWY.out) ?_
   try simp only[PE,PT]
   refine tk 1 (by exact HWY.out) ?_
   try simp only[PE,PT]
   refine y0q 2 (v:=?_) rfl (by kernel_rfl) (fun _ _ _ h=>h) (by exact HWY.out) (Or.inl ⟨by first | kernel_rfl | rfl,?_⟩) ?_;rotate_left
   ·(intro W hW;(try dsimp only at hW);(go_simp;try simp only[hwj]);try with_reducible rfl)
   try simp only[PE,PT]
   refine tk 3 (by exact HWY.out) ?_
   try simp only[PE,PT]
   refine tk 4 (by exact HWY.out) ?_
   try simp only[PE,PT]
   refine y0q 5 (v:=?_) rfl (by kernel_rfl) (fun _ _ _ h=>h) (by exact HWY.out) (Or.inl ⟨by first | kernel_rfl | rfl,?_⟩) ?_;rotate_left
   ·(intro W hW;(try dsimp only at hW);(obtain ⟨g1, -⟩:=hW;go_simp);try with_reducible rfl)
   try simp only[PE,PT]
   refine tk 7 (by exact HWY.out) ?_
   try simp only[PE,PT]
   refine tk 8 (by exact HWY.out) ?_
   try simp only[PE,PT]
   refine tk 9 (by exact HWY.out) ?_
   try simp only[PE,PT]
   refine tk 10 (by exact HWY.out) ?_
   try simp only[PE,PT]
   refine y0q 11 (v:=?_) rfl (by kernel_rfl) (fun _ _ _ h=>h) (by exact HWY.out) (Or.inl ⟨by first | kernel_rfl | rfl,?_⟩) ?_;rotate_left
   ·(intro W hW;(try dsimp only at hW);(obtain ⟨-,g2⟩:=hW;go_simp);try with_reducible rfl)
   try simp only[PE,PT]
   refine y51 6 13 14 rfl rfl rfl (by kernel_rfl) (fun K hK=>?_) (fun K hK=>?_) (fun K hK=>?_)
   ·skip
    go_simp;refine (HFY0.out _ (HE6.out.new HN.out)).mono ?_;rintro e wp ⟨vp,rfl,hn,hf⟩;obtain ⟨s1,a1,l1,q1,t1,d1,m1,n1,rfl⟩:=hf.shape;have HFP:=hid hf;clear hf
    skip
    replace HWY:=hid (HWY.out.new hn);replace HN:=tW HN hn;clear hn
    skip
    refine hK.out _ _ (fun _=>HWY.out) ?_;clear hK K
    try simp only[PE,PT]
    refine y51 12 13 14 rfl rfl rfl (by kernel_rfl) (fun K hK=>?_) (fun K hK=>?_) (fun K hK=>?_)
    ·skip
     go_simp;refine (HFY1.out _ (HE6.out.new HN.out)).mono ?_;rintro e wq ⟨vq,rfl,hn,hf⟩;obtain ⟨s2,a2,l2,q2,t2,d2,m2,n2,rfl⟩:=hf.shape;have HFQ:=hid hf;clear hf
     skip
     replace HWY:=hid (HWY.out.new hn);replace HFP:=hid (HFP.out.new hn);replace HN:=tW HN hn;clear hn
     skip
     refine hK.out _ _ (fun _=>HWY.out) ?_;clear hK K
     try simp only[PE,PT]
     refine y0h 13 14 rfl rfl (by kernel_rfl) (fun K hK=>?_) (fun K hK=>?_)
     ·skip
      go_simp
      skip
      have LBMA:=hid (HN.out.size);obtain ⟨wa1,hwa,BMA_,hn⟩:=y0j wq 115 #[.int .i64 0,.slice none 0 0,.int .i64 0,.slice none 0 0];rw[hwa];clear hwa;have BMA:=hid BMA_;clear BMA_;replace HWY:=hid (HWY.out.new hn);replace HFP:=hid (HFP.out.new hn);replace HFQ:=hid (HFQ.out.new hn);replace HN:=tW HN hn;clear hn
      skip
      refine hK.out _ _ (fun _=>HWY.out) ?_;clear hK K
      try simp only[PE,PT]
      refine tk1 14 fun K hK=>?_;go_simp
      skip
      have LBMB:=hid (HN.out.size);have NEB:=hid (Nat.ne_of_lt BMA.out.lt);obtain ⟨wa2,hwa,BMB_,hn⟩:=y0j wa1 115 #[.int .i64 0,.slice none 0 0,.int .i64 0,.slice none 0 0];rw[hwa];clear hwa;have BMB:=hid BMB_;clear BMB_;replace HWY:=hid (HWY.out.new hn);replace HFP:=hid (HFP.out.new hn);replace HFQ:=hid (HFQ.out.new hn);replace BMA:=bW BMA hn;replace HN:=tW HN hn;clear hn
      skip
      refine hK.out _ _ (fun _=>HWY.out) ?_;clear hK K
      try simp only[PE,PT]
      refine tlW ?_;obtain ⟨⟨u0,u1,u2,u3⟩,u4,u5,u6,u7,u8⟩:=BMA.out.four;obtain ⟨⟨v0,v1,v2,v3⟩,v4,v5,v6,v7,v8⟩:=BMB.out.four;have ne1:=NEB.out;have ne2:=Ne.symm NEB.out;go_wp2_with fail
      go_meet
      exact y2g HN LBMA LBMB BMA BMB NEB HFP HFQ
     ·skip
      go_simp
      skip
      have LBMB:=hid (HN.out.size);obtain ⟨wa1,hwa,BMB_,hn⟩:=y0j wq 115 #[.int .i64 0,.slice none 0 0,.int .i64 0,.slice none 0 0];rw[hwa];clear hwa;have BMB:=hid BMB_;clear BMB_;replace HWY:=hid (HWY.out.new hn);replace HFP:=hid (HFP.out.new hn);replace HFQ:=hid (HFQ.out.new hn);replace HN:=tW HN hn;clear hn
      skip
      refine hK.out _ _ (fun _=>HWY.out) ?_;clear hK K
      try simp only[PE,PT]
      refine tk1 13 fun K hK=>?_;go_simp
      skip
      have LBMA:=hid (HN.out.size);have NEB:=hid (Nat.ne_of_gt BMB.out.lt);obtain ⟨wa2,hwa,BMA_,hn⟩:=y0j wa1 115 #[.int .i64 0,.slice none 0 0,.int .i64 0,.slice none 0 0];rw[hwa];clear hwa;have BMA:=hid BMA_;clear BMA_;replace HWY:=hid (HWY.out.new hn);replace HFP:=hid (HFP.out.new hn);replace HFQ:=hid (HFQ.out.new hn);replace BMB:=bW BMB hn;replace HN:=tW HN hn;clear hn
      skip
      refine hK.out _ _ (fun _=>HWY.out) ?_;clear hK K
      try simp only[PE,PT]
      refine tlW ?_;obtain ⟨⟨u0,u1,u2,u3⟩,u4,u5,u6,u7,u8⟩:=BMA.out.four;obtain ⟨⟨v0,v1,v2,v3⟩,v4,v5,v6,v7,v8⟩:=BMB.out.four;have ne1:=NEB.out;have ne2:=Ne.symm NEB.out;go_wp2_with fail
      go_meet
      exact y2g HN LBMA LBMB BMA BMB NEB HFP HFQ
    ·skip
     go_simp
     skip
     have LBMA:=hid (HN.out.size);obtain ⟨wa1,hwa,BMA_,hn⟩:=y0j wp 115 #[.int .i64 0,.slice none 0 0,.int .i64 0,.slice none 0 0];rw[hwa];clear hwa;have BMA:=hid BMA_;clear BMA_;replace HWY:=hid (HWY.out.new hn);replace HFP:=hid (HFP.out.new hn);replace HN:=tW HN hn;clear hn
     skip
     refine hK.out _ _ (fun _=>HWY.out) ?_;clear hK K
     try simp only[PE,PT]
     refine y0h 12 14 rfl rfl (by kernel_rfl) (fun K hK=>?_) (fun K hK=>?_)
     ·skip
      go_simp;refine (HFY1.out _ (HE6.out.new HN.out)).mono ?_;rintro e wq ⟨vq,rfl,hn,hf⟩;obtain ⟨s2,a2,l2,q2,t2,d2,m2,n2,rfl⟩:=hf.shape;have HFQ:=hid hf;clear hf
      skip
      replace HWY:=hid (HWY.out.new hn);replace HFP:=hid (HFP.out.new hn);replace BMA:=bW BMA hn;replace HN:=tW HN hn;clear hn
      skip
      refine hK.out _ _ (fun _=>HWY.out) ?_;clear hK K
      try simp only[PE,PT]
      refine tk1 14 fun K hK=>?_;go_simp
      skip
      have LBMB:=hid (HN.out.size);have NEB:=hid (Nat.ne_of_lt BMA.out.lt);obtain ⟨wa2,hwa,BMB_,hn⟩:=y0j wq 115 #[.int .i64 0,.slice none 0 0,.int .i64 0,.slice none 0 0];rw[hwa];clear hwa;have BMB:=hid BMB_;clear BMB_;replace HWY:=hid (HWY.out.new hn);replace HFP:=hid (HFP.out.new hn);replace BMA:=bW BMA hn;replace HFQ:=hid (HFQ.out.new hn);replace HN:=tW HN hn;clear hn
      skip
      refine hK.out _ _ (fun _=>HWY.out) ?_;clear hK K
      try simp only[PE,PT]
      refine tlW ?_;obtain ⟨⟨u0,u1,u2,u3⟩,u4,u5,u6,u7,u8⟩:=BMA.out.four;obtain ⟨⟨v0,v1,v2,v3⟩,v4,v5,v6,v7,v8⟩:=BMB.out.four;have ne1:=NEB.out;have ne2:=Ne.symm NEB.out;go_wp2_with fail
      go_meet
      exact y2g HN LBMA LBMB BMA BMB NEB HFP HFQ
     ·skip
      go_simp
      skip
      have LBMB:=hid (HN.out.size);have NEB:=hid (Nat.ne_of_lt BMA.out.lt);obtain ⟨wa2,hwa,BMB_,hn⟩:=y0j wa1 115 #[.int .i64 0,.slice none 0 0,.int .i64 0,.slice none 0 0];rw[hwa];clear hwa;have BMB:=hid BMB_;clear BMB_;replace HWY:=hid (HWY.out.new hn);replace HFP:=hid (HFP.out.new hn);replace BMA:=bW BMA hn;replace HN:=tW HN hn;clear hn
      skip
      refine hK.out _ _ (fun _=>HWY.out) ?_;clear hK K
      try simp only[PE,PT]
      refine tk1 12 fun K hK=>?_;go_simp;refine (HFY1.out _ (HE6.out.new HN.out)).mono ?_;rintro e wq ⟨vq,rfl,hn,hf⟩;obtain ⟨s2,a2,l2,q2,t2,d2,m2,n2,rfl⟩:=hf.shape;have HFQ:=hid hf;clear hf
      skip
      replace HWY:=hid (HWY.out.new hn);replace HFP:=hid (HFP.out.new hn);replace BMA:=bW BMA hn;replace BMB:=bW BMB hn;replace HN:=tW HN hn;clear hn
      skip
      refine hK.out _ _ (fun _=>HWY.out) ?_;clear hK K
      try simp only[PE,PT]
      refine tlW ?_;obtain ⟨⟨u0,u1,u2,u3⟩,u4,u5,u6,u7,u8⟩:=BMA.out.four;obtain ⟨⟨v0,v1,v2,v3⟩,v4,v5,v6,v7,v8⟩:=BMB.out.four;have ne1:=NEB.out;have ne2:=Ne.symm NEB.out;go_wp2_with fail
      go_meet
      exact y2g HN LBMA LBMB BMA BMB NEB HFP HFQ
    ·skip
     go_simp
     skip
     have LBMB:=hid (HN.out.size);obtain ⟨wa1,hwa,BMB_,hn⟩:=y0j wp 115 #[.int .i64 0,.slice none 0 0,.int .i64 0,.slice none 0 0];rw[hwa];clear hwa;have BMB:=hid BMB_;clear BMB_;replace HWY:=hid (HWY.out.new hn);replace HFP:=hid (HFP.out.new hn);replace HN:=tW HN hn;clear hn
     skip
     refine hK.out _ _ (fun _=>HWY.out) ?_;clear hK K
     try simp only[PE,PT]
     refine y0h 12 13 rfl rfl (by kernel_rfl) (fun K hK=>?_) (fun K hK=>?_)
     ·skip
      go_simp;refine (HFY1.out _ (HE6.out.new HN.out)).mono ?_;rintro e wq ⟨vq,rfl,hn,hf⟩;obtain ⟨s2,a2,l2,q2,t2,d2,m2,n2,rfl⟩:=hf.shape;have HFQ:=hid hf;clear hf
      skip
      replace HWY:=hid (HWY.out.new hn);replace HFP:=hid (HFP.out.new hn);replace BMB:=bW BMB hn;replace HN:=tW HN hn;clear hn
      skip
      refine hK.out _ _ (fun _=>HWY.out) ?_;clear hK K
      try simp only[PE,PT]
      refine tk1 13 fun K hK=>?_;go_simp
      skip
      have LBMA:=hid (HN.out.size);have NEB:=hid (Nat.ne_of_gt BMB.out.lt);obtain ⟨wa2,hwa,BMA_,hn⟩:=y0j wq 115 #[.int .i64 0,.slice none 0 0,.int .i64 0,.slice none 0 0];rw[hwa];clear hwa;have BMA:=hid BMA_;clear BMA_;replace HWY:=hid (HWY.out.new hn);replace HFP:=hid (HFP.out.new hn);replace BMB:=bW BMB hn;replace HFQ:=hid (HFQ.out.new hn);replace HN:=tW HN hn;clear hn
      skip
      refine hK.out _ _ (fun _=>HWY.out) ?_;clear hK K
      try simp only[PE,PT]
      refine tlW ?_;obtain ⟨⟨u0,u1,u2,u3⟩,u4,u5,u6,u7,u8⟩:=BMA.out.four;obtain ⟨⟨v0,v1,v2,v3⟩,v4,v5,v6,v7,v8⟩:=BMB.out.four;have ne1:=NEB.out;have ne2:=Ne.symm NEB.out;go_wp2_with fail
      go_meet
      exact y2g HN LBMA LBMB BMA BMB NEB HFP HFQ
     ·skip
      go_simp
      skip
      have LBMA:=hid (HN.out.size);have NEB:=hid (Nat.ne_of_gt BMB.out.lt);obtain ⟨wa2,hwa,BMA_,hn⟩:=y0j wa1 115 #[.int .i64 0,.slice none 0 0,.int .i64 0,.slice none 0 0];rw[hwa];clear hwa;have BMA:=hid BMA_;clear BMA_;replace HWY:=hid (HWY.out.new hn);replace HFP:=hid (HFP.out.new hn);replace BMB:=bW BMB hn;replace HN:=tW HN hn;clear hn
      skip
      refine hK.out _ _ (fun _=>HWY.out) ?_;clear hK K
      try simp only[PE,PT]
      refine tk1 12 fun K hK=>?_;go_simp;refine (HFY1.out _ (HE6.out.new HN.out)).mono ?_;rintro e wq ⟨vq,rfl,hn,hf⟩;obtain ⟨s2,a2,l2,q2,t2,d2,m2,n2,rfl⟩:=hf.shape;have HFQ:=hid hf;clear hf
      skip
      replace HWY:=hid (HWY.out.new hn);replace HFP:=hid (HFP.out.new hn);replace BMB:=bW BMB hn;replace BMA:=bW BMA hn;replace HN:=tW HN hn;clear hn
      skip
      refine hK.out _ _ (fun _=>HWY.out) ?_;clear hK K
      try simp only[PE,PT]
      refine tlW ?_;obtain ⟨⟨u0,u1,u2,u3⟩,u4,u5,u6,u7,u8⟩:=BMA.out.four;obtain ⟨⟨v0,v1,v2,v3⟩,v4,v5,v6,v7,v8⟩:=BMB.out.four;have ne1:=NEB.out;have ne2:=Ne.symm NEB.out;go_wp2_with fail
      go_meet
      exact y2g HN LBMA LBMB BMA BMB NEB HFP HFQ
   ·skip
    go_simp
    skip
    have LBMA:=hid (HN.out.size);obtain ⟨wa1,hwa,BMA_,hn⟩:=y0j wdr 115 #[.int .i64 0,.slice none 0 0,.int .i64 0,.slice none 0 0];rw[hwa];clear hwa;have BMA:=hid BMA_;clear BMA_;replace HWY:=hid (HWY.out.new hn);replace HN:=tW HN hn;clear hn
    skip
    refine hK.out _ _ (fun _=>HWY.out) ?_;clear hK K
    try simp only[PE,PT]
    refine y0h 6 14 rfl rfl (by kernel_rfl) (fun K hK=>?_) (fun K hK=>?_)
    ·skip
     go_simp;refine (HFY0.out _ (HE6.out.new HN.out)).mono ?_;rintro e wp ⟨vp,rfl,hn,hf⟩;obtain ⟨s1,a1,l1,q1,t1,d1,m1,n1,rfl⟩:=hf.shape;have HFP:=hid hf;clear hf
     skip
     replace HWY:=hid (HWY.out.new hn);replace BMA:=bW BMA hn;replace HN:=tW HN hn;clear hn
     skip
     refine hK.out _ _ (fun _=>HWY.out) ?_;clear hK K
     try simp only[PE,PT]
     refine y0h 12 14 rfl rfl (by kernel_rfl) (fun K hK=>?_) (fun K hK=>?_)
     ·skip
      go_simp;refine (HFY1.out _ (HE6.out.new HN.out)).mono ?_;rintro e wq ⟨vq,rfl,hn,hf⟩;obtain ⟨s2,a2,l2,q2,t2,d2,m2,n2,rfl⟩:=hf.shape;have HFQ:=hid hf;clear hf
      skip
      replace HWY:=hid (HWY.out.new hn);replace BMA:=bW BMA hn;replace HFP:=hid (HFP.out.new hn);replace HN:=tW HN hn;clear hn
      skip
      refine hK.out _ _ (fun _=>HWY.out) ?_;clear hK K
      try simp only[PE,PT]
      refine tk1 14 fun K hK=>?_;go_simp
      skip
      have LBMB:=hid (HN.out.size);have NEB:=hid (Nat.ne_of_lt BMA.out.lt);obtain ⟨wa2,hwa,BMB_,hn⟩:=y0j wq 115 #[.int .i64 0,.slice none 0 0,.int .i64 0,.slice none 0 0];rw[hwa];clear hwa;have BMB:=hid BMB_;clear BMB_;replace HWY:=hid (HWY.out.new hn);replace BMA:=bW BMA hn;replace HFP:=hid (HFP.out.new hn);replace HFQ:=hid (HFQ.out.new hn);replace HN:=tW HN hn;clear hn
      skip
      refine hK.out _ _ (fun _=>HWY.out) ?_;clear hK K
      try simp only[PE,PT]
      refine tlW ?_;obtain ⟨⟨u0,u1,u2,u3⟩,u4,u5,u6,u7,u8⟩:=BMA.out.four;obtain ⟨⟨v0,v1,v2,v3⟩,v4,v5,v6,v7,v8⟩:=BMB.out.four;have ne1:=NEB.out;have ne2:=Ne.symm NEB.out;go_wp2_with fail
      go_meet
      exact y2g HN LBMA LBMB BMA BMB NEB HFP HFQ
     ·skip
      go_simp
      skip
      have LBMB:=hid (HN.out.size);have NEB:=hid (Nat.ne_of_lt BMA.out.lt);obtain ⟨wa2,hwa,BMB_,hn⟩:=y0j wp 115 #[.int .i64 0,.slice none 0 0,.int .i64 0,.slice none 0 0];rw[hwa];clear hwa;have BMB:=hid BMB_;clear BMB_;replace HWY:=hid (HWY.out.new hn);replace BMA:=bW BMA hn;replace HFP:=hid (HFP.out.new hn);replace HN:=tW HN hn;clear hn
      skip
      refine hK.out _ _ (fun _=>HWY.out) ?_;clear hK K
      try simp only[PE,PT]
      refine tk1 12 fun K hK=>?_;go_simp;refine (HFY1.out _ (HE6.out.new HN.out)).mono ?_;rintro e wq ⟨vq,rfl,hn,hf⟩;obtain ⟨s2,a2,l2,q2,t2,d2,m2,n2,rfl⟩:=hf.shape;have HFQ:=hid hf;clear hf
      skip
      replace HWY:=hid (HWY.out.new hn);replace BMA:=bW BMA hn;replace HFP:=hid (HFP.out.new hn);replace BMB:=bW BMB hn;replace HN:=tW HN hn;clear hn
      skip
      refine hK.out _ _ (fun _=>HWY.out) ?_;clear hK K
      try simp only[PE,PT]
      refine tlW ?_;obtain ⟨⟨u0,u1,u2,u3⟩,u4,u5,u6,u7,u8⟩:=BMA.out.four;obtain ⟨⟨v0,v1,v2,v3⟩,v4,v5,v6,v7,v8⟩:=BMB.out.four;have ne1:=NEB.out;have ne2:=Ne.symm NEB.out;go_wp2_with fail
      go_meet
      exact y2g HN LBMA LBMB BMA BMB NEB HFP HFQ
    ·skip
     go_simp
     skip
     have LBMB:=hid (HN.out.size);have NEB:=hid (Nat.ne_of_lt BMA.out.lt);obtain ⟨wa2,hwa,BMB_,hn⟩:=y0j wa1 115 #[.int .i64 0,.slice none 0 0,.int .i64 0,.slice none 0 0];rw[hwa];clear hwa;have BMB:=hid BMB_;clear BMB_;replace HWY:=hid (HWY.out.new hn);replace BMA:=bW BMA hn;replace HN:=tW HN hn;clear hn
     skip
     refine hK.out _ _ (fun _=>HWY.out) ?_;clear hK K
     try simp only[PE,PT]
     refine tk1 6 fun K hK=>?_;go_simp;refine (HFY0.out _ (HE6.out.new HN.out)).mono ?_;rintro e wp ⟨vp,rfl,hn,hf⟩;obtain ⟨s1,a1,l1,q1,t1,d1,m1,n1,rfl⟩:=hf.shape;have HFP:=hid hf;clear hf
     skip
     replace HWY:=hid (HWY.out.new hn);replace BMA:=bW BMA hn;replace BMB:=bW BMB hn;replace HN:=tW HN hn;clear hn
     skip
     refine hK.out _ _ (fun _=>HWY.out) ?_;clear hK K
     try simp only[PE,PT]
     refine tk1 12 fun K hK=>?_;go_simp;refine (HFY1.out _ (HE6.out.new HN.out)).mono ?_;rintro e wq ⟨vq,rfl,hn,hf⟩;obtain ⟨s2,a2,l2,q2,t2,d2,m2,n2,rfl⟩:=hf.shape;have HFQ:=hid hf;clear hf
     skip
     replace HWY:=hid (HWY.out.new hn);replace BMA:=bW BMA hn;replace BMB:=bW BMB hn;replace HFP:=hid (HFP.out.new hn);replace HN:=tW HN hn;clear hn
     skip
     refine hK.out _ _ (fun _=>HWY.out) ?_;clear hK K
     try simp only[PE,PT]
     refine tlW ?_;obtain ⟨⟨u0,u1,u2,u3⟩,u4,u5,u6,u7,u8⟩:=BMA.out.four;obtain ⟨⟨v0,v1,v2,v3⟩,v4,v5,v6,v7,v8⟩:=BMB.out.four;have ne1:=NEB.out;have ne2:=Ne.symm NEB.out;go_wp2_with fail
     go_meet
     exact y2g HN LBMA LBMB BMA BMB NEB HFP HFQ
   ·skip
    go_simp
    skip
    have LBMB:=hid (HN.out.size);obtain ⟨wa1,hwa,BMB_,hn⟩:=y0j wdr 115 #[.int .i64 0,.slice none 0 0,.int .i64 0,.slice none 0 0];rw[hwa];clear hwa;have BMB:=hid BMB_;clear BMB_;replace HWY:=hid (HWY.out.new hn);replace HN:=tW HN hn;clear hn
    skip
    refine hK.out _ _ (fun _=>HWY.out) ?_;clear hK K
    try simp only[PE,PT]
    refine y0h 6 13 rfl rfl (by kernel_rfl) (fun K hK=>?_) (fun K hK=>?_)
    ·skip
     go_simp;refine (HFY0.out _ (HE6.out.new HN.out)).mono ?_;rintro e wp ⟨vp,rfl,hn,hf⟩;obtain ⟨s1,a1,l1,q1,t1,d1,m1,n1,rfl⟩:=hf.shape;have HFP:=hid hf;clear hf
     skip
     replace HWY:=hid (HWY.out.new hn);replace BMB:=bW BMB hn;replace HN:=tW HN hn;clear hn
     skip
     refine hK.out _ _ (fun _=>HWY.out) ?_;clear hK K
     try simp only[PE,PT]
     refine y0h 12 13 rfl rfl (by kernel_rfl) (fun K hK=>?_) (fun K hK=>?_)
     ·skip
      go_simp;refine (HFY1.out _ (HE6.out.new HN.out)).mono ?_;rintro e wq ⟨vq,rfl,hn,hf⟩;obtain ⟨s2,a2,l2,q2,t2,d2,m2,n2,rfl⟩:=hf.shape;have HFQ:=hid hf;clear hf
      skip
      replace HWY:=hid (HWY.out.new hn);replace BMB:=bW BMB hn;replace HFP:=hid (HFP.out.new hn);replace HN:=tW HN hn;clear hn
      skip
      refine hK.out _ _ (fun _=>HWY.out) ?_;clear hK K
      try simp only[PE,PT]
      refine tk1 13 fun K hK=>?_;go_simp
      skip
      have LBMA:=hid (HN.out.size);have NEB:=hid (Nat.ne_of_gt BMB.out.lt);obtain ⟨wa2,hwa,BMA_,hn⟩:=y0j wq 115 #[.int .i64 0,.slice none 0 0,.int .i64 0,.slice none 0 0];rw[hwa];clear hwa;have BMA:=hid BMA_;clear BMA_;replace HWY:=hid (HWY.out.new hn);replace BMB:=bW BMB hn;replace HFP:=hid (HFP.out.new hn);replace HFQ:=hid (HFQ.out.new hn);replace HN:=tW HN hn;clear hn
      skip
      refine hK.out _ _ (fun _=>HWY.out) ?_;clear hK K
      try simp only[PE,PT]
      refine tlW ?_;obtain ⟨⟨u0,u1,u2,u3⟩,u4,u5,u6,u7,u8⟩:=BMA.out.four;obtain ⟨⟨v0,v1,v2,v3⟩,v4,v5,v6,v7,v8⟩:=BMB.out.four;have ne1:=NEB.out;have ne2:=Ne.symm NEB.out;go_wp2_with fail
      go_meet
      exact y2g HN LBMA LBMB BMA BMB NEB HFP HFQ
     ·skip
      go_simp
      skip
      have LBMA:=hid (HN.out.size);have NEB:=hid (Nat.ne_of_gt BMB.out.lt);obtain ⟨wa2,hwa,BMA_,hn⟩:=y0j wp 115 #[.int .i64 0,.slice none 0 0,.int .i64 0,.slice none 0 0];rw[hwa];clear hwa;have BMA:=hid BMA_;clear BMA_;replace HWY:=hid (HWY.out.new hn);replace BMB:=bW BMB hn;replace HFP:=hid (HFP.out.new hn);replace HN:=tW HN hn;clear hn
      skip
      refine hK.out _ _ (fun _=>HWY.out) ?_;clear hK K
      try simp only[PE,PT]
      refine tk1 12 fun K hK=>?_;go_simp;refine (HFY1.out _ (HE6.out.new HN.out)).mono ?_;rintro e wq ⟨vq,rfl,hn,hf⟩;obtain ⟨s2,a2,l2,q2,t2,d2,m2,n2,rfl⟩:=hf.shape;have HFQ:=hid hf;clear hf
      skip
      replace HWY:=hid (HWY.out.new hn);replace BMB:=bW BMB hn;replace HFP:=hid (HFP.out.new hn);replace BMA:=bW BMA hn;replace HN:=tW HN hn;clear hn
      skip
      refine hK.out _ _ (fun _=>HWY.out) ?_;clear hK K
      try simp only[PE,PT]
      refine tlW ?_;obtain ⟨⟨u0,u1,u2,u3⟩,u4,u5,u6,u7,u8⟩:=BMA.out.four;obtain ⟨⟨v0,v1,v2,v3⟩,v4,v5,v6,v7,v8⟩:=BMB.out.four;have ne1:=NEB.out;have ne2:=Ne.symm NEB.out;go_wp2_with fail
      go_meet
      exact y2g HN LBMA LBMB BMA BMB NEB HFP HFQ
    ·skip
     go_simp
     skip
     have LBMA:=hid (HN.out.size);have NEB:=hid (Nat.ne_of_gt BMB.out.lt);obtain ⟨wa2,hwa,BMA_,hn⟩:=y0j wa1 115 #[.int .i64 0,.slice none 0 0,.int .i64 0,.slice none 0 0];rw[hwa];clear hwa;have BMA:=hid BMA_;clear BMA_;replace HWY:=hid (HWY.out.new hn);replace BMB:=bW BMB hn;replace HN:=tW HN hn;clear hn
     skip
     refine hK.out _ _ (fun _=>HWY.out) ?_;clear hK K
     try simp only[PE,PT]
     refine tk1 6 fun K hK=>?_;go_simp;refine (HFY0.out _ (HE6.out.new HN.out)).mono ?_;rintro e wp ⟨vp,rfl,hn,hf⟩;obtain ⟨s1,a1,l1,q1,t1,d1,m1,n1,rfl⟩:=hf.shape;have HFP:=hid hf;clear hf
     skip
     replace HWY:=hid (HWY.out.new hn);replace BMB:=bW BMB hn;replace BMA:=bW BMA hn;replace HN:=tW HN hn;clear hn
     skip
     refine hK.out _ _ (fun _=>HWY.out) ?_;clear hK K
     try simp only[PE,PT]
     refine tk1 12 fun K hK=>?_;go_simp;refine (HFY1.out _ (HE6.out.new HN.out)).mono ?_;rintro e wq ⟨vq,rfl,hn,hf⟩;obtain ⟨s2,a2,l2,q2,t2,d2,m2,n2,rfl⟩:=hf.shape;have HFQ:=hid hf;clear hf
     skip
     replace HWY:=hid (HWY.out.new hn);replace BMB:=bW BMB hn;replace BMA:=bW BMA hn;replace HFP:=hid (HFP.out.new hn);replace HN:=tW HN hn;clear hn
     skip
     refine hK.out _ _ (fun _=>HWY.out) ?_;clear hK K
     try simp only[PE,PT]
     refine tlW ?_;obtain ⟨⟨u0,u1,u2,u3⟩,u4,u5,u6,u7,u8⟩:=BMA.out.four;obtain ⟨⟨v0,v1,v2,v3⟩,v4,v5,v6,v7,v8⟩:=BMB.out.four;have ne1:=NEB.out;have ne2:=Ne.symm NEB.out;go_wp2_with fail
     go_meet
     exact y2g HN LBMA LBMB BMA BMB NEB HFP HFQ
  case rest=>
   obtain ⟨P3,P4,rfl,rfl,hn,⟨s7,a7,l7,c7,t7,d7,m7,k7,hb7,hf7⟩,⟨s8,a8,l8,c8,t8,d8,m8,k8,hb8,hf8⟩⟩:=hcut;obtain ⟨w8,hw8⟩:∃ x,x=wc:=⟨_,rfl⟩;rw[<-hw8] at hn hb7 hf7 hb8 hf8⊢;clear hw8 HWY HE6;replace BT:=bW BT hn;replace HFT:=hid (HFT.out.new hn);replace BA:=bW BA hn;replace HA:=hid (HA.out.new hn);replace BB:=bW BB hn;replace HB:=hid (HB.out.new hn);have HN:=hid (HN1.out.trans hn);clear HN1 hn;have BY:=hid hb7;have HY:=hid hf7;have BZ:=hid hb8;have HZ:=hid hf8;clear hb7 hf7 hb8 hf8
   go_step
   go_upto_region 12 with (fail);obtain ⟨⟨py0,py1,py2,py3⟩,py4,py5,py6,py7,py8⟩:=BY.out.four;obtain ⟨⟨pz0,pz1,pz2,pz3⟩,pz4,pz5,pz6,pz7,pz8⟩:=BZ.out.four;obtain ⟨⟨pt0,pt1,pt2,pt3⟩,pt4,pt5,pt6,pt7,pt8⟩:=BT.out.four;obtain ⟨⟨pa0,pa1,pa2,pa3⟩,pa4,pa5,pa6,pa7,pa8⟩:=BA.out.four;obtain ⟨⟨pb0,pb1,pb2,pb3⟩,pb4,pb5,pb6,pb7,pb8⟩:=BB.out.four;clear py0 py1 py2 py3 py4 py5 py6 py7 py8;clear pz0 pz1 pz2 pz3 pz4 pz5 pz6 pz7 pz8;clear pt0 pt1 pt2 pt3 pt4 pt5 pt6 pt7 pt8;clear pa0 pa1 pa2 pa3 pa4 pa5 pa6 pa7 pa8;clear pb0 pb1 pb2 pb3 pb4 pb5 pb6 pb7 pb8;refine y00 17 (fun W=>(W.cell? ⟨P3,0,none⟩=some (.int .i64 s7)/\W.cell? ⟨P3,1,none⟩=some (.slice a7 l7 c7)/\W.cell? ⟨P3,2,none⟩=some (.int .i64 t7)/\W.cell? ⟨P3,3,none⟩=some (.slice d7 m7 k7))/\(W.cell? ⟨P4,0,none⟩=some (.int .i64 s8)/\W.cell? ⟨P4,1,none⟩=some (.slice a8 l8 c8)/\W.cell? ⟨P4,2,none⟩=some (.int .i64 t8)/\W.cell? ⟨P4,3,none⟩=some (.slice d8 m8 k8))/\(W.cell? ⟨w4.heap.size,0,none⟩=some (.int .i64 s4)/\W.cell? ⟨w4.heap.size,1,none⟩=some (.slice a4 l4 c4)/\W.cell? ⟨w4.heap.size,2,none⟩=some (.int .i64 t4)/\W.cell? ⟨w4.heap.size,3,none⟩=some (.slice d4 m4 k4))/\(W.cell? ⟨P1,0,none⟩=some (.int .i64 s5)/\W.cell? ⟨P1,1,none⟩=some (.slice a5 l5 c5)/\W.cell? ⟨P1,2,none⟩=some (.int .i64 t5)/\W.cell? ⟨P1,3,none⟩=some (.slice d5 m5 k5))/\(W.cell? ⟨P2,0,none⟩=some (.int .i64 s6)/\W.cell? ⟨P2,1,none⟩=some (.slice a6 l6 c6)/\W.cell? ⟨P2,2,none⟩=some (.int .i64 t6)/\W.cell? ⟨P2,3,none⟩=some (.slice d6 m6 k6))) 18 #[false,false,false,false,false,false,false,false,false,false,false,false,false,false,false,false,false,false] rfl (by kernel_rfl) (by kernel_rfl) ?_;refine tk 0 (by exact ⟨cW4 BY,cW4 BZ,cW4 BT,cW4 BA,cW4 BB⟩) ?_
   try simp only[PE,PT]
   refine tk 1 (by exact ⟨cW4 BY,cW4 BZ,cW4 BT,cW4 BA,cW4 BB⟩) ?_
   try simp only[PE,PT]
   refine tk 2 (by exact ⟨cW4 BY,cW4 BZ,cW4 BT,cW4 BA,cW4 BB⟩) ?_
   try simp only[PE,PT]
   refine tk 4 (by exact ⟨cW4 BY,cW4 BZ,cW4 BT,cW4 BA,cW4 BB⟩) ?_
   try simp only[PE,PT]
   refine tk 5 (by exact ⟨cW4 BY,cW4 BZ,cW4 BT,cW4 BA,cW4 BB⟩) ?_
   try simp only[PE,PT]
   refine tk 8 (by exact ⟨cW4 BY,cW4 BZ,cW4 BT,cW4 BA,cW4 BB⟩) ?_
   try simp only[PE,PT]
   refine tk 9 (by exact ⟨cW4 BY,cW4 BZ,cW4 BT,cW4 BA,cW4 BB⟩) ?_
   try simp only[PE,PT]
   refine tk1 3 fun K hK=>?_
   try simp only[PE]
   go_simp;refine (HS1.out _ _ _ (HZ.out.new (New.refl _).drew) (HY.out.new (New.refl _).drew)).mono ?_;rintro e wd ⟨vd,rfl,hn,hf⟩;have hn:=hn.undrew;have G1:=hid hf;clear hf;replace BT:=bW BT hn;replace HFT:=hid (HFT.out.new hn);replace BA:=bW BA hn;replace HA:=hid (HA.out.new hn);replace BB:=bW BB hn;replace HB:=hid (HB.out.new hn);replace BY:=bW BY hn;replace HY:=hid (HY.out.new hn);replace BZ:=bW BZ hn;replace HZ:=hid (HZ.out.new hn);replace HN:=tW HN hn;clear hn;refine hK.out _ _ (fun _=>⟨cW4 BY,cW4 BZ,cW4 BT,cW4 BA,cW4 BB⟩) ?_;clear hK K
   try simp only[PE,PT]
   refine tk1 6 fun K hK=>?_
   try simp only[PE]
   go_simp;refine (HS2.out _ _ _ HFT.out HA.out).mono ?_;rintro e we ⟨ve,rfl,hn,hf⟩;have G2:=hid hf;clear hf;replace BT:=bW BT hn;replace HFT:=hid (HFT.out.new hn);replace BA:=bW BA hn;replace HA:=hid (HA.out.new hn);replace BB:=bW BB hn;replace HB:=hid (HB.out.new hn);replace BY:=bW BY hn;replace HY:=hid (HY.out.new hn);replace BZ:=bW BZ hn;replace HZ:=hid (HZ.out.new hn);replace G1:=hid (G1.out.new hn);replace HN:=tW HN hn;clear hn;refine hK.out _ _ (fun _=>⟨cW4 BY,cW4 BZ,cW4 BT,cW4 BA,cW4 BB⟩) ?_;clear hK K
   try simp only[PE,PT]
   refine tk1 7 fun K hK=>?_
   try simp only[PE]
   go_simp;refine (HML.out _ _ _ G1.out G2.out).mono ?_;rintro e wf ⟨vf,rfl,hn,hf⟩;clear G1 G2;have G3:=hid hf;clear hf;replace BT:=bW BT hn;replace HFT:=hid (HFT.out.new hn);replace BA:=bW BA hn;replace HA:=hid (HA.out.new hn);replace BB:=bW BB hn;replace HB:=hid (HB.out.new hn);replace BY:=bW BY hn;replace HY:=hid (HY.out.new hn);replace BZ:=bW BZ hn;replace HZ:=hid (HZ.out.new hn);replace HN:=tW HN hn;clear hn;refine hK.out _ _ (fun _=>⟨cW4 BY,cW4 BZ,cW4 BT,cW4 BA,cW4 BB⟩) ?_;clear hK K
   try simp only[PE,PT]
   refine tk1 10 fun K hK=>?_
   try simp only[PE]
   go_simp;refine (HS3.out _ _ _ HB.out HA.out).mono ?_;rintro e wg ⟨vg,rfl,hn,hf⟩;have G4:=hid hf;clear hf;replace BT:=bW BT hn;replace HFT:=hid (HFT.out.new hn);replace BA:=bW BA hn;replace HA:=hid (HA.out.new hn);replace BB:=bW BB hn;replace HB:=hid (HB.out.new hn);replace BY:=bW BY hn;replace HY:=hid (HY.out.new hn);replace BZ:=bW BZ hn;replace HZ:=hid (HZ.out.new hn);replace G3:=hid (G3.out.new hn);replace HN:=tW HN hn;clear hn;refine hK.out _ _ (fun _=>⟨cW4 BY,cW4 BZ,cW4 BT,cW4 BA,cW4 BB⟩) ?_;clear hK K
   try simp only[PE,PT]
   refine tk1 11 fun K hK=>?_
   try simp only[PE]
   go_simp;refine (HDV.out _ _ _ G3.out G4.out).mono ?_;rintro e wh ⟨vh,rfl,hn,hf⟩;clear G3 G4;have G5:=hid hf;clear hf;replace BT:=bW BT hn;replace HFT:=hid (HFT.out.new hn);replace BA:=bW BA hn;replace HA:=hid (HA.out.new hn);replace BB:=bW BB hn;replace HB:=hid (HB.out.new hn);replace BY:=bW BY hn;replace HY:=hid (HY.out.new hn);replace BZ:=bW BZ hn;replace HZ:=hid (HZ.out.new hn);replace HN:=tW HN hn;clear hn;refine hK.out _ _ (fun _=>⟨cW4 BY,cW4 BZ,cW4 BT,cW4 BA,cW4 BB⟩) ?_;clear hK K
   try simp only[PE,PT]
   refine tk1 12 fun K hK=>?_
   try simp only[PE]
   go_simp;refine (HAD.out _ _ _ HY.out G5.out).mono ?_;rintro e wi ⟨vi,rfl,hn,hf⟩;clear G5;have G6:=hid hf;clear hf;replace BT:=bW BT hn;replace HFT:=hid (HFT.out.new hn);replace BA:=bW BA hn;replace HA:=hid (HA.out.new hn);replace BB:=bW BB hn;replace HB:=hid (HB.out.new hn);replace BY:=bW BY hn;replace HY:=hid (HY.out.new hn);replace BZ:=bW BZ hn;replace HZ:=hid (HZ.out.new hn);replace HN:=tW HN hn;clear hn;refine hK.out _ _ (fun _=>⟨cW4 BY,cW4 BZ,cW4 BT,cW4 BA,cW4 BB⟩) ?_;clear hK K
   try simp only[PE,PT]
   refine tk1 13 fun K hK=>?_
   try simp only[PE]
   go_simp;refine (HRS.out _ _ G6.out (HE.out.new HN.out)).mono ?_;rintro e wj ⟨rfl,hn⟩;clear G6;replace BT:=bW BT hn;replace HFT:=hid (HFT.out.new hn);replace BA:=bW BA hn;replace HA:=hid (HA.out.new hn);replace BB:=bW BB hn;replace HB:=hid (HB.out.new hn);replace BY:=bW BY hn;replace HY:=hid (HY.out.new hn);replace BZ:=bW BZ hn;replace HZ:=hid (HZ.out.new hn);replace HN:=tW HN hn;clear hn;refine hK.out _ _ (fun _=>⟨cW4 BY,cW4 BZ,cW4 BT,cW4 BA,cW4 BB⟩) ?_;clear hK K
   try simp only[PE,PT]
   refine tk 14 (by exact ⟨cW4 BY,cW4 BZ,cW4 BT,cW4 BA,cW4 BB⟩) ?_
   try simp only[PE,PT]
   refine tk 15 (by exact ⟨cW4 BY,cW4 BZ,cW4 BT,cW4 BA,cW4 BB⟩) ?_
   try simp only[PE,PT]
   refine tk 16 (by exact ⟨cW4 BY,cW4 BZ,cW4 BT,cW4 BA,cW4 BB⟩) ?_
   try simp only[PE,PT]
   refine tlW ?_;obtain ⟨⟨py0,py1,py2,py3⟩,py4,py5,py6,py7,py8⟩:=BY.out.four;obtain ⟨⟨pz0,pz1,pz2,pz3⟩,pz4,pz5,pz6,pz7,pz8⟩:=BZ.out.four;obtain ⟨⟨pt0,pt1,pt2,pt3⟩,pt4,pt5,pt6,pt7,pt8⟩:=BT.out.four;obtain ⟨⟨pa0,pa1,pa2,pa3⟩,pa4,pa5,pa6,pa7,pa8⟩:=BA.out.four;obtain ⟨⟨pb0,pb1,pb2,pb3⟩,pb4,pb5,pb6,pb7,pb8⟩:=BB.out.four;clear py0 py1 py2 py3 py4 py5 py6 py7 py8 pz0 pz1 pz2 pz3 pz4 pz5 pz6 pz7 pz8 pt0 pt1 pt2 pt3 pt4 pt5 pt6 pt7 pt8 pa0 pa1 pa2 pa3 pa4 pa5 pa6 pa7 pa8 pb0 pb1 pb2 pb3 pb4 pb5 pb6 pb7 pb8;go_wp2_with fail;refine bodyPost_ret (v:=.tuple #[.string U,.int .i64 E]) (by simp[results,Tryz.results16,go_sem]) rfl ?_;exact ⟨rfl,HN.out⟩
end Go.Proofs.YtnjonlnemagomaaGreatDoor
