/- Part B28. -/
import Derived.Test.YtnjonlnemagomaaGreatDoorB27
namespace Go.Proofs.YtnjonlnemagomaaGreatDoor
open Go.RowKit Big Go.Lib Tryz
set_option maxRecDepth 100000
set_option maxHeartbeats 8000000
set_option linter.all false
def FrAt (w:World)(P:Nat)(q:Rat):Prop:=∃ (s:Int) (a:Option Addr) (l c:Nat) (t:Int) (d:Option Addr) (m k:Nat),Box w P 115 #[.int .i64 s,.slice a l c,.int .i64 t,.slice d m k]∧IsFrac w (.agg #[.int .i64 s,.slice a l c,.int .i64 t,.slice d m k]) q
theorem fr_two {w0 w:World} {A B:Nat} {e0 e1 f0 f1 s t s' t':Int} {r0 r1 g0 g1 a d a' d':Option Addr} {i0 j0 i1 j1 k0 l0 k1 l1 l c m k l' c' m' k':Nat} {p q:Rat} (HN:Hid (New w0 w)) (LA:Hid (w0.heap.size≤A)) (LB:Hid (w0.heap.size≤B)) (BA:Hid (Box w A 115 #[.int .i64 e0,.slice r0 i0 j0,.int .i64 e1,.slice r1 i1 j1])) (BB:Hid (Box w B 115 #[.int .i64 f0,.slice g0 k0 l0,.int .i64 f1,.slice g1 k1 l1])) (NE:Hid (A≠B))
  (HP:Hid (IsFrac w (.agg #[.int .i64 s,.slice a l c,.int .i64 t,.slice d m k]) p)) (HQ:Hid (IsFrac w (.agg #[.int .i64 s',.slice a' l' c',.int .i64 t',.slice d' m' k']) q)):
  ∃ P1 P2:Nat,Value.pointer (some ⟨A,0,none⟩)=.pointer (some ⟨P1,0,none⟩)∧Value.pointer (some ⟨B,0,none⟩)=.pointer (some ⟨P2,0,none⟩)∧New w0 ((((((((w.setCell ⟨A,0,none⟩ (.int .i64 s)).setCell ⟨A,1,none⟩ (.slice a l c)).setCell ⟨A,2,none⟩ (.int .i64 t)).setCell ⟨A,3,none⟩ (.slice d m k)).setCell ⟨B,0,none⟩ (.int .i64 s')).setCell ⟨B,1,none⟩ (.slice a' l' c')).setCell ⟨B,2,none⟩ (.int .i64 t')).setCell ⟨B,3,none⟩ (.slice d' m' k'))∧
   FrAt ((((((((w.setCell ⟨A,0,none⟩ (.int .i64 s)).setCell ⟨A,1,none⟩ (.slice a l c)).setCell ⟨A,2,none⟩ (.int .i64 t)).setCell ⟨A,3,none⟩ (.slice d m k)).setCell ⟨B,0,none⟩ (.int .i64 s')).setCell ⟨B,1,none⟩ (.slice a' l' c')).setCell ⟨B,2,none⟩ (.int .i64 t')).setCell ⟨B,3,none⟩ (.slice d' m' k')) P1 p∧
   FrAt ((((((((w.setCell ⟨A,0,none⟩ (.int .i64 s)).setCell ⟨A,1,none⟩ (.slice a l c)).setCell ⟨A,2,none⟩ (.int .i64 t)).setCell ⟨A,3,none⟩ (.slice d m k)).setCell ⟨B,0,none⟩ (.int .i64 s')).setCell ⟨B,1,none⟩ (.slice a' l' c')).setCell ⟨B,2,none⟩ (.int .i64 t')).setCell ⟨B,3,none⟩ (.slice d' m' k')) P2 q:=
 ⟨_,_,rfl,rfl,(HN.out.put4 LA.out _ _ _ _).put4 LB.out _ _ _ _,⟨_,_,_,_,_,_,_,_,(BA.out.put4 _ _ _ _).other4w (Ne.symm NE.out) _ _ _ _,(HP.out.put4 BA.out _ _ _ _ _ _ _ _).put4 (BB.out.other4w NE.out _ _ _ _) _ _ _ _ _ _ _ _⟩,⟨_,_,_,_,_,_,_,_,(BB.out.other4w NE.out _ _ _ _).put4 _ _ _ _,(HQ.out.put4 BA.out _ _ _ _ _ _ _ _).put4 (BB.out.other4w NE.out _ _ _ _) _ _ _ _ _ _ _ _⟩⟩
def Tx2 (W:World)(b o1:Nat)(X:ByteArray)(o2:Nat)(Y:ByteArray):Prop:=W.cell? ⟨b,o1,none⟩=some (.string X)∧W.cell? ⟨b,o2,none⟩=some (.string Y)
theorem Tx2.new {w w':World}{b o1 o2:Nat}{X Y:ByteArray}(h:Tx2 w b o1 X o2 Y)(hn:New w w'):Tx2 w' b o1 X o2 Y:=⟨hn.cell h.1,hn.cell h.2⟩
def blendQ (y z q a b:Rat):Rat:=y+(z - y)*(q - a) / (b - a)
theorem blend_mid (pts:List (ByteArray × ByteArray))(xs ys:Nat→Rat)(ht:TabOk pts xs ys)(hl:pts.length≤64)(i:Nat)(hi:i+1 < pts.length)(s:ByteArray)(q:Rat)(hs:TxtIs s q)(hlow:∀ j,j < i+1→xs j < q)(hhigh:q < xs (i+1))(a:Option Addr)(cap:Nat)(w:World)(he:Env w)(hr:RdP w a pts):
  Calls prog 16 #[.slice a pts.length cap,.string s] w (TxtPost w (resS (blendQ (ys i) (ys (i+1)) q (xs i) (xs (i+1)))) (resE (blendQ (ys i) (ys (i+1)) q (xs i) (xs (i+1))))):=by
 have h0:0 < pts.length:=by omega
 have bi:=ht.x i (by omega);have a9:=ht.x (i+1) hi;have bl:=ht.y i (by omega);have bn:=ht.y (i+1) hi;have cg:=hs.ne a9 (fun e=>by rw[e] at hhigh;exact Rat.lt_irrefl hhigh)
 have bb:xs (i+1) - xs i≠0:=fun e=>by
  have h1:=hlow i (by omega);have h2:xs i < xs (i+1):=Std.lt_trans h1 hhigh
  have h3:xs (i+1)=xs i:=by grind
  rw[h3]at h2;exact Rat.lt_irrefl h2
 have bz:=fun W h1 (h2:RdP W a pts)=>checkTable_calls pts xs ys ht h0 hl a cap W h1 h2;have bx:=fun W hW=>check_calls s W hW hs.2.2;rw[hs.1,ratErr_ratText hs.2.1] at bx;have ce:=fun W hW=>from_calls s q W hW hs.1 (by have:=hs.2.2;omega);have b4:=fun P u t b d l c m k W h1 h2 h3 (h4:RdP W a pts)=>indexp_calls pts xs ht.x hl q (Fits.fb hs.2.1) P u t b d l c m k a cap W h1 h2 h3 h4;have HN:=hid (New.refl w);have fq:=Fits.fb hs.2.1;have ar:=Fits.fb bi.2.1;have a3:=Fits.fb a9.2.1;have au:=Fits.fb bl.2.1;have aw:=Fits.fb bn.2.1;obtain ⟨b,av,e,h1,h2⟩:=hr i (by omega);obtain ⟨b',dd,e',h3,h4⟩:=hr (i+1) hi;rw[e] at e';injection e' with e';injection e' with e1 e2;subst e1 e2;obtain ⟨X0,b6⟩:∃ X,(pts[i]'(by omega)).1=X:=⟨_,rfl⟩;obtain ⟨Y0,b8⟩:∃ X,(pts[i]'(by omega)).2=X:=⟨_,rfl⟩;obtain ⟨X1,b7⟩:∃ X,pts[i+1].1=X:=⟨_,rfl⟩;obtain ⟨Y1,b9⟩:∃ X,pts[i+1].2=X:=⟨_,rfl⟩;rw[b6] at h1 bi;rw[b8] at h2 bl;rw[b7] at h3 a9 cg;rw[b9] at h4 bn;have bc:=fun W hW=>from_calls X0 (xs i) W hW bi.1 (by have:=bi.2.2;omega);have be:=fun W hW=>from_calls X1 (xs (i+1)) W hW a9.1 (by have:=a9.2.2;omega);have bf:=fun W hW=>from_calls Y0 (ys i) W hW bl.1 (by have:=bl.2.2;omega);have bg:=fun W hW=>from_calls Y1 (ys (i+1)) W hW bn.1 (by have:=bn.2.2;omega);have ch:q≤xs (i+1):=Rat.le_of_lt hhigh;have cd:=fun n r (h:FirstAt n xs q r) (hi:i+1 < n)=>h.eq hi ch hlow;obtain ⟨x0,bj⟩:∃ x,xs i=x:=⟨_,rfl⟩;obtain ⟨x1,bk⟩:∃ x,xs (i+1)=x:=⟨_,rfl⟩;obtain ⟨y0,bm⟩:∃ x,ys i=x:=⟨_,rfl⟩;obtain ⟨y1,bo⟩:∃ x,ys (i+1)=x:=⟨_,rfl⟩;simp only[bj,bk,bm,bo] at bc be bf bg ar a3 au aw bb;rw[bj,bk,bm,bo];have ci:=fun va vb W h1 h2=>fsub_calls va vb y1 y0 2000 2000 W h1 h2 aw au (by omega);have cj:=fun va vb W h1 h2=>fsub_calls va vb q x0 2000 2000 W h1 h2 fq ar (by omega);have ck:=fun va vb W h1 h2=>fsub_calls va vb x1 x0 2000 2000 W h1 h2 a3 ar (by omega);have cf:=fun va vb W h1 h2=>fmul_calls va vb (y1 - y0) (q - x0) 4001 4001 W h1 h2 (aw.sub au) (fq.sub ar) (by omega);have ca:=fun va vb W h1 h2=>fdiv_calls va vb ((y1 - y0)*(q - x0)) (x1 - x0) 8002 4001 W h1 h2 ((aw.sub au).mul (fq.sub ar)) (a3.sub ar) (by omega) bb;have br:=fun va vb W h1 h2=>fadd_calls va vb y0 ((y1 - y0)*(q - x0) / (x1 - x0)) 2000 12003 W h1 h2 au (((aw.sub au).mul (fq.sub ar)).div (a3.sub ar) bb) (by omega);have b5:=fun W v h hW=>nresult_gen v (blendQ y0 y1 q x0 x1) W h ((au.add (((aw.sub au).mul (fq.sub ar)).div (a3.sub ar) bb)).mono (by omega)) hW;rw[show y0+(y1 - y0)*(q - x0) / (x1 - x0)=blendQ y0 y1 q x0 x1 from rfl] at br;obtain ⟨v,hv⟩:∃ v,blendQ y0 y1 q x0 x1=v:=⟨_,rfl⟩;obtain ⟨U,hU⟩:∃ U,resS v=U:=⟨_,rfl⟩;obtain ⟨E,hE⟩:∃ U,resE v=U:=⟨_,rfl⟩;unfold TxtPost at *;simp only[hv,hU,hE] at br b5;rw[hv,hU,hE];obtain ⟨n,hn⟩:∃ n,pts.length=n:=⟨_,rfl⟩;rw[hn] at h0 hi bz b4⊢
 have dc:n≤64:=by omega
 have di:(i:Int)+1 < n:=by omega
 have de:(0:Int)≤(i:Int)+1:=by omega
 have c3:((i:Int)+1==0)=false:=beq_false_of_ne (by omega)
 have co:IntKind.i64.wrap (i:Int)=i:=by rw[IntKind.wrap_i64];omega
 have df:(0:Int)≤(i:Int)∧(i:Int) < n:=by omega
 have dg:(0:Int)≤(i:Int):=by omega
 have dh:(i:Int) < n:=by omega
 have c9:(0:Int)≤(i:Int)+1∧(i:Int)+1 < n:=by omega
 subst e;clear ht hs hl bi a9 bl bn b6 b7 b8 b9 bj bk bm bo hv hU hE ch hlow hhigh bb fq ar a3 au aw hn;refine zh12 ?_ he hr bz bx ce b4 cd bc be bf bg ci;intro HE HR ct cs cw cx cv ax ay az a0 c0;refine zh6 ?_ cj ck cf ca br b5;clear he hr bz bx ce b4 cd bc be bf bg ci cj ck cf ca br b5;intro c1 c2 cy cu cr cz;go_in;go_wp2_with fail;refine zM (ct _ (HE.new HN) (HR.new HN)) fun w1 hn=>?_;replace HN:=tW HN hn;clear hn;go_wp2_with fail;refine zM (cs _ (HE.new HN)) fun w2 hn=>?_;replace HN:=tW HN hn;clear hn;go_wp2_with fail;obtain ⟨BG,hn⟩:=lay1 w2 32 #[.int .i64 0,.int .i64 0];replace HN:=tW HN hn;clear hn;refine zM (nfirst2_new 0 0 _ _ 32 _ BG) fun w3 hn=>?_;clear BG;replace HN:=tW HN hn;clear hn;go_wp2_with fail;refine zS (cw _ (HE.new HN)) fun w4 s4 a4 l4 c4 t4 d4 m4 k4 hn hf=>?_;have ak:=hid hf;clear hf;replace HN:=tW HN hn;clear hn;go_upto_region 5 with (fail);obtain ⟨BT,hn⟩:=lay1 w4 115 #[.int .i64 s4,.slice a4 l4 c4,.int .i64 t4,.slice d4 m4 k4];obtain ⟨HN,ak⟩:=zn2 hn HN ak.new;clear hn;obtain ⟨w5,cl⟩:∃ u,w4.alloc (.cells #[.int .i64 s4,.slice a4 l4 c4,.int .i64 t4,.slice d4 m4 k4] 115)=u:=⟨_,rfl⟩;rw[cl] at BT HN ak⊢;clear cl;go_wp2_with fail;refine zN (cx _ _ _ _ _ _ _ _ _ _ (HE.new HN) BT ak (HR.new HN)) fun w6 r hn cb=>?_;obtain ⟨HN,BT,ak⟩:=zn3 hn HN BT.new ak.new;clear hn;obtain rfl:=cv.out _ _ cb hi;clear cb;replace h1:=HN.cell h1;replace h2:=HN.cell h2;replace h3:=HN.cell h3;replace h4:=HN.cell h4;rw[show (((i+1:Nat)):Int)=(i:Int)+1 by omega] at *;refine zh3 ?_ h1 h2 h4;clear h1 h2 h4;intro H1 H2 H4;have cp:=(show Tx2 w6 b (av+i*2) X0 (av+(i+1)*2) X1 from ⟨H1.out,h3⟩);have cq:=(show Tx2 w6 b (av+i*2+1) Y0 (av+(i+1)*2+1) Y1 from ⟨H2.out,H4.out⟩);have ab:=hid cp;have aa:=hid cq;clear cp cq;go_upto_region 10 with (fail);clear h3 H1 H2 H4 cg c9 c3;have ao:=hid (HE.new HN);have ba:=HN;clear HN
 go_cut [9,10] (fun x y wx=>∃ P1 P2:Nat,x=.pointer (some ⟨P1,0,none⟩)∧y=.pointer (some ⟨P2,0,none⟩)∧New w6 wx∧FrAt wx P1 x0∧FrAt wx P2 x1)
 case first=>
  have HN:=hid (New.refl w6);refine zR 15 17 (fun W=>Tx2 W b (av+i*2) X0 (av+(i+1)*2) X1) ?_;replace ab:=hid (ab.new (New.refl w6).drew);replace HN:=hid (HN.drew);obtain ⟨bp,bh⟩:∃ x,w6.drew=x:=⟨_,rfl⟩;rw[bh] at HN ab⊢;clear bh
  focus
   refine zTE 0 ab ?_;refine zTE 1 ab ?_;refine zTE 2 (hy:=by (intro W hW;(try dsimp only at hW);(go_simp;try simp only[co]);try with_reducible rfl)) ab ?_;refine zTE 3 ab ?_;refine zTE 4 ab ?_;refine zTE 5 (hy:=by (intro W hW;(try dsimp only at hW);(obtain ⟨g1, -⟩:=hW;go_simp);try with_reducible rfl)) ab ?_;refine zTE 7 ab ?_;refine zTE 8 ab ?_;refine zTE 9 ab ?_;refine zTE 10 ab ?_;refine zTE 11 (hy:=by (intro W hW;(try dsimp only at hW);(obtain ⟨-,g2⟩:=hW;go_simp);try with_reducible rfl)) ab ?_;refine zw3 6 13 14 (fun K hK=>?_) (fun K hK=>?_) fun K hK=>?_
   focus
    go_simp;refine zS (ax _ (ao.new HN)) fun aq s1 a1 l1 q1 t1 d1 m1 n1 hn hf=>?_;have ae:=hid hf;clear hf;obtain ⟨HN,ab⟩:=zn2 hn HN ab.new;clear hn;refine zKE hK ab ?_;clear hK K;have ST1:=trivial
   rotate_left
   focus
    go_simp;have am:=hid (HN.size);obtain ⟨aq,ac,af,hn⟩:=laid1 bp 115 #[.int .i64 0,.slice none 0 0,.int .i64 0,.slice none 0 0];rw[ac];clear ac;have ah:=hid af;clear af;obtain ⟨HN,ab⟩:=zn2 hn HN ab.new;clear hn;refine zKE hK ab ?_;clear hK K;have ST2:=trivial
   rotate_left
   focus
    go_simp;have an:=hid (HN.size);obtain ⟨aq,ac,ag,hn⟩:=laid1 bp 115 #[.int .i64 0,.slice none 0 0,.int .i64 0,.slice none 0 0];rw[ac];clear ac;have ai:=hid ag;clear ag;obtain ⟨HN,ab⟩:=zn2 hn HN ab.new;clear hn;refine zKE hK ab ?_;clear hK K;have ST3:=trivial
   rotate_left
   all_goals try
    clear ST1;refine zw3 12 13 14 (fun K hK=>?_) (fun K hK=>?_) fun K hK=>?_
    focus
     go_simp;refine zS (ay _ (ao.new HN)) fun al s2 a2 l2 q2 t2 d2 m2 n2 hn hf=>?_;have aj:=hid hf;clear hf;obtain ⟨HN,ab,ae⟩:=zn3 hn HN ab.new ae.new;clear hn;refine zKE hK ab ?_;clear hK K;have ST4:=trivial
    rotate_left
    focus
     go_simp;have am:=hid (HN.size);obtain ⟨al,ac,af,hn⟩:=laid1 aq 115 #[.int .i64 0,.slice none 0 0,.int .i64 0,.slice none 0 0];rw[ac];clear ac;have ah:=hid af;clear af;obtain ⟨HN,ab,ae⟩:=zn3 hn HN ab.new ae.new;clear hn;refine zKE hK ab ?_;clear hK K;have ST5:=trivial
    rotate_left
    focus
     go_simp;have an:=hid (HN.size);obtain ⟨al,ac,ag,hn⟩:=laid1 aq 115 #[.int .i64 0,.slice none 0 0,.int .i64 0,.slice none 0 0];rw[ac];clear ac;have ai:=hid ag;clear ag;obtain ⟨HN,ab,ae⟩:=zn3 hn HN ab.new ae.new;clear hn;refine zKE hK ab ?_;clear hK K;have ST6:=trivial
    rotate_left
   all_goals try
    clear ST2;refine zw2 6 14 (fun K hK=>?_) fun K hK=>?_
    focus
     go_simp;refine zS (ax _ (ao.new HN)) fun al s1 a1 l1 q1 t1 d1 m1 n1 hn hf=>?_;have ae:=hid hf;clear hf;obtain ⟨HN,ab,ah⟩:=zn3 hn HN ab.new ah.new;clear hn;refine zKE hK ab ?_;clear hK K;have ST5:=trivial
    rotate_left
    focus
     go_simp;have an:=hid (HN.size);have ad:=hid (Nat.ne_of_lt ah.lt);obtain ⟨al,ac,ag,hn⟩:=laid1 aq 115 #[.int .i64 0,.slice none 0 0,.int .i64 0,.slice none 0 0];rw[ac];clear ac;have ai:=hid ag;clear ag;obtain ⟨HN,ab,ah⟩:=zn3 hn HN ab.new ah.new;clear hn;refine zKE hK ab ?_;clear hK K;have ST7:=trivial
    rotate_left
   all_goals try
    clear ST3;refine zw2 6 13 (fun K hK=>?_) fun K hK=>?_
    focus
     go_simp;refine zS (ax _ (ao.new HN)) fun al s1 a1 l1 q1 t1 d1 m1 n1 hn hf=>?_;have ae:=hid hf;clear hf;obtain ⟨HN,ab,ai⟩:=zn3 hn HN ab.new ai.new;clear hn;refine zKE hK ab ?_;clear hK K;have ST6:=trivial
    rotate_left
    focus
     go_simp;have am:=hid (HN.size);have ad:=hid (Nat.ne_of_gt ai.lt);obtain ⟨al,ac,af,hn⟩:=laid1 aq 115 #[.int .i64 0,.slice none 0 0,.int .i64 0,.slice none 0 0];rw[ac];clear ac;have ah:=hid af;clear af;obtain ⟨HN,ab,ai⟩:=zn3 hn HN ab.new ai.new;clear hn;refine zKE hK ab ?_;clear hK K;have ST7:=trivial
    rotate_left
   all_goals try
    clear ST4;refine zw2 13 14 (fun K hK=>?_) fun K hK=>?_
    focus
     go_simp;have am:=hid (HN.size);obtain ⟨ap,ac,af,hn⟩:=laid1 al 115 #[.int .i64 0,.slice none 0 0,.int .i64 0,.slice none 0 0];rw[ac];clear ac;have ah:=hid af;clear af;obtain ⟨HN,ab,ae,aj⟩:=zn4 hn HN ab.new ae.new aj.new;clear hn;refine zKE hK ab ?_;clear hK K;have ST8:=trivial
    rotate_left
    focus
     go_simp;have an:=hid (HN.size);obtain ⟨ap,ac,ag,hn⟩:=laid1 al 115 #[.int .i64 0,.slice none 0 0,.int .i64 0,.slice none 0 0];rw[ac];clear ac;have ai:=hid ag;clear ag;obtain ⟨HN,ab,ae,aj⟩:=zn4 hn HN ab.new ae.new aj.new;clear hn;refine zKE hK ab ?_;clear hK K;have ST9:=trivial
    rotate_left
   all_goals try
    clear ST5;refine zw2 12 14 (fun K hK=>?_) fun K hK=>?_
    focus
     go_simp;refine zS (ay _ (ao.new HN)) fun ap s2 a2 l2 q2 t2 d2 m2 n2 hn hf=>?_;have aj:=hid hf;clear hf;obtain ⟨HN,ab,ah,ae⟩:=zn4 hn HN ab.new ah.new ae.new;clear hn;refine zKE hK ab ?_;clear hK K;have ST8:=trivial
    rotate_left
    focus
     go_simp;have an:=hid (HN.size);have ad:=hid (Nat.ne_of_lt ah.lt);obtain ⟨ap,ac,ag,hn⟩:=laid1 al 115 #[.int .i64 0,.slice none 0 0,.int .i64 0,.slice none 0 0];rw[ac];clear ac;have ai:=hid ag;clear ag;obtain ⟨HN,ab,ah,ae⟩:=zn4 hn HN ab.new ah.new ae.new;clear hn;refine zKE hK ab ?_;clear hK K;have ST10:=trivial
    rotate_left
   all_goals try
    clear ST6;refine zw2 12 13 (fun K hK=>?_) fun K hK=>?_
    focus
     go_simp;refine zS (ay _ (ao.new HN)) fun ap s2 a2 l2 q2 t2 d2 m2 n2 hn hf=>?_;have aj:=hid hf;clear hf;obtain ⟨HN,ab,ai,ae⟩:=zn4 hn HN ab.new ai.new ae.new;clear hn;refine zKE hK ab ?_;clear hK K;have ST9:=trivial
    rotate_left
    focus
     go_simp;have am:=hid (HN.size);have ad:=hid (Nat.ne_of_gt ai.lt);obtain ⟨ap,ac,af,hn⟩:=laid1 al 115 #[.int .i64 0,.slice none 0 0,.int .i64 0,.slice none 0 0];rw[ac];clear ac;have ah:=hid af;clear af;obtain ⟨HN,ab,ai,ae⟩:=zn4 hn HN ab.new ai.new ae.new;clear hn;refine zKE hK ab ?_;clear hK K;have ST10:=trivial
    rotate_left
   all_goals try
    clear ST7;refine tk1 6 fun K hK=>?_;go_simp;refine zS (ax _ (ao.new HN)) fun ap s1 a1 l1 q1 t1 d1 m1 n1 hn hf=>?_;have ae:=hid hf;clear hf;obtain ⟨HN,ab,ah,ai⟩:=zn4 hn HN ab.new ah.new ai.new;clear hn;refine zKE hK ab ?_;clear hK K;have ST10:=trivial
   all_goals try
    clear ST8;refine tk1 14 fun K hK=>?_;go_simp;have an:=hid (HN.size);have ad:=hid (Nat.ne_of_lt ah.lt);obtain ⟨bq,ac,ag,hn⟩:=laid1 ap 115 #[.int .i64 0,.slice none 0 0,.int .i64 0,.slice none 0 0];rw[ac];clear ac;have ai:=hid ag;clear ag;obtain ⟨HN,ab,ah,ae,aj⟩:=zn5 hn HN ab.new ah.new ae.new aj.new;clear hn;refine zKE hK ab ?_;clear hK K;have ST11:=trivial
   all_goals try
    clear ST9;refine tk1 13 fun K hK=>?_;go_simp;have am:=hid (HN.size);have ad:=hid (Nat.ne_of_gt ai.lt);obtain ⟨bq,ac,af,hn⟩:=laid1 ap 115 #[.int .i64 0,.slice none 0 0,.int .i64 0,.slice none 0 0];rw[ac];clear ac;have ah:=hid af;clear af;obtain ⟨HN,ab,ai,ae,aj⟩:=zn5 hn HN ab.new ai.new ae.new aj.new;clear hn;refine zKE hK ab ?_;clear hK K;have ST11:=trivial
   all_goals try
    clear ST10;refine tk1 12 fun K hK=>?_;go_simp;refine zS (ay _ (ao.new HN)) fun bq s2 a2 l2 q2 t2 d2 m2 n2 hn hf=>?_;have aj:=hid hf;clear hf;obtain ⟨HN,ab,ah,ai,ae⟩:=zn5 hn HN ab.new ah.new ai.new ae.new;clear hn;refine zKE hK ab ?_;clear hK K;have ST11:=trivial
   all_goals
    clear ST11;refine tlW ?_;obtain ⟨⟨u0,u1,u2,u3⟩,u4,u5,u6,u7,u8⟩:=ah.out.four;obtain ⟨⟨v0,v1,v2,v3⟩,v4,v5,v6,v7,v8⟩:=ai.out.four;have da:=ad.out;have db:=Ne.symm ad.out;go_wp2_with fail
    go_meet
    exact fr_two HN am an ah ai ad ae aj
 case rest=>
  obtain ⟨P1,P2,rfl,rfl,hn,⟨s5,a5,l5,c5,t5,d5,m5,k5,bt,b0⟩,⟨s6,a6,l6,c6,t6,d6,m6,k6,bu,b1⟩⟩:=hcut;obtain ⟨w7,cm⟩:∃ x,x=wc:=⟨_,rfl⟩;rw[←cm] at hn bt b0 bu b1⊢;clear cm ab ao;obtain ⟨BT,ak,aa⟩:=zm3 hn BT.new ak.new aa.new;have HN:=hid (ba.trans hn);clear ba hn;refine zh4 ?_ bt b0 bu b1;clear bt b0 bu b1;intro BA HA BB HB;have ao:=hid (HE.new HN)
  go_step
  go_upto_region 11 with (fail);have ba:=HN;clear HN
  go_cut [11,12] (fun x y wx=>∃ P1 P2:Nat,x=.pointer (some ⟨P1,0,none⟩)∧y=.pointer (some ⟨P2,0,none⟩)∧New w7 wx∧FrAt wx P1 y0∧FrAt wx P2 y1)
  case first=>
   have HN:=hid (New.refl w7);refine zR 15 17 (fun W=>Tx2 W b (av+i*2+1) Y0 (av+(i+1)*2+1) Y1) ?_;replace aa:=hid (aa.new (New.refl w7).drew);replace HN:=hid (HN.drew);obtain ⟨bp,bh⟩:∃ x,w7.drew=x:=⟨_,rfl⟩;rw[bh] at HN aa⊢;clear bh
   focus
    refine zTE 0 aa ?_;refine zTE 1 aa ?_;refine zTE 2 (hy:=by (intro W hW;(try dsimp only at hW);(go_simp;try simp only[co]);try with_reducible rfl)) aa ?_;refine zTE 3 aa ?_;refine zTE 4 aa ?_;refine zTE 5 (hy:=by (intro W hW;(try dsimp only at hW);(obtain ⟨g1, -⟩:=hW;go_simp);try with_reducible rfl)) aa ?_;refine zTE 7 aa ?_;refine zTE 8 aa ?_;refine zTE 9 aa ?_;refine zTE 10 aa ?_;refine zTE 11 (hy:=by (intro W hW;(try dsimp only at hW);(obtain ⟨-,g2⟩:=hW;go_simp);try with_reducible rfl)) aa ?_;refine zw3 6 13 14 (fun K hK=>?_) (fun K hK=>?_) fun K hK=>?_
    focus
     go_simp;refine zS (az _ (ao.new HN)) fun aq s1 a1 l1 q1 t1 d1 m1 n1 hn hf=>?_;have ae:=hid hf;clear hf;obtain ⟨HN,aa⟩:=zn2 hn HN aa.new;clear hn;refine zKE hK aa ?_;clear hK K;have ST1:=trivial
    rotate_left
    focus
     go_simp;have am:=hid (HN.size);obtain ⟨aq,ac,af,hn⟩:=laid1 bp 115 #[.int .i64 0,.slice none 0 0,.int .i64 0,.slice none 0 0];rw[ac];clear ac;have ah:=hid af;clear af;obtain ⟨HN,aa⟩:=zn2 hn HN aa.new;clear hn;refine zKE hK aa ?_;clear hK K;have ST2:=trivial
    rotate_left
    focus
     go_simp;have an:=hid (HN.size);obtain ⟨aq,ac,ag,hn⟩:=laid1 bp 115 #[.int .i64 0,.slice none 0 0,.int .i64 0,.slice none 0 0];rw[ac];clear ac;have ai:=hid ag;clear ag;obtain ⟨HN,aa⟩:=zn2 hn HN aa.new;clear hn;refine zKE hK aa ?_;clear hK K;have ST3:=trivial
    rotate_left
    all_goals try
     clear ST1;refine zw3 12 13 14 (fun K hK=>?_) (fun K hK=>?_) fun K hK=>?_
     focus
      go_simp;refine zS (a0 _ (ao.new HN)) fun al s2 a2 l2 q2 t2 d2 m2 n2 hn hf=>?_;have aj:=hid hf;clear hf;obtain ⟨HN,aa,ae⟩:=zn3 hn HN aa.new ae.new;clear hn;refine zKE hK aa ?_;clear hK K;have ST4:=trivial
     rotate_left
     focus
      go_simp;have am:=hid (HN.size);obtain ⟨al,ac,af,hn⟩:=laid1 aq 115 #[.int .i64 0,.slice none 0 0,.int .i64 0,.slice none 0 0];rw[ac];clear ac;have ah:=hid af;clear af;obtain ⟨HN,aa,ae⟩:=zn3 hn HN aa.new ae.new;clear hn;refine zKE hK aa ?_;clear hK K;have ST5:=trivial
     rotate_left
     focus
      go_simp;have an:=hid (HN.size);obtain ⟨al,ac,ag,hn⟩:=laid1 aq 115 #[.int .i64 0,.slice none 0 0,.int .i64 0,.slice none 0 0];rw[ac];clear ac;have ai:=hid ag;clear ag;obtain ⟨HN,aa,ae⟩:=zn3 hn HN aa.new ae.new;clear hn;refine zKE hK aa ?_;clear hK K;have ST6:=trivial
     rotate_left
    all_goals try
     clear ST2;refine zw2 6 14 (fun K hK=>?_) fun K hK=>?_
     focus
      go_simp;refine zS (az _ (ao.new HN)) fun al s1 a1 l1 q1 t1 d1 m1 n1 hn hf=>?_;have ae:=hid hf;clear hf;obtain ⟨HN,aa,ah⟩:=zn3 hn HN aa.new ah.new;clear hn;refine zKE hK aa ?_;clear hK K;have ST5:=trivial
     rotate_left
     focus
      go_simp;have an:=hid (HN.size);have ad:=hid (Nat.ne_of_lt ah.lt);obtain ⟨al,ac,ag,hn⟩:=laid1 aq 115 #[.int .i64 0,.slice none 0 0,.int .i64 0,.slice none 0 0];rw[ac];clear ac;have ai:=hid ag;clear ag;obtain ⟨HN,aa,ah⟩:=zn3 hn HN aa.new ah.new;clear hn;refine zKE hK aa ?_;clear hK K;have ST7:=trivial
     rotate_left
    all_goals try
     clear ST3;refine zw2 6 13 (fun K hK=>?_) fun K hK=>?_
     focus
      go_simp;refine zS (az _ (ao.new HN)) fun al s1 a1 l1 q1 t1 d1 m1 n1 hn hf=>?_;have ae:=hid hf;clear hf;obtain ⟨HN,aa,ai⟩:=zn3 hn HN aa.new ai.new;clear hn;refine zKE hK aa ?_;clear hK K;have ST6:=trivial
     rotate_left
     focus
      go_simp;have am:=hid (HN.size);have ad:=hid (Nat.ne_of_gt ai.lt);obtain ⟨al,ac,af,hn⟩:=laid1 aq 115 #[.int .i64 0,.slice none 0 0,.int .i64 0,.slice none 0 0];rw[ac];clear ac;have ah:=hid af;clear af;obtain ⟨HN,aa,ai⟩:=zn3 hn HN aa.new ai.new;clear hn;refine zKE hK aa ?_;clear hK K;have ST7:=trivial
     rotate_left
    all_goals try
     clear ST4;refine zw2 13 14 (fun K hK=>?_) fun K hK=>?_
     focus
      go_simp;have am:=hid (HN.size);obtain ⟨ap,ac,af,hn⟩:=laid1 al 115 #[.int .i64 0,.slice none 0 0,.int .i64 0,.slice none 0 0];rw[ac];clear ac;have ah:=hid af;clear af;obtain ⟨HN,aa,ae,aj⟩:=zn4 hn HN aa.new ae.new aj.new;clear hn;refine zKE hK aa ?_;clear hK K;have ST8:=trivial
     rotate_left
     focus
      go_simp;have an:=hid (HN.size);obtain ⟨ap,ac,ag,hn⟩:=laid1 al 115 #[.int .i64 0,.slice none 0 0,.int .i64 0,.slice none 0 0];rw[ac];clear ac;have ai:=hid ag;clear ag;obtain ⟨HN,aa,ae,aj⟩:=zn4 hn HN aa.new ae.new aj.new;clear hn;refine zKE hK aa ?_;clear hK K;have ST9:=trivial
     rotate_left
    all_goals try
     clear ST5;refine zw2 12 14 (fun K hK=>?_) fun K hK=>?_
     focus
      go_simp;refine zS (a0 _ (ao.new HN)) fun ap s2 a2 l2 q2 t2 d2 m2 n2 hn hf=>?_;have aj:=hid hf;clear hf;obtain ⟨HN,aa,ah,ae⟩:=zn4 hn HN aa.new ah.new ae.new;clear hn;refine zKE hK aa ?_;clear hK K;have ST8:=trivial
     rotate_left
     focus
      go_simp;have an:=hid (HN.size);have ad:=hid (Nat.ne_of_lt ah.lt);obtain ⟨ap,ac,ag,hn⟩:=laid1 al 115 #[.int .i64 0,.slice none 0 0,.int .i64 0,.slice none 0 0];rw[ac];clear ac;have ai:=hid ag;clear ag;obtain ⟨HN,aa,ah,ae⟩:=zn4 hn HN aa.new ah.new ae.new;clear hn;refine zKE hK aa ?_;clear hK K;have ST10:=trivial
     rotate_left
    all_goals try
     clear ST6;refine zw2 12 13 (fun K hK=>?_) fun K hK=>?_
     focus
      go_simp;refine zS (a0 _ (ao.new HN)) fun ap s2 a2 l2 q2 t2 d2 m2 n2 hn hf=>?_;have aj:=hid hf;clear hf;obtain ⟨HN,aa,ai,ae⟩:=zn4 hn HN aa.new ai.new ae.new;clear hn;refine zKE hK aa ?_;clear hK K;have ST9:=trivial
     rotate_left
     focus
      go_simp;have am:=hid (HN.size);have ad:=hid (Nat.ne_of_gt ai.lt);obtain ⟨ap,ac,af,hn⟩:=laid1 al 115 #[.int .i64 0,.slice none 0 0,.int .i64 0,.slice none 0 0];rw[ac];clear ac;have ah:=hid af;clear af;obtain ⟨HN,aa,ai,ae⟩:=zn4 hn HN aa.new ai.new ae.new;clear hn;refine zKE hK aa ?_;clear hK K;have ST10:=trivial
     rotate_left
    all_goals try
     clear ST7;refine tk1 6 fun K hK=>?_;go_simp;refine zS (az _ (ao.new HN)) fun ap s1 a1 l1 q1 t1 d1 m1 n1 hn hf=>?_;have ae:=hid hf;clear hf;obtain ⟨HN,aa,ah,ai⟩:=zn4 hn HN aa.new ah.new ai.new;clear hn;refine zKE hK aa ?_;clear hK K;have ST10:=trivial
    all_goals try
     clear ST8;refine tk1 14 fun K hK=>?_;go_simp;have an:=hid (HN.size);have ad:=hid (Nat.ne_of_lt ah.lt);obtain ⟨bq,ac,ag,hn⟩:=laid1 ap 115 #[.int .i64 0,.slice none 0 0,.int .i64 0,.slice none 0 0];rw[ac];clear ac;have ai:=hid ag;clear ag;obtain ⟨HN,aa,ah,ae,aj⟩:=zn5 hn HN aa.new ah.new ae.new aj.new;clear hn;refine zKE hK aa ?_;clear hK K;have ST11:=trivial
    all_goals try
     clear ST9;refine tk1 13 fun K hK=>?_;go_simp;have am:=hid (HN.size);have ad:=hid (Nat.ne_of_gt ai.lt);obtain ⟨bq,ac,af,hn⟩:=laid1 ap 115 #[.int .i64 0,.slice none 0 0,.int .i64 0,.slice none 0 0];rw[ac];clear ac;have ah:=hid af;clear af;obtain ⟨HN,aa,ai,ae,aj⟩:=zn5 hn HN aa.new ai.new ae.new aj.new;clear hn;refine zKE hK aa ?_;clear hK K;have ST11:=trivial
    all_goals try
     clear ST10;refine tk1 12 fun K hK=>?_;go_simp;refine zS (a0 _ (ao.new HN)) fun bq s2 a2 l2 q2 t2 d2 m2 n2 hn hf=>?_;have aj:=hid hf;clear hf;obtain ⟨HN,aa,ah,ai,ae⟩:=zn5 hn HN aa.new ah.new ai.new ae.new;clear hn;refine zKE hK aa ?_;clear hK K;have ST11:=trivial
    all_goals
     clear ST11;refine tlW ?_;obtain ⟨⟨u0,u1,u2,u3⟩,u4,u5,u6,u7,u8⟩:=ah.out.four;obtain ⟨⟨v0,v1,v2,v3⟩,v4,v5,v6,v7,v8⟩:=ai.out.four;have da:=ad.out;have db:=Ne.symm ad.out;go_wp2_with fail
     go_meet
     exact fr_two HN am an ah ai ad ae aj
  case rest=>
   obtain ⟨P3,P4,rfl,rfl,hn,⟨s7,a7,l7,c7,t7,d7,m7,k7,bv,b2⟩,⟨s8,a8,l8,c8,t8,d8,m8,k8,bw,b3⟩⟩:=hcut;obtain ⟨w8,cn⟩:∃ x,x=wc:=⟨_,rfl⟩;rw[←cn] at hn bv b2 bw b3⊢;clear cn aa ao;obtain ⟨BT,ak,BA,HA,BB,HB⟩:=zm6 hn BT.new ak.new BA.new HA.new BB.new HB.new;have HN:=hid (ba.trans hn);clear ba hn;refine zh4 ?_ bv b2 bw b3;clear bv b2 bw b3;intro BY HY BZ HZ
   go_step
   go_upto_region 12 with (fail);have py:=BY.out.four;have pz:=BZ.out.four;have pt:=BT.out.four;have pa:=BA.out.four;have pb:=BB.out.four;clear py;clear pz;clear pt;clear pa;clear pb;refine zR 17 18 (fun W=>zF W P3 s7 a7 l7 c7 t7 d7 m7 k7∧zF W P4 s8 a8 l8 c8 t8 d8 m8 k8∧zF W w4.heap.size s4 a4 l4 c4 t4 d4 m4 k4∧zF W P1 s5 a5 l5 c5 t5 d5 m5 k5∧zF W P2 s6 a6 l6 c6 t6 d6 m6 k6) ?_;refine zTE 0 ⟨cW4 BY,cW4 BZ,cW4 BT,cW4 BA,cW4 BB⟩ ?_;refine zTE 1 ⟨cW4 BY,cW4 BZ,cW4 BT,cW4 BA,cW4 BB⟩ ?_;refine zTE 2 ⟨cW4 BY,cW4 BZ,cW4 BT,cW4 BA,cW4 BB⟩ ?_;refine zTE 4 ⟨cW4 BY,cW4 BZ,cW4 BT,cW4 BA,cW4 BB⟩ ?_;refine zTE 5 ⟨cW4 BY,cW4 BZ,cW4 BT,cW4 BA,cW4 BB⟩ ?_;refine zTE 8 ⟨cW4 BY,cW4 BZ,cW4 BT,cW4 BA,cW4 BB⟩ ?_;refine zTE 9 ⟨cW4 BY,cW4 BZ,cW4 BT,cW4 BA,cW4 BB⟩ ?_;refine tk1 3 fun K hK=>?_
   try simp only[PE]
   go_simp;refine zN (c0 _ _ _ (HZ.new (New.refl _).drew) (HY.new (New.refl _).drew)) fun wd vd hn hf=>?_;have hn:=hn.undrew;have G1:=hid hf;clear hf;obtain ⟨HN,BT,ak,BA,HA,BB,HB,BY,HY,BZ,HZ⟩:=zn11 hn HN BT.new ak.new BA.new HA.new BB.new HB.new BY.new HY.new BZ.new HZ.new;clear hn;refine zKE hK ⟨cW4 BY,cW4 BZ,cW4 BT,cW4 BA,cW4 BB⟩ ?_;clear hK K;refine tk1 6 fun K hK=>?_
   try simp only[PE]
   go_simp;refine zN (c1 _ _ _ ak HA) fun we ve hn hf=>?_;have G2:=hid hf;clear hf;obtain ⟨HN,BT,ak,BA,HA,BB,HB,BY,HY,BZ,HZ,G1⟩:=zn12 hn HN BT.new ak.new BA.new HA.new BB.new HB.new BY.new HY.new BZ.new HZ.new G1.new;clear hn;refine zKE hK ⟨cW4 BY,cW4 BZ,cW4 BT,cW4 BA,cW4 BB⟩ ?_;clear hK K;refine tk1 7 fun K hK=>?_
   try simp only[PE]
   go_simp;refine zN (cy _ _ _ G1 G2) fun wf vf hn hf=>?_;clear G1 G2;have G3:=hid hf;clear hf;obtain ⟨HN,BT,ak,BA,HA,BB,HB,BY,HY,BZ,HZ⟩:=zn11 hn HN BT.new ak.new BA.new HA.new BB.new HB.new BY.new HY.new BZ.new HZ.new;clear hn;refine zKE hK ⟨cW4 BY,cW4 BZ,cW4 BT,cW4 BA,cW4 BB⟩ ?_;clear hK K;refine tk1 10 fun K hK=>?_
   try simp only[PE]
   go_simp;refine zN (c2 _ _ _ HB HA) fun wg vg hn hf=>?_;have G4:=hid hf;clear hf;obtain ⟨HN,BT,ak,BA,HA,BB,HB,BY,HY,BZ,HZ,G3⟩:=zn12 hn HN BT.new ak.new BA.new HA.new BB.new HB.new BY.new HY.new BZ.new HZ.new G3.new;clear hn;refine zKE hK ⟨cW4 BY,cW4 BZ,cW4 BT,cW4 BA,cW4 BB⟩ ?_;clear hK K;refine tk1 11 fun K hK=>?_
   try simp only[PE]
   go_simp;refine zN (cu _ _ _ G3 G4) fun wh vh hn hf=>?_;clear G3 G4;have G5:=hid hf;clear hf;obtain ⟨HN,BT,ak,BA,HA,BB,HB,BY,HY,BZ,HZ⟩:=zn11 hn HN BT.new ak.new BA.new HA.new BB.new HB.new BY.new HY.new BZ.new HZ.new;clear hn;refine zKE hK ⟨cW4 BY,cW4 BZ,cW4 BT,cW4 BA,cW4 BB⟩ ?_;clear hK K;refine tk1 12 fun K hK=>?_
   try simp only[PE]
   go_simp;refine zN (cr _ _ _ HY G5) fun wi vi hn hf=>?_;clear G5;replace hf:=hid hf;obtain ⟨HN,BT,ak,BA,HA,BB,HB,BY,HY,BZ,HZ⟩:=zn11 hn HN BT.new ak.new BA.new HA.new BB.new HB.new BY.new HY.new BZ.new HZ.new;clear hn;refine zKE hK ⟨cW4 BY,cW4 BZ,cW4 BT,cW4 BA,cW4 BB⟩ ?_;clear hK K;refine tk1 13 fun K hK=>?_
   try simp only[PE]
   go_simp;refine zM (cz _ _ hf (HE.new HN)) fun wj hn=>?_;clear hf;obtain ⟨HN,BT,ak,BA,HA,BB,HB,BY,HY,BZ,HZ⟩:=zn11 hn HN BT.new ak.new BA.new HA.new BB.new HB.new BY.new HY.new BZ.new HZ.new;clear hn;refine zKE hK ⟨cW4 BY,cW4 BZ,cW4 BT,cW4 BA,cW4 BB⟩ ?_;clear hK K;refine zTE 14 ⟨cW4 BY,cW4 BZ,cW4 BT,cW4 BA,cW4 BB⟩ ?_;refine zTE 15 ⟨cW4 BY,cW4 BZ,cW4 BT,cW4 BA,cW4 BB⟩ ?_;refine zTE 16 ⟨cW4 BY,cW4 BZ,cW4 BT,cW4 BA,cW4 BB⟩ ?_;refine tlW ?_;have py:=BY.out.four;have pz:=BZ.out.four;have pt:=BT.out.four;have pa:=BA.out.four;have pb:=BB.out.four;clear py pz pt pa pb;go_wp2_with fail;refine bodyPost_ret (v:=.tuple #[.string U,.int .i64 E]) (by simp[results,results16,go_sem]) rfl ?_;exact ⟨rfl,HN⟩
end Go.Proofs.YtnjonlnemagomaaGreatDoor
