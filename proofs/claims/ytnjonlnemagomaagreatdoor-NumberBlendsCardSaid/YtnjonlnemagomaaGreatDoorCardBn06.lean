/- Part CardBn06. -/
import Derived.Test.YtnjonlnemagomaaGreatDoorB37
import Derived.Test.YtnjonlnemagomaaGreatDoorCardBn05
namespace Go.Proofs.YtnjonlnemagomaaGreatDoor
open Go.RowKit Big Go.Lib Go.Proofs.Tryz
set_option maxRecDepth 100000
set_option maxHeartbeats 8000000
set_option linter.all false
abbrev GivesB (w:World)(v:Value)(e:Ending)(w':World):Prop:=e=.returned v∧New w w'
def RdX (w:World)(b off n:Nat)(xf yf:Nat→ByteArray):Prop:=∀ k,k < n→w.cell? ⟨b,off+k*2,none⟩=some (.string (xf k))∧w.cell? ⟨b,off+k*2+1,none⟩=some (.string (yf k))
def Pt4 (W:World)(b o:Nat)(X Y:ByteArray)(o':Nat)(X' Y':ByteArray):Prop:=(W.cell? ⟨b,o,none⟩=some (.string X)∧W.cell? ⟨b,o+1,none⟩=some (.string Y))∧W.cell? ⟨b,o',none⟩=some (.string X')∧W.cell? ⟨b,o'+1,none⟩=some (.string Y')
theorem Pt4.new {w w':World}{b o o':Nat}{X Y X' Y':ByteArray}(h:Pt4 w b o X Y o' X' Y')(hn:New w w'):Pt4 w' b o X Y o' X' Y':=⟨⟨hn.cell h.1.1,hn.cell h.1.2⟩,hn.cell h.2.1,hn.cell h.2.2⟩
structure BdMid (pts:List (ByteArray × ByteArray))(b off n cap p1:Nat)(x0 y0 x1 y1 MX M MY T V AY D1 D2 D3 D4 P:ByteArray):Prop where
 a1:∀ W,Calls prog 45 #[.string x0,.string x1] W (GivesB W (.string MX))
 h1:∀ W,Calls prog 44 #[.string MX] W (GivesB W (.string M))
 b1:∀ W,Env W→RdP W (some ⟨b,off,none⟩) pts→Calls prog 16 #[.slice (some ⟨b,off,none⟩) n cap,.string M] W (GivesB W (.tuple #[.string MY,.int .i64 0]))
 wi:∀ W,Calls prog 47 #[.agg #[.string x0,.string x1],.int .u8 (p1:Int)] W (GivesB W (.string T))
 b2:∀ W,Env W→RdP W (some ⟨b,off,none⟩) pts→Calls prog 16 #[.slice (some ⟨b,off,none⟩) n cap,.string T] W (GivesB W (.tuple #[.string V,.int .i64 0]))
 a2:∀ W,Calls prog 45 #[.string y0,.string y1] W (GivesB W (.string AY))
 h2:∀ W,Calls prog 44 #[.string AY] W (GivesB W (.string MY))
 ck:∀ W,Calls prog 18 #[.string V] W (GivesB W (.int .i64 0))
 s1:∀ W,Calls prog 38 #[.string V,.string y0] W (GivesB W (.string D1))
 s2:∀ W,Calls prog 38 #[.string x1,.string x0] W (GivesB W (.string D2))
 m1:∀ W,Calls prog 32 #[.string D1,.string D2] W (GivesB W (.string P))
 s3:∀ W,Calls prog 38 #[.string y1,.string y0] W (GivesB W (.string D3))
 s4:∀ W,Calls prog 38 #[.string T,.string x0] W (GivesB W (.string D4))
 m2:∀ W,Calls prog 32 #[.string D3,.string D4] W (GivesB W (.string P))
structure BdAll (pts:List (ByteArray × ByteArray))(b off m cap p1:Nat)(xf yf:Nat→ByteArray)(S0 S1:ByteArray):Prop where
 s0:∀ W,Calls prog 38 #[.string (xf 0),.string ⟨#[49]⟩] W (GivesB W (.string S0))
 e0:∀ W,Env W→RdP W (some ⟨b,off,none⟩) pts→Calls prog 16 #[.slice (some ⟨b,off,none⟩) (m+1) cap,.string S0] W (GivesB W (.tuple #[.string ⟨#[]⟩,.int .i64 3]))
 s1:∀ W,Calls prog 45 #[.string (xf m),.string ⟨#[49,47,50]⟩] W (GivesB W (.string S1))
 e1:∀ W,Env W→RdP W (some ⟨b,off,none⟩) pts→Calls prog 16 #[.slice (some ⟨b,off,none⟩) (m+1) cap,.string S1] W (GivesB W (.tuple #[.string ⟨#[]⟩,.int .i64 3]))
 pt:∀ k,k < m+1→∀ W,Env W→RdP W (some ⟨b,off,none⟩) pts→Calls prog 16 #[.slice (some ⟨b,off,none⟩) (m+1) cap,.string (xf k)] W (GivesB W (.tuple #[.string (yf k),.int .i64 0]))
 mid:∀ k,k+1 < m+1→∃ MX M MY T V AY D1 D2 D3 D4 P:ByteArray,BdMid pts b off (m+1) cap p1 (xf k) (yf k) (xf (k+1)) (yf (k+1)) MX M MY T V AY D1 D2 D3 D4 P
def FewT (v:ByteArray):Prop:=v.size≤14∧ratErr v.data.toList=0
theorem blends_walk (pts:List (ByteArray × ByteArray)) (a:Option Addr) (n cap p1:Nat) (xf yf:Nat→ByteArray) (B:Prop) (w:World) (he:Env w) (hr:RdP w a pts) (hrx:0 < n→∃ b ao,a=some ⟨b,ao,none⟩∧RdX w b ao n xf yf)
  (aq:n≤6→∀ W,RdP W a pts→Calls prog 15 #[.slice a n cap] W fun e w'=>(∃ E:Int,e=.returned (.int .i64 E)∧(E=0→0 < n∧B))∧New W w')
  (ar:∀ k,k < n→∀ W,Calls prog 30 #[.string (xf k),.int .i64 6] W (FewP6 (xf k) W)) (au:∀ k,k < n→∀ W,Calls prog 30 #[.string (yf k),.int .i64 6] W (FewP6 (yf k) W))
  (al:∀ b ao m,a=some ⟨b,ao,none⟩→n=m+1→n≤6→B→(∀ k,k < n→FewT (xf k)∧FewT (yf k))→∃ S0 S1,BdAll pts b ao m cap p1 xf yf S0 S1):
  Calls prog 6 #[.slice a n cap,.int .u8 (p1:Int)] w fun e w'=>e=.returned (.bool true)∧New w w':=by
 unfold FewP6 at ar au;refine zh8 ?_ (New.refl w) he hr hrx aq ar au al;clear he hr hrx aq ar au al;intro HN HE HR b5 bq bu bw a6;go_in;by_cases h6:n≤6
 case neg=>
  have cf:(6:Int) < n:=by omega
  have hb:decide ((6:Int) < n)=true:=decide_eq_true cf;clear h6 cf;go_wp2_with fail;refine zM (awake_calls _ (HE.new HN)) fun w1 hn=>?_;replace HN:=tW HN hn;clear hn;go_wp2_with fail;refine zM (awake_calls _ (HE.new HN)) fun c8 hn=>?_;replace HN:=tW HN hn;clear hn;go_wp2_with fail;go_ret;exact ⟨rfl,HN⟩
 have hb:decide ((6:Int) < n)=false:=decide_eq_false (by omega);have aq:=bq.out h6;replace h6:=hid h6;clear bq;replace aq:=hid aq;go_wp2_with fail;refine zM (awake_calls _ (HE.new HN)) fun w1 hn=>?_;replace HN:=tW HN hn;clear hn;go_wp2_with fail;refine (aq _ (HR.new HN)).mono ?_;rintro e w2 ⟨⟨E,rfl,hE⟩,hn⟩;replace HN:=tW HN hn;clear hn;by_cases hE0:E=0
 case neg=>
  have ap:(E != 0)=true:=by simpa using hE0
  clear hE hE0;go_wp2_with fail;refine zM (awake_calls _ (HE.new HN)) fun c8 hn=>?_;replace HN:=tW HN hn;clear hn;go_wp2_with fail;go_ret;exact ⟨rfl,HN⟩
 subst hE0;obtain ⟨ci,hB⟩:=hE rfl;obtain ⟨b,ao,rfl,hx⟩:=b5.out ci;obtain ⟨m,rfl⟩:∃ m,n=m+1:=⟨n - 1,by omega⟩;have al:=fun h=>a6.out b ao m rfl rfl h6.out hB h
 have dh:(m:Int)≤5:=by have:=h6.out;omega
 clear hE ci hB b5 aq a6 h6 hb;replace hx:=hid hx;replace al:=hid al;go_wp2_with fail;go_loopw [35] (fun i wr=>∃ (k:Nat),k≤m+1∧i=.int .i64 (k:Int)∧Hid (∀ j,j < k→FewT (xf j)∧FewT (yf j))∧Hid (New w wr)) (fun i _=>m+1 - (RowKit.intOf i).toNat)
 case atStart=>exact ⟨0,Nat.zero_le _,rfl,hid (fun _ h=>absurd h (Nat.not_lt_zero _)),HN⟩
 case round=>
  clear HN;obtain ⟨k,hk,rfl,HF,HN⟩:=hrel;by_cases hlt:k < m+1
  ·obtain ⟨hX,hY⟩:=hx.out k hlt;replace hX:=HN.cell hX;replace hY:=HN.cell hY;have ar:=bu.out k hlt;have au:=bw.out k hlt;obtain ⟨X,am⟩:∃ x,xf k=x:=⟨_,rfl⟩;obtain ⟨Y,an⟩:∃ x,yf k=x:=⟨_,rfl⟩;rw[am] at hX;rw[an] at hY;simp only[am] at ar;simp only[an] at au
   have c5:(0:Int)≤(k:Int)∧(k:Int) < (m:Int)+1:=by omega
   have c6:(0:Int)≤(k:Int):=by omega
   have c7:(k:Int) < (m:Int)+1:=by omega
   refine zh4 ?_ ar au am an;clear ar au am an;intro bv bx a4 a5;have c3:=hid hY;go_wp2_with fail;refine (bv _).mono ?_;rintro e w4 ⟨⟨t1,rfl,bo⟩,hn⟩;clear hX hY;have hY:=hn.cell c3.out;replace HN:=tW HN hn;clear hn
   cases t1 with
   | false=>
    clear bo;go_wp2_with fail;go_ret;exact ⟨rfl,HN⟩
   | true=>
    have bl:=bo rfl;clear bo;replace bl:=hid bl;go_wp2_with fail;refine (bx _).mono ?_;rintro e w5 ⟨⟨t2,rfl,bp⟩,hn⟩;clear hY;replace HN:=tW HN hn;clear hn
    cases t2 with
    | false=>
     clear bp;go_wp2_with fail;go_ret;exact ⟨rfl,HN⟩
    | true=>
     have bm:=bp rfl;clear bp;replace bm:=hid bm;go_wp2_with fail;go_roundw
     case rel=>
      refine ⟨k+1,by omega,by go_num,hid (fun j hj=>?_),HN⟩;by_cases e:j=k
      ·rw[e,a4.out,a5.out];exact ⟨bl,bm⟩
      ·exact HF j (by omega)
     case measure=>simp[RowKit.intOf];omega
  ·obtain ⟨S0,S1,K⟩:=al.out (fun j hj=>HF.out j (by omega))
   obtain rfl:k=m+1:=by omega
   have bi:=HN.out.cell (hx.out 0 (by omega)).1;rw[Nat.zero_mul,Nat.add_zero] at bi;have ay:=(hx.out m (by omega)).1;have bn:=K.s0;have cd:=K.e0;have aw:=K.s1;have ce:=K.e1;have av:=K.pt;have ba:=K.mid;obtain ⟨X0,ax⟩:∃ x,xf 0=x:=⟨_,rfl⟩;obtain ⟨Xm,az⟩:∃ x,xf m=x:=⟨_,rfl⟩;rw[ax] at bi;rw[az] at ay;simp only[ax] at bn;simp only[az] at aw
   have dd:(0:Int) < (m:Int)+1:=by omega
   have de:(0:Int)≤(m:Int):=by omega
   have df:(m:Int) < (m:Int)+1:=by omega
   have dg:(0:Int)≤(m:Int)∧(m:Int) < (m:Int)+1:=by omega
   clear hk hlt ax az K HF al bu bw;refine zh7 ?_ bn cd aw ce av ba ay;clear bn cd aw ce av ba ay;intro b6 br a3 bt cy bz b7;go_wp2_with fail;refine zM (b6 _) fun dj hn=>?_;replace HN:=tW HN hn;clear hn;clear bi;go_wp2_with fail;refine zM (br _ (HE.new HN) (HR.new HN)) fun dk hn=>?_;replace HN:=tW HN hn;clear hn;have ay:=HN.out.cell b7.out;go_wp2_with fail;refine zM (a3 _) fun dl hn=>?_;replace HN:=tW HN hn;clear hn;clear ay;go_wp2_with fail;refine zM (bt _ (HE.new HN) (HR.new HN)) fun dm hn=>?_;replace HN:=tW HN hn;clear hn;go_wp2_with fail;go_loopw [86] (fun i wr=>∃ (k:Nat),k≤m+1∧i=.int .i64 (k:Int)∧Hid (New w wr)) (fun i _=>m+1 - (RowKit.intOf i).toNat)
   case atStart=>exact ⟨0,Nat.zero_le _,rfl,HN⟩
   case round=>
    clear HN b6 br a3 bt b7;obtain ⟨k,hk,rfl,HN⟩:=hrel;by_cases hlt:k < m+1
    ·obtain ⟨hX,hY⟩:=hx.out k hlt;have av:=cy.out k hlt;obtain ⟨X,am⟩:∃ x,xf k=x:=⟨_,rfl⟩;obtain ⟨Y,an⟩:∃ x,yf k=x:=⟨_,rfl⟩;rw[am] at hX;rw[an] at hY;simp only[am,an] at av;have bf:=hid hX;have bg:=hid hY;clear hX hY;have hX:=HN.out.cell bf.out
     have c5:(0:Int)≤(k:Int)∧(k:Int) < (m:Int)+1:=by omega
     have c6:(0:Int)≤(k:Int):=by omega
     have c7:(k:Int) < (m:Int)+1:=by omega
     refine zh3 ?_ av am an;clear av am an;intro b4 a4 a5;go_wp2_with fail;refine zM (b4 _ (HE.new HN) (HR.new HN)) fun ae hn=>?_;replace HN:=tW HN hn;clear hn;clear hX;have hY:=HN.out.cell bg.out;by_cases hk0:k=0
     ·subst hk0;go_wp2_with fail;go_roundw
      case rel=>exact ⟨1,by omega,by go_num,HN⟩
      case measure=>simp[RowKit.intOf]
     obtain ⟨j,rfl⟩:∃ j,k=j+1:=⟨k - 1,by omega⟩;have dc:(((j+1:Nat):Int)==0)=false:=beq_false_of_ne (by omega);rw[show (((j+1:Nat)):Int)=(j:Int)+1 by omega] at *;obtain ⟨hZ,hU⟩:=hx.out j (by omega);obtain ⟨MX,M,MY,T,V,AY,D1,D2,D3,D4,P,K⟩:=bz.out j (by omega);obtain ⟨Z,bj⟩:∃ x,xf j=x:=⟨_,rfl⟩;obtain ⟨U,bh⟩:∃ x,yf j=x:=⟨_,rfl⟩;rw[bj] at hZ;rw[bh] at hU;rw[bj,bh,a4.out,a5.out] at K;have hq:Pt4 w b (ao+j*2) Z U (ao+(j+1)*2) X Y:=⟨⟨hZ,hU⟩,bf.out,bg.out⟩;have b8:=K.a1;have cg:=K.h1;have a9:=K.b1;have co:=K.wi;have a0:=K.b2;have b9:=K.a2;have ch:=K.h2;have cb:=K.ck;have aw:=K.s1;have cl:=K.s2;have bb:=K.m1;have cm:=K.s3;have cn:=K.s4;have bc:=K.m2
     have di:IntKind.i64.wrap (j:Int)=j:=by rw[IntKind.wrap_i64] <;> omega
     have c9:(0:Int)≤(j:Int)∧(j:Int) < (m:Int)+1:=by omega
     have da:(0:Int)≤(j:Int):=by omega
     have db:(j:Int) < (m:Int)+1:=by omega
     clear K hZ hU bj bh bf bg a4 a5 hk0 hk hlt;refine zh12 ?_ hq b8 cg a9 co a0 b9 ch cb aw cl bb;intro HQ cp cu cr c2 cs cq cv ct a3 cz cw;refine zh3 ?_ cm cn bc;clear hq b8 cg a9 co a0 b9 ch cb aw cl bb cm cn bc;intro c0 c1 cx;replace HQ:=hid (HQ.new HN);go_upto_region 20 with (fail);clear hY;have b0:=HN;clear HN
     go_cut [13,14] from 112 to 120 (fun x y wx=>∃ P1 P2:Nat,x=.pointer (some ⟨P1,0,none⟩)∧y=.pointer (some ⟨P2,0,none⟩)∧New ae wx∧Box wx P1 30 #[.string Z,.string U]∧Box wx P2 30 #[.string X,.string Y])
     case first=>
      have cj:=fun (u v u' v':ByteArray)=>(show New ae (((ae.alloc (.cells #[.string u,.string v] 30)).alloc (.cells #[.string u',.string v'] 30)).drew) from (((New.refl ae).alloc _).alloc _).drew);have ca:=fun (u v u' v':ByteArray)=>(show Box (((ae.alloc (.cells #[.string u,.string v] 30)).alloc (.cells #[.string u',.string v'] 30)).drew) ae.heap.size 30 #[.string u,.string v] from (Box.alloc ae _ _ _ rfl).new (((New.refl _).alloc _).drew));have ap:=fun (u v u' v':ByteArray)=>(show Box (((ae.alloc (.cells #[.string u,.string v] 30)).alloc (.cells #[.string u',.string v'] 30)).drew) (ae.heap.size+1) 30 #[.string u',.string v'] from (Box.alloc (ae.alloc (.cells #[.string u,.string v] 30)) _ _ _ (by rw[size_alloc])).new ((New.refl _).drew));refine zh3 ?_ cj ca ap;clear cj ca ap;intro b3 a7 a8;obtain ⟨⟨g1,g2⟩,g3,g4⟩:=HQ.out;clear HQ;have c4:b < ae.heap.size:=lt_of_cell g1;have a0:=Nat.lt_add_right 1 c4
      go_region
      all_goals go_wp2_with fail
      all_goals go_meet
      all_goals first | exact ⟨ae.heap.size,ae.heap.size+1,rfl,rfl,b3.out Z U X Y,a7.out Z U X Y,a8.out Z U X Y⟩ | exact ⟨ae.heap.size+1,ae.heap.size,rfl,rfl,b3.out X Y Z U,a8.out X Y Z U,a7.out X Y Z U⟩
     case rest=>
      obtain ⟨P1,P2,rfl,rfl,hn,ap,bk⟩:=hcut;obtain ⟨dn,be⟩:∃ x,x=wc:=⟨_,rfl⟩;rw[←be] at hn ap bk⊢;clear be HQ;have HN:=hid (b0.trans hn);clear b0 hn;have BA:=hid ap;have BB:=hid bk;clear ap bk
      go_step
      have pa:=BA.out.two;have pb:=BB.out.two;go_wp2_with fail;refine zM (cp _) fun dp hn=>?_;clear pa pb;obtain ⟨HN,BA,BB⟩:=zn3 hn HN BA.new BB.new;clear hn;have pa:=BA.out.two;have pb:=BB.out.two;go_wp2_with fail;refine zM (cu _) fun dq hn=>?_;clear pa pb;obtain ⟨HN,BA,BB⟩:=zn3 hn HN BA.new BB.new;clear hn;have pa:=BA.out.two;have pb:=BB.out.two;go_wp2_with fail;refine zM (cr _ (HE.new HN) (HR.new HN)) fun dr hn=>?_;clear pa pb;obtain ⟨HN,BA,BB⟩:=zn3 hn HN BA.new BB.new;clear hn;have pa:=BA.out.two;have pb:=BB.out.two;go_wp2_with fail;refine zM (span_aw Z X _) fun dt hn=>?_;clear pa pb;obtain ⟨HN,BA,BB⟩:=zn3 hn HN BA.new BB.new;clear hn;go_wp2_with fail;refine zM (c2 _) fun du hn=>?_;obtain ⟨HN,BA,BB⟩:=zn3 hn HN BA.new BB.new;clear hn;go_wp2_with fail;refine zM (cs _ (HE.new HN) (HR.new HN)) fun dv hn=>?_;obtain ⟨HN,BA,BB⟩:=zn3 hn HN BA.new BB.new;clear hn;have pa:=BA.out.two;have pb:=BB.out.two;go_wp2_with fail;refine zM (cq _) fun dw hn=>?_;clear pa pb;obtain ⟨HN,BA,BB⟩:=zn3 hn HN BA.new BB.new;clear hn;have pa:=BA.out.two;have pb:=BB.out.two;go_wp2_with fail;refine zM (cv _) fun dx hn=>?_;clear pa pb;obtain ⟨HN,BA,BB⟩:=zn3 hn HN BA.new BB.new;clear hn;have pa:=BA.out.two;have pb:=BB.out.two;go_wp2_with fail;refine zM (ct _) fun dy hn=>?_;clear pa pb;obtain ⟨HN,BA,BB⟩:=zn3 hn HN BA.new BB.new;clear hn;obtain ⟨aa,ab,af,ag,ah⟩:=BA.out.two;obtain ⟨ac,ad,ai,aj,ak⟩:=BB.out.two;go_upto_region 26 with (fail);refine zR 20 21 (fun W=>zC W P1 (.string Z) (.string U)∧W.cell? ⟨P2,0,none⟩=some (.string X)∧W.cell? ⟨P2,1,none⟩=some (.string Y)) ?_;refine zTE 0 ⟨⟨aa,ab⟩,ac,ad⟩ ?_;refine zTE 1 ⟨⟨aa,ab⟩,ac,ad⟩ ?_;refine zTE 2 ⟨⟨aa,ab⟩,ac,ad⟩ ?_;refine zTE 4 ⟨⟨aa,ab⟩,ac,ad⟩ ?_;refine zTE 5 ⟨⟨aa,ab⟩,ac,ad⟩ ?_;refine zTE 6 ⟨⟨aa,ab⟩,ac,ad⟩ ?_;refine zTE 7 ⟨⟨aa,ab⟩,ac,ad⟩ ?_;refine zTE 10 ⟨⟨aa,ab⟩,ac,ad⟩ ?_;refine zTE 11 ⟨⟨aa,ab⟩,ac,ad⟩ ?_;refine zTE 12 ⟨⟨aa,ab⟩,ac,ad⟩ ?_;refine zTE 13 ⟨⟨aa,ab⟩,ac,ad⟩ ?_;refine zTE 15 ⟨⟨aa,ab⟩,ac,ad⟩ ?_;refine zTE 16 ⟨⟨aa,ab⟩,ac,ad⟩ ?_;refine zTE 17 ⟨⟨aa,ab⟩,ac,ad⟩ ?_;refine tk1 3 fun K hK=>?_
      try simp only[PE]
      go_simp;refine zM (a3 _) fun dz hn=>?_;have hn:=hn.undrew;clear aa ab af ag ah ac ad ai aj ak;obtain ⟨HN,BA,BB⟩:=zn3 hn HN BA.new BB.new;clear hn;obtain ⟨aa,ab,af,ag,ah⟩:=BA.out.two;obtain ⟨ac,ad,ai,aj,ak⟩:=BB.out.two;refine zKE hK ⟨⟨aa,ab⟩,ac,ad⟩ ?_;clear hK K;refine tk1 8 fun K hK=>?_
      try simp only[PE]
      go_simp;refine zM (cz _) fun d0 hn=>?_;clear aa ab af ag ah ac ad ai aj ak;obtain ⟨HN,BA,BB⟩:=zn3 hn HN BA.new BB.new;clear hn;obtain ⟨aa,ab,af,ag,ah⟩:=BA.out.two;obtain ⟨ac,ad,ai,aj,ak⟩:=BB.out.two;refine zKE hK ⟨⟨aa,ab⟩,ac,ad⟩ ?_;clear hK K;refine tk1 9 fun K hK=>?_
      try simp only[PE]
      go_simp;refine zM (cw _) fun d1 hn=>?_;clear aa ab af ag ah ac ad ai aj ak;obtain ⟨HN,BA,BB⟩:=zn3 hn HN BA.new BB.new;clear hn;obtain ⟨aa,ab,af,ag,ah⟩:=BA.out.two;obtain ⟨ac,ad,ai,aj,ak⟩:=BB.out.two;refine zKE hK ⟨⟨aa,ab⟩,ac,ad⟩ ?_;clear hK K;refine tk1 14 fun K hK=>?_
      try simp only[PE]
      go_simp;refine zM (c0 _) fun d2 hn=>?_;clear aa ab af ag ah ac ad ai aj ak;obtain ⟨HN,BA,BB⟩:=zn3 hn HN BA.new BB.new;clear hn;obtain ⟨aa,ab,af,ag,ah⟩:=BA.out.two;obtain ⟨ac,ad,ai,aj,ak⟩:=BB.out.two;refine zKE hK ⟨⟨aa,ab⟩,ac,ad⟩ ?_;clear hK K;refine tk1 18 fun K hK=>?_
      try simp only[PE]
      go_simp;refine zM (c1 _) fun d3 hn=>?_;clear aa ab af ag ah ac ad ai aj ak;obtain ⟨HN,BA,BB⟩:=zn3 hn HN BA.new BB.new;clear hn;obtain ⟨aa,ab,af,ag,ah⟩:=BA.out.two;obtain ⟨ac,ad,ai,aj,ak⟩:=BB.out.two;refine zKE hK ⟨⟨aa,ab⟩,ac,ad⟩ ?_;clear hK K;refine tk1 19 fun K hK=>?_
      try simp only[PE]
      go_simp;refine zM (cx _) fun d4 hn=>?_;clear aa ab af ag ah ac ad ai aj ak;obtain ⟨HN,BA,BB⟩:=zn3 hn HN BA.new BB.new;clear hn;obtain ⟨aa,ab,af,ag,ah⟩:=BA.out.two;obtain ⟨ac,ad,ai,aj,ak⟩:=BB.out.two;refine zKE hK ⟨⟨aa,ab⟩,ac,ad⟩ ?_;clear hK K;refine tlW ?_;clear aa ab af ag ah ac ad ai aj ak;clear BA BB;go_wp2_with fail;go_roundw
      case rel=>exact ⟨j+1+1,by omega,by go_num,HN⟩
      case measure=>simp[RowKit.intOf];omega
    ·obtain rfl:k=m+1:=by omega
     go_wp2_with fail;go_ret;exact ⟨rfl,HN⟩
end Go.Proofs.YtnjonlnemagomaaGreatDoor
