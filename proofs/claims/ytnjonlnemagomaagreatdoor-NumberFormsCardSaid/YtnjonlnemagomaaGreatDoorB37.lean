/- Part B37. -/
import Derived.OwnWalk
import Derived.Test.YtnjonlnemagomaaGreatDoorB15
import Derived.Test.YtnjonlnemagomaaGreatDoorB35
namespace Go.Proofs.YtnjonlnemagomaaGreatDoor
open Go.RowKit Big
open Go.Lib (hid)
set_option maxRecDepth 100000
set_option maxHeartbeats 8000000
def Fr2 (W:World)(b:Nat)(p q:Rat):Prop:=∃ (s:Int) (a:Option Addr) (l c:Nat) (t:Int) (d:Option Addr) (m k:Nat) (s':Int) (a':Option Addr) (l' c':Nat) (t':Int) (d':Option Addr) (m' k':Nat),
 Box W b 115 #[.int .i64 s,.slice a l c,.int .i64 t,.slice d m k,.int .i64 s',.slice a' l' c',.int .i64 t',.slice d' m' k']/\
 y07 W (.agg #[.int .i64 s,.slice a l c,.int .i64 t,.slice d m k]) p/\y07 W (.agg #[.int .i64 s',.slice a' l' c',.int .i64 t',.slice d' m' k']) q
theorem y9f:(Tryz.prog.info? 115).map (fun i=>(i.zero,i.size,i.bytes))=some (some (.agg #[.int .i64 0,.slice none 0 0,.int .i64 0,.slice none 0 0]),4,64):=by kernel_rfl
theorem yn5:madeCells (Value.agg #[.int .i64 0,.slice none 0 0,.int .i64 0,.slice none 0 0]).cells 8=#[.int .i64 0,.slice none 0 0,.int .i64 0,.slice none 0 0,.int .i64 0,.slice none 0 0,.int .i64 0,.slice none 0 0]:=by kernel_rfl
theorem ya8 (w:World):(Instr.makeSlice 201 (.int .i64 2) (.int .i64 2)).run Tryz.prog w=.ok (.slice (some ⟨w.heap.size,0,none⟩) 2 2) (w.alloc (.cells #[.int .i64 0,.slice none 0 0,.int .i64 0,.slice none 0 0,.int .i64 0,.slice none 0 0,.int .i64 0,.slice none 0 0] 115)):=by
 obtain ⟨i,hi,hz0,hz1,hz2⟩:=info_parts y9f;have hr:=run_make (P:=Tryz.prog) w 201 115 i _ Tryz.underlying201 hi hz0 .i64 .i64 2 2 (by omega) (Int.le_refl _) (by rw[hz2];omega) (by omega)
 have e:(2:Int).toNat*i.size=8:=by rw[hz1];rfl
 rw[e,yn5]at hr;exact hr
theorem y07.setN {w:World}{v:Value}{q:Rat}(h:y07 w v q){B:Nat}(hd:y6u w B)(o1 o2 o3 o4:Nat)(n n':Int)(b b':Option Addr)(m k m' k':Nat):
  y07 ((((w.setCell ⟨B,o1,none⟩ (.int .i64 n)).setCell ⟨B,o2,none⟩ (.slice b m k)).setCell ⟨B,o3,none⟩ (.int .i64 n')).setCell ⟨B,o4,none⟩ (.slice b' m' k')) v q:=by
 obtain ⟨s,a,l,c,s',a',l',c',e,h1,h2⟩:=h
 have key:∀ {v:Value} {z:Int},y06 w v z->y06 ((((w.setCell ⟨B,o1,none⟩ (.int .i64 n)).setCell ⟨B,o2,none⟩ (.slice b m k)).setCell ⟨B,o3,none⟩ (.int .i64 n')).setCell ⟨B,o4,none⟩ (.slice b' m' k')) v z:=fun h=>
  (((h.set (p:=⟨B,o1,none⟩) hd _).set (p:=⟨B,o2,none⟩) (hd.set _ (.i64 n)) _).set (p:=⟨B,o3,none⟩) ((hd.set _ (.i64 n)).set _ (.slice b m k)) _).set (p:=⟨B,o4,none⟩) (((hd.set _ (.i64 n)).set _ (.slice b m k)).set _ (.i64 n')) _
 exact ⟨s,a,l,c,s',a',l',c',e,key h1,key h2⟩
theorem yky {w:World}{B:Nat}{t:TypeId}{s1 s2 s3 s4:Int}{a1 a2 a3 a4:Option Addr}{l1 c1 l2 c2 l3 c3 l4 c4:Nat}(h:Box w B t #[.int .i64 s1,.slice a1 l1 c1,.int .i64 s2,.slice a2 l2 c2,.int .i64 s3,.slice a3 l3 c3,.int .i64 s4,.slice a4 l4 c4]):y6u w B:=
 h.noDig fun v hv=>by
  simp at hv
  rcases hv with rfl | rfl | rfl | rfl | rfl | rfl | rfl | rfl <;> first | exact .i64 _ | exact .slice _ _ _
def yli (w0:World)(b:Nat)(p q:Rat)(k:Nat)(wr:World):Prop:=New w0 wr/\
 ((k=0/\Box wr b 115 #[.int .i64 0,.slice none 0 0,.int .i64 0,.slice none 0 0,.int .i64 0,.slice none 0 0,.int .i64 0,.slice none 0 0])\/
  (k=1/\∃ (s:Int) (a:Option Addr) (l c:Nat) (t:Int) (d:Option Addr) (m k:Nat),Box wr b 115 #[.int .i64 s,.slice a l c,.int .i64 t,.slice d m k,.int .i64 0,.slice none 0 0,.int .i64 0,.slice none 0 0]/\y07 wr (.agg #[.int .i64 s,.slice a l c,.int .i64 t,.slice d m k]) p)\/
  (k=2/\Fr2 wr b p q))
theorem ypa {w0 w:World} {b:Nat} {p q:Rat} {s:Int} {a:Option Addr} {l c:Nat} {t:Int} {d:Option Addr} {m k:Nat} (hN:New w0 w) (hB:w0.heap.size<=b)
  (hb:Box w b 115 #[.int .i64 0,.slice none 0 0,.int .i64 0,.slice none 0 0,.int .i64 0,.slice none 0 0,.int .i64 0,.slice none 0 0]) (hf:y07 w (.agg #[.int .i64 s,.slice a l c,.int .i64 t,.slice d m k]) p):
  yli w0 b p q 1 ((((w.setCell ⟨b,0,none⟩ (.int .i64 s)).setCell ⟨b,1,none⟩ (.slice a l c)).setCell ⟨b,2,none⟩ (.int .i64 t)).setCell ⟨b,3,none⟩ (.slice d m k)):=
 ⟨hN.put4 hB _ _ _ _,.inr (.inl ⟨rfl,s,a,l,c,t,d,m,k,(((hb.set 0 _).set 1 _).set 2 _).set 3 _,hf.setN (yky hb) 0 1 2 3 _ _ _ _ _ _ _ _⟩)⟩
theorem yp9 {w0 w:World} {b:Nat} {p q:Rat} {s:Int} {a:Option Addr} {l c:Nat} {t:Int} {d:Option Addr} {m k:Nat} {s':Int} {a':Option Addr} {l' c':Nat} {t':Int} {d':Option Addr} {m' k':Nat} (hN:New w0 w) (hB:w0.heap.size<=b)
  (hb:Box w b 115 #[.int .i64 s,.slice a l c,.int .i64 t,.slice d m k,.int .i64 0,.slice none 0 0,.int .i64 0,.slice none 0 0]) (hf:y07 w (.agg #[.int .i64 s,.slice a l c,.int .i64 t,.slice d m k]) p) (hf':y07 w (.agg #[.int .i64 s',.slice a' l' c',.int .i64 t',.slice d' m' k']) q):
  yli w0 b p q 2 ((((w.setCell ⟨b,4,none⟩ (.int .i64 s')).setCell ⟨b,5,none⟩ (.slice a' l' c')).setCell ⟨b,6,none⟩ (.int .i64 t')).setCell ⟨b,7,none⟩ (.slice d' m' k')):=
 ⟨(((hN.setCell (p:=⟨b,4,none⟩) hB _).setCell (p:=⟨b,5,none⟩) hB _).setCell (p:=⟨b,6,none⟩) hB _).setCell (p:=⟨b,7,none⟩) hB _,
  .inr (.inr ⟨rfl,s,a,l,c,t,d,m,k,s',a',l',c',t',d',m',k',(((hb.set 4 _).set 5 _).set 6 _).set 7 _,hf.setN (yky hb) 4 5 6 7 _ _ _ _ _ _ _ _,hf'.setN (yky hb) 4 5 6 7 _ _ _ _ _ _ _ _⟩)⟩
theorem y97 (x y:ByteArray)(p q:Rat)(hx:x.data.toList=y02 p)(hy:y.data.toList=y02 q)(lx:x.size<=100000)(ly:y.size<=100000)(B cap:Nat)(T:TypeId)(w:World)(he:Env w)(hB:Box w B T #[.string x,.string y]):
  Calls Tryz.prog 200 #[.slice (some ⟨B,0,none⟩) 2 cap] w fun e w'=>∃ b:Nat,e=.returned (.slice (some ⟨b,0,none⟩) 2 2)/\New w w'/\w.heap.size<=b/\Fr2 w' b p q:=by
 obtain ⟨i0,hi,hz0,hz1,hz2⟩:=info_parts y9f;have hf1:=fun W hW=>y0c x p W hW hx (by omega);have hf2:=fun W hW=>y0c y q W hW hy (by omega);clear hx hy lx ly;have HE:=hid he;have HF1:=hid hf1;have HF2:=hid hf2;have BA:=hid hB;clear he hf1 hf2 hB;go_enter Tryz.func200,Tryz.ntmps200;have hmk:=ya8;go_wp2_with fail;have BA0:=BA;have HN:=hid (New.refl w);have HN0:=HN;clear HN;obtain ⟨BR,HN⟩:=lay1 w 115 #[.int .i64 0,.slice none 0 0,.int .i64 0,.slice none 0 0,.int .i64 0,.slice none 0 0,.int .i64 0,.slice none 0 0];replace BA:=hid (BA.out.new HN.out);have HN_:=HN0.out.trans HN.out;clear HN HN0;have HN:=hid HN_;clear HN_;clear hmk;have hst:yli w w.heap.size p q 0 _:=⟨HN.out,.inl ⟨rfl,BR.out⟩⟩;clear BR HN;have HS:=hid hst;clear hst;go_loopw [11] (fun i wr=>∃ k:Nat,k<=2/\i=.int .i64 (k:Int)/\Hid (yli w w.heap.size p q k wr)) (fun i _=>2 - (RowKit.intOf i).toNat)
 case atStart=>exact ⟨0,by omega,rfl,HS⟩
 case round=>
  obtain ⟨k,hk,rfl,HR⟩:=hrel;obtain ⟨hN,hr⟩:=HR.out;clear HR;rcases hr with ⟨rfl,hb⟩ | ⟨rfl,s,a,l,c,t,d,m,kk,hb,hf⟩ | ⟨rfl,h2⟩
  ·have BAR:=hid (BA0.out.new hN);have HEN:=hid (HE.out.new hN);have BR:=hid hb;have HN:=hid hN;clear hb hN;obtain ⟨pa0,pa1,pa2,pa3,pa4⟩:=BAR.out.two;go_wp2_with fail;refine (HF1.out _ HEN.out).mono ?_;rintro e w3 ⟨v,rfl,hn,hf⟩;obtain ⟨s,a,l,c,t,d,m,kk,rfl⟩:=hf.shape;have HF:=hid hf;clear hf;clear pa0 pa1 pa2 pa3 pa4;replace BR:=bW BR hn;replace HN:=tW HN hn;clear hn;have y0:=BR.out.cell 0;have y1:=BR.out.cell 1;have y2:=BR.out.cell 2;have y3:=BR.out.cell 3;have z0:=BR.out.frozen 0;have z1:=BR.out.frozen 1;have z2:=BR.out.frozen 2;have z3:=BR.out.frozen 3;have z4:=BR.out.lt;go_wp2_with fail;go_roundw
   case rel=>exact ⟨1,by omega,by go_num,hid (ypa HN.out (Nat.le_refl _) BR.out HF.out)⟩
   case measure=>simp[RowKit.intOf]
  ·have BAR:=hid (BA0.out.new hN);have HEN:=hid (HE.out.new hN);have BR:=hid hb;have HN:=hid hN;have HP:=hid hf;clear hb hN hf;obtain ⟨pa0,pa1,pa2,pa3,pa4⟩:=BAR.out.two;go_wp2_with fail;refine (HF2.out _ HEN.out).mono ?_;rintro e w3 ⟨v,rfl,hn,hf⟩;obtain ⟨s',a',l',c',t',d',m',kk',rfl⟩:=hf.shape;have HF:=hid hf;clear hf;clear pa0 pa1 pa2 pa3 pa4;replace BR:=bW BR hn;replace HP:=hid (HP.out.new hn);replace HN:=tW HN hn;clear hn;have y0:=BR.out.cell 4;have y1:=BR.out.cell 5;have y2:=BR.out.cell 6;have y3:=BR.out.cell 7;have z0:=BR.out.frozen 4;have z1:=BR.out.frozen 5;have z2:=BR.out.frozen 6;have z3:=BR.out.frozen 7;have z4:=BR.out.lt;go_wp2_with fail;go_roundw
   case rel=>exact ⟨2,by omega,by go_num,hid (yp9 HN.out (Nat.le_refl _) BR.out HP.out HF.out)⟩
   case measure=>simp[RowKit.intOf]
  ·skip
   have HN:=hid hN;have H2:=hid h2;clear hN h2;go_wp2_with fail;go_ret;exact ⟨_,rfl,HN.out,Nat.le_refl _,H2.out⟩
structure FVal where
 s:Int
 a:Option Addr
 l:Nat
 c:Nat
 t:Int
 d:Option Addr
 m:Nat
 k:Nat
abbrev FVal.cells (v:FVal):List Value:=[.int .i64 v.s,.slice v.a v.l v.c,.int .i64 v.t,.slice v.d v.m v.k]
abbrev FVal.val (v:FVal):Value:=.agg #[.int .i64 v.s,.slice v.a v.l v.c,.int .i64 v.t,.slice v.d v.m v.k]
def Fr4 (w:World)(g:Nat)(f0 f1 f2 f3:FVal):Prop:=∀ j u,(f0.cells ++ f1.cells ++ f2.cells ++ f3.cells)[j]?=some u->w.cell? ⟨g,j,none⟩=some u
theorem Fr4.new {w w':World}{g:Nat}{f0 f1 f2 f3:FVal}(h:Fr4 w g f0 f1 f2 f3)(hn:New w w'):Fr4 w' g f0 f1 f2 f3:=fun j u hu=>hn.cell (h j u hu)
def minR (x y:Rat):Rat:=if y < x then y else x
def maxR (x y:Rat):Rat:=if x < y then y else x
theorem Box.other4w {w:World}{B B':Nat}{t:TypeId}{cs:Array Value}(h:Box w B t cs)(hp:B'≠B)(u u' v v':Value):Box ((((w.setCell ⟨B',0,none⟩ u).setCell ⟨B',1,none⟩ u').setCell ⟨B',2,none⟩ v).setCell ⟨B',3,none⟩ v') B t cs:=
 (((h.other (p:=⟨B',0,none⟩) hp u).other (p:=⟨B',1,none⟩) hp u').other (p:=⟨B',2,none⟩) hp v).other (p:=⟨B',3,none⟩) hp v'
def y6n (w wr:World)(M:Nat)(q:Rat):Prop:=New w wr/\Box wr w.heap.size 115 #[.int .i64 0,.slice none 0 0,.int .i64 0,.slice none 0 0]/\∃ f:FVal,Box wr M 115 #[.int .i64 f.s,.slice f.a f.l f.c,.int .i64 f.t,.slice f.d f.m f.k]/\y07 wr f.val q
theorem ye7 (g cap:Nat)(f0 f1 f2 f3:FVal)(q0 q1 q2 q3:Rat)(kb:Nat)(w:World)(hF:Fr4 w g f0 f1 f2 f3)(h0:y07 w f0.val q0)(h1:y07 w f1.val q1)(h2:y07 w f2.val q2)(h3:y07 w f3.val q3)(b0:FB kb q0)(b1:FB kb q1)(b2:FB kb q2)(b3:FB kb q3)(hk:kb<=20000000):
  Calls Tryz.prog 201 #[.slice (some ⟨g,0,none⟩) 4 cap,.func (.func 90) #[] #[]] w (y1h w (minR (minR (minR q0 q1) q2) q3)):=by
 have hcm:=fun va vb p q W h1 h2 bp bq=>y16 va vb p q kb kb W h1 h2 bp bq (by omega);unfold y1t at hcm;obtain ⟨m1,hm1⟩:∃ x,minR q0 q1=x:=⟨_,rfl⟩;obtain ⟨m2,hm2⟩:∃ x,minR m1 q2=x:=⟨_,rfl⟩;obtain ⟨m3,hm3⟩:∃ x,minR m2 q3=x:=⟨_,rfl⟩
 have key:∀ {x y z:Rat},minR x y=z->FB kb x->FB kb y->FB kb z:=fun {x y z} e hx hy=>by
  rw[<-e];unfold minR;split
  ·exact hy
  ·exact hx
 have d1:=key hm1 b0 b1;have d2:=key hm2 d1 b2;rw[hm1,hm2,hm3];clear key hk;have HF:=hid hF;have H0:=hid h0;have H1:=hid h1;have H2:=hid h2;have H3:=hid h3;have B0:=hid b0;have B1:=hid b1;have B2:=hid b2;have B3:=hid b3;have D1:=hid d1;have D2:=hid d2;have HCM:=hid hcm;have HM1:=hid hm1;have HM2:=hid hm2;have HM3:=hid hm3;clear hF h0 h1 h2 h3 b0 b1 b2 b3 d1 d2 hcm hm1 hm2 hm3;go_enter Tryz.func201,Tryz.ntmps201;go_upto_region 1 with (fail);obtain ⟨BP,HN⟩:=lay1 w 115 #[.int .i64 0,.slice none 0 0,.int .i64 0,.slice none 0 0];obtain ⟨w8,hw8⟩:∃ u,w.alloc (.cells #[.int .i64 0,.slice none 0 0,.int .i64 0,.slice none 0 0] 115)=u:=⟨_,rfl⟩;rw[hw8] at BP HN⊢;clear hw8;have c0:=HN.out.cell (HF.out 0 _ rfl);have c1:=HN.out.cell (HF.out 1 _ rfl);have c2:=HN.out.cell (HF.out 2 _ rfl);have c3:=HN.out.cell (HF.out 3 _ rfl);go_upto_region 4 with (fail);clear c0 c1 c2 c3;have LM:=hid HN.out.size;have LM2:=hid BP.out.lt;have HN0:=HN;clear HN;obtain ⟨BM,HN⟩:=lay1 w8 115 #[.int .i64 f0.s,.slice f0.a f0.l f0.c,.int .i64 f0.t,.slice f0.d f0.m f0.k];replace BP:=hid (BP.out.new HN.out);have HN_:=HN0.out.trans HN.out;clear HN HN0;have HN:=hid HN_;clear HN_;obtain ⟨M,hM⟩:∃ u,w8.heap.size=u:=⟨_,rfl⟩;rw[hM] at BM LM LM2⊢;clear hM;have hst:y6n w _ M q0:=⟨HN.out,BP.out,f0,BM.out,H0.out.new HN.out⟩;clear BM BP HN;have HS:=hid hst;clear hst;go_wp2_with fail;go_loopw [6] (fun i wr=>∃ k:Nat,i=.int .i64 (k:Int)/\Hid ((k=1/\y6n w wr M q0)\/(k=2/\y6n w wr M m1)\/(k=3/\y6n w wr M m2)\/(k=4/\y6n w wr M m3))) (fun i _=>4 - (RowKit.intOf i).toNat)
 case atStart=>exact ⟨1,rfl,hid (.inl ⟨rfl,HS.out⟩)⟩
 case round=>
  clear HS;obtain ⟨k,rfl,HR⟩:=hrel;rcases HR.out with ⟨rfl,hN,hB,f,hM,hf⟩ | ⟨rfl,hN,hB,f,hM,hf⟩ | ⟨rfl,hN,hB,f,hM,hf⟩ | ⟨rfl,hN,hB,f,hM,hf⟩
  ·skip
   clear HR;have HN:=hid hN;have BP:=hid hB;have BM:=hid hM;have HFX:=hid hf;clear hN hB hM hf;have ER:=hid (H1.out.new HN.out);have e0:=HN.out.cell (HF.out 4 _ rfl);have e1:=HN.out.cell (HF.out 5 _ rfl);have e2:=HN.out.cell (HF.out 6 _ rfl);have e3:=HN.out.cell (HF.out 7 _ rfl);obtain ⟨t,ht⟩:∃ t,(y0v q1 q0).sign=t:=⟨_,rfl⟩
   have htl:(t < 0) ↔ q1 < q0:=by rw[<-ht];exact y1x
   have HT:=hid ht;clear ht;by_cases hl:q1 < q0
   ·have hti:=htl.2 hl;have htb:decide (t < 0)=true:=decide_eq_true hti
    have hy:m1=q1:=by have:=HM1.out;unfold minR at this;rw[if_pos hl] at this;exact this.symm
    clear htl hl;have HY:=hid hy;clear hy;go_upto_region 7 with (fail);obtain ⟨⟨pm0,pm1,pm2,pm3⟩,pm4,pm5,pm6,pm7,pm8⟩:=BM.out.four;clear pm0 pm1 pm2 pm3 pm4 pm5 pm6 pm7 pm8;refine y00 7 (fun W=>W.cell? ⟨g,4,none⟩=some (.int .i64 f1.s)/\W.cell? ⟨g,5,none⟩=some (.slice f1.a f1.l f1.c)/\W.cell? ⟨g,6,none⟩=some (.int .i64 f1.t)/\W.cell? ⟨g,7,none⟩=some (.slice f1.d f1.m f1.k)/\(W.cell? ⟨M,0,none⟩=some (.int .i64 f.s)/\W.cell? ⟨M,1,none⟩=some (.slice f.a f.l f.c)/\W.cell? ⟨M,2,none⟩=some (.int .i64 f.t)/\W.cell? ⟨M,3,none⟩=some (.slice f.d f.m f.k))) 8 #[false,false,false,false,false,false,false,false] rfl (by kernel_rfl) (by kernel_rfl) ?_;refine tk 0 (by exact ⟨e0,e1,e2,e3,cW4 BM⟩) ?_
    try simp only[PT]
    refine tk 1 (by exact ⟨e0,e1,e2,e3,cW4 BM⟩) ?_
    try simp only[PT]
    refine tk 2 (by exact ⟨e0,e1,e2,e3,cW4 BM⟩) ?_
    try simp only[PT]
    refine tk 3 (by exact ⟨e0,e1,e2,e3,cW4 BM⟩) ?_
    try simp only[PT]
    refine tk 4 (by exact ⟨e0,e1,e2,e3,cW4 BM⟩) ?_
    try simp only[PT]
    refine tk 5 (by exact ⟨e0,e1,e2,e3,cW4 BM⟩) ?_
    try simp only[PT]
    refine tk1 6 fun K hK=>?_;go_simp;refine (HCM.out _ _ q1 q0 _ (ER.out.new (New.refl _).drew) (HFX.out.new (New.refl _).drew) B1.out B0.out).mono ?_;rintro e w5 ⟨rfl,hn⟩;rw[HT.out];have hn:=hn.undrew;replace e0:=hn.cell e0;replace e1:=hn.cell e1;replace e2:=hn.cell e2;replace e3:=hn.cell e3;replace BP:=bW BP hn;replace BM:=bW BM hn;replace ER:=hid (ER.out.new hn);replace HN:=tW HN hn;clear hn;refine hK.out _ _ (fun _=>⟨e0,e1,e2,e3,cW4 BM⟩) ?_;clear hK K
    try simp only[PT]
    refine tlW ?_;obtain ⟨⟨pm0,pm1,pm2,pm3⟩,pm4,pm5,pm6,pm7,pm8⟩:=BM.out.four;go_wp2_with fail;clear pm0 pm1 pm2 pm3 pm4 pm5 pm6 pm7 pm8;go_roundw
    case rel=>exact ⟨2,by go_num,hid (.inr <| .inl ⟨rfl,HN.out.put4 LM.out _ _ _ _,BP.out.other4w (Nat.ne_of_gt LM2.out) _ _ _ _,f1,BM.out.put4 _ _ _ _,by rw[HY.out];exact ER.out.put4 BM.out _ _ _ _ _ _ _ _⟩)⟩
    case measure=>simp[RowKit.intOf]
   ·have hti:¬(t < 0):=fun h=>hl (htl.1 h);have htb:decide (t < 0)=false:=decide_eq_false hti
    have hy:m1=q0:=by have:=HM1.out;unfold minR at this;rw[if_neg hl] at this;exact this.symm
    clear htl hl;have HY:=hid hy;clear hy;go_upto_region 7 with (fail);obtain ⟨⟨pm0,pm1,pm2,pm3⟩,pm4,pm5,pm6,pm7,pm8⟩:=BM.out.four;clear pm0 pm1 pm2 pm3 pm4 pm5 pm6 pm7 pm8;refine y00 7 (fun W=>W.cell? ⟨g,4,none⟩=some (.int .i64 f1.s)/\W.cell? ⟨g,5,none⟩=some (.slice f1.a f1.l f1.c)/\W.cell? ⟨g,6,none⟩=some (.int .i64 f1.t)/\W.cell? ⟨g,7,none⟩=some (.slice f1.d f1.m f1.k)/\(W.cell? ⟨M,0,none⟩=some (.int .i64 f.s)/\W.cell? ⟨M,1,none⟩=some (.slice f.a f.l f.c)/\W.cell? ⟨M,2,none⟩=some (.int .i64 f.t)/\W.cell? ⟨M,3,none⟩=some (.slice f.d f.m f.k))) 8 #[false,false,false,false,false,false,false,false] rfl (by kernel_rfl) (by kernel_rfl) ?_;refine tk 0 (by exact ⟨e0,e1,e2,e3,cW4 BM⟩) ?_
    try simp only[PT]
    refine tk 1 (by exact ⟨e0,e1,e2,e3,cW4 BM⟩) ?_
    try simp only[PT]
    refine tk 2 (by exact ⟨e0,e1,e2,e3,cW4 BM⟩) ?_
    try simp only[PT]
    refine tk 3 (by exact ⟨e0,e1,e2,e3,cW4 BM⟩) ?_
    try simp only[PT]
    refine tk 4 (by exact ⟨e0,e1,e2,e3,cW4 BM⟩) ?_
    try simp only[PT]
    refine tk 5 (by exact ⟨e0,e1,e2,e3,cW4 BM⟩) ?_
    try simp only[PT]
    refine tk1 6 fun K hK=>?_;go_simp;refine (HCM.out _ _ q1 q0 _ (ER.out.new (New.refl _).drew) (HFX.out.new (New.refl _).drew) B1.out B0.out).mono ?_;rintro e w5 ⟨rfl,hn⟩;rw[HT.out];have hn:=hn.undrew;replace e0:=hn.cell e0;replace e1:=hn.cell e1;replace e2:=hn.cell e2;replace e3:=hn.cell e3;replace BP:=bW BP hn;replace BM:=bW BM hn;replace HFX:=hid (HFX.out.new hn);replace HN:=tW HN hn;clear hn;refine hK.out _ _ (fun _=>⟨e0,e1,e2,e3,cW4 BM⟩) ?_;clear hK K
    try simp only[PT]
    refine tlW ?_;obtain ⟨⟨pm0,pm1,pm2,pm3⟩,pm4,pm5,pm6,pm7,pm8⟩:=BM.out.four;clear pm0 pm1 pm2 pm3 pm4 pm5 pm6 pm7 pm8;clear e0 e1 e2 e3;go_wp2_with fail;go_roundw
    case rel=>exact ⟨2,by go_num,hid (.inr <| .inl ⟨rfl,HN.out,BP.out,f,BM.out,by rw[HY.out];exact HFX.out⟩)⟩
    case measure=>simp[RowKit.intOf]
  ·skip
   clear HR;have HN:=hid hN;have BP:=hid hB;have BM:=hid hM;have HFX:=hid hf;clear hN hB hM hf;have ER:=hid (H2.out.new HN.out);have e0:=HN.out.cell (HF.out 8 _ rfl);have e1:=HN.out.cell (HF.out 9 _ rfl);have e2:=HN.out.cell (HF.out 10 _ rfl);have e3:=HN.out.cell (HF.out 11 _ rfl);obtain ⟨t,ht⟩:∃ t,(y0v q2 m1).sign=t:=⟨_,rfl⟩
   have htl:(t < 0) ↔ q2 < m1:=by rw[<-ht];exact y1x
   have HT:=hid ht;clear ht;by_cases hl:q2 < m1
   ·have hti:=htl.2 hl;have htb:decide (t < 0)=true:=decide_eq_true hti
    have hy:m2=q2:=by have:=HM2.out;unfold minR at this;rw[if_pos hl] at this;exact this.symm
    clear htl hl;have HY:=hid hy;clear hy;go_upto_region 7 with (fail);obtain ⟨⟨pm0,pm1,pm2,pm3⟩,pm4,pm5,pm6,pm7,pm8⟩:=BM.out.four;clear pm0 pm1 pm2 pm3 pm4 pm5 pm6 pm7 pm8;refine y00 7 (fun W=>W.cell? ⟨g,8,none⟩=some (.int .i64 f2.s)/\W.cell? ⟨g,9,none⟩=some (.slice f2.a f2.l f2.c)/\W.cell? ⟨g,10,none⟩=some (.int .i64 f2.t)/\W.cell? ⟨g,11,none⟩=some (.slice f2.d f2.m f2.k)/\(W.cell? ⟨M,0,none⟩=some (.int .i64 f.s)/\W.cell? ⟨M,1,none⟩=some (.slice f.a f.l f.c)/\W.cell? ⟨M,2,none⟩=some (.int .i64 f.t)/\W.cell? ⟨M,3,none⟩=some (.slice f.d f.m f.k))) 8 #[false,false,false,false,false,false,false,false] rfl (by kernel_rfl) (by kernel_rfl) ?_;refine tk 0 (by exact ⟨e0,e1,e2,e3,cW4 BM⟩) ?_
    try simp only[PT]
    refine tk 1 (by exact ⟨e0,e1,e2,e3,cW4 BM⟩) ?_
    try simp only[PT]
    refine tk 2 (by exact ⟨e0,e1,e2,e3,cW4 BM⟩) ?_
    try simp only[PT]
    refine tk 3 (by exact ⟨e0,e1,e2,e3,cW4 BM⟩) ?_
    try simp only[PT]
    refine tk 4 (by exact ⟨e0,e1,e2,e3,cW4 BM⟩) ?_
    try simp only[PT]
    refine tk 5 (by exact ⟨e0,e1,e2,e3,cW4 BM⟩) ?_
    try simp only[PT]
    refine tk1 6 fun K hK=>?_;go_simp;refine (HCM.out _ _ q2 m1 _ (ER.out.new (New.refl _).drew) (HFX.out.new (New.refl _).drew) B2.out D1.out).mono ?_;rintro e w5 ⟨rfl,hn⟩;rw[HT.out];have hn:=hn.undrew;replace e0:=hn.cell e0;replace e1:=hn.cell e1;replace e2:=hn.cell e2;replace e3:=hn.cell e3;replace BP:=bW BP hn;replace BM:=bW BM hn;replace ER:=hid (ER.out.new hn);replace HN:=tW HN hn;clear hn;refine hK.out _ _ (fun _=>⟨e0,e1,e2,e3,cW4 BM⟩) ?_;clear hK K
    try simp only[PT]
    refine tlW ?_;obtain ⟨⟨pm0,pm1,pm2,pm3⟩,pm4,pm5,pm6,pm7,pm8⟩:=BM.out.four;go_wp2_with fail;clear pm0 pm1 pm2 pm3 pm4 pm5 pm6 pm7 pm8;go_roundw
    case rel=>exact ⟨3,by go_num,hid (.inr <| .inr <| .inl ⟨rfl,HN.out.put4 LM.out _ _ _ _,BP.out.other4w (Nat.ne_of_gt LM2.out) _ _ _ _,f2,BM.out.put4 _ _ _ _,by rw[HY.out];exact ER.out.put4 BM.out _ _ _ _ _ _ _ _⟩)⟩
    case measure=>simp[RowKit.intOf]
   ·have hti:¬(t < 0):=fun h=>hl (htl.1 h);have htb:decide (t < 0)=false:=decide_eq_false hti
    have hy:m2=m1:=by have:=HM2.out;unfold minR at this;rw[if_neg hl] at this;exact this.symm
    clear htl hl;have HY:=hid hy;clear hy;go_upto_region 7 with (fail);obtain ⟨⟨pm0,pm1,pm2,pm3⟩,pm4,pm5,pm6,pm7,pm8⟩:=BM.out.four;clear pm0 pm1 pm2 pm3 pm4 pm5 pm6 pm7 pm8;refine y00 7 (fun W=>W.cell? ⟨g,8,none⟩=some (.int .i64 f2.s)/\W.cell? ⟨g,9,none⟩=some (.slice f2.a f2.l f2.c)/\W.cell? ⟨g,10,none⟩=some (.int .i64 f2.t)/\W.cell? ⟨g,11,none⟩=some (.slice f2.d f2.m f2.k)/\(W.cell? ⟨M,0,none⟩=some (.int .i64 f.s)/\W.cell? ⟨M,1,none⟩=some (.slice f.a f.l f.c)/\W.cell? ⟨M,2,none⟩=some (.int .i64 f.t)/\W.cell? ⟨M,3,none⟩=some (.slice f.d f.m f.k))) 8 #[false,false,false,false,false,false,false,false] rfl (by kernel_rfl) (by kernel_rfl) ?_;refine tk 0 (by exact ⟨e0,e1,e2,e3,cW4 BM⟩) ?_
    try simp only[PT]
    refine tk 1 (by exact ⟨e0,e1,e2,e3,cW4 BM⟩) ?_
    try simp only[PT]
    refine tk 2 (by exact ⟨e0,e1,e2,e3,cW4 BM⟩) ?_
    try simp only[PT]
    refine tk 3 (by exact ⟨e0,e1,e2,e3,cW4 BM⟩) ?_
    try simp only[PT]
    refine tk 4 (by exact ⟨e0,e1,e2,e3,cW4 BM⟩) ?_
    try simp only[PT]
    refine tk 5 (by exact ⟨e0,e1,e2,e3,cW4 BM⟩) ?_
    try simp only[PT]
    refine tk1 6 fun K hK=>?_;go_simp;refine (HCM.out _ _ q2 m1 _ (ER.out.new (New.refl _).drew) (HFX.out.new (New.refl _).drew) B2.out D1.out).mono ?_;rintro e w5 ⟨rfl,hn⟩;rw[HT.out];have hn:=hn.undrew;replace e0:=hn.cell e0;replace e1:=hn.cell e1;replace e2:=hn.cell e2;replace e3:=hn.cell e3;replace BP:=bW BP hn;replace BM:=bW BM hn;replace HFX:=hid (HFX.out.new hn);replace HN:=tW HN hn;clear hn;refine hK.out _ _ (fun _=>⟨e0,e1,e2,e3,cW4 BM⟩) ?_;clear hK K
    try simp only[PT]
    refine tlW ?_;obtain ⟨⟨pm0,pm1,pm2,pm3⟩,pm4,pm5,pm6,pm7,pm8⟩:=BM.out.four;clear pm0 pm1 pm2 pm3 pm4 pm5 pm6 pm7 pm8;clear e0 e1 e2 e3;go_wp2_with fail;go_roundw
    case rel=>exact ⟨3,by go_num,hid (.inr <| .inr <| .inl ⟨rfl,HN.out,BP.out,f,BM.out,by rw[HY.out];exact HFX.out⟩)⟩
    case measure=>simp[RowKit.intOf]
  ·skip
   clear HR;have HN:=hid hN;have BP:=hid hB;have BM:=hid hM;have HFX:=hid hf;clear hN hB hM hf;have ER:=hid (H3.out.new HN.out);have e0:=HN.out.cell (HF.out 12 _ rfl);have e1:=HN.out.cell (HF.out 13 _ rfl);have e2:=HN.out.cell (HF.out 14 _ rfl);have e3:=HN.out.cell (HF.out 15 _ rfl);obtain ⟨t,ht⟩:∃ t,(y0v q3 m2).sign=t:=⟨_,rfl⟩
   have htl:(t < 0) ↔ q3 < m2:=by rw[<-ht];exact y1x
   have HT:=hid ht;clear ht;by_cases hl:q3 < m2
   ·have hti:=htl.2 hl;have htb:decide (t < 0)=true:=decide_eq_true hti
    have hy:m3=q3:=by have:=HM3.out;unfold minR at this;rw[if_pos hl] at this;exact this.symm
    clear htl hl;have HY:=hid hy;clear hy;go_upto_region 7 with (fail);obtain ⟨⟨pm0,pm1,pm2,pm3⟩,pm4,pm5,pm6,pm7,pm8⟩:=BM.out.four;clear pm0 pm1 pm2 pm3 pm4 pm5 pm6 pm7 pm8;refine y00 7 (fun W=>W.cell? ⟨g,12,none⟩=some (.int .i64 f3.s)/\W.cell? ⟨g,13,none⟩=some (.slice f3.a f3.l f3.c)/\W.cell? ⟨g,14,none⟩=some (.int .i64 f3.t)/\W.cell? ⟨g,15,none⟩=some (.slice f3.d f3.m f3.k)/\(W.cell? ⟨M,0,none⟩=some (.int .i64 f.s)/\W.cell? ⟨M,1,none⟩=some (.slice f.a f.l f.c)/\W.cell? ⟨M,2,none⟩=some (.int .i64 f.t)/\W.cell? ⟨M,3,none⟩=some (.slice f.d f.m f.k))) 8 #[false,false,false,false,false,false,false,false] rfl (by kernel_rfl) (by kernel_rfl) ?_;refine tk 0 (by exact ⟨e0,e1,e2,e3,cW4 BM⟩) ?_
    try simp only[PT]
    refine tk 1 (by exact ⟨e0,e1,e2,e3,cW4 BM⟩) ?_
    try simp only[PT]
    refine tk 2 (by exact ⟨e0,e1,e2,e3,cW4 BM⟩) ?_
    try simp only[PT]
    refine tk 3 (by exact ⟨e0,e1,e2,e3,cW4 BM⟩) ?_
    try simp only[PT]
    refine tk 4 (by exact ⟨e0,e1,e2,e3,cW4 BM⟩) ?_
    try simp only[PT]
    refine tk 5 (by exact ⟨e0,e1,e2,e3,cW4 BM⟩) ?_
    try simp only[PT]
    refine tk1 6 fun K hK=>?_;go_simp;refine (HCM.out _ _ q3 m2 _ (ER.out.new (New.refl _).drew) (HFX.out.new (New.refl _).drew) B3.out D2.out).mono ?_;rintro e w5 ⟨rfl,hn⟩;rw[HT.out];have hn:=hn.undrew;replace e0:=hn.cell e0;replace e1:=hn.cell e1;replace e2:=hn.cell e2;replace e3:=hn.cell e3;replace BP:=bW BP hn;replace BM:=bW BM hn;replace ER:=hid (ER.out.new hn);replace HN:=tW HN hn;clear hn;refine hK.out _ _ (fun _=>⟨e0,e1,e2,e3,cW4 BM⟩) ?_;clear hK K
    try simp only[PT]
    refine tlW ?_;obtain ⟨⟨pm0,pm1,pm2,pm3⟩,pm4,pm5,pm6,pm7,pm8⟩:=BM.out.four;go_wp2_with fail;clear pm0 pm1 pm2 pm3 pm4 pm5 pm6 pm7 pm8;go_roundw
    case rel=>exact ⟨4,by go_num,hid (.inr <| .inr <| .inr ⟨rfl,HN.out.put4 LM.out _ _ _ _,BP.out.other4w (Nat.ne_of_gt LM2.out) _ _ _ _,f3,BM.out.put4 _ _ _ _,by rw[HY.out];exact ER.out.put4 BM.out _ _ _ _ _ _ _ _⟩)⟩
    case measure=>simp[RowKit.intOf]
   ·have hti:¬(t < 0):=fun h=>hl (htl.1 h);have htb:decide (t < 0)=false:=decide_eq_false hti
    have hy:m3=m2:=by have:=HM3.out;unfold minR at this;rw[if_neg hl] at this;exact this.symm
    clear htl hl;have HY:=hid hy;clear hy;go_upto_region 7 with (fail);obtain ⟨⟨pm0,pm1,pm2,pm3⟩,pm4,pm5,pm6,pm7,pm8⟩:=BM.out.four;clear pm0 pm1 pm2 pm3 pm4 pm5 pm6 pm7 pm8;refine y00 7 (fun W=>W.cell? ⟨g,12,none⟩=some (.int .i64 f3.s)/\W.cell? ⟨g,13,none⟩=some (.slice f3.a f3.l f3.c)/\W.cell? ⟨g,14,none⟩=some (.int .i64 f3.t)/\W.cell? ⟨g,15,none⟩=some (.slice f3.d f3.m f3.k)/\(W.cell? ⟨M,0,none⟩=some (.int .i64 f.s)/\W.cell? ⟨M,1,none⟩=some (.slice f.a f.l f.c)/\W.cell? ⟨M,2,none⟩=some (.int .i64 f.t)/\W.cell? ⟨M,3,none⟩=some (.slice f.d f.m f.k))) 8 #[false,false,false,false,false,false,false,false] rfl (by kernel_rfl) (by kernel_rfl) ?_;refine tk 0 (by exact ⟨e0,e1,e2,e3,cW4 BM⟩) ?_
    try simp only[PT]
    refine tk 1 (by exact ⟨e0,e1,e2,e3,cW4 BM⟩) ?_
    try simp only[PT]
    refine tk 2 (by exact ⟨e0,e1,e2,e3,cW4 BM⟩) ?_
    try simp only[PT]
    refine tk 3 (by exact ⟨e0,e1,e2,e3,cW4 BM⟩) ?_
    try simp only[PT]
    refine tk 4 (by exact ⟨e0,e1,e2,e3,cW4 BM⟩) ?_
    try simp only[PT]
    refine tk 5 (by exact ⟨e0,e1,e2,e3,cW4 BM⟩) ?_
    try simp only[PT]
    refine tk1 6 fun K hK=>?_;go_simp;refine (HCM.out _ _ q3 m2 _ (ER.out.new (New.refl _).drew) (HFX.out.new (New.refl _).drew) B3.out D2.out).mono ?_;rintro e w5 ⟨rfl,hn⟩;rw[HT.out];have hn:=hn.undrew;replace e0:=hn.cell e0;replace e1:=hn.cell e1;replace e2:=hn.cell e2;replace e3:=hn.cell e3;replace BP:=bW BP hn;replace BM:=bW BM hn;replace HFX:=hid (HFX.out.new hn);replace HN:=tW HN hn;clear hn;refine hK.out _ _ (fun _=>⟨e0,e1,e2,e3,cW4 BM⟩) ?_;clear hK K
    try simp only[PT]
    refine tlW ?_;obtain ⟨⟨pm0,pm1,pm2,pm3⟩,pm4,pm5,pm6,pm7,pm8⟩:=BM.out.four;clear pm0 pm1 pm2 pm3 pm4 pm5 pm6 pm7 pm8;clear e0 e1 e2 e3;go_wp2_with fail;go_roundw
    case rel=>exact ⟨4,by go_num,hid (.inr <| .inr <| .inr ⟨rfl,HN.out,BP.out,f,BM.out,by rw[HY.out];exact HFX.out⟩)⟩
    case measure=>simp[RowKit.intOf]
  ·clear HR;have HN:=hid hN;have BP:=hid hB;have BM:=hid hM;have HFX:=hid hf;clear hN hB hM hf;obtain ⟨⟨pm0,pm1,pm2,pm3⟩,pm4,pm5,pm6,pm7,pm8⟩:=BM.out.four;obtain ⟨⟨p0,p1,p2,p3⟩,p4,p5,p6,p7,p8⟩:=BP.out.four;go_wp2_with fail;refine bodyPost_ret (v:=f.val) (by simp[results,Tryz.results201,go_sem,p0,p1,p2,p3]) rfl ?_;exact ⟨_,rfl,HN.out.put4 (Nat.le_refl _) _ _ _ _,HFX.out.put4 BP.out _ _ _ _ _ _ _ _⟩
theorem ye6 (g cap:Nat)(f0 f1 f2 f3:FVal)(q0 q1 q2 q3:Rat)(kb:Nat)(w:World)(hF:Fr4 w g f0 f1 f2 f3)(h0:y07 w f0.val q0)(h1:y07 w f1.val q1)(h2:y07 w f2.val q2)(h3:y07 w f3.val q3)(b0:FB kb q0)(b1:FB kb q1)(b2:FB kb q2)(b3:FB kb q3)(hk:kb<=20000000):
  Calls Tryz.prog 202 #[.slice (some ⟨g,0,none⟩) 4 cap,.func (.func 90) #[] #[]] w (y1h w (maxR (maxR (maxR q0 q1) q2) q3)):=by
 have hcm:=fun va vb p q W h1 h2 bp bq=>y16 va vb p q kb kb W h1 h2 bp bq (by omega);unfold y1t at hcm;obtain ⟨m1,hm1⟩:∃ x,maxR q0 q1=x:=⟨_,rfl⟩;obtain ⟨m2,hm2⟩:∃ x,maxR m1 q2=x:=⟨_,rfl⟩;obtain ⟨m3,hm3⟩:∃ x,maxR m2 q3=x:=⟨_,rfl⟩
 have key:∀ {x y z:Rat},maxR x y=z->FB kb x->FB kb y->FB kb z:=fun {x y z} e hx hy=>by
  rw[<-e];unfold maxR;split
  ·exact hy
  ·exact hx
 have d1:=key hm1 b0 b1;have d2:=key hm2 d1 b2;rw[hm1,hm2,hm3];clear key hk;have HF:=hid hF;have H0:=hid h0;have H1:=hid h1;have H2:=hid h2;have H3:=hid h3;have B0:=hid b0;have B1:=hid b1;have B2:=hid b2;have B3:=hid b3;have D1:=hid d1;have D2:=hid d2;have HCM:=hid hcm;have HM1:=hid hm1;have HM2:=hid hm2;have HM3:=hid hm3;clear hF h0 h1 h2 h3 b0 b1 b2 b3 d1 d2 hcm hm1 hm2 hm3;go_enter Tryz.func202,Tryz.ntmps202;go_upto_region 1 with (fail);obtain ⟨BP,HN⟩:=lay1 w 115 #[.int .i64 0,.slice none 0 0,.int .i64 0,.slice none 0 0];obtain ⟨w8,hw8⟩:∃ u,w.alloc (.cells #[.int .i64 0,.slice none 0 0,.int .i64 0,.slice none 0 0] 115)=u:=⟨_,rfl⟩;rw[hw8] at BP HN⊢;clear hw8;have c0:=HN.out.cell (HF.out 0 _ rfl);have c1:=HN.out.cell (HF.out 1 _ rfl);have c2:=HN.out.cell (HF.out 2 _ rfl);have c3:=HN.out.cell (HF.out 3 _ rfl);go_upto_region 4 with (fail);clear c0 c1 c2 c3;have LM:=hid HN.out.size;have LM2:=hid BP.out.lt;have HN0:=HN;clear HN;obtain ⟨BM,HN⟩:=lay1 w8 115 #[.int .i64 f0.s,.slice f0.a f0.l f0.c,.int .i64 f0.t,.slice f0.d f0.m f0.k];replace BP:=hid (BP.out.new HN.out);have HN_:=HN0.out.trans HN.out;clear HN HN0;have HN:=hid HN_;clear HN_;obtain ⟨M,hM⟩:∃ u,w8.heap.size=u:=⟨_,rfl⟩;rw[hM] at BM LM LM2⊢;clear hM;have hst:y6n w _ M q0:=⟨HN.out,BP.out,f0,BM.out,H0.out.new HN.out⟩;clear BM BP HN;have HS:=hid hst;clear hst;go_wp2_with fail;go_loopw [6] (fun i wr=>∃ k:Nat,i=.int .i64 (k:Int)/\Hid ((k=1/\y6n w wr M q0)\/(k=2/\y6n w wr M m1)\/(k=3/\y6n w wr M m2)\/(k=4/\y6n w wr M m3))) (fun i _=>4 - (RowKit.intOf i).toNat)
 case atStart=>exact ⟨1,rfl,hid (.inl ⟨rfl,HS.out⟩)⟩
 case round=>
  clear HS;obtain ⟨k,rfl,HR⟩:=hrel;rcases HR.out with ⟨rfl,hN,hB,f,hM,hf⟩ | ⟨rfl,hN,hB,f,hM,hf⟩ | ⟨rfl,hN,hB,f,hM,hf⟩ | ⟨rfl,hN,hB,f,hM,hf⟩
  ·skip
   clear HR;have HN:=hid hN;have BP:=hid hB;have BM:=hid hM;have HFX:=hid hf;clear hN hB hM hf;have ER:=hid (H1.out.new HN.out);have e0:=HN.out.cell (HF.out 4 _ rfl);have e1:=HN.out.cell (HF.out 5 _ rfl);have e2:=HN.out.cell (HF.out 6 _ rfl);have e3:=HN.out.cell (HF.out 7 _ rfl);obtain ⟨t,ht⟩:∃ t,(y0v q1 q0).sign=t:=⟨_,rfl⟩
   have htl:(0 < t) ↔ q0 < q1:=by rw[<-ht];exact y2o
   have HT:=hid ht;clear ht;by_cases hl:q0 < q1
   ·have hti:=htl.2 hl;have htb:decide (0 < t)=true:=decide_eq_true hti
    have hy:m1=q1:=by have:=HM1.out;unfold maxR at this;rw[if_pos hl] at this;exact this.symm
    clear htl hl;have HY:=hid hy;clear hy;go_upto_region 7 with (fail);obtain ⟨⟨pm0,pm1,pm2,pm3⟩,pm4,pm5,pm6,pm7,pm8⟩:=BM.out.four;clear pm0 pm1 pm2 pm3 pm4 pm5 pm6 pm7 pm8;refine y00 7 (fun W=>W.cell? ⟨g,4,none⟩=some (.int .i64 f1.s)/\W.cell? ⟨g,5,none⟩=some (.slice f1.a f1.l f1.c)/\W.cell? ⟨g,6,none⟩=some (.int .i64 f1.t)/\W.cell? ⟨g,7,none⟩=some (.slice f1.d f1.m f1.k)/\(W.cell? ⟨M,0,none⟩=some (.int .i64 f.s)/\W.cell? ⟨M,1,none⟩=some (.slice f.a f.l f.c)/\W.cell? ⟨M,2,none⟩=some (.int .i64 f.t)/\W.cell? ⟨M,3,none⟩=some (.slice f.d f.m f.k))) 8 #[false,false,false,false,false,false,false,false] rfl (by kernel_rfl) (by kernel_rfl) ?_;refine tk 0 (by exact ⟨e0,e1,e2,e3,cW4 BM⟩) ?_
    try simp only[PT]
    refine tk 1 (by exact ⟨e0,e1,e2,e3,cW4 BM⟩) ?_
    try simp only[PT]
    refine tk 2 (by exact ⟨e0,e1,e2,e3,cW4 BM⟩) ?_
    try simp only[PT]
    refine tk 3 (by exact ⟨e0,e1,e2,e3,cW4 BM⟩) ?_
    try simp only[PT]
    refine tk 4 (by exact ⟨e0,e1,e2,e3,cW4 BM⟩) ?_
    try simp only[PT]
    refine tk 5 (by exact ⟨e0,e1,e2,e3,cW4 BM⟩) ?_
    try simp only[PT]
    refine tk1 6 fun K hK=>?_;go_simp;refine (HCM.out _ _ q1 q0 _ (ER.out.new (New.refl _).drew) (HFX.out.new (New.refl _).drew) B1.out B0.out).mono ?_;rintro e w5 ⟨rfl,hn⟩;rw[HT.out];have hn:=hn.undrew;replace e0:=hn.cell e0;replace e1:=hn.cell e1;replace e2:=hn.cell e2;replace e3:=hn.cell e3;replace BP:=bW BP hn;replace BM:=bW BM hn;replace ER:=hid (ER.out.new hn);replace HN:=tW HN hn;clear hn;refine hK.out _ _ (fun _=>⟨e0,e1,e2,e3,cW4 BM⟩) ?_;clear hK K
    try simp only[PT]
    refine tlW ?_;obtain ⟨⟨pm0,pm1,pm2,pm3⟩,pm4,pm5,pm6,pm7,pm8⟩:=BM.out.four;go_wp2_with fail;clear pm0 pm1 pm2 pm3 pm4 pm5 pm6 pm7 pm8;go_roundw
    case rel=>exact ⟨2,by go_num,hid (.inr <| .inl ⟨rfl,HN.out.put4 LM.out _ _ _ _,BP.out.other4w (Nat.ne_of_gt LM2.out) _ _ _ _,f1,BM.out.put4 _ _ _ _,by rw[HY.out];exact ER.out.put4 BM.out _ _ _ _ _ _ _ _⟩)⟩
    case measure=>simp[RowKit.intOf]
   ·have hti:¬(0 < t):=fun h=>hl (htl.1 h);have htb:decide (0 < t)=false:=decide_eq_false hti
    have hy:m1=q0:=by have:=HM1.out;unfold maxR at this;rw[if_neg hl] at this;exact this.symm
    clear htl hl;have HY:=hid hy;clear hy;go_upto_region 7 with (fail);obtain ⟨⟨pm0,pm1,pm2,pm3⟩,pm4,pm5,pm6,pm7,pm8⟩:=BM.out.four;clear pm0 pm1 pm2 pm3 pm4 pm5 pm6 pm7 pm8;refine y00 7 (fun W=>W.cell? ⟨g,4,none⟩=some (.int .i64 f1.s)/\W.cell? ⟨g,5,none⟩=some (.slice f1.a f1.l f1.c)/\W.cell? ⟨g,6,none⟩=some (.int .i64 f1.t)/\W.cell? ⟨g,7,none⟩=some (.slice f1.d f1.m f1.k)/\(W.cell? ⟨M,0,none⟩=some (.int .i64 f.s)/\W.cell? ⟨M,1,none⟩=some (.slice f.a f.l f.c)/\W.cell? ⟨M,2,none⟩=some (.int .i64 f.t)/\W.cell? ⟨M,3,none⟩=some (.slice f.d f.m f.k))) 8 #[false,false,false,false,false,false,false,false] rfl (by kernel_rfl) (by kernel_rfl) ?_;refine tk 0 (by exact ⟨e0,e1,e2,e3,cW4 BM⟩) ?_
    try simp only[PT]
    refine tk 1 (by exact ⟨e0,e1,e2,e3,cW4 BM⟩) ?_
    try simp only[PT]
    refine tk 2 (by exact ⟨e0,e1,e2,e3,cW4 BM⟩) ?_
    try simp only[PT]
    refine tk 3 (by exact ⟨e0,e1,e2,e3,cW4 BM⟩) ?_
    try simp only[PT]
    refine tk 4 (by exact ⟨e0,e1,e2,e3,cW4 BM⟩) ?_
    try simp only[PT]
    refine tk 5 (by exact ⟨e0,e1,e2,e3,cW4 BM⟩) ?_
    try simp only[PT]
    refine tk1 6 fun K hK=>?_;go_simp;refine (HCM.out _ _ q1 q0 _ (ER.out.new (New.refl _).drew) (HFX.out.new (New.refl _).drew) B1.out B0.out).mono ?_;rintro e w5 ⟨rfl,hn⟩;rw[HT.out];have hn:=hn.undrew;replace e0:=hn.cell e0;replace e1:=hn.cell e1;replace e2:=hn.cell e2;replace e3:=hn.cell e3;replace BP:=bW BP hn;replace BM:=bW BM hn;replace HFX:=hid (HFX.out.new hn);replace HN:=tW HN hn;clear hn;refine hK.out _ _ (fun _=>⟨e0,e1,e2,e3,cW4 BM⟩) ?_;clear hK K
    try simp only[PT]
    refine tlW ?_;obtain ⟨⟨pm0,pm1,pm2,pm3⟩,pm4,pm5,pm6,pm7,pm8⟩:=BM.out.four;clear pm0 pm1 pm2 pm3 pm4 pm5 pm6 pm7 pm8;clear e0 e1 e2 e3;go_wp2_with fail;go_roundw
    case rel=>exact ⟨2,by go_num,hid (.inr <| .inl ⟨rfl,HN.out,BP.out,f,BM.out,by rw[HY.out];exact HFX.out⟩)⟩
    case measure=>simp[RowKit.intOf]
  ·skip
   clear HR;have HN:=hid hN;have BP:=hid hB;have BM:=hid hM;have HFX:=hid hf;clear hN hB hM hf;have ER:=hid (H2.out.new HN.out);have e0:=HN.out.cell (HF.out 8 _ rfl);have e1:=HN.out.cell (HF.out 9 _ rfl);have e2:=HN.out.cell (HF.out 10 _ rfl);have e3:=HN.out.cell (HF.out 11 _ rfl);obtain ⟨t,ht⟩:∃ t,(y0v q2 m1).sign=t:=⟨_,rfl⟩
   have htl:(0 < t) ↔ m1 < q2:=by rw[<-ht];exact y2o
   have HT:=hid ht;clear ht;by_cases hl:m1 < q2
   ·have hti:=htl.2 hl;have htb:decide (0 < t)=true:=decide_eq_true hti
    have hy:m2=q2:=by have:=HM2.out;unfold maxR at this;rw[if_pos hl] at this;exact this.symm
    clear htl hl;have HY:=hid hy;clear hy;go_upto_region 7 with (fail);obtain ⟨⟨pm0,pm1,pm2,pm3⟩,pm4,pm5,pm6,pm7,pm8⟩:=BM.out.four;clear pm0 pm1 pm2 pm3 pm4 pm5 pm6 pm7 pm8;refine y00 7 (fun W=>W.cell? ⟨g,8,none⟩=some (.int .i64 f2.s)/\W.cell? ⟨g,9,none⟩=some (.slice f2.a f2.l f2.c)/\W.cell? ⟨g,10,none⟩=some (.int .i64 f2.t)/\W.cell? ⟨g,11,none⟩=some (.slice f2.d f2.m f2.k)/\(W.cell? ⟨M,0,none⟩=some (.int .i64 f.s)/\W.cell? ⟨M,1,none⟩=some (.slice f.a f.l f.c)/\W.cell? ⟨M,2,none⟩=some (.int .i64 f.t)/\W.cell? ⟨M,3,none⟩=some (.slice f.d f.m f.k))) 8 #[false,false,false,false,false,false,false,false] rfl (by kernel_rfl) (by kernel_rfl) ?_;refine tk 0 (by exact ⟨e0,e1,e2,e3,cW4 BM⟩) ?_
    try simp only[PT]
    refine tk 1 (by exact ⟨e0,e1,e2,e3,cW4 BM⟩) ?_
    try simp only[PT]
    refine tk 2 (by exact ⟨e0,e1,e2,e3,cW4 BM⟩) ?_
    try simp only[PT]
    refine tk 3 (by exact ⟨e0,e1,e2,e3,cW4 BM⟩) ?_
    try simp only[PT]
    refine tk 4 (by exact ⟨e0,e1,e2,e3,cW4 BM⟩) ?_
    try simp only[PT]
    refine tk 5 (by exact ⟨e0,e1,e2,e3,cW4 BM⟩) ?_
    try simp only[PT]
    refine tk1 6 fun K hK=>?_;go_simp;refine (HCM.out _ _ q2 m1 _ (ER.out.new (New.refl _).drew) (HFX.out.new (New.refl _).drew) B2.out D1.out).mono ?_;rintro e w5 ⟨rfl,hn⟩;rw[HT.out];have hn:=hn.undrew;replace e0:=hn.cell e0;replace e1:=hn.cell e1;replace e2:=hn.cell e2;replace e3:=hn.cell e3;replace BP:=bW BP hn;replace BM:=bW BM hn;replace ER:=hid (ER.out.new hn);replace HN:=tW HN hn;clear hn;refine hK.out _ _ (fun _=>⟨e0,e1,e2,e3,cW4 BM⟩) ?_;clear hK K
    try simp only[PT]
    refine tlW ?_;obtain ⟨⟨pm0,pm1,pm2,pm3⟩,pm4,pm5,pm6,pm7,pm8⟩:=BM.out.four;go_wp2_with fail;clear pm0 pm1 pm2 pm3 pm4 pm5 pm6 pm7 pm8;go_roundw
    case rel=>exact ⟨3,by go_num,hid (.inr <| .inr <| .inl ⟨rfl,HN.out.put4 LM.out _ _ _ _,BP.out.other4w (Nat.ne_of_gt LM2.out) _ _ _ _,f2,BM.out.put4 _ _ _ _,by rw[HY.out];exact ER.out.put4 BM.out _ _ _ _ _ _ _ _⟩)⟩
    case measure=>simp[RowKit.intOf]
   ·have hti:¬(0 < t):=fun h=>hl (htl.1 h);have htb:decide (0 < t)=false:=decide_eq_false hti
    have hy:m2=m1:=by have:=HM2.out;unfold maxR at this;rw[if_neg hl] at this;exact this.symm
    clear htl hl;have HY:=hid hy;clear hy;go_upto_region 7 with (fail);obtain ⟨⟨pm0,pm1,pm2,pm3⟩,pm4,pm5,pm6,pm7,pm8⟩:=BM.out.four;clear pm0 pm1 pm2 pm3 pm4 pm5 pm6 pm7 pm8;refine y00 7 (fun W=>W.cell? ⟨g,8,none⟩=some (.int .i64 f2.s)/\W.cell? ⟨g,9,none⟩=some (.slice f2.a f2.l f2.c)/\W.cell? ⟨g,10,none⟩=some (.int .i64 f2.t)/\W.cell? ⟨g,11,none⟩=some (.slice f2.d f2.m f2.k)/\(W.cell? ⟨M,0,none⟩=some (.int .i64 f.s)/\W.cell? ⟨M,1,none⟩=some (.slice f.a f.l f.c)/\W.cell? ⟨M,2,none⟩=some (.int .i64 f.t)/\W.cell? ⟨M,3,none⟩=some (.slice f.d f.m f.k))) 8 #[false,false,false,false,false,false,false,false] rfl (by kernel_rfl) (by kernel_rfl) ?_;refine tk 0 (by exact ⟨e0,e1,e2,e3,cW4 BM⟩) ?_
    try simp only[PT]
    refine tk 1 (by exact ⟨e0,e1,e2,e3,cW4 BM⟩) ?_
    try simp only[PT]
    refine tk 2 (by exact ⟨e0,e1,e2,e3,cW4 BM⟩) ?_
    try simp only[PT]
    refine tk 3 (by exact ⟨e0,e1,e2,e3,cW4 BM⟩) ?_
    try simp only[PT]
    refine tk 4 (by exact ⟨e0,e1,e2,e3,cW4 BM⟩) ?_
    try simp only[PT]
    refine tk 5 (by exact ⟨e0,e1,e2,e3,cW4 BM⟩) ?_
    try simp only[PT]
    refine tk1 6 fun K hK=>?_;go_simp;refine (HCM.out _ _ q2 m1 _ (ER.out.new (New.refl _).drew) (HFX.out.new (New.refl _).drew) B2.out D1.out).mono ?_;rintro e w5 ⟨rfl,hn⟩;rw[HT.out];have hn:=hn.undrew;replace e0:=hn.cell e0;replace e1:=hn.cell e1;replace e2:=hn.cell e2;replace e3:=hn.cell e3;replace BP:=bW BP hn;replace BM:=bW BM hn;replace HFX:=hid (HFX.out.new hn);replace HN:=tW HN hn;clear hn;refine hK.out _ _ (fun _=>⟨e0,e1,e2,e3,cW4 BM⟩) ?_;clear hK K
    try simp only[PT]
    refine tlW ?_;obtain ⟨⟨pm0,pm1,pm2,pm3⟩,pm4,pm5,pm6,pm7,pm8⟩:=BM.out.four;clear pm0 pm1 pm2 pm3 pm4 pm5 pm6 pm7 pm8;clear e0 e1 e2 e3;go_wp2_with fail;go_roundw
    case rel=>exact ⟨3,by go_num,hid (.inr <| .inr <| .inl ⟨rfl,HN.out,BP.out,f,BM.out,by rw[HY.out];exact HFX.out⟩)⟩
    case measure=>simp[RowKit.intOf]
  ·skip
   clear HR;have HN:=hid hN;have BP:=hid hB;have BM:=hid hM;have HFX:=hid hf;clear hN hB hM hf;have ER:=hid (H3.out.new HN.out);have e0:=HN.out.cell (HF.out 12 _ rfl);have e1:=HN.out.cell (HF.out 13 _ rfl);have e2:=HN.out.cell (HF.out 14 _ rfl);have e3:=HN.out.cell (HF.out 15 _ rfl);obtain ⟨t,ht⟩:∃ t,(y0v q3 m2).sign=t:=⟨_,rfl⟩
   have htl:(0 < t) ↔ m2 < q3:=by rw[<-ht];exact y2o
   have HT:=hid ht;clear ht;by_cases hl:m2 < q3
   ·have hti:=htl.2 hl;have htb:decide (0 < t)=true:=decide_eq_true hti
    have hy:m3=q3:=by have:=HM3.out;unfold maxR at this;rw[if_pos hl] at this;exact this.symm
    clear htl hl;have HY:=hid hy;clear hy;go_upto_region 7 with (fail);obtain ⟨⟨pm0,pm1,pm2,pm3⟩,pm4,pm5,pm6,pm7,pm8⟩:=BM.out.four;clear pm0 pm1 pm2 pm3 pm4 pm5 pm6 pm7 pm8;refine y00 7 (fun W=>W.cell? ⟨g,12,none⟩=some (.int .i64 f3.s)/\W.cell? ⟨g,13,none⟩=some (.slice f3.a f3.l f3.c)/\W.cell? ⟨g,14,none⟩=some (.int .i64 f3.t)/\W.cell? ⟨g,15,none⟩=some (.slice f3.d f3.m f3.k)/\(W.cell? ⟨M,0,none⟩=some (.int .i64 f.s)/\W.cell? ⟨M,1,none⟩=some (.slice f.a f.l f.c)/\W.cell? ⟨M,2,none⟩=some (.int .i64 f.t)/\W.cell? ⟨M,3,none⟩=some (.slice f.d f.m f.k))) 8 #[false,false,false,false,false,false,false,false] rfl (by kernel_rfl) (by kernel_rfl) ?_;refine tk 0 (by exact ⟨e0,e1,e2,e3,cW4 BM⟩) ?_
    try simp only[PT]
    refine tk 1 (by exact ⟨e0,e1,e2,e3,cW4 BM⟩) ?_
    try simp only[PT]
    refine tk 2 (by exact ⟨e0,e1,e2,e3,cW4 BM⟩) ?_
    try simp only[PT]
    refine tk 3 (by exact ⟨e0,e1,e2,e3,cW4 BM⟩) ?_
    try simp only[PT]
    refine tk 4 (by exact ⟨e0,e1,e2,e3,cW4 BM⟩) ?_
    try simp only[PT]
    refine tk 5 (by exact ⟨e0,e1,e2,e3,cW4 BM⟩) ?_
    try simp only[PT]
    refine tk1 6 fun K hK=>?_;go_simp;refine (HCM.out _ _ q3 m2 _ (ER.out.new (New.refl _).drew) (HFX.out.new (New.refl _).drew) B3.out D2.out).mono ?_;rintro e w5 ⟨rfl,hn⟩;rw[HT.out];have hn:=hn.undrew;replace e0:=hn.cell e0;replace e1:=hn.cell e1;replace e2:=hn.cell e2;replace e3:=hn.cell e3;replace BP:=bW BP hn;replace BM:=bW BM hn;replace ER:=hid (ER.out.new hn);replace HN:=tW HN hn;clear hn;refine hK.out _ _ (fun _=>⟨e0,e1,e2,e3,cW4 BM⟩) ?_;clear hK K
    try simp only[PT]
    refine tlW ?_;obtain ⟨⟨pm0,pm1,pm2,pm3⟩,pm4,pm5,pm6,pm7,pm8⟩:=BM.out.four;go_wp2_with fail;clear pm0 pm1 pm2 pm3 pm4 pm5 pm6 pm7 pm8;go_roundw
    case rel=>exact ⟨4,by go_num,hid (.inr <| .inr <| .inr ⟨rfl,HN.out.put4 LM.out _ _ _ _,BP.out.other4w (Nat.ne_of_gt LM2.out) _ _ _ _,f3,BM.out.put4 _ _ _ _,by rw[HY.out];exact ER.out.put4 BM.out _ _ _ _ _ _ _ _⟩)⟩
    case measure=>simp[RowKit.intOf]
   ·have hti:¬(0 < t):=fun h=>hl (htl.1 h);have htb:decide (0 < t)=false:=decide_eq_false hti
    have hy:m3=m2:=by have:=HM3.out;unfold maxR at this;rw[if_neg hl] at this;exact this.symm
    clear htl hl;have HY:=hid hy;clear hy;go_upto_region 7 with (fail);obtain ⟨⟨pm0,pm1,pm2,pm3⟩,pm4,pm5,pm6,pm7,pm8⟩:=BM.out.four;clear pm0 pm1 pm2 pm3 pm4 pm5 pm6 pm7 pm8;refine y00 7 (fun W=>W.cell? ⟨g,12,none⟩=some (.int .i64 f3.s)/\W.cell? ⟨g,13,none⟩=some (.slice f3.a f3.l f3.c)/\W.cell? ⟨g,14,none⟩=some (.int .i64 f3.t)/\W.cell? ⟨g,15,none⟩=some (.slice f3.d f3.m f3.k)/\(W.cell? ⟨M,0,none⟩=some (.int .i64 f.s)/\W.cell? ⟨M,1,none⟩=some (.slice f.a f.l f.c)/\W.cell? ⟨M,2,none⟩=some (.int .i64 f.t)/\W.cell? ⟨M,3,none⟩=some (.slice f.d f.m f.k))) 8 #[false,false,false,false,false,false,false,false] rfl (by kernel_rfl) (by kernel_rfl) ?_;refine tk 0 (by exact ⟨e0,e1,e2,e3,cW4 BM⟩) ?_
    try simp only[PT]
    refine tk 1 (by exact ⟨e0,e1,e2,e3,cW4 BM⟩) ?_
    try simp only[PT]
    refine tk 2 (by exact ⟨e0,e1,e2,e3,cW4 BM⟩) ?_
    try simp only[PT]
    refine tk 3 (by exact ⟨e0,e1,e2,e3,cW4 BM⟩) ?_
    try simp only[PT]
    refine tk 4 (by exact ⟨e0,e1,e2,e3,cW4 BM⟩) ?_
    try simp only[PT]
    refine tk 5 (by exact ⟨e0,e1,e2,e3,cW4 BM⟩) ?_
    try simp only[PT]
    refine tk1 6 fun K hK=>?_;go_simp;refine (HCM.out _ _ q3 m2 _ (ER.out.new (New.refl _).drew) (HFX.out.new (New.refl _).drew) B3.out D2.out).mono ?_;rintro e w5 ⟨rfl,hn⟩;rw[HT.out];have hn:=hn.undrew;replace e0:=hn.cell e0;replace e1:=hn.cell e1;replace e2:=hn.cell e2;replace e3:=hn.cell e3;replace BP:=bW BP hn;replace BM:=bW BM hn;replace HFX:=hid (HFX.out.new hn);replace HN:=tW HN hn;clear hn;refine hK.out _ _ (fun _=>⟨e0,e1,e2,e3,cW4 BM⟩) ?_;clear hK K
    try simp only[PT]
    refine tlW ?_;obtain ⟨⟨pm0,pm1,pm2,pm3⟩,pm4,pm5,pm6,pm7,pm8⟩:=BM.out.four;clear pm0 pm1 pm2 pm3 pm4 pm5 pm6 pm7 pm8;clear e0 e1 e2 e3;go_wp2_with fail;go_roundw
    case rel=>exact ⟨4,by go_num,hid (.inr <| .inr <| .inr ⟨rfl,HN.out,BP.out,f,BM.out,by rw[HY.out];exact HFX.out⟩)⟩
    case measure=>simp[RowKit.intOf]
  ·clear HR;have HN:=hid hN;have BP:=hid hB;have BM:=hid hM;have HFX:=hid hf;clear hN hB hM hf;obtain ⟨⟨pm0,pm1,pm2,pm3⟩,pm4,pm5,pm6,pm7,pm8⟩:=BM.out.four;obtain ⟨⟨p0,p1,p2,p3⟩,p4,p5,p6,p7,p8⟩:=BP.out.four;go_wp2_with fail;refine bodyPost_ret (v:=f.val) (by simp[results,Tryz.results202,go_sem,p0,p1,p2,p3]) rfl ?_;exact ⟨_,rfl,HN.out.put4 (Nat.le_refl _) _ _ _ _,HFX.out.put4 BP.out _ _ _ _ _ _ _ _⟩
end Go.Proofs.YtnjonlnemagomaaGreatDoor
