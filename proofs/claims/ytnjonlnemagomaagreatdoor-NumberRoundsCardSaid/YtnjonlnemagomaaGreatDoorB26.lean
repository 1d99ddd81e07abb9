/- Part B26. -/
import Derived.OwnWalk
import Derived.Deep.CutBlock
import Derived.Deep.DeepCutAuto
import Derived.Test.YtnjonlnemagomaaGreatDoorB11
import Derived.Test.YtnjonlnemagomaaGreatDoorB24
namespace Go.Proofs.YtnjonlnemagomaaGreatDoor
open Go.RowKit Big Tryz
open Go.Lib (hid)
set_option maxRecDepth 100000
set_option maxHeartbeats 8000000
set_option linter.all false
def Fr2 (W:World)(b:Nat)(p q:Rat):Prop:=∃ (s:Int) (a:Option Addr) (l c:Nat) (t:Int) (d:Option Addr) (m k:Nat) (s':Int) (a':Option Addr) (l' c':Nat) (t':Int) (d':Option Addr) (m' k':Nat),
 Box W b 115 #[.int .i64 s,.slice a l c,.int .i64 t,.slice d m k,.int .i64 s',.slice a' l' c',.int .i64 t',.slice d' m' k']∧
 IsFrac W (.agg #[.int .i64 s,.slice a l c,.int .i64 t,.slice d m k]) p∧IsFrac W (.agg #[.int .i64 s',.slice a' l' c',.int .i64 t',.slice d' m' k']) q
theorem info_frac:(prog.info? 115).map (fun i=>(i.zero,i.size,i.bytes))=some (some (.agg #[.int .i64 0,.slice none 0 0,.int .i64 0,.slice none 0 0]),4,64):=by kernel_rfl
theorem made_two:madeCells (Value.agg #[.int .i64 0,.slice none 0 0,.int .i64 0,.slice none 0 0]).cells 8=#[.int .i64 0,.slice none 0 0,.int .i64 0,.slice none 0 0,.int .i64 0,.slice none 0 0,.int .i64 0,.slice none 0 0]:=by kernel_rfl
theorem run_make_frac2 (w:World):(Instr.makeSlice 201 (.int .i64 2) (.int .i64 2)).run prog w=.ok (.slice (some ⟨w.heap.size,0,none⟩) 2 2) (w.alloc (.cells #[.int .i64 0,.slice none 0 0,.int .i64 0,.slice none 0 0,.int .i64 0,.slice none 0 0,.int .i64 0,.slice none 0 0] 115)):=by
 obtain ⟨i,hi,aa,ab,ac⟩:=info_parts info_frac;have hr:=run_make (P:=prog) w 201 115 i _ underlying201 hi aa .i64 .i64 2 2 (by omega) (Int.le_refl _) (by rw[ac];omega) (by omega)
 have e:(2:Int).toNat*i.size=8:=by rw[ab];rfl
 rw[e,made_two]at hr;exact hr
theorem IsFrac.setN {w:World}{v:Value}{q:Rat}(h:IsFrac w v q){B:Nat}(hd:NoDig w B)(o1 o2 o3 o4:Nat)(n n':Int)(b b':Option Addr)(m k m' k':Nat):
  IsFrac ((((w.setCell ⟨B,o1,none⟩ (.int .i64 n)).setCell ⟨B,o2,none⟩ (.slice b m k)).setCell ⟨B,o3,none⟩ (.int .i64 n')).setCell ⟨B,o4,none⟩ (.slice b' m' k')) v q:=by
 obtain ⟨s,a,l,c,s',a',l',c',e,h1,h2⟩:=h
 have aa:∀ {v:Value} {z:Int},IsInt w v z→IsInt ((((w.setCell ⟨B,o1,none⟩ (.int .i64 n)).setCell ⟨B,o2,none⟩ (.slice b m k)).setCell ⟨B,o3,none⟩ (.int .i64 n')).setCell ⟨B,o4,none⟩ (.slice b' m' k')) v z:=fun h=>
  (((h.set (p:=⟨B,o1,none⟩) hd _).set (p:=⟨B,o2,none⟩) (hd.set _ (.i64 n)) _).set (p:=⟨B,o3,none⟩) ((hd.set _ (.i64 n)).set _ (.slice b m k)) _).set (p:=⟨B,o4,none⟩) (((hd.set _ (.i64 n)).set _ (.slice b m k)).set _ (.i64 n')) _
 exact ⟨s,a,l,c,s',a',l',c',e,aa h1,aa h2⟩
theorem noDig8 {w:World}{B:Nat}{t:TypeId}{s1 s2 s3 s4:Int}{a1 a2 a3 a4:Option Addr}{l1 c1 l2 c2 l3 c3 l4 c4:Nat}(h:Box w B t #[.int .i64 s1,.slice a1 l1 c1,.int .i64 s2,.slice a2 l2 c2,.int .i64 s3,.slice a3 l3 c3,.int .i64 s4,.slice a4 l4 c4]):NoDig w B:=
 h.noDig fun v hv=>by
  simp at hv
  rcases hv with rfl | rfl | rfl | rfl | rfl | rfl | rfl | rfl <;> first | exact .i64 _ | exact .slice _ _ _
def FaRel (w0:World)(b:Nat)(p q:Rat)(k:Nat)(wr:World):Prop:=New w0 wr∧
 ((k=0∧Box wr b 115 #[.int .i64 0,.slice none 0 0,.int .i64 0,.slice none 0 0,.int .i64 0,.slice none 0 0,.int .i64 0,.slice none 0 0])∨
  (k=1∧∃ (s:Int) (a:Option Addr) (l c:Nat) (t:Int) (d:Option Addr) (m k:Nat),Box wr b 115 #[.int .i64 s,.slice a l c,.int .i64 t,.slice d m k,.int .i64 0,.slice none 0 0,.int .i64 0,.slice none 0 0]∧IsFrac wr (.agg #[.int .i64 s,.slice a l c,.int .i64 t,.slice d m k]) p)∨
  (k=2∧Fr2 wr b p q))
theorem fa_one {w0 w:World} {b:Nat} {p q:Rat} {s:Int} {a:Option Addr} {l c:Nat} {t:Int} {d:Option Addr} {m k:Nat} (hN:New w0 w) (hB:w0.heap.size≤b)
  (hb:Box w b 115 #[.int .i64 0,.slice none 0 0,.int .i64 0,.slice none 0 0,.int .i64 0,.slice none 0 0,.int .i64 0,.slice none 0 0]) (hf:IsFrac w (.agg #[.int .i64 s,.slice a l c,.int .i64 t,.slice d m k]) p):
  FaRel w0 b p q 1 ((((w.setCell ⟨b,0,none⟩ (.int .i64 s)).setCell ⟨b,1,none⟩ (.slice a l c)).setCell ⟨b,2,none⟩ (.int .i64 t)).setCell ⟨b,3,none⟩ (.slice d m k)):=
 ⟨hN.put4 hB _ _ _ _,.inr (.inl ⟨rfl,s,a,l,c,t,d,m,k,(((hb.set 0 _).set 1 _).set 2 _).set 3 _,hf.setN (noDig8 hb) 0 1 2 3 _ _ _ _ _ _ _ _⟩)⟩
theorem fa_two {w0 w:World} {b:Nat} {p q:Rat} {s:Int} {a:Option Addr} {l c:Nat} {t:Int} {d:Option Addr} {m k:Nat} {s':Int} {a':Option Addr} {l' c':Nat} {t':Int} {d':Option Addr} {m' k':Nat} (hN:New w0 w) (hB:w0.heap.size≤b)
  (hb:Box w b 115 #[.int .i64 s,.slice a l c,.int .i64 t,.slice d m k,.int .i64 0,.slice none 0 0,.int .i64 0,.slice none 0 0]) (hf:IsFrac w (.agg #[.int .i64 s,.slice a l c,.int .i64 t,.slice d m k]) p) (hf':IsFrac w (.agg #[.int .i64 s',.slice a' l' c',.int .i64 t',.slice d' m' k']) q):
  FaRel w0 b p q 2 ((((w.setCell ⟨b,4,none⟩ (.int .i64 s')).setCell ⟨b,5,none⟩ (.slice a' l' c')).setCell ⟨b,6,none⟩ (.int .i64 t')).setCell ⟨b,7,none⟩ (.slice d' m' k')):=
 ⟨(((hN.setCell (p:=⟨b,4,none⟩) hB _).setCell (p:=⟨b,5,none⟩) hB _).setCell (p:=⟨b,6,none⟩) hB _).setCell (p:=⟨b,7,none⟩) hB _,
  .inr (.inr ⟨rfl,s,a,l,c,t,d,m,k,s',a',l',c',t',d',m',k',(((hb.set 4 _).set 5 _).set 6 _).set 7 _,hf.setN (noDig8 hb) 4 5 6 7 _ _ _ _ _ _ _ _,hf'.setN (noDig8 hb) 4 5 6 7 _ _ _ _ _ _ _ _⟩)⟩
theorem fromAll_two (x y:ByteArray)(p q:Rat)(hx:x.data.toList=ratText p)(hy:y.data.toList=ratText q)(lx:x.size≤100000)(ly:y.size≤100000)(B cap:Nat)(T:TypeId)(w:World)(he:Env w)(hB:Box w B T #[.string x,.string y]):
  Calls prog 200 #[.slice (some ⟨B,0,none⟩) 2 cap] w fun e w'=>∃ b:Nat,e=.returned (.slice (some ⟨b,0,none⟩) 2 2)∧New w w'∧w.heap.size≤b∧Fr2 w' b p q:=by
 obtain ⟨i0,hi,aj,ak,al⟩:=info_parts info_frac;have ae:=fun W hW=>from_calls x p W hW hx (by omega);have af:=fun W hW=>from_calls y q W hW hy (by omega);clear hx hy lx ly;refine zh4 ?_ he ae af hB;clear he ae af hB;intro HE ag ah BA;go_in;have ai:=run_make_frac2;go_wp2_with fail;have ad:=BA;have HN:=hid (New.refl w);obtain ⟨BR,hn⟩:=lay1 w 115 #[.int .i64 0,.slice none 0 0,.int .i64 0,.slice none 0 0,.int .i64 0,.slice none 0 0,.int .i64 0,.slice none 0 0];obtain ⟨HN,BA⟩:=zn2 hn HN BA.new;clear hn;clear ai;have ac:FaRel w w.heap.size p q 0 _:=⟨HN.out,.inl ⟨rfl,BR.out⟩⟩;clear BR HN;replace ac:=hid ac;go_loopw [11] (fun i wr=>∃ k:Nat,k≤2∧i=.int .i64 (k:Int)∧Hid (FaRel w w.heap.size p q k wr)) (fun i _=>2 - (RowKit.intOf i).toNat)
 case atStart=>exact ⟨0,by omega,rfl,ac⟩
 case round=>
  obtain ⟨k,hk,rfl,HR⟩:=hrel;obtain ⟨hN,hr⟩:=HR.out;clear HR;rcases hr with ⟨rfl,hb⟩ | ⟨rfl,s,a,l,c,t,d,m,kk,hb,hf⟩ | ⟨rfl,h2⟩
  ·refine zh4 ?_ (ad.new hN) (HE.new hN) hb hN;clear hb hN;intro aa ab BR HN;have pa:=aa.out.two;go_wp2_with fail;refine zS (ag _ ab) fun w3 s a l c t d m kk hn hf=>?_;have HF:=hid hf;clear hf;clear pa;obtain ⟨HN,BR⟩:=zn2 hn HN BR.new;clear hn;have y0:=BR.out.cell 0;have y1:=BR.out.cell 1;have y2:=BR.out.cell 2;have y3:=BR.out.cell 3;have z0:=BR.out.frozen 0;have z1:=BR.out.frozen 1;have z2:=BR.out.frozen 2;have z3:=BR.out.frozen 3;have z4:=BR.out.lt;go_wp2_with fail;go_roundw
   case rel=>exact ⟨1,by omega,by go_num,hid (fa_one HN.out (Nat.le_refl _) BR.out HF.out)⟩
   case measure=>simp[RowKit.intOf]
  ·refine zh5 ?_ (ad.new hN) (HE.new hN) hb hN hf;clear hb hN hf;intro aa ab BR HN HP;have pa:=aa.out.two;go_wp2_with fail;refine zS (ah _ ab) fun w3 s' a' l' c' t' d' m' am hn hf=>?_;replace hf:=hid hf;clear pa;obtain ⟨HN,BR,HP⟩:=zn3 hn HN BR.new HP.new;clear hn;have y0:=BR.out.cell 4;have y1:=BR.out.cell 5;have y2:=BR.out.cell 6;have y3:=BR.out.cell 7;have z0:=BR.out.frozen 4;have z1:=BR.out.frozen 5;have z2:=BR.out.frozen 6;have z3:=BR.out.frozen 7;have z4:=BR.out.lt;go_wp2_with fail;go_roundw
   case rel=>exact ⟨2,by omega,by go_num,hid (fa_two HN.out (Nat.le_refl _) BR.out HP.out hf.out)⟩
   case measure=>simp[RowKit.intOf]
  ·replace hN:=hid hN;replace h2:=hid h2;go_wp2_with fail;go_ret;exact ⟨_,rfl,hN,Nat.le_refl _,h2⟩
structure FVal where
 s:Int
 a:Option Addr
 l:Nat
 c:Nat
 t:Int
 d:Option Addr
 m:Nat
 k:Nat
abbrev FVal.cells (v:FVal):List Value:=[.int .i64 v.s,.slice v.a v.l v.c,.int .i64 v.t,.slice v.d v.m v.k]
abbrev FVal.val (v:FVal):Value:=.agg #[.int .i64 v.s,.slice v.a v.l v.c,.int .i64 v.t,.slice v.d v.m v.k]
def Fr4 (w:World)(g:Nat)(f0 f1 f2 f3:FVal):Prop:=∀ j u,(f0.cells ++ f1.cells ++ f2.cells ++ f3.cells)[j]?=some u→w.cell? ⟨g,j,none⟩=some u
theorem Fr4.new {w w':World}{g:Nat}{f0 f1 f2 f3:FVal}(h:Fr4 w g f0 f1 f2 f3)(hn:New w w'):Fr4 w' g f0 f1 f2 f3:=fun j u hu=>hn.cell (h j u hu)
def minR (x y:Rat):Rat:=if y < x then y else x
def maxR (x y:Rat):Rat:=if x < y then y else x
theorem Box.other4w {w:World}{B B':Nat}{t:TypeId}{cs:Array Value}(h:Box w B t cs)(hp:B'≠B)(u u' v v':Value):Box ((((w.setCell ⟨B',0,none⟩ u).setCell ⟨B',1,none⟩ u').setCell ⟨B',2,none⟩ v).setCell ⟨B',3,none⟩ v') B t cs:=
 (((h.other (p:=⟨B',0,none⟩) hp u).other (p:=⟨B',1,none⟩) hp u').other (p:=⟨B',2,none⟩) hp v).other (p:=⟨B',3,none⟩) hp v'
def MinRel (w wr:World)(M:Nat)(q:Rat):Prop:=New w wr∧Box wr w.heap.size 115 #[.int .i64 0,.slice none 0 0,.int .i64 0,.slice none 0 0]∧∃ f:FVal,Box wr M 115 #[.int .i64 f.s,.slice f.a f.l f.c,.int .i64 f.t,.slice f.d f.m f.k]∧IsFrac wr f.val q
theorem minFunc_four (g cap:Nat)(f0 f1 f2 f3:FVal)(q0 q1 q2 q3:Rat)(kb:Nat)(w:World)(hF:Fr4 w g f0 f1 f2 f3)(h0:IsFrac w f0.val q0)(h1:IsFrac w f1.val q1)(h2:IsFrac w f2.val q2)(h3:IsFrac w f3.val q3)(b0:FB kb q0)(b1:FB kb q1)(b2:FB kb q2)(b3:FB kb q3)(hk:kb≤20000000):
  Calls prog 201 #[.slice (some ⟨g,0,none⟩) 4 cap,.func (.func 90) #[] #[]] w (FracPost w (minR (minR (minR q0 q1) q2) q3)):=by
 have aj:=fun va vb p q W h1 h2 bp bq=>fcmp_calls va vb p q kb kb W h1 h2 bp bq (by omega);unfold SignPost at aj;obtain ⟨m1,ag⟩:∃ x,minR q0 q1=x:=⟨_,rfl⟩;obtain ⟨m2,ah⟩:∃ x,minR m1 q2=x:=⟨_,rfl⟩;obtain ⟨m3,ak⟩:∃ x,minR m2 q3=x:=⟨_,rfl⟩
 have al:∀ {x y z:Rat},minR x y=z→FB kb x→FB kb y→FB kb z:=fun {x y z} e hx hy=>by
  rw[←e];unfold minR;split
  ·exact hy
  ·exact hx
 have d1:=al ag b0 b1;have d2:=al ah d1 b2;rw[ag,ah,ak];clear al hk;refine zh12 ?_ hF h0 h1 h2 h3 b0 b1 b2 b3 d1 d2 aj;intro HF H0 H1 H2 H3 B0 B1 B2 B3 D1 D2 ad;refine zh3 ?_ ag ah ak;clear hF h0 h1 h2 h3 b0 b1 b2 b3 d1 d2 aj ag ah ak;intro am an ao;go_in;go_upto_region 1 with (fail);obtain ⟨BP,HN⟩:=lay1 w 115 #[.int .i64 0,.slice none 0 0,.int .i64 0,.slice none 0 0];obtain ⟨w8,ap⟩:∃ u,w.alloc (.cells #[.int .i64 0,.slice none 0 0,.int .i64 0,.slice none 0 0] 115)=u:=⟨_,rfl⟩;rw[ap] at BP HN⊢;clear ap;have c0:=HN.out.cell (HF.out 0 _ rfl);have c1:=HN.out.cell (HF.out 1 _ rfl);have c2:=HN.out.cell (HF.out 2 _ rfl);have c3:=HN.out.cell (HF.out 3 _ rfl);go_upto_region 4 with (fail);clear c0 c1 c2 c3;have LM:=hid HN.size;have af:=hid BP.lt;obtain ⟨BM,hn⟩:=lay1 w8 115 #[.int .i64 f0.s,.slice f0.a f0.l f0.c,.int .i64 f0.t,.slice f0.d f0.m f0.k];obtain ⟨HN,BP⟩:=zn2 hn HN BP.new;clear hn;obtain ⟨M,hM⟩:∃ u,w8.heap.size=u:=⟨_,rfl⟩;rw[hM] at BM LM af⊢;clear hM;have ai:MinRel w _ M q0:=⟨HN.out,BP.out,f0,BM.out,H0.out.new HN.out⟩;clear BM BP HN;replace ai:=hid ai;go_wp2_with fail;go_loopw [6] (fun i wr=>∃ k:Nat,i=.int .i64 (k:Int)∧Hid ((k=1∧MinRel w wr M q0)∨(k=2∧MinRel w wr M m1)∨(k=3∧MinRel w wr M m2)∨(k=4∧MinRel w wr M m3))) (fun i _=>4 - (RowKit.intOf i).toNat)
 case atStart=>exact ⟨1,rfl,hid (.inl ⟨rfl,ai⟩)⟩
 case round=>
  clear ai;obtain ⟨k,rfl,HR⟩:=hrel;rcases HR.out with ⟨rfl,hN,hB,f,hM,hf⟩ | ⟨rfl,hN,hB,f,hM,hf⟩ | ⟨rfl,hN,hB,f,hM,hf⟩ | ⟨rfl,hN,hB,f,hM,hf⟩
  ·clear HR;refine zh4 ?_ hN hB hM hf;clear hN hB hM hf;intro HN BP BM aa;have ER:=hid (H1.new HN);have e0:=HN.out.cell (HF.out 4 _ rfl);have e1:=HN.out.cell (HF.out 5 _ rfl);have e2:=HN.out.cell (HF.out 6 _ rfl);have e3:=HN.out.cell (HF.out 7 _ rfl);obtain ⟨t,ht⟩:∃ t,(crossed q1 q0).sign=t:=⟨_,rfl⟩
   have ab:(t < 0) ↔ q1 < q0:=by rw[←ht];exact crossed_neg
   have HT:=hid ht;clear ht;by_cases hl:q1 < q0
   ·have ac:=ab.2 hl;have ae:decide (t < 0)=true:=decide_eq_true ac
    have hy:m1=q1:=by have:=am.out;unfold minR at this;rw[if_pos hl] at this;exact this.symm
    clear ab hl;have HY:=hid hy;clear hy;go_upto_region 7 with (fail);have pm:=BM.out.four;clear pm;refine zR 7 8 (fun W=>W.cell? ⟨g,4,none⟩=some (.int .i64 f1.s)∧W.cell? ⟨g,5,none⟩=some (.slice f1.a f1.l f1.c)∧W.cell? ⟨g,6,none⟩=some (.int .i64 f1.t)∧W.cell? ⟨g,7,none⟩=some (.slice f1.d f1.m f1.k)∧zF W M f.s f.a f.l f.c f.t f.d f.m f.k) ?_;refine zT 0 ⟨e0,e1,e2,e3,cW4 BM⟩ ?_;refine zT 1 ⟨e0,e1,e2,e3,cW4 BM⟩ ?_;refine zT 2 ⟨e0,e1,e2,e3,cW4 BM⟩ ?_;refine zT 3 ⟨e0,e1,e2,e3,cW4 BM⟩ ?_;refine zT 4 ⟨e0,e1,e2,e3,cW4 BM⟩ ?_;refine zT 5 ⟨e0,e1,e2,e3,cW4 BM⟩ ?_;refine tk1 6 fun K hK=>?_;go_simp;refine zM (ad _ _ q1 q0 _ (ER.new (New.refl _).drew) (aa.new (New.refl _).drew) B1 B0) fun w5 hn=>?_;rw[HT.out];have hn:=hn.undrew;replace e0:=hn.cell e0;replace e1:=hn.cell e1;replace e2:=hn.cell e2;replace e3:=hn.cell e3;obtain ⟨HN,BP,BM,ER⟩:=zn4 hn HN BP.new BM.new ER.new;clear hn;refine zK hK ⟨e0,e1,e2,e3,cW4 BM⟩ ?_;clear hK K;refine tlW ?_;have pm:=BM.out.four;go_wp2_with fail;clear pm;go_roundw
    case rel=>exact ⟨2,by go_num,hid (.inr <| .inl ⟨rfl,HN.out.put4 LM.out _ _ _ _,BP.out.other4w (Nat.ne_of_gt af.out) _ _ _ _,f1,BM.out.put4 _ _ _ _,by rw[HY.out];exact ER.out.put4 BM.out _ _ _ _ _ _ _ _⟩)⟩
    case measure=>simp[RowKit.intOf]
   ·have ac:¬(t < 0):=fun h=>hl (ab.1 h);have ae:decide (t < 0)=false:=decide_eq_false ac
    have hy:m1=q0:=by have:=am.out;unfold minR at this;rw[if_neg hl] at this;exact this.symm
    clear ab hl;replace hy:=hid hy;go_upto_region 7 with (fail);have pm:=BM.out.four;clear pm;refine zR 7 8 (fun W=>W.cell? ⟨g,4,none⟩=some (.int .i64 f1.s)∧W.cell? ⟨g,5,none⟩=some (.slice f1.a f1.l f1.c)∧W.cell? ⟨g,6,none⟩=some (.int .i64 f1.t)∧W.cell? ⟨g,7,none⟩=some (.slice f1.d f1.m f1.k)∧zF W M f.s f.a f.l f.c f.t f.d f.m f.k) ?_;refine zT 0 ⟨e0,e1,e2,e3,cW4 BM⟩ ?_;refine zT 1 ⟨e0,e1,e2,e3,cW4 BM⟩ ?_;refine zT 2 ⟨e0,e1,e2,e3,cW4 BM⟩ ?_;refine zT 3 ⟨e0,e1,e2,e3,cW4 BM⟩ ?_;refine zT 4 ⟨e0,e1,e2,e3,cW4 BM⟩ ?_;refine zT 5 ⟨e0,e1,e2,e3,cW4 BM⟩ ?_;refine tk1 6 fun K hK=>?_;go_simp;refine zM (ad _ _ q1 q0 _ (ER.new (New.refl _).drew) (aa.new (New.refl _).drew) B1 B0) fun w5 hn=>?_;rw[HT.out];have hn:=hn.undrew;replace e0:=hn.cell e0;replace e1:=hn.cell e1;replace e2:=hn.cell e2;replace e3:=hn.cell e3;obtain ⟨HN,BP,BM,aa⟩:=zn4 hn HN BP.new BM.new aa.new;clear hn;refine zK hK ⟨e0,e1,e2,e3,cW4 BM⟩ ?_;clear hK K;refine tlW ?_;have pm:=BM.out.four;clear pm;clear e0 e1 e2 e3;go_wp2_with fail;go_roundw
    case rel=>exact ⟨2,by go_num,hid (.inr <| .inl ⟨rfl,HN.out,BP.out,f,BM.out,by rw[hy.out];exact aa.out⟩)⟩
    case measure=>simp[RowKit.intOf]
  ·clear HR;refine zh4 ?_ hN hB hM hf;clear hN hB hM hf;intro HN BP BM aa;have ER:=hid (H2.new HN);have e0:=HN.out.cell (HF.out 8 _ rfl);have e1:=HN.out.cell (HF.out 9 _ rfl);have e2:=HN.out.cell (HF.out 10 _ rfl);have e3:=HN.out.cell (HF.out 11 _ rfl);obtain ⟨t,ht⟩:∃ t,(crossed q2 m1).sign=t:=⟨_,rfl⟩
   have ab:(t < 0) ↔ q2 < m1:=by rw[←ht];exact crossed_neg
   have HT:=hid ht;clear ht;by_cases hl:q2 < m1
   ·have ac:=ab.2 hl;have ae:decide (t < 0)=true:=decide_eq_true ac
    have hy:m2=q2:=by have:=an.out;unfold minR at this;rw[if_pos hl] at this;exact this.symm
    clear ab hl;have HY:=hid hy;clear hy;go_upto_region 7 with (fail);have pm:=BM.out.four;clear pm;refine zR 7 8 (fun W=>W.cell? ⟨g,8,none⟩=some (.int .i64 f2.s)∧W.cell? ⟨g,9,none⟩=some (.slice f2.a f2.l f2.c)∧W.cell? ⟨g,10,none⟩=some (.int .i64 f2.t)∧W.cell? ⟨g,11,none⟩=some (.slice f2.d f2.m f2.k)∧zF W M f.s f.a f.l f.c f.t f.d f.m f.k) ?_;refine zT 0 ⟨e0,e1,e2,e3,cW4 BM⟩ ?_;refine zT 1 ⟨e0,e1,e2,e3,cW4 BM⟩ ?_;refine zT 2 ⟨e0,e1,e2,e3,cW4 BM⟩ ?_;refine zT 3 ⟨e0,e1,e2,e3,cW4 BM⟩ ?_;refine zT 4 ⟨e0,e1,e2,e3,cW4 BM⟩ ?_;refine zT 5 ⟨e0,e1,e2,e3,cW4 BM⟩ ?_;refine tk1 6 fun K hK=>?_;go_simp;refine zM (ad _ _ q2 m1 _ (ER.new (New.refl _).drew) (aa.new (New.refl _).drew) B2 D1) fun w5 hn=>?_;rw[HT.out];have hn:=hn.undrew;replace e0:=hn.cell e0;replace e1:=hn.cell e1;replace e2:=hn.cell e2;replace e3:=hn.cell e3;obtain ⟨HN,BP,BM,ER⟩:=zn4 hn HN BP.new BM.new ER.new;clear hn;refine zK hK ⟨e0,e1,e2,e3,cW4 BM⟩ ?_;clear hK K;refine tlW ?_;have pm:=BM.out.four;go_wp2_with fail;clear pm;go_roundw
    case rel=>exact ⟨3,by go_num,hid (.inr <| .inr <| .inl ⟨rfl,HN.out.put4 LM.out _ _ _ _,BP.out.other4w (Nat.ne_of_gt af.out) _ _ _ _,f2,BM.out.put4 _ _ _ _,by rw[HY.out];exact ER.out.put4 BM.out _ _ _ _ _ _ _ _⟩)⟩
    case measure=>simp[RowKit.intOf]
   ·have ac:¬(t < 0):=fun h=>hl (ab.1 h);have ae:decide (t < 0)=false:=decide_eq_false ac
    have hy:m2=m1:=by have:=an.out;unfold minR at this;rw[if_neg hl] at this;exact this.symm
    clear ab hl;replace hy:=hid hy;go_upto_region 7 with (fail);have pm:=BM.out.four;clear pm;refine zR 7 8 (fun W=>W.cell? ⟨g,8,none⟩=some (.int .i64 f2.s)∧W.cell? ⟨g,9,none⟩=some (.slice f2.a f2.l f2.c)∧W.cell? ⟨g,10,none⟩=some (.int .i64 f2.t)∧W.cell? ⟨g,11,none⟩=some (.slice f2.d f2.m f2.k)∧zF W M f.s f.a f.l f.c f.t f.d f.m f.k) ?_;refine zT 0 ⟨e0,e1,e2,e3,cW4 BM⟩ ?_;refine zT 1 ⟨e0,e1,e2,e3,cW4 BM⟩ ?_;refine zT 2 ⟨e0,e1,e2,e3,cW4 BM⟩ ?_;refine zT 3 ⟨e0,e1,e2,e3,cW4 BM⟩ ?_;refine zT 4 ⟨e0,e1,e2,e3,cW4 BM⟩ ?_;refine zT 5 ⟨e0,e1,e2,e3,cW4 BM⟩ ?_;refine tk1 6 fun K hK=>?_;go_simp;refine zM (ad _ _ q2 m1 _ (ER.new (New.refl _).drew) (aa.new (New.refl _).drew) B2 D1) fun w5 hn=>?_;rw[HT.out];have hn:=hn.undrew;replace e0:=hn.cell e0;replace e1:=hn.cell e1;replace e2:=hn.cell e2;replace e3:=hn.cell e3;obtain ⟨HN,BP,BM,aa⟩:=zn4 hn HN BP.new BM.new aa.new;clear hn;refine zK hK ⟨e0,e1,e2,e3,cW4 BM⟩ ?_;clear hK K;refine tlW ?_;have pm:=BM.out.four;clear pm;clear e0 e1 e2 e3;go_wp2_with fail;go_roundw
    case rel=>exact ⟨3,by go_num,hid (.inr <| .inr <| .inl ⟨rfl,HN.out,BP.out,f,BM.out,by rw[hy.out];exact aa.out⟩)⟩
    case measure=>simp[RowKit.intOf]
  ·clear HR;refine zh4 ?_ hN hB hM hf;clear hN hB hM hf;intro HN BP BM aa;have ER:=hid (H3.new HN);have e0:=HN.out.cell (HF.out 12 _ rfl);have e1:=HN.out.cell (HF.out 13 _ rfl);have e2:=HN.out.cell (HF.out 14 _ rfl);have e3:=HN.out.cell (HF.out 15 _ rfl);obtain ⟨t,ht⟩:∃ t,(crossed q3 m2).sign=t:=⟨_,rfl⟩
   have ab:(t < 0) ↔ q3 < m2:=by rw[←ht];exact crossed_neg
   replace ht:=hid ht;by_cases hl:q3 < m2
   ·have ac:=ab.2 hl;have ae:decide (t < 0)=true:=decide_eq_true ac
    have hy:m3=q3:=by have:=ao.out;unfold minR at this;rw[if_pos hl] at this;exact this.symm
    clear ab hl;have HY:=hid hy;clear hy;go_upto_region 7 with (fail);have pm:=BM.out.four;clear pm;refine zR 7 8 (fun W=>W.cell? ⟨g,12,none⟩=some (.int .i64 f3.s)∧W.cell? ⟨g,13,none⟩=some (.slice f3.a f3.l f3.c)∧W.cell? ⟨g,14,none⟩=some (.int .i64 f3.t)∧W.cell? ⟨g,15,none⟩=some (.slice f3.d f3.m f3.k)∧zF W M f.s f.a f.l f.c f.t f.d f.m f.k) ?_;refine zT 0 ⟨e0,e1,e2,e3,cW4 BM⟩ ?_;refine zT 1 ⟨e0,e1,e2,e3,cW4 BM⟩ ?_;refine zT 2 ⟨e0,e1,e2,e3,cW4 BM⟩ ?_;refine zT 3 ⟨e0,e1,e2,e3,cW4 BM⟩ ?_;refine zT 4 ⟨e0,e1,e2,e3,cW4 BM⟩ ?_;refine zT 5 ⟨e0,e1,e2,e3,cW4 BM⟩ ?_;refine tk1 6 fun K hK=>?_;go_simp;refine zM (ad _ _ q3 m2 _ (ER.new (New.refl _).drew) (aa.new (New.refl _).drew) B3 D2) fun w5 hn=>?_;rw[ht.out];have hn:=hn.undrew;replace e0:=hn.cell e0;replace e1:=hn.cell e1;replace e2:=hn.cell e2;replace e3:=hn.cell e3;obtain ⟨HN,BP,BM,ER⟩:=zn4 hn HN BP.new BM.new ER.new;clear hn;refine zK hK ⟨e0,e1,e2,e3,cW4 BM⟩ ?_;clear hK K;refine tlW ?_;have pm:=BM.out.four;go_wp2_with fail;clear pm;go_roundw
    case rel=>exact ⟨4,by go_num,hid (.inr <| .inr <| .inr ⟨rfl,HN.out.put4 LM.out _ _ _ _,BP.out.other4w (Nat.ne_of_gt af.out) _ _ _ _,f3,BM.out.put4 _ _ _ _,by rw[HY.out];exact ER.out.put4 BM.out _ _ _ _ _ _ _ _⟩)⟩
    case measure=>simp[RowKit.intOf]
   ·have ac:¬(t < 0):=fun h=>hl (ab.1 h);have ae:decide (t < 0)=false:=decide_eq_false ac
    have hy:m3=m2:=by have:=ao.out;unfold minR at this;rw[if_neg hl] at this;exact this.symm
    clear ab hl;replace hy:=hid hy;go_upto_region 7 with (fail);have pm:=BM.out.four;clear pm;refine zR 7 8 (fun W=>W.cell? ⟨g,12,none⟩=some (.int .i64 f3.s)∧W.cell? ⟨g,13,none⟩=some (.slice f3.a f3.l f3.c)∧W.cell? ⟨g,14,none⟩=some (.int .i64 f3.t)∧W.cell? ⟨g,15,none⟩=some (.slice f3.d f3.m f3.k)∧zF W M f.s f.a f.l f.c f.t f.d f.m f.k) ?_;refine zT 0 ⟨e0,e1,e2,e3,cW4 BM⟩ ?_;refine zT 1 ⟨e0,e1,e2,e3,cW4 BM⟩ ?_;refine zT 2 ⟨e0,e1,e2,e3,cW4 BM⟩ ?_;refine zT 3 ⟨e0,e1,e2,e3,cW4 BM⟩ ?_;refine zT 4 ⟨e0,e1,e2,e3,cW4 BM⟩ ?_;refine zT 5 ⟨e0,e1,e2,e3,cW4 BM⟩ ?_;refine tk1 6 fun K hK=>?_;go_simp;refine zM (ad _ _ q3 m2 _ (ER.new (New.refl _).drew) (aa.new (New.refl _).drew) B3 D2) fun w5 hn=>?_;rw[ht.out];have hn:=hn.undrew;replace e0:=hn.cell e0;replace e1:=hn.cell e1;replace e2:=hn.cell e2;replace e3:=hn.cell e3;obtain ⟨HN,BP,BM,aa⟩:=zn4 hn HN BP.new BM.new aa.new;clear hn;refine zK hK ⟨e0,e1,e2,e3,cW4 BM⟩ ?_;clear hK K;refine tlW ?_;have pm:=BM.out.four;clear pm;clear e0 e1 e2 e3;go_wp2_with fail;go_roundw
    case rel=>exact ⟨4,by go_num,hid (.inr <| .inr <| .inr ⟨rfl,HN.out,BP.out,f,BM.out,by rw[hy.out];exact aa.out⟩)⟩
    case measure=>simp[RowKit.intOf]
  ·clear HR;refine zh4 ?_ hN hB hM hf;clear hN hB hM hf;intro HN BP BM aa;obtain ⟨⟨aq,ar,au,av⟩,aw,ax,ay,az,a0⟩:=BM.out.four;obtain ⟨⟨p0,p1,p2,p3⟩,p4,p5,p6,p7,p8⟩:=BP.out.four;go_wp2_with fail;refine bodyPost_ret (v:=f.val) (by simp[results,results201,go_sem,p0,p1,p2,p3]) rfl ?_;exact ⟨_,rfl,HN.put4 (Nat.le_refl _) _ _ _ _,aa.put4 BP _ _ _ _ _ _ _ _⟩
theorem maxFunc_four (g cap:Nat)(f0 f1 f2 f3:FVal)(q0 q1 q2 q3:Rat)(kb:Nat)(w:World)(hF:Fr4 w g f0 f1 f2 f3)(h0:IsFrac w f0.val q0)(h1:IsFrac w f1.val q1)(h2:IsFrac w f2.val q2)(h3:IsFrac w f3.val q3)(b0:FB kb q0)(b1:FB kb q1)(b2:FB kb q2)(b3:FB kb q3)(hk:kb≤20000000):
  Calls prog 202 #[.slice (some ⟨g,0,none⟩) 4 cap,.func (.func 90) #[] #[]] w (FracPost w (maxR (maxR (maxR q0 q1) q2) q3)):=by
 have aj:=fun va vb p q W h1 h2 bp bq=>fcmp_calls va vb p q kb kb W h1 h2 bp bq (by omega);unfold SignPost at aj;obtain ⟨m1,ag⟩:∃ x,maxR q0 q1=x:=⟨_,rfl⟩;obtain ⟨m2,ah⟩:∃ x,maxR m1 q2=x:=⟨_,rfl⟩;obtain ⟨m3,ak⟩:∃ x,maxR m2 q3=x:=⟨_,rfl⟩
 have al:∀ {x y z:Rat},maxR x y=z→FB kb x→FB kb y→FB kb z:=fun {x y z} e hx hy=>by
  rw[←e];unfold maxR;split
  ·exact hy
  ·exact hx
 have d1:=al ag b0 b1;have d2:=al ah d1 b2;rw[ag,ah,ak];clear al hk;refine zh12 ?_ hF h0 h1 h2 h3 b0 b1 b2 b3 d1 d2 aj;intro HF H0 H1 H2 H3 B0 B1 B2 B3 D1 D2 ad;refine zh3 ?_ ag ah ak;clear hF h0 h1 h2 h3 b0 b1 b2 b3 d1 d2 aj ag ah ak;intro am an ao;go_in;go_upto_region 1 with (fail);obtain ⟨BP,HN⟩:=lay1 w 115 #[.int .i64 0,.slice none 0 0,.int .i64 0,.slice none 0 0];obtain ⟨w8,ap⟩:∃ u,w.alloc (.cells #[.int .i64 0,.slice none 0 0,.int .i64 0,.slice none 0 0] 115)=u:=⟨_,rfl⟩;rw[ap] at BP HN⊢;clear ap;have c0:=HN.out.cell (HF.out 0 _ rfl);have c1:=HN.out.cell (HF.out 1 _ rfl);have c2:=HN.out.cell (HF.out 2 _ rfl);have c3:=HN.out.cell (HF.out 3 _ rfl);go_upto_region 4 with (fail);clear c0 c1 c2 c3;have LM:=hid HN.size;have af:=hid BP.lt;obtain ⟨BM,hn⟩:=lay1 w8 115 #[.int .i64 f0.s,.slice f0.a f0.l f0.c,.int .i64 f0.t,.slice f0.d f0.m f0.k];obtain ⟨HN,BP⟩:=zn2 hn HN BP.new;clear hn;obtain ⟨M,hM⟩:∃ u,w8.heap.size=u:=⟨_,rfl⟩;rw[hM] at BM LM af⊢;clear hM;have ai:MinRel w _ M q0:=⟨HN.out,BP.out,f0,BM.out,H0.out.new HN.out⟩;clear BM BP HN;replace ai:=hid ai;go_wp2_with fail;go_loopw [6] (fun i wr=>∃ k:Nat,i=.int .i64 (k:Int)∧Hid ((k=1∧MinRel w wr M q0)∨(k=2∧MinRel w wr M m1)∨(k=3∧MinRel w wr M m2)∨(k=4∧MinRel w wr M m3))) (fun i _=>4 - (RowKit.intOf i).toNat)
 case atStart=>exact ⟨1,rfl,hid (.inl ⟨rfl,ai⟩)⟩
 case round=>
  clear ai;obtain ⟨k,rfl,HR⟩:=hrel;rcases HR.out with ⟨rfl,hN,hB,f,hM,hf⟩ | ⟨rfl,hN,hB,f,hM,hf⟩ | ⟨rfl,hN,hB,f,hM,hf⟩ | ⟨rfl,hN,hB,f,hM,hf⟩
  ·clear HR;refine zh4 ?_ hN hB hM hf;clear hN hB hM hf;intro HN BP BM aa;have ER:=hid (H1.new HN);have e0:=HN.out.cell (HF.out 4 _ rfl);have e1:=HN.out.cell (HF.out 5 _ rfl);have e2:=HN.out.cell (HF.out 6 _ rfl);have e3:=HN.out.cell (HF.out 7 _ rfl);obtain ⟨t,ht⟩:∃ t,(crossed q1 q0).sign=t:=⟨_,rfl⟩
   have ab:(0 < t) ↔ q0 < q1:=by rw[←ht];exact crossed_pos
   have HT:=hid ht;clear ht;by_cases hl:q0 < q1
   ·have ac:=ab.2 hl;have ae:decide (0 < t)=true:=decide_eq_true ac
    have hy:m1=q1:=by have:=am.out;unfold maxR at this;rw[if_pos hl] at this;exact this.symm
    clear ab hl;have HY:=hid hy;clear hy;go_upto_region 7 with (fail);have pm:=BM.out.four;clear pm;refine zR 7 8 (fun W=>W.cell? ⟨g,4,none⟩=some (.int .i64 f1.s)∧W.cell? ⟨g,5,none⟩=some (.slice f1.a f1.l f1.c)∧W.cell? ⟨g,6,none⟩=some (.int .i64 f1.t)∧W.cell? ⟨g,7,none⟩=some (.slice f1.d f1.m f1.k)∧zF W M f.s f.a f.l f.c f.t f.d f.m f.k) ?_;refine zT 0 ⟨e0,e1,e2,e3,cW4 BM⟩ ?_;refine zT 1 ⟨e0,e1,e2,e3,cW4 BM⟩ ?_;refine zT 2 ⟨e0,e1,e2,e3,cW4 BM⟩ ?_;refine zT 3 ⟨e0,e1,e2,e3,cW4 BM⟩ ?_;refine zT 4 ⟨e0,e1,e2,e3,cW4 BM⟩ ?_;refine zT 5 ⟨e0,e1,e2,e3,cW4 BM⟩ ?_;refine tk1 6 fun K hK=>?_;go_simp;refine zM (ad _ _ q1 q0 _ (ER.new (New.refl _).drew) (aa.new (New.refl _).drew) B1 B0) fun w5 hn=>?_;rw[HT.out];have hn:=hn.undrew;replace e0:=hn.cell e0;replace e1:=hn.cell e1;replace e2:=hn.cell e2;replace e3:=hn.cell e3;obtain ⟨HN,BP,BM,ER⟩:=zn4 hn HN BP.new BM.new ER.new;clear hn;refine zK hK ⟨e0,e1,e2,e3,cW4 BM⟩ ?_;clear hK K;refine tlW ?_;have pm:=BM.out.four;go_wp2_with fail;clear pm;go_roundw
    case rel=>exact ⟨2,by go_num,hid (.inr <| .inl ⟨rfl,HN.out.put4 LM.out _ _ _ _,BP.out.other4w (Nat.ne_of_gt af.out) _ _ _ _,f1,BM.out.put4 _ _ _ _,by rw[HY.out];exact ER.out.put4 BM.out _ _ _ _ _ _ _ _⟩)⟩
    case measure=>simp[RowKit.intOf]
   ·have ac:¬(0 < t):=fun h=>hl (ab.1 h);have ae:decide (0 < t)=false:=decide_eq_false ac
    have hy:m1=q0:=by have:=am.out;unfold maxR at this;rw[if_neg hl] at this;exact this.symm
    clear ab hl;replace hy:=hid hy;go_upto_region 7 with (fail);have pm:=BM.out.four;clear pm;refine zR 7 8 (fun W=>W.cell? ⟨g,4,none⟩=some (.int .i64 f1.s)∧W.cell? ⟨g,5,none⟩=some (.slice f1.a f1.l f1.c)∧W.cell? ⟨g,6,none⟩=some (.int .i64 f1.t)∧W.cell? ⟨g,7,none⟩=some (.slice f1.d f1.m f1.k)∧zF W M f.s f.a f.l f.c f.t f.d f.m f.k) ?_;refine zT 0 ⟨e0,e1,e2,e3,cW4 BM⟩ ?_;refine zT 1 ⟨e0,e1,e2,e3,cW4 BM⟩ ?_;refine zT 2 ⟨e0,e1,e2,e3,cW4 BM⟩ ?_;refine zT 3 ⟨e0,e1,e2,e3,cW4 BM⟩ ?_;refine zT 4 ⟨e0,e1,e2,e3,cW4 BM⟩ ?_;refine zT 5 ⟨e0,e1,e2,e3,cW4 BM⟩ ?_;refine tk1 6 fun K hK=>?_;go_simp;refine zM (ad _ _ q1 q0 _ (ER.new (New.refl _).drew) (aa.new (New.refl _).drew) B1 B0) fun w5 hn=>?_;rw[HT.out];have hn:=hn.undrew;replace e0:=hn.cell e0;replace e1:=hn.cell e1;replace e2:=hn.cell e2;replace e3:=hn.cell e3;obtain ⟨HN,BP,BM,aa⟩:=zn4 hn HN BP.new BM.new aa.new;clear hn;refine zK hK ⟨e0,e1,e2,e3,cW4 BM⟩ ?_;clear hK K;refine tlW ?_;have pm:=BM.out.four;clear pm;clear e0 e1 e2 e3;go_wp2_with fail;go_roundw
    case rel=>exact ⟨2,by go_num,hid (.inr <| .inl ⟨rfl,HN.out,BP.out,f,BM.out,by rw[hy.out];exact aa.out⟩)⟩
    case measure=>simp[RowKit.intOf]
  ·clear HR;refine zh4 ?_ hN hB hM hf;clear hN hB hM hf;intro HN BP BM aa;have ER:=hid (H2.new HN);have e0:=HN.out.cell (HF.out 8 _ rfl);have e1:=HN.out.cell (HF.out 9 _ rfl);have e2:=HN.out.cell (HF.out 10 _ rfl);have e3:=HN.out.cell (HF.out 11 _ rfl);obtain ⟨t,ht⟩:∃ t,(crossed q2 m1).sign=t:=⟨_,rfl⟩
   have ab:(0 < t) ↔ m1 < q2:=by rw[←ht];exact crossed_pos
   have HT:=hid ht;clear ht;by_cases hl:m1 < q2
   ·have ac:=ab.2 hl;have ae:decide (0 < t)=true:=decide_eq_true ac
    have hy:m2=q2:=by have:=an.out;unfold maxR at this;rw[if_pos hl] at this;exact this.symm
    clear ab hl;have HY:=hid hy;clear hy;go_upto_region 7 with (fail);have pm:=BM.out.four;clear pm;refine zR 7 8 (fun W=>W.cell? ⟨g,8,none⟩=some (.int .i64 f2.s)∧W.cell? ⟨g,9,none⟩=some (.slice f2.a f2.l f2.c)∧W.cell? ⟨g,10,none⟩=some (.int .i64 f2.t)∧W.cell? ⟨g,11,none⟩=some (.slice f2.d f2.m f2.k)∧zF W M f.s f.a f.l f.c f.t f.d f.m f.k) ?_;refine zT 0 ⟨e0,e1,e2,e3,cW4 BM⟩ ?_;refine zT 1 ⟨e0,e1,e2,e3,cW4 BM⟩ ?_;refine zT 2 ⟨e0,e1,e2,e3,cW4 BM⟩ ?_;refine zT 3 ⟨e0,e1,e2,e3,cW4 BM⟩ ?_;refine zT 4 ⟨e0,e1,e2,e3,cW4 BM⟩ ?_;refine zT 5 ⟨e0,e1,e2,e3,cW4 BM⟩ ?_;refine tk1 6 fun K hK=>?_;go_simp;refine zM (ad _ _ q2 m1 _ (ER.new (New.refl _).drew) (aa.new (New.refl _).drew) B2 D1) fun w5 hn=>?_;rw[HT.out];have hn:=hn.undrew;replace e0:=hn.cell e0;replace e1:=hn.cell e1;replace e2:=hn.cell e2;replace e3:=hn.cell e3;obtain ⟨HN,BP,BM,ER⟩:=zn4 hn HN BP.new BM.new ER.new;clear hn;refine zK hK ⟨e0,e1,e2,e3,cW4 BM⟩ ?_;clear hK K;refine tlW ?_;have pm:=BM.out.four;go_wp2_with fail;clear pm;go_roundw
    case rel=>exact ⟨3,by go_num,hid (.inr <| .inr <| .inl ⟨rfl,HN.out.put4 LM.out _ _ _ _,BP.out.other4w (Nat.ne_of_gt af.out) _ _ _ _,f2,BM.out.put4 _ _ _ _,by rw[HY.out];exact ER.out.put4 BM.out _ _ _ _ _ _ _ _⟩)⟩
    case measure=>simp[RowKit.intOf]
   ·have ac:¬(0 < t):=fun h=>hl (ab.1 h);have ae:decide (0 < t)=false:=decide_eq_false ac
    have hy:m2=m1:=by have:=an.out;unfold maxR at this;rw[if_neg hl] at this;exact this.symm
    clear ab hl;replace hy:=hid hy;go_upto_region 7 with (fail);have pm:=BM.out.four;clear pm;refine zR 7 8 (fun W=>W.cell? ⟨g,8,none⟩=some (.int .i64 f2.s)∧W.cell? ⟨g,9,none⟩=some (.slice f2.a f2.l f2.c)∧W.cell? ⟨g,10,none⟩=some (.int .i64 f2.t)∧W.cell? ⟨g,11,none⟩=some (.slice f2.d f2.m f2.k)∧zF W M f.s f.a f.l f.c f.t f.d f.m f.k) ?_;refine zT 0 ⟨e0,e1,e2,e3,cW4 BM⟩ ?_;refine zT 1 ⟨e0,e1,e2,e3,cW4 BM⟩ ?_;refine zT 2 ⟨e0,e1,e2,e3,cW4 BM⟩ ?_;refine zT 3 ⟨e0,e1,e2,e3,cW4 BM⟩ ?_;refine zT 4 ⟨e0,e1,e2,e3,cW4 BM⟩ ?_;refine zT 5 ⟨e0,e1,e2,e3,cW4 BM⟩ ?_;refine tk1 6 fun K hK=>?_;go_simp;refine zM (ad _ _ q2 m1 _ (ER.new (New.refl _).drew) (aa.new (New.refl _).drew) B2 D1) fun w5 hn=>?_;rw[HT.out];have hn:=hn.undrew;replace e0:=hn.cell e0;replace e1:=hn.cell e1;replace e2:=hn.cell e2;replace e3:=hn.cell e3;obtain ⟨HN,BP,BM,aa⟩:=zn4 hn HN BP.new BM.new aa.new;clear hn;refine zK hK ⟨e0,e1,e2,e3,cW4 BM⟩ ?_;clear hK K;refine tlW ?_;have pm:=BM.out.four;clear pm;clear e0 e1 e2 e3;go_wp2_with fail;go_roundw
    case rel=>exact ⟨3,by go_num,hid (.inr <| .inr <| .inl ⟨rfl,HN.out,BP.out,f,BM.out,by rw[hy.out];exact aa.out⟩)⟩
    case measure=>simp[RowKit.intOf]
  ·clear HR;refine zh4 ?_ hN hB hM hf;clear hN hB hM hf;intro HN BP BM aa;have ER:=hid (H3.new HN);have e0:=HN.out.cell (HF.out 12 _ rfl);have e1:=HN.out.cell (HF.out 13 _ rfl);have e2:=HN.out.cell (HF.out 14 _ rfl);have e3:=HN.out.cell (HF.out 15 _ rfl);obtain ⟨t,ht⟩:∃ t,(crossed q3 m2).sign=t:=⟨_,rfl⟩
   have ab:(0 < t) ↔ m2 < q3:=by rw[←ht];exact crossed_pos
   replace ht:=hid ht;by_cases hl:m2 < q3
   ·have ac:=ab.2 hl;have ae:decide (0 < t)=true:=decide_eq_true ac
    have hy:m3=q3:=by have:=ao.out;unfold maxR at this;rw[if_pos hl] at this;exact this.symm
    clear ab hl;have HY:=hid hy;clear hy;go_upto_region 7 with (fail);have pm:=BM.out.four;clear pm;refine zR 7 8 (fun W=>W.cell? ⟨g,12,none⟩=some (.int .i64 f3.s)∧W.cell? ⟨g,13,none⟩=some (.slice f3.a f3.l f3.c)∧W.cell? ⟨g,14,none⟩=some (.int .i64 f3.t)∧W.cell? ⟨g,15,none⟩=some (.slice f3.d f3.m f3.k)∧zF W M f.s f.a f.l f.c f.t f.d f.m f.k) ?_;refine zT 0 ⟨e0,e1,e2,e3,cW4 BM⟩ ?_;refine zT 1 ⟨e0,e1,e2,e3,cW4 BM⟩ ?_;refine zT 2 ⟨e0,e1,e2,e3,cW4 BM⟩ ?_;refine zT 3 ⟨e0,e1,e2,e3,cW4 BM⟩ ?_;refine zT 4 ⟨e0,e1,e2,e3,cW4 BM⟩ ?_;refine zT 5 ⟨e0,e1,e2,e3,cW4 BM⟩ ?_;refine tk1 6 fun K hK=>?_;go_simp;refine zM (ad _ _ q3 m2 _ (ER.new (New.refl _).drew) (aa.new (New.refl _).drew) B3 D2) fun w5 hn=>?_;rw[ht.out];have hn:=hn.undrew;replace e0:=hn.cell e0;replace e1:=hn.cell e1;replace e2:=hn.cell e2;replace e3:=hn.cell e3;obtain ⟨HN,BP,BM,ER⟩:=zn4 hn HN BP.new BM.new ER.new;clear hn;refine zK hK ⟨e0,e1,e2,e3,cW4 BM⟩ ?_;clear hK K;refine tlW ?_;have pm:=BM.out.four;go_wp2_with fail;clear pm;go_roundw
    case rel=>exact ⟨4,by go_num,hid (.inr <| .inr <| .inr ⟨rfl,HN.out.put4 LM.out _ _ _ _,BP.out.other4w (Nat.ne_of_gt af.out) _ _ _ _,f3,BM.out.put4 _ _ _ _,by rw[HY.out];exact ER.out.put4 BM.out _ _ _ _ _ _ _ _⟩)⟩
    case measure=>simp[RowKit.intOf]
   ·have ac:¬(0 < t):=fun h=>hl (ab.1 h);have ae:decide (0 < t)=false:=decide_eq_false ac
    have hy:m3=m2:=by have:=ao.out;unfold maxR at this;rw[if_neg hl] at this;exact this.symm
    clear ab hl;replace hy:=hid hy;go_upto_region 7 with (fail);have pm:=BM.out.four;clear pm;refine zR 7 8 (fun W=>W.cell? ⟨g,12,none⟩=some (.int .i64 f3.s)∧W.cell? ⟨g,13,none⟩=some (.slice f3.a f3.l f3.c)∧W.cell? ⟨g,14,none⟩=some (.int .i64 f3.t)∧W.cell? ⟨g,15,none⟩=some (.slice f3.d f3.m f3.k)∧zF W M f.s f.a f.l f.c f.t f.d f.m f.k) ?_;refine zT 0 ⟨e0,e1,e2,e3,cW4 BM⟩ ?_;refine zT 1 ⟨e0,e1,e2,e3,cW4 BM⟩ ?_;refine zT 2 ⟨e0,e1,e2,e3,cW4 BM⟩ ?_;refine zT 3 ⟨e0,e1,e2,e3,cW4 BM⟩ ?_;refine zT 4 ⟨e0,e1,e2,e3,cW4 BM⟩ ?_;refine zT 5 ⟨e0,e1,e2,e3,cW4 BM⟩ ?_;refine tk1 6 fun K hK=>?_;go_simp;refine zM (ad _ _ q3 m2 _ (ER.new (New.refl _).drew) (aa.new (New.refl _).drew) B3 D2) fun w5 hn=>?_;rw[ht.out];have hn:=hn.undrew;replace e0:=hn.cell e0;replace e1:=hn.cell e1;replace e2:=hn.cell e2;replace e3:=hn.cell e3;obtain ⟨HN,BP,BM,aa⟩:=zn4 hn HN BP.new BM.new aa.new;clear hn;refine zK hK ⟨e0,e1,e2,e3,cW4 BM⟩ ?_;clear hK K;refine tlW ?_;have pm:=BM.out.four;clear pm;clear e0 e1 e2 e3;go_wp2_with fail;go_roundw
    case rel=>exact ⟨4,by go_num,hid (.inr <| .inr <| .inr ⟨rfl,HN.out,BP.out,f,BM.out,by rw[hy.out];exact aa.out⟩)⟩
    case measure=>simp[RowKit.intOf]
  ·clear HR;refine zh4 ?_ hN hB hM hf;clear hN hB hM hf;intro HN BP BM aa;obtain ⟨⟨aq,ar,au,av⟩,aw,ax,ay,az,a0⟩:=BM.out.four;obtain ⟨⟨p0,p1,p2,p3⟩,p4,p5,p6,p7,p8⟩:=BP.out.four;go_wp2_with fail;refine bodyPost_ret (v:=f.val) (by simp[results,results202,go_sem,p0,p1,p2,p3]) rfl ?_;exact ⟨_,rfl,HN.put4 (Nat.le_refl _) _ _ _ _,aa.put4 BP _ _ _ _ _ _ _ _⟩
theorem cells_notU (f:FVal):∀ u∈f.cells,NotU u:=by
 intro u hu;simp at hu
 rcases hu with rfl | rfl | rfl | rfl <;> first | exact .i64 _ | exact .slice _ _ _
theorem cells_one (f:FVal):∀ u∈f.cells,u.oneCell'=true:=by
 intro u hu;simp at hu;rcases hu with rfl | rfl | rfl | rfl <;> rfl
theorem cells_at (w:World)(f:FVal)(t:TypeId):∀ (j:Nat) (u:Value),(f.cells)[j]?=some u→(w.alloc (.cells #[.int .i64 f.s,.slice f.a f.l f.c,.int .i64 f.t,.slice f.d f.m f.k] t)).cell? ((⟨w.heap.size,0,none⟩:Addr).add j)=some u:=by
 intro j u h;rw[Addr.add_lit];show (w.alloc _).cell? ⟨w.heap.size,0+j,none⟩=some u;rw[Nat.zero_add,(Box.alloc w _ t #[.int .i64 f.s,.slice f.a f.l f.c,.int .i64 f.t,.slice f.d f.m f.k] rfl).cell];simpa using h
def FRow (base:Nat)(wr:World)(v:Value)(rs:List Rat):Prop:=∃ fs:List FVal,fs.length=rs.length∧wr.ownsRow base 115 4 v rs.length (fs.flatMap FVal.cells)∧RowNo wr v∧∀ (i:Nat) (f:FVal) (q:Rat),fs[i]?=some f→rs[i]?=some q→IsFrac wr f.val q
theorem FRow.nil (base:Nat)(w:World):FRow base w (.slice none 0 0) []:=⟨[],rfl,World.ownsRow_nil _ _ _ _,fun g hg=>by simp[Value.ownBlock] at hg,fun i f q h=>by simp at h⟩
theorem FRow.new {base:Nat}{w w':World}{v:Value}{rs:List Rat}(h:FRow base w v rs)(hn:New w w'):FRow base w' v rs:=by
 obtain ⟨fs,h1,h2,h3,h4⟩:=h;exact ⟨fs,h1,own_newS h2 hn,h3.new hn,fun i f q e1 e2=>(h4 i f q e1 e2).new hn⟩
theorem FRow.lt {base:Nat}{w:World}{v:Value}{rs:List Rat}(h:FRow base w v rs):∀ g,v.ownBlock=some g→g < w.heap.size:=fun g hg=>by
 obtain ⟨fs,h1,h2,h3,h4⟩:=h;exact (h2.lt g hg).2
theorem FRow.push {base:Nat} {w w':World} {v v':Value} {rs:List Rat} {f:FVal} {q:Rat} {fs:List FVal} (h1:fs.length=rs.length) (h3:RowNo w v) (h4:∀ (i:Nat) (f:FVal) (q:Rat),fs[i]?=some f→rs[i]?=some q→IsFrac w f.val q) (hf:IsFrac w f.val q) (hg:w.grownBy w' v.ownBlock)
  (ho:w'.ownsRow base 115 4 v' (rs.length+1) (fs.flatMap FVal.cells ++ f.cells)) (hno:RowNo w' v'):FRow base w' v' (rs ++ [q]):=by
 refine ⟨fs ++ [f],by simp[h1],by simpa using ho,hno,fun i g x e1 e2=>?_⟩;rcases Nat.lt_trichotomy i fs.length with hi | hi | hi
 ·rw[List.getElem?_append_left hi] at e1;rw[List.getElem?_append_left (by omega)] at e2;exact (h4 i g x e1 e2).grown hg h3
 ·subst hi;rw[List.getElem?_append_right (Nat.le_refl _)] at e1;rw[h1,List.getElem?_append_right (Nat.le_refl _)] at e2;simp at e1 e2;subst e1;subst e2;exact hf.grown hg h3
 ·rw[List.getElem?_eq_none (by simp;omega)] at e1
  cases e1
theorem Fr2.new {w w':World}{b:Nat}{p q:Rat}(h:Fr2 w b p q)(hn:New w w'):Fr2 w' b p q:=by
 obtain ⟨s,a,l,c,t,d,m,k,s',a',l',c',t',d',m',k',hb,h1,h2⟩:=h;exact ⟨s,a,l,c,t,d,m,k,s',a',l',c',t',d',m',k',hb.new hn,h1.new hn,h2.new hn⟩
theorem Fr2.grown {w w':World}{b:Nat}{p q:Rat}{v:Value}(h:Fr2 w b p q)(hg:w.grownBy w' v.ownBlock)(hne:v.ownBlock≠some b)(hno:RowNo w v):Fr2 w' b p q:=by
 obtain ⟨s,a,l,c,t,d,m,k,s',a',l',c',t',d',m',k',hb,h1,h2⟩:=h;exact ⟨s,a,l,c,t,d,m,k,s',a',l',c',t',d',m',k',hb.grown hg hne,h1.grown hg hno,h2.grown hg hno⟩
abbrev FBox (w:World)(B:Nat)(f:FVal):Prop:=Box w B 115 #[.int .i64 f.s,.slice f.a f.l f.c,.int .i64 f.t,.slice f.d f.m f.k]
structure InRel (w2:World)(X gb:Nat)(fx:FVal)(x y0 y1:Rat)(v:Value)(rs:List Rat)(wr:World):Prop where
 hn:New w2 wr
 hr:FRow w2.heap.size wr v rs
 nx:v.ownBlock≠some X
 nb:v.ownBlock≠some gb
 bx:FBox wr X fx
 fx:IsFrac wr fx.val x
 fb:Fr2 wr gb y0 y1
theorem InRel.new {w2:World}{X gb:Nat}{fx:FVal}{x y0 y1:Rat}{v:Value}{rs:List Rat}{wr w':World}(h:InRel w2 X gb fx x y0 y1 v rs wr)(hn:New wr w'):InRel w2 X gb fx x y0 y1 v rs w':=
 ⟨h.hn.trans hn,h.hr.new hn,h.nx,h.nb,h.bx.new hn,h.fx.new hn,h.fb.new hn⟩
theorem InRel.push {w2:World} {X gb:Nat} {fx f:FVal} {x y0 y1 q:Rat} {v v':Value} {rs:List Rat} {w w':World} {fs:List FVal} (h:InRel w2 X gb fx x y0 y1 v rs w) (h1:fs.length=rs.length) (h2:w.ownsRow w2.heap.size 115 4 v rs.length (fs.flatMap FVal.cells)) (h3:RowNo w v)
  (h4:∀ (i:Nat) (f:FVal) (q:Rat),fs[i]?=some f→rs[i]?=some q→IsFrac w f.val q) (hf:IsFrac w f.val q) (hg:w.grownBy w' v.ownBlock)
  (ho:w'.ownsRow w2.heap.size 115 4 v' (rs.length+1) (fs.flatMap FVal.cells ++ f.cells)) (hno:RowNo w' v') (hfr:∀ g,v'.ownBlock=some g→v.ownBlock=some g∨w.heap.size≤g):InRel w2 X gb fx x y0 y1 v' (rs ++ [q]) w':=by
 have ne:∀ {B:Nat},v.ownBlock≠some B→B < w.heap.size→v'.ownBlock≠some B:=fun {B} hB hl e=>by
  rcases hfr B e with h5 | h5
  ·exact hB h5
  ·omega
 have lb:gb < w.heap.size:=by
  obtain ⟨_,_,_,_,_,_,_,_,_,_,_,_,_,_,_,_,hb, -⟩:=h.fb;exact hb.lt
 exact ⟨grown_newS' h.hn h2 hg,FRow.push h1 h3 h4 hf hg ho hno,ne h.nx h.bx.lt,ne h.nb lb,h.bx.grown hg h.nx,h.fx.grown hg h3,h.fb.grown hg h.nb h3⟩
theorem frac_val {w:World}{v:Value}{q:Rat}(h:IsFrac w v q):∃ f:FVal,v=f.val:=by
 obtain ⟨s,a,l,c,t,d,m,k,rfl⟩:=h.shape;exact ⟨⟨s,a,l,c,t,d,m,k⟩,rfl⟩
theorem combine_calls (xa ya xb yb:ByteArray) (x0 x1 y0 y1:Rat) (hxa:xa.data.toList=ratText x0) (hya:ya.data.toList=ratText x1) (hxb:xb.data.toList=ratText y0) (hyb:yb.data.toList=ratText y1)
  (lxa:xa.size≤100000) (lya:ya.size≤100000) (lxb:xb.size≤100000) (lyb:yb.size≤100000) (fn:Nat) (op:Rat→Rat→Rat) (hcf:∀ (args:Array Value) (W:World),Sem.run prog (callFunc fn args) W=.ok (.enter fn args) W)
  (hop:∀ x y,(x=x0∨x=x1)→(y=y0∨y=y1)→∀ W va vb,IsFrac W va x→IsFrac W vb y→Calls prog fn #[va,vb] W (FracPost W (op x y)))
  (hb:∀ x y,(x=x0∨x=x1)→(y=y0∨y=y1)→FB 1800 (op x y)) (w:World) (he:Env w):
  Calls prog 141 #[.agg #[.string xa,.string ya],.agg #[.string xb,.string yb],.func (.func fn) #[] #[]] w
   (SpPost w (rs (minR (minR (minR (op x0 y0) (op x0 y1)) (op x1 y0)) (op x1 y1))) (rs (maxR (maxR (maxR (op x0 y0) (op x0 y1)) (op x1 y0)) (op x1 y1))) 0):=by
 obtain ⟨i0,hi,cs,ct,cu⟩:=info_parts info_frac;have b8:=fun B ab T W hW hB=>fromAll_two xa ya x0 x1 hxa hya lxa lya B ab T W hW hB;have b9:=fun B ab T W hW hB=>fromAll_two xb yb y0 y1 hxb hyb lxb lyb B ab T W hW hB;clear hxa hya hxb hyb lxa lya lxb lyb;obtain ⟨mn,ap⟩:∃ m,minR (minR (minR (op x0 y0) (op x0 y1)) (op x1 y0)) (op x1 y1)=m:=⟨_,rfl⟩;obtain ⟨mx,aq⟩:∃ m,maxR (maxR (maxR (op x0 y0) (op x0 y1)) (op x1 y0)) (op x1 y1)=m:=⟨_,rfl⟩;rw[ap,aq];obtain ⟨U,hU⟩:∃ X,Proofs.YtnjonlnemagomaaGreatDoor.rs mn=X:=⟨_,rfl⟩;obtain ⟨V,hV⟩:∃ X,Proofs.YtnjonlnemagomaaGreatDoor.rs mx=X:=⟨_,rfl⟩;rw[hU,hV];unfold SpPost;refine zh10 ?_ he b8 b9 hop hb hcf ap aq hU hV;clear he b8 b9 hop hb hcf ap aq hU hV;intro HE bi bj bw af bg bn bq HU HV;go_in;go_upto_region 1 with (fail);obtain ⟨BA,BB,BP,HN⟩:=lay3 w 53 #[.string xa,.string ya] 53 #[.string xb,.string yb] 53 #[.string ⟨#[]⟩,.string ⟨#[]⟩];obtain ⟨w8,cg⟩:∃ u,((w.alloc (.cells #[.string xa,.string ya] 53)).alloc (.cells #[.string xb,.string yb] 53)).alloc (.cells #[.string ⟨#[]⟩,.string ⟨#[]⟩] 53)=u:=⟨_,rfl⟩;rw[cg] at BA BB BP HN⊢;clear cg;have pa:=BA.out.two;go_wp2_with fail;clear pa;obtain ⟨BG,hn⟩:=lay1 w8 23 #[.string xa,.string ya];obtain ⟨HN,BB,BP⟩:=zn3 hn HN BB.new BP.new;clear hn;clear BA;refine (bi _ _ _ _ (HE.new HN) BG).mono ?_;rintro e w2 ⟨ga,rfl,hn,co,h2⟩;clear co BG;have HA:=hid h2;clear h2;obtain ⟨HN,BB,BP⟩:=zn3 hn HN BB.new BP.new;clear hn;go_wp2_with fail;have HW:=HN;clear HN;go_loopw [8,20] (fun v i wr=>∃ (k:Nat) (rs:List Rat),i=.int .i64 (k:Int)∧Hid ((k=0∧rs=[])∨(k=1∧rs=[op x0 y0,op x0 y1])∨(k=2∧rs=[op x0 y0,op x0 y1,op x1 y0,op x1 y1]))∧Hid (New w2 wr)∧Hid (FRow w2.heap.size wr v rs)) (fun _ i _=>2 - (RowKit.intOf i).toNat)
 case atStart=>exact ⟨0,[],rfl,hid (.inl ⟨rfl,rfl⟩),hid (New.refl _),hid (FRow.nil _ _)⟩
 case round=>
  obtain ⟨k,rs,rfl,HK,HN,HR⟩:=hrel;by_cases hlt:k < 2
  ·have bf:=hid (HA.new HN)
   have cx:(k:Int) < 2:=by omega
   go_upto_region 4 with (fail)
   go_cut [10] from 22 to 23 (fun u wx=>∃ (X:Nat) (fx:FVal) (x:Rat),u=.pointer (some ⟨X,0,none⟩)∧Hid (New wr wx)∧Hid (wr.heap.size≤X)∧Hid (FBox wx X fx)∧Hid (IsFrac wx fx.val x)∧Hid ((k=0∧x=x0)∨(k=1∧x=x1)))
   case first=>
    obtain ⟨s,a,l,c,t,d,m,kk,s',a',l',c',t',d',m',k',aa,ad,ae⟩:=bf.out;rcases (show k=0∨k=1 by omega) with rfl | rfl
    ·have z0:=aa.cell 0;have z1:=aa.cell 1;have z2:=aa.cell 2;have z3:=aa.cell 3;refine zh3 ?_ ad ae aa;clear ad ae aa;intro aj ak a6;go_wp2_with fail
     go_meet
     exact ⟨_,⟨s,a,l,c,t,d,m,kk⟩,x0,rfl,hid ((New.refl _).alloc _),hid (Nat.le_refl _),hid (Box.alloc wr _ _ _ rfl),hid (aj.new ((New.refl _).alloc _)),hid (by simp)⟩
    ·have z0:=aa.cell 4;have z1:=aa.cell 5;have z2:=aa.cell 6;have z3:=aa.cell 7;refine zh3 ?_ ad ae aa;clear ad ae aa;intro aj ak a6;go_wp2_with fail
     go_meet
     exact ⟨_,⟨s',a',l',c',t',d',m',k'⟩,x1,rfl,hid ((New.refl _).alloc _),hid (Nat.le_refl _),hid (Box.alloc wr _ _ _ rfl),hid (ak.new ((New.refl _).alloc _)),hid (by simp)⟩
   case rest=>
    obtain ⟨X,fx,x,rfl,b5,b6,BX,HX,bm⟩:=hcut;have hn:=b5.out;have be:=BB.out.new (HN.out.trans hn);have bu:=HN.out.trans hn;have bz:=HR.out.new hn
    have ce:u8.ownBlock≠some X:=fun e=>by
     have h1:=HR.out.lt X e;have h2:=b6.out;omega
    clear hn b5 HN HR bf b6;refine zh4 ?_ be bu bz ce;clear be bu bz ce;intro bc az HR bt;have aw:=hid (HE.new (HW.trans az));have HN:=az;have pb:=bc.out.two;go_wp2_with fail;clear pb;clear HN;have HN:=hid (New.refl wc);obtain ⟨BG,hn⟩:=lay1 wc 23 #[.string xb,.string yb];obtain ⟨HN,aw⟩:=zn2 hn HN aw.new;clear hn;refine (bj _ _ _ _ aw BG).mono ?_;rintro e w4 ⟨gb,rfl,hn,cp,h2⟩;have ar:=HN.out.trans hn
    have ca:u8.ownBlock≠some gb:=fun e=>by
     have h1:=HR.out.lt gb e;have h2:=HN.out.size;omega
    have a1:InRel w2 X gb fx x y0 y1 u8 rs w4:=⟨az.out.trans ar,HR.out.new ar,bt.out,ca,BX.out.new ar,HX.out.new ar,h2⟩;clear hn cp h2 ar ca BG HN az HR bt BX HX aw bc;replace a1:=hid a1;go_wp2_with fail;go_loopw [8,31] (fun v i wr=>∃ (j:Nat) (qs:List Rat),i=.int .i64 (j:Int)∧Hid ((j=0∧qs=[])∨(j=1∧qs=[op x y0])∨(j=2∧qs=[op x y0,op x y1]))∧Hid (InRel w2 X gb fx x y0 y1 v (rs ++ qs) wr)) (fun _ i _=>2 - (RowKit.intOf i).toNat)
    case atStart=>exact ⟨0,[],rfl,hid (.inl ⟨rfl,rfl⟩),by rw[List.append_nil];exact a1⟩
    case round=>
     clear a1;obtain ⟨j,qs,rfl,HJ,HI⟩:=hrel;by_cases hlj:j < 2
     ·have cw:(j:Int) < 2:=by omega
      go_upto_region 7 with (fail)
      go_cut [12] from 33 to 34 (fun u wx=>∃ (Y:Nat) (fy:FVal) (y:Rat),u=.pointer (some ⟨Y,0,none⟩)∧Hid (New wr wx)∧Hid (FBox wx Y fy)∧Hid (IsFrac wx fy.val y)∧Hid ((j=0∧y=y0)∨(j=1∧y=y1)))
      case first=>
       obtain ⟨s,a,l,c,t,d,m,kk,s',a',l',c',t',d',m',k',aa,ad,ae⟩:=HI.out.fb;rcases (show j=0∨j=1 by omega) with rfl | rfl
       ·have z0:=aa.cell 0;have z1:=aa.cell 1;have z2:=aa.cell 2;have z3:=aa.cell 3;refine zh3 ?_ ad ae aa;clear ad ae aa;intro aj ak a6;go_wp2_with fail
        go_meet
        exact ⟨_,⟨s,a,l,c,t,d,m,kk⟩,y0,rfl,hid ((New.refl _).alloc _),hid (Box.alloc wr _ _ _ rfl),hid (aj.new ((New.refl _).alloc _)),hid (by simp)⟩
       ·have z0:=aa.cell 4;have z1:=aa.cell 5;have z2:=aa.cell 6;have z3:=aa.cell 7;refine zh3 ?_ ad ae aa;clear ad ae aa;intro aj ak a6;go_wp2_with fail
        go_meet
        exact ⟨_,⟨s',a',l',c',t',d',m',k'⟩,y1,rfl,hid ((New.refl _).alloc _),hid (Box.alloc wr _ _ _ rfl),hid (ak.new ((New.refl _).alloc _)),hid (by simp)⟩
      case rest=>
       obtain ⟨Y,fy,y,rfl,b7,BY,HY,bl⟩:=hcut;have ax:=hid (HI.new b7);clear HI b7;have hx:=bm.out;have hy:=bl.out;have au:=bw.out x y (hx.imp And.right And.right) (hy.imp And.right And.right);replace au:=hid au;clear hx hy;have BX:=hid ax.bx;have px:=BX.out.four;have py:=BY.out.four;go_wp2_with fail;rw[bg.out,Oper.upon_enter];refine zN (au _ _ _ ax.fx HY) fun w6 v6 hn hf=>?_;obtain ⟨f6,rfl⟩:=frac_val hf;have ay:=hid (ax.new hn);clear px py;clear ax BX BY HY hn;replace hf:=hid hf;have a5:=cells_one f6;have cd:=cells_notU f6
       have ch:∀ u∈(Value.agg #[.int .i64 0,.slice none 0 0,.int .i64 0,.slice none 0 0]).cells,NotU u:=by
        intro u hu;simp[Value.cells] at hu
        rcases hu with rfl | rfl | rfl | rfl <;> first | exact .i64 _ | exact .slice _ _ _
       have a3:(rs ++ qs).length≤8:=by
        rcases HK.out with ⟨-,h⟩ | ⟨-,h⟩ | ⟨-,h⟩ <;> rcases HJ.out with ⟨-,h2⟩ | ⟨-,h2⟩ | ⟨-,h2⟩ <;> rw[h,h2] <;> simp
       obtain ⟨fs,an,ac,cb,ag⟩:=ay.out.hr;have cf:=ay.out.hn.size;refine zh9 ?_ a5 cd ch a3 an ac cb cf ag;clear a5 cd ch a3 an ac cb cf ag;intro bv cl cn a2 bk al a8 b4 bh;go_wp2_with (at_builtin;refine wpList_append_noDig rfl _ _ 201 rfl w2.heap.size 115 i0 (.agg #[.int .i64 0,.slice none 0 0,.int .i64 0,.slice none 0 0]) 4 64 underlying201 hi cs ct cu rfl (by decide) _ _ _ rfl (al.alloc _) ⟨w6.heap.size,0,none⟩ 1 1 f6.cells rfl rfl (cells_at w6 f6 _) bv (by have:=a2.out;unfold maxLen;omega) (by have:=a2.out;omega) (by have:=b4.out;rw[←size_alloc];omega) cn cl (a8.new ((New.refl _).alloc _)) ?_);intro v' w7 av ao a4 ah;have am:∀ o,New w6 (w6.alloc o):=fun o=>(New.refl _).alloc o
       have ci:Hid (InRel w2 X gb fx x y0 y1 v' (rs ++ (qs ++ [op x y])) w7):=hid (by
        rw[←List.append_assoc]
        exact (ay.new (am _)).push bk (al.alloc _) (a8.new (am _)) (fun i f q e1 e2=>(bh i f q e1 e2).new (am _)) (hf.new (am _)) ao (by simpa using av) a4 (fun g hg=>(ah g hg).imp id (fun h=>by rw[←size_alloc];exact h)))
       have cj:Hid ((j+1=0∧qs ++ [op x y]=[])∨(j+1=1∧qs ++ [op x y]=[op x y0])∨(j+1=2∧qs ++ [op x y]=[op x y0,op x y1])):=hid (by
        rcases bl.out with ⟨rfl,rfl⟩ | ⟨rfl,rfl⟩
        ·rcases HJ.out with ⟨-,h⟩ | ⟨h, -⟩ | ⟨h, -⟩
         ·exact .inr (.inl ⟨rfl,by rw[h];rfl⟩)
         ·omega
         ·omega
        ·rcases HJ.out with ⟨h, -⟩ | ⟨-,h⟩ | ⟨h, -⟩
         ·omega
         ·exact .inr (.inr ⟨rfl,by rw[h];rfl⟩)
         ·omega)
       clear av ao a4 ah ay bk al a8 bh hf b4 am;go_wp2_with fail;go_roundw
       case rel=>exact ⟨j+1,_,by go_num,cj,ci⟩
       case measure=>simp[RowKit.intOf];omega
     ·have cq:j=2∧qs=[op x y0,op x y1]:=by
       rcases HJ.out with ⟨h, -⟩ | ⟨h, -⟩ | h
       ·omega
       ·omega
       ·exact h
      obtain ⟨rfl,rfl⟩:=cq
      have ck:Hid ((k+1=0∧rs ++ [op x y0,op x y1]=[])∨(k+1=1∧rs ++ [op x y0,op x y1]=[op x0 y0,op x0 y1])∨(k+1=2∧rs ++ [op x y0,op x y1]=[op x0 y0,op x0 y1,op x1 y0,op x1 y1])):=hid (by
       rcases bm.out with ⟨rfl,rfl⟩ | ⟨rfl,rfl⟩
       ·rcases HK.out with ⟨-,h⟩ | ⟨h, -⟩ | ⟨h, -⟩
        ·exact .inr (.inl ⟨rfl,by rw[h];rfl⟩)
        ·omega
        ·omega
       ·rcases HK.out with ⟨h, -⟩ | ⟨-,h⟩ | ⟨h, -⟩
        ·omega
        ·exact .inr (.inr ⟨rfl,by rw[h];rfl⟩)
        ·omega)
      have hn:=HI.out.hn;have hr:=HI.out.hr;clear HI HJ;have HN:=hid hn;have HR:=hid hr;clear hn hr;go_wp2_with fail;go_roundw
      case rel=>exact ⟨k+1,_,by go_num,ck,HN,HR⟩
      case measure=>simp[RowKit.intOf];omega
  ·have cr:k=2∧rs=[op x0 y0,op x0 y1,op x1 y0,op x1 y1]:=by
    rcases HK.out with ⟨h, -⟩ | ⟨h, -⟩ | h
    ·omega
    ·omega
    ·exact h
   obtain ⟨rfl,rfl⟩:=cr;obtain ⟨fs,an,ac, -,ag⟩:=HR.out
   obtain ⟨f0,f1,f2,f3,rfl⟩:∃ f0 f1 f2 f3,fs=[f0,f1,f2,f3]:=by
    match fs,an with
    | [f0,f1,f2,f3],_=>exact ⟨f0,f1,f2,f3,rfl⟩
   obtain ⟨g,ab,rfl⟩:∃ g ab,u8=.slice (some ⟨g,0,none⟩) 4 ab:=by
    rcases ac.2 with ⟨-,h⟩ | ⟨g,ab,cv,h, -⟩
    ·cases h
    ·exact ⟨g,ab,h⟩
   have h4:Fr4 wr g f0 f1 f2 f3:=fun j u hu=>by
    have:=ac.cells (g:=g) rfl j u (by simpa using hu);rw[Addr.add_lit] at this;simpa using this
   have e0:=ag 0 f0 _ rfl rfl;have e1:=ag 1 f1 _ rfl rfl;have e2:=ag 2 f2 _ rfl rfl;have e3:=ag 3 f3 _ rfl rfl;have b0:=af.out x0 y0 (.inl rfl) (.inl rfl);have b1:=af.out x0 y1 (.inl rfl) (.inr rfl);have b2:=af.out x1 y0 (.inr rfl) (.inl rfl);have b3:=af.out x1 y1 (.inr rfl) (.inr rfl);have ba:=fun W h4 e0 e1 e2 e3=>minFunc_four g ab f0 f1 f2 f3 _ _ _ _ 1800 W h4 e0 e1 e2 e3 b0 b1 b2 b3 (by omega);have bb:=fun W h4 e0 e1 e2 e3=>maxFunc_four g ab f0 f1 f2 f3 _ _ _ _ 1800 W h4 e0 e1 e2 e3 b0 b1 b2 b3 (by omega)
   have mb:∀ {x y:Rat},FB 1800 x→FB 1800 y→FB 1800 (minR x y)∧FB 1800 (maxR x y):=fun {x y} hx hy=>by
    unfold minR maxR;exact ⟨by split <;> assumption,by split <;> assumption⟩
   have ai:=fun W va vb h1 h2 hW=>nspan_calls va vb _ _ W h1 h2 (mb (mb (mb b0 b1).1 b2).1 b3).1 (mb (mb (mb b0 b1).2 b2).2 b3).2 hW;rw[bn.out] at ba ai;rw[bq.out] at bb ai;unfold SpPost at ai;rw[HU.out,HV.out] at ai;have bp:=BP.out.new HN.out;have hw:=HW.out.trans HN.out;clear HK HR HA ac ag b0 b1 b2 b3 mb an BB BP HN HW HU HV bn bq bi bj bw af bg;refine zh10 ?_ ba bb ai hw bp h4 e0 e1 e2 e3;clear ba bb ai hw bp h4 e0 e1 e2 e3;intro bo br cm HN BP H4 E0 E1 E2 E3;go_wp2_with fail;refine zN (bo _ H4 E0 E1 E2 E3) fun w3 v3 hn a9=>?_;obtain ⟨g3,rfl⟩:=frac_val a9;have a7:=hid a9;clear a9;obtain ⟨HN,BP,H4,E0,E1,E2,E3⟩:=zn7 hn HN BP.new H4.new E0.new E1.new E2.new E3.new;clear hn;go_wp2_with fail;refine zN (br _ H4 E0 E1 E2 E3) fun w4 v4 hn a0=>?_;obtain ⟨g4,rfl⟩:=frac_val a0;replace a0:=hid a0;obtain ⟨HN,BP,a7⟩:=zn3 hn HN BP.new a7.new;clear hn;go_wp2_with fail;refine zM (cm _ _ _ a7 a0 (HE.new HN)) fun w5 hn=>?_;obtain ⟨HN,BP⟩:=zn2 hn HN BP.new;clear hn;obtain ⟨p0,p1,p2,p3,p4⟩:=BP.out.two;go_wp2_with fail;refine bodyPost_ret (v:=.tuple #[.agg #[.string U,.string V],.int .i64 0]) (by simp[results,results141,go_sem,p0,p1]) rfl ?_;exact ⟨rfl,HN.putAt BP (by omega) _ _⟩
theorem nfirst2_new (x y:Int)(b cap:Nat)(t:TypeId)(w:World)(h:Box w b t #[.int .i64 x,.int .i64 y]):Calls prog 86 #[.slice (some ⟨b,0,none⟩) 2 cap] w (RetNew w (if x=0 then y else x)):=
 (nfirst2 x y b cap t w h).mono fun _ _ h=>⟨h.1,.of_eq h.2⟩
theorem opspans_all (xa ya xb yb U V:ByteArray) (fn:Nat) (ea eb r:Int) (hr:(if ea=0 then eb else ea)=r) (hca:∀ W,Env W→Calls prog 51 #[.agg #[.string xa,.string ya]] W (RetNew W ea)) (hcb:∀ W,Env W→Calls prog 51 #[.agg #[.string xb,.string yb]] W (RetNew W eb))
  (aa:r=0→∀ W,Env W→Calls prog 141 #[.agg #[.string xa,.string ya],.agg #[.string xb,.string yb],.func (.func fn) #[] #[]] W (SpPost W U V 0)) (hU:r≠0→U=⟨#[]⟩∧V=⟨#[]⟩) (w:World) (he:Env w):
  Calls prog 140 #[.agg #[.string xa,.string ya],.agg #[.string xb,.string yb],.func (.func fn) #[] #[]] w (SpPost w U V r):=by
 unfold SpPost at *;refine zh6 ?_ he hca hcb hr aa hU;clear he hca hcb hr aa hU;intro HE al am HR an HU;go_in;go_upto_region 1 with (fail);obtain ⟨BA,BB,BP,HN⟩:=lay3 w 53 #[.string xa,.string ya] 53 #[.string xb,.string yb] 53 #[.string ⟨#[]⟩,.string ⟨#[]⟩];obtain ⟨ab,ac,ad,ae,af⟩:=BA.out.two;obtain ⟨ag,ah,ai,aj,ak⟩:=BB.out.two;clear ab ac ad ae af;clear ag ah ai aj ak;refine zR 6 7 (fun W=>zC W w.heap.size (.string xa) (.string ya)∧zC W (w.heap.size+1) (.string xb) (.string yb)) ?_;refine zT 0 ⟨cW2 BA,cW2 BB⟩ ?_;refine zT 2 ⟨cW2 BA,cW2 BB⟩ ?_;refine tk1 1 fun K hK=>?_;go_simp;refine zM (al _ (HE.new HN.drew)) fun w1 hn=>?_;obtain ⟨HN,BA,BB,BP⟩:=zn4 hn.undrew HN BA.new BB.new BP.new;clear hn;refine zK hK ⟨cW2 BA,cW2 BB⟩ ?_;clear hK K;refine tk1 3 fun K hK=>?_;go_simp;refine zM (am _ (HE.new HN)) fun w2 hn=>?_;obtain ⟨HN,BA,BB,BP⟩:=zn4 hn HN BA.new BB.new BP.new;clear hn;refine zK hK ⟨cW2 BA,cW2 BB⟩ ?_;clear hK K;refine tk1 4 fun K hK=>?_;go_simp;obtain ⟨BG,hn⟩:=lay1 w2 32 #[.int .i64 ea,.int .i64 eb];obtain ⟨HN,BA,BB,BP⟩:=zn4 hn HN BA.new BB.new BP.new;clear hn;refine zK hK ⟨cW2 BA,cW2 BB⟩ ?_;clear hK K;refine tk1 5 fun K hK=>?_;go_simp;refine zM (nfirst2_new ea eb _ _ 32 _ BG) fun w3 hn=>?_;rw[HR.out];clear BG;obtain ⟨HN,BA,BB,BP⟩:=zn4 hn HN BA.new BB.new BP.new;clear hn;refine zK hK ⟨cW2 BA,cW2 BB⟩ ?_;clear hK K;refine tlW ?_;obtain ⟨ab,ac,ad,ae,af⟩:=BA.out.two;obtain ⟨ag,ah,ai,aj,ak⟩:=BB.out.two;by_cases h0:r=0
 ·have aa:=an.out h0;subst h0;replace aa:=hid aa;go_wp2_with fail;refine zM (aa _ (HE.new HN)) fun w4 hn=>?_;clear ab ac ad ae af ag ah ai aj ak;obtain ⟨HN,BP⟩:=zn2 hn HN BP.new;clear hn;obtain ⟨p0,p1,p2,p3,p4⟩:=BP.out.two;go_wp2_with fail;refine bodyPost_ret (v:=.tuple #[.agg #[.string U,.string V],.int .i64 0]) (by simp[results,results140,go_sem,p0,p1]) rfl ?_;exact ⟨rfl,HN.putAt BP (by omega) _ _⟩
 ·obtain ⟨rfl,rfl⟩:=HU.out h0
  have ht:(r != 0)=true:=by simpa using h0
  clear h0;obtain ⟨p0,p1,p2,p3,p4⟩:=BP.out.two;go_wp2_with fail;refine bodyPost_ret (v:=.tuple #[.agg #[.string ⟨#[]⟩,.string ⟨#[]⟩],.int .i64 r]) (by simp[results,results140,go_sem,p0,p1]) rfl ?_;exact ⟨rfl,HN.putAt BP (by omega) _ _⟩
theorem ntimes_calls (xa ya xb yb U V:ByteArray)(r:Int)(aa:∀ W,Env W→Calls prog 140 #[.agg #[.string xa,.string ya],.agg #[.string xb,.string yb],.func (.func 94) #[] #[]] W (SpPost W U V r))(w:World)(he:Env w):
  Calls prog 54 #[.agg #[.string xa,.string ya],.agg #[.string xb,.string yb]] w (SpPost w U V r):=by
 unfold SpPost at *;replace he:=hid he;replace aa:=hid aa;go_in;go_upto_region 1 with (fail);obtain ⟨BA,BB,BP,HN⟩:=lay3 w 53 #[.string xa,.string ya] 53 #[.string xb,.string yb] 53 #[.string ⟨#[]⟩,.string ⟨#[]⟩];obtain ⟨ab,ac,ad,ae,af⟩:=BA.out.two;obtain ⟨ag,ah,ai,aj,ak⟩:=BB.out.two;go_wp2_with fail;refine zM (aa _ (he.new HN)) fun w4 hn=>?_;clear ab ac ad ae af ag ah ai aj ak;obtain ⟨HN,BP⟩:=zn2 hn HN BP.new;clear hn;obtain ⟨p0,p1,p2,p3,p4⟩:=BP.out.two;go_wp2_with fail;refine bodyPost_ret (v:=.tuple #[.agg #[.string U,.string V],.int .i64 r]) (by simp[results,results54,go_sem,p0,p1]) rfl ?_;exact ⟨rfl,HN.putAt BP (by omega) _ _⟩
theorem sgn_nonpos {z:Int}:z.sign≤0 ↔ z≤0:=by
 rcases Int.lt_trichotomy z 0 with h | h | h
 ·rw[Int.sign_eq_neg_one_of_neg h];omega
 ·rw[h];decide
 ·rw[Int.sign_eq_one_of_pos h];omega
theorem sgn_nonneg {z:Int}:z.sign ≥ 0 ↔ 0≤z:=by
 rcases Int.lt_trichotomy z 0 with h | h | h
 ·rw[Int.sign_eq_neg_one_of_neg h];omega
 ·rw[h];decide
 ·rw[Int.sign_eq_one_of_pos h];omega
theorem nover_all (xa ya xb yb U V:ByteArray) (y0 y1:Rat) (ea eb r E:Int) (hr:(if ea=0 then eb else ea)=r) (hy:r=0→xb.data.toList=ratText y0∧yb.data.toList=ratText y1∧xb.size≤100000∧yb.size≤100000)
  (hca:∀ W,Env W→Calls prog 51 #[.agg #[.string xa,.string ya]] W (RetNew W ea)) (hcb:∀ W,Env W→Calls prog 51 #[.agg #[.string xb,.string yb]] W (RetNew W eb))
  (hb:r≠0→U=⟨#[]⟩∧V=⟨#[]⟩∧E=r) (hz:r=0→y0.num≤0→0≤y1.num→U=⟨#[]⟩∧V=⟨#[]⟩∧E=6)
  (ak:r=0→(0 < y0.num∨y1.num < 0)→E=0∧∀ W,Env W→Calls prog 141 #[.agg #[.string xa,.string ya],.agg #[.string xb,.string yb],.func (.func 95) #[] #[]] W (SpPost W U V 0)) (w:World) (he:Env w):
  Calls prog 55 #[.agg #[.string xa,.string ya],.agg #[.string xb,.string yb]] w (SpPost w U V E):=by
 obtain ⟨s0,am⟩:∃ s,y0.num.sign=s:=⟨_,rfl⟩;obtain ⟨s1,an⟩:∃ s,y1.num.sign=s:=⟨_,rfl⟩
 have k0:s0≤0 ↔ y0.num≤0:=by rw[←am];exact sgn_nonpos
 have k1:s1 ≥ 0 ↔ 0≤y1.num:=by rw[←an];exact sgn_nonneg
 unfold SpPost at *;refine zh12 ?_ he hca hcb hr am an hb hz ak hy k0 k1;clear he hca hcb hr am an hb hz ak hy k0 k1;intro HE av aw HR az a0 HB HZ al HY K0 K1;go_in;go_upto_region 1 with (fail);obtain ⟨BA,BB,BP,HN⟩:=lay3 w 53 #[.string xa,.string ya] 53 #[.string xb,.string yb] 53 #[.string ⟨#[]⟩,.string ⟨#[]⟩];obtain ⟨aa,ab,ac,ad,ae⟩:=BA.out.two;obtain ⟨af,ag,ah,ai,aj⟩:=BB.out.two;clear aa ab ac ad ae;clear af ag ah ai aj;refine zR 6 7 (fun W=>zC W w.heap.size (.string xa) (.string ya)∧zC W (w.heap.size+1) (.string xb) (.string yb)) ?_;refine zT 0 ⟨cW2 BA,cW2 BB⟩ ?_;refine zT 2 ⟨cW2 BA,cW2 BB⟩ ?_;refine tk1 1 fun K hK=>?_;go_simp;refine zM (av _ (HE.new HN.drew)) fun w1 hn=>?_;obtain ⟨HN,BA,BB,BP⟩:=zn4 hn.undrew HN BA.new BB.new BP.new;clear hn;refine zK hK ⟨cW2 BA,cW2 BB⟩ ?_;clear hK K;refine tk1 3 fun K hK=>?_;go_simp;refine zM (aw _ (HE.new HN)) fun w2 hn=>?_;obtain ⟨HN,BA,BB,BP⟩:=zn4 hn HN BA.new BB.new BP.new;clear hn;refine zK hK ⟨cW2 BA,cW2 BB⟩ ?_;clear hK K;refine tk1 4 fun K hK=>?_;go_simp;obtain ⟨BG,hn⟩:=lay1 w2 32 #[.int .i64 ea,.int .i64 eb];obtain ⟨HN,BA,BB,BP⟩:=zn4 hn HN BA.new BB.new BP.new;clear hn;refine zK hK ⟨cW2 BA,cW2 BB⟩ ?_;clear hK K;refine tk1 5 fun K hK=>?_;go_simp;refine zM (nfirst2_new ea eb _ _ 32 _ BG) fun w3 hn=>?_;rw[HR.out];clear BG;obtain ⟨HN,BA,BB,BP⟩:=zn4 hn HN BA.new BB.new BP.new;clear hn;refine zK hK ⟨cW2 BA,cW2 BB⟩ ?_;clear hK K;refine tlW ?_;obtain ⟨aa,ab,ac,ad,ae⟩:=BA.out.two;obtain ⟨af,ag,ah,ai,aj⟩:=BB.out.two;by_cases h0:r=0
 case neg=>
  obtain ⟨rfl,rfl,rfl⟩:=HB.out h0
  have ht:(E != 0)=true:=by simpa using h0
  clear h0;obtain ⟨p0,p1,p2,p3,p4⟩:=BP.out.two;go_wp2_with fail;refine bodyPost_ret (v:=.tuple #[.agg #[.string ⟨#[]⟩,.string ⟨#[]⟩],.int .i64 E]) (by simp[results,results55,go_sem,p0,p1]) rfl ?_;exact ⟨rfl,HN.putAt BP (by omega) _ _⟩
 obtain ⟨ar,au,a1,a2⟩:=HY.out h0;have ap:=fun W hW=>from_calls xb y0 W hW ar (by omega);have aq:=fun W hW=>from_calls yb y1 W hW au (by omega);have hz:=HZ.out h0;have ao:=al.out h0;subst h0;clear HY HZ al HB ar au a1 a2;refine zh4 ?_ ap aq hz ao;clear ap aq hz ao;intro ax ay HZ al;go_wp2_with fail;refine zN (ax _ (HE.new HN)) fun w4 v4 hn hf=>?_;clear aa ab ac ad ae af ag ah ai aj;have HF:=hid hf;clear hf;obtain ⟨HN,BA,BB,BP⟩:=zn4 hn HN BA.new BB.new BP.new;clear hn;obtain ⟨aa,ab,ac,ad,ae⟩:=BA.out.two;obtain ⟨af,ag,ah,ai,aj⟩:=BB.out.two;go_wp2_with fail;refine zM (fsign_calls _ y0 _ HF) fun w5 hn=>?_;rw[az.out];clear HF;clear aa ab ac ad ae af ag ah ai aj;obtain ⟨HN,BA,BB,BP⟩:=zn4 hn HN BA.new BB.new BP.new;clear hn;obtain ⟨aa,ab,ac,ad,ae⟩:=BA.out.two;obtain ⟨af,ag,ah,ai,aj⟩:=BB.out.two;by_cases c0:s0≤0
 ·have t0:decide (s0≤0)=true:=decide_eq_true c0;go_wp2_with fail;refine zN (ay _ (HE.new HN)) fun w6 v6 hn hf=>?_;clear aa ab ac ad ae af ag ah ai aj;replace hf:=hid hf;obtain ⟨HN,BA,BB,BP⟩:=zn4 hn HN BA.new BB.new BP.new;clear hn;obtain ⟨aa,ab,ac,ad,ae⟩:=BA.out.two;obtain ⟨af,ag,ah,ai,aj⟩:=BB.out.two;go_wp2_with fail;refine zM (fsign_calls _ y1 _ hf) fun w7 hn=>?_;rw[a0.out];clear hf;clear aa ab ac ad ae af ag ah ai aj;obtain ⟨HN,BA,BB,BP⟩:=zn4 hn HN BA.new BB.new BP.new;clear hn;obtain ⟨aa,ab,ac,ad,ae⟩:=BA.out.two;obtain ⟨af,ag,ah,ai,aj⟩:=BB.out.two;by_cases c1:s1 ≥ 0
  ·obtain ⟨rfl,rfl,rfl⟩:=HZ.out (K0.out.1 c0) (K1.out.1 c1);have t1:decide (s1 ≥ 0)=true:=decide_eq_true c1;obtain ⟨p0,p1,p2,p3,p4⟩:=BP.out.two;go_wp2_with fail;refine bodyPost_ret (v:=.tuple #[.agg #[.string ⟨#[]⟩,.string ⟨#[]⟩],.int .i64 6]) (by simp[results,results55,go_sem,p0,p1]) rfl ?_;exact ⟨rfl,HN.putAt BP (by omega) _ _⟩
  ·obtain ⟨rfl,ak⟩:=al.out (.inr (Int.not_le.1 fun h=>c1 (K1.out.2 h)));have t1:decide (s1 ≥ 0)=false:=decide_eq_false c1;replace ak:=hid ak;go_wp2_with fail;refine zM (ak _ (HE.new HN)) fun w8 hn=>?_;clear aa ab ac ad ae af ag ah ai aj;obtain ⟨HN,BP⟩:=zn2 hn HN BP.new;clear hn;obtain ⟨p0,p1,p2,p3,p4⟩:=BP.out.two;go_wp2_with fail;refine bodyPost_ret (v:=.tuple #[.agg #[.string U,.string V],.int .i64 0]) (by simp[results,results55,go_sem,p0,p1]) rfl ?_;exact ⟨rfl,HN.putAt BP (by omega) _ _⟩
 ·obtain ⟨rfl,ak⟩:=al.out (.inl (Int.not_le.1 fun h=>c0 (K0.out.2 h)));have t0:decide (s0≤0)=false:=decide_eq_false c0;replace ak:=hid ak;go_wp2_with fail;refine zM (ak _ (HE.new HN)) fun w8 hn=>?_;clear aa ab ac ad ae af ag ah ai aj;obtain ⟨HN,BP⟩:=zn2 hn HN BP.new;clear hn;obtain ⟨p0,p1,p2,p3,p4⟩:=BP.out.two;go_wp2_with fail;refine bodyPost_ret (v:=.tuple #[.agg #[.string U,.string V],.int .i64 0]) (by simp[results,results55,go_sem,p0,p1]) rfl ?_;exact ⟨rfl,HN.putAt BP (by omega) _ _⟩
theorem eq_span_run (a b c d:ByteArray)(W:World):(Op.equalIn 10000 53 (.agg #[.string a,.string b]) (.agg #[.string c,.string d])).run prog W=.ok (a.toList==c.toList && b.toList==d.toList) W:=by
 have hf:(prog.fieldsOf 53).toList.length=2:=by kernel_rfl
 rw[run_equalIn_struct (P:=prog) W 9999 53 #[.string a,.string b] #[.string c,.string d] (by kernel_rfl) (by kernel_rfl)]
 obtain ⟨f1,f2,hl⟩:∃ f1 f2,(prog.fieldsOf 53).toList=[f1,f2]:=by
  match h:(prog.fieldsOf 53).toList,hf with
  | [a,b],_=>exact ⟨a,b,rfl⟩
 have e1 : (f1.name == "_") = false ∧ f1.type = 23 ∧ f1.offset = 0 := by
  have:(prog.fieldsOf 53).toList[0]?=some f1:=by rw[hl];rfl
  have h2 : (prog.fieldsOf 53).toList[0]?.map (fun f => (f.name == "_", f.type, f.offset)) = some (false, 23, 0) := by kernel_rfl
  rw[this]at h2;simpa using h2
 have e2 : (f2.name == "_") = false ∧ f2.type = 23 ∧ f2.offset = 1 := by
  have:(prog.fieldsOf 53).toList[1]?=some f2:=by rw[hl];rfl
  have h2 : (prog.fieldsOf 53).toList[1]?.map (fun f => (f.name == "_", f.type, f.offset)) = some (false, 23, 1) := by kernel_rfl
  rw[this]at h2;simpa using h2
 rw[hl];have hu:prog.underlying 23=some .string:=underlying23
 have aa:prog.plainKey 23=true:=by kernel_rfl
 have ab:∀ (x y:ByteArray),(part 23 #[.string x,.string y] 0).run prog W=.ok (.string x) W:=fun x y=>run_part_plain W aa rfl;have ac:∀ (x y:ByteArray),(part 23 #[.string x,.string y] 1).run prog W=.ok (.string y) W:=fun x y=>run_part_plain W aa rfl
 have n1 : f1.name ≠ "_" := by simpa using e1.1
 have n2 : f2.name ≠ "_" := by simpa using e2.1
 unfold Op.eqFields;rw[if_pos n1,e1.2.1,e1.2.2];simp only[Sem.run_bind,ab,Result.andThen_ok,run_equalIn_string W 9998 23 a c hu];unfold Op.eqFields;rw[if_pos n2,e2.2.1,e2.2.2]
 cases hac:(a.toList==c.toList)
 ·simp
 ·simp only[Bool.not_true,Bool.false_eq_true,if_false,Bool.true_and,Sem.run_bind,ac,Result.andThen_ok,run_equalIn_string W 9998 23 b d hu];unfold Op.eqFields
  cases hbd:(b.toList==d.toList) <;> simp
theorem eql_spans (a b c d:ByteArray)(W:World):(binOp .eql 53 (.agg #[.string a,.string b]) (.agg #[.string c,.string d])).run prog W=.ok (.bool (a.toList==c.toList && b.toList==d.toList)) W:=by
 rw[run_eql_struct,eq_span_run];simp
def NCmpPost (w:World)(n E:Int)(e:Ending)(w':World):Prop:=e=.returned (.tuple #[.int .i64 n,.int .i64 E])∧New w w'
theorem ncompare_all (xa ya xb yb:ByteArray) (x0 x1 y0 y1:Rat) (hxa:xa.data.toList=ratText x0) (hya:ya.data.toList=ratText x1) (hxb:xb.data.toList=ratText y0) (hyb:yb.data.toList=ratText y1) (lxa:xa.size≤100000) (lya:ya.size≤100000) (lxb:xb.size≤100000) (lyb:yb.size≤100000) (f0:Fits x0) (f1:Fits x1) (g0:Fits y0) (g1:Fits y1) (ea eb:Int) (hr:(if ea=0 then eb else ea)=0)
  (hca:∀ W,Env W→Calls prog 51 #[.agg #[.string xa,.string ya]] W (RetNew W ea)) (hcb:∀ W,Env W→Calls prog 51 #[.agg #[.string xb,.string yb]] W (RetNew W eb)) (b1 b2 b3 b4:Bool) (e1:decide (x1 < y0)=b1) (e2:decide (y1 < x0)=b2) (e3:(xa.toList==ya.toList)=b3) (e4:(xa.toList==xb.toList && ya.toList==yb.toList)=b4) (w:World) (he:Env w):
  Calls prog 56 #[.agg #[.string xa,.string ya],.agg #[.string xb,.string yb]] w (NCmpPost w (if b1 then -1 else if b2 then 1 else 0) (if b1 then 0 else if b2 then 0 else if b4 && b3 then 0 else 24)):=by
 have h1:=fun W hW=>from_calls ya x1 W hW hya (by omega);have h2:=fun W hW=>from_calls xb y0 W hW hxb (by omega);have h3:=fun W hW=>from_calls xa x0 W hW hxa (by omega);have h4:=fun W hW=>from_calls yb y1 W hW hyb (by omega);have ab:=fun va vb W h1 h2=>fcmp_calls va vb x1 y0 2000 2000 W h1 h2 (Fits.fb f1) (Fits.fb g0) (by omega);have ac:=fun va vb W h1 h2=>fcmp_calls va vb x0 y1 2000 2000 W h1 h2 (Fits.fb f0) (Fits.fb g1) (by omega);unfold SignPost at ab ac;obtain ⟨r1,ad⟩:∃ r,(crossed x1 y0).sign=r:=⟨_,rfl⟩;obtain ⟨r2,ae⟩:∃ r,(crossed x0 y1).sign=r:=⟨_,rfl⟩
 have ak:r1 < 0 ↔ x1 < y0:=by rw[←ad];exact crossed_neg
 have al:0 < r2 ↔ y1 < x0:=by rw[←ae];exact crossed_pos
 clear hxa hya hxb hyb lxa lya lxb lyb f0 f1 g0 g1;unfold NCmpPost
 have t1:decide (r1 < 0)=b1:=by rw[←e1];exact decide_eq_decide.2 ak
 have t2:decide (r2 > 0)=b2:=by rw[←e2];exact decide_eq_decide.2 al
 have a4:=fun W=>eql_spans xa ya xb yb W;rw[e4] at a4;clear ak al e1 e2 e4;refine zh12 ?_ he hca hcb hr h1 h2 h3 h4 ab ac ad ae;clear he hca hcb hr h1 h2 h3 h4 ab ac ad ae;intro HE a0 a1 HR ah ai af ag ay az a2 a3;go_in;go_upto_region 1 with (fail);obtain ⟨BA,BB,HN⟩:=lay2 w 53 #[.string xa,.string ya] 53 #[.string xb,.string yb];have pa:=BA.out.two;have pb:=BB.out.two;clear pa;clear pb;refine zR 6 7 (fun W=>zC W w.heap.size (.string xa) (.string ya)∧zC W (w.heap.size+1) (.string xb) (.string yb)) ?_;refine zT 0 ⟨cW2 BA,cW2 BB⟩ ?_;refine zT 2 ⟨cW2 BA,cW2 BB⟩ ?_;refine tk1 1 fun K hK=>?_;go_simp;refine zM (a0 _ (HE.new HN.drew)) fun w1 hn=>?_;obtain ⟨HN,BA,BB⟩:=zn3 hn.undrew HN BA.new BB.new;clear hn;refine zK hK ⟨cW2 BA,cW2 BB⟩ ?_;clear hK K;refine tk1 3 fun K hK=>?_;go_simp;refine zM (a1 _ (HE.new HN)) fun w2 hn=>?_;obtain ⟨HN,BA,BB⟩:=zn3 hn HN BA.new BB.new;clear hn;refine zK hK ⟨cW2 BA,cW2 BB⟩ ?_;clear hK K;refine tk1 4 fun K hK=>?_;go_simp;obtain ⟨BG,hn⟩:=lay1 w2 32 #[.int .i64 ea,.int .i64 eb];obtain ⟨HN,BA,BB⟩:=zn3 hn HN BA.new BB.new;clear hn;refine zK hK ⟨cW2 BA,cW2 BB⟩ ?_;clear hK K;refine tk1 5 fun K hK=>?_;go_simp;refine zM (nfirst2_new ea eb _ _ 32 _ BG) fun w3 hn=>?_;rw[HR.out];clear BG;obtain ⟨HN,BA,BB⟩:=zn3 hn HN BA.new BB.new;clear hn;refine zK hK ⟨cW2 BA,cW2 BB⟩ ?_;clear hK K;refine tlW ?_;have pa:=BA.out.two;have pb:=BB.out.two;go_wp2_with fail;clear pa;clear pb;refine zR 8 9 (fun W=>zC W w.heap.size (.string xa) (.string ya)∧zC W (w.heap.size+1) (.string xb) (.string yb)) ?_;refine zT 0 ⟨cW2 BA,cW2 BB⟩ ?_;refine zT 1 ⟨cW2 BA,cW2 BB⟩ ?_;refine zT 3 ⟨cW2 BA,cW2 BB⟩ ?_;refine zT 4 ⟨cW2 BA,cW2 BB⟩ ?_;refine tk1 2 fun K hK=>?_;go_simp;refine zN (ah _ (HE.new HN.drew)) fun w3 v3 hn hf=>?_;have hn:=hn.undrew;have aa:=hid hf;clear hf;obtain ⟨HN,BA,BB⟩:=zn3 hn HN BA.new BB.new;clear hn;refine zK hK ⟨cW2 BA,cW2 BB⟩ ?_;clear hK K;refine tk1 5 fun K hK=>?_;go_simp;refine zN (ai _ (HE.new HN)) fun w4 v4 hn hf=>?_;have aj:=hid hf;clear hf;obtain ⟨HN,BA,BB,aa⟩:=zn4 hn HN BA.new BB.new aa.new;clear hn;refine zK hK ⟨cW2 BA,cW2 BB⟩ ?_;clear hK K;refine tk1 6 fun K hK=>?_;go_simp;refine zM (ay _ _ _ aa aj) fun w5 hn=>?_;rw[a2.out];clear aa aj;obtain ⟨HN,BA,BB⟩:=zn3 hn HN BA.new BB.new;clear hn;refine zK hK ⟨cW2 BA,cW2 BB⟩ ?_;clear hK K;refine zT 7 ⟨cW2 BA,cW2 BB⟩ ?_;refine tlW ?_;obtain ⟨am,an,ao,ap,aq⟩:=BA.out.two;obtain ⟨ar,au,av,aw,ax⟩:=BB.out.two
 cases b1 with
 | true=>
  go_wp2_with fail;go_ret2;exact ⟨rfl,HN⟩
 | false=>
  go_wp2_with fail;clear am an ao ap aq;clear ar au av aw ax;refine zR 8 9 (fun W=>zC W w.heap.size (.string xa) (.string ya)∧zC W (w.heap.size+1) (.string xb) (.string yb)) ?_;refine zT 0 ⟨cW2 BA,cW2 BB⟩ ?_;refine zT 1 ⟨cW2 BA,cW2 BB⟩ ?_;refine zT 3 ⟨cW2 BA,cW2 BB⟩ ?_;refine zT 4 ⟨cW2 BA,cW2 BB⟩ ?_;refine tk1 2 fun K hK=>?_;go_simp;refine zN (af _ (HE.new HN.drew)) fun w3 v3 hn hf=>?_;have hn:=hn.undrew;have aa:=hid hf;clear hf;obtain ⟨HN,BA,BB⟩:=zn3 hn HN BA.new BB.new;clear hn;refine zK hK ⟨cW2 BA,cW2 BB⟩ ?_;clear hK K;refine tk1 5 fun K hK=>?_;go_simp;refine zN (ag _ (HE.new HN)) fun w4 v4 hn hf=>?_;replace hf:=hid hf;obtain ⟨HN,BA,BB,aa⟩:=zn4 hn HN BA.new BB.new aa.new;clear hn;refine zK hK ⟨cW2 BA,cW2 BB⟩ ?_;clear hK K;refine tk1 6 fun K hK=>?_;go_simp;refine zM (az _ _ _ aa hf) fun w5 hn=>?_;rw[a3.out];clear aa hf;obtain ⟨HN,BA,BB⟩:=zn3 hn HN BA.new BB.new;clear hn;refine zK hK ⟨cW2 BA,cW2 BB⟩ ?_;clear hK K;refine zT 7 ⟨cW2 BA,cW2 BB⟩ ?_;refine tlW ?_;obtain ⟨am,an,ao,ap,aq⟩:=BA.out.two;obtain ⟨ar,au,av,aw,ax⟩:=BB.out.two
  cases b2 with
  | true=>
   go_wp2_with fail;go_ret2;exact ⟨rfl,HN⟩
  | false=>
   cases b4 with
   | false=>
    go_wp2_with fail;go_ret2;exact ⟨rfl,HN⟩
   | true=>
    cases b3 with
    | false=>
     go_wp2_with fail;go_ret2;exact ⟨rfl,HN⟩
    | true=>
     go_wp2_with fail;go_ret2;exact ⟨rfl,HN⟩
end Go.Proofs.YtnjonlnemagomaaGreatDoor
