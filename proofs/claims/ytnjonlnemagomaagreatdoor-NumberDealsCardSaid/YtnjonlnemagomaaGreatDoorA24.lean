/- Part A24. -/
import Derived.Deep.CutBlock
import Derived.Deep.DeepCutAuto
import Derived.Test.YtnjonlnemagomaaGreatDoorA23
namespace Go.Proofs.YtnjonlnemagomaaGreatDoor
open Go.RowKit Big
open Go.Lib (hid)
set_option maxRecDepth 100000
set_option maxHeartbeats 8000000
theorem cells_notU (f:FVal):∀ u∈f.cells,NotU u:=by
 intro u hu;simp at hu
 rcases hu with rfl | rfl | rfl | rfl <;> first | exact .i64 _ | exact .slice _ _ _
theorem cells_one (f:FVal):∀ u∈f.cells,u.oneCell'=true:=by
 intro u hu;simp at hu;rcases hu with rfl | rfl | rfl | rfl <;> rfl
theorem cells_at (w:World)(f:FVal)(t:TypeId):∀ (j:Nat) (u:Value),(f.cells)[j]?=some u→(w.alloc (.cells #[.int .i64 f.s,.slice f.a f.l f.c,.int .i64 f.t,.slice f.d f.m f.k] t)).cell? ((⟨w.heap.size,0,none⟩:Addr).add j)=some u:=by
 intro j u h;rw[Addr.add_lit];show (w.alloc _).cell? ⟨w.heap.size,0+j,none⟩=some u;rw[Nat.zero_add,(Box.alloc w _ t #[.int .i64 f.s,.slice f.a f.l f.c,.int .i64 f.t,.slice f.d f.m f.k] rfl).cell];simpa using h
def FRow (base:Nat)(wr:World)(v:Value)(rs:List Rat):Prop:=∃ fs:List FVal,fs.length=rs.length∧wr.ownsRow base 115 4 v rs.length (fs.flatMap FVal.cells)∧RowNo wr v∧∀ (i:Nat) (f:FVal) (q:Rat),fs[i]?=some f→rs[i]?=some q→IsFrac wr f.val q
theorem FRow.nil (base:Nat)(w:World):FRow base w (.slice none 0 0) []:=⟨[],rfl,World.ownsRow_nil _ _ _ _,fun g hg=>by simp[Value.ownBlock] at hg,fun i f q h=>by simp at h⟩
theorem FRow.new {base:Nat}{w w':World}{v:Value}{rs:List Rat}(h:FRow base w v rs)(hn:New w w'):FRow base w' v rs:=by
 obtain ⟨fs,h1,h2,h3,h4⟩:=h;exact ⟨fs,h1,own_newS h2 hn,h3.new hn,fun i f q e1 e2=>(h4 i f q e1 e2).new hn⟩
theorem FRow.lt {base:Nat}{w:World}{v:Value}{rs:List Rat}(h:FRow base w v rs):∀ g,v.ownBlock=some g→g < w.heap.size:=fun g hg=>by
 obtain ⟨fs,h1,h2,h3,h4⟩:=h;exact (h2.lt g hg).2
theorem FRow.push {base:Nat} {w w':World} {v v':Value} {rs:List Rat} {f:FVal} {q:Rat} {fs:List FVal} (h1:fs.length=rs.length) (h3:RowNo w v) (h4:∀ (i:Nat) (f:FVal) (q:Rat),fs[i]?=some f→rs[i]?=some q→IsFrac w f.val q) (hf:IsFrac w f.val q) (hg:w.grownBy w' v.ownBlock)
  (ho:w'.ownsRow base 115 4 v' (rs.length+1) (fs.flatMap FVal.cells ++ f.cells)) (hno:RowNo w' v'):FRow base w' v' (rs ++ [q]):=by
 refine ⟨fs ++ [f],by simp[h1],by simpa using ho,hno,fun i g x e1 e2=>?_⟩;rcases Nat.lt_trichotomy i fs.length with hi | hi | hi
 ·rw[List.getElem?_append_left hi] at e1;rw[List.getElem?_append_left (by omega)] at e2;exact (h4 i g x e1 e2).grown hg h3
 ·subst hi;rw[List.getElem?_append_right (Nat.le_refl _)] at e1;rw[h1,List.getElem?_append_right (Nat.le_refl _)] at e2;simp at e1 e2;subst e1;subst e2;exact hf.grown hg h3
 ·rw[List.getElem?_eq_none (by simp;omega)] at e1
  cases e1
theorem Fr2.new {w w':World}{b:Nat}{p q:Rat}(h:Fr2 w b p q)(hn:New w w'):Fr2 w' b p q:=by
 obtain ⟨s,a,l,c,t,d,m,k,s',a',l',c',t',d',m',k',hb,h1,h2⟩:=h;exact ⟨s,a,l,c,t,d,m,k,s',a',l',c',t',d',m',k',hb.new hn,h1.new hn,h2.new hn⟩
theorem Fr2.grown {w w':World}{b:Nat}{p q:Rat}{v:Value}(h:Fr2 w b p q)(hg:w.grownBy w' v.ownBlock)(hne:v.ownBlock≠some b)(hno:RowNo w v):Fr2 w' b p q:=by
 obtain ⟨s,a,l,c,t,d,m,k,s',a',l',c',t',d',m',k',hb,h1,h2⟩:=h;exact ⟨s,a,l,c,t,d,m,k,s',a',l',c',t',d',m',k',hb.grown hg hne,h1.grown hg hno,h2.grown hg hno⟩
abbrev FBox (w:World)(B:Nat)(f:FVal):Prop:=Box w B 115 #[.int .i64 f.s,.slice f.a f.l f.c,.int .i64 f.t,.slice f.d f.m f.k]
structure InRel (w2:World)(X gb:Nat)(fx:FVal)(x y0 y1:Rat)(v:Value)(rs:List Rat)(wr:World):Prop where
 hn:New w2 wr
 hr:FRow w2.heap.size wr v rs
 nx:v.ownBlock≠some X
 nb:v.ownBlock≠some gb
 bx:FBox wr X fx
 fx:IsFrac wr fx.val x
 fb:Fr2 wr gb y0 y1
theorem InRel.new {w2:World}{X gb:Nat}{fx:FVal}{x y0 y1:Rat}{v:Value}{rs:List Rat}{wr w':World}(h:InRel w2 X gb fx x y0 y1 v rs wr)(hn:New wr w'):InRel w2 X gb fx x y0 y1 v rs w':=
 ⟨h.hn.trans hn,h.hr.new hn,h.nx,h.nb,h.bx.new hn,h.fx.new hn,h.fb.new hn⟩
theorem InRel.push {w2:World} {X gb:Nat} {fx f:FVal} {x y0 y1 q:Rat} {v v':Value} {rs:List Rat} {w w':World} {fs:List FVal} (h:InRel w2 X gb fx x y0 y1 v rs w) (h1:fs.length=rs.length) (h2:w.ownsRow w2.heap.size 115 4 v rs.length (fs.flatMap FVal.cells)) (h3:RowNo w v)
  (h4:∀ (i:Nat) (f:FVal) (q:Rat),fs[i]?=some f→rs[i]?=some q→IsFrac w f.val q) (hf:IsFrac w f.val q) (hg:w.grownBy w' v.ownBlock)
  (ho:w'.ownsRow w2.heap.size 115 4 v' (rs.length+1) (fs.flatMap FVal.cells ++ f.cells)) (hno:RowNo w' v') (hfr:∀ g,v'.ownBlock=some g→v.ownBlock=some g∨w.heap.size≤g):InRel w2 X gb fx x y0 y1 v' (rs ++ [q]) w':=by
 have ne:∀ {B:Nat},v.ownBlock≠some B→B < w.heap.size→v'.ownBlock≠some B:=fun {B} hB hl e=>by
  rcases hfr B e with h5 | h5
  ·exact hB h5
  ·omega
 have lb:gb < w.heap.size:=by
  obtain ⟨_,_,_,_,_,_,_,_,_,_,_,_,_,_,_,_,hb, -⟩:=h.fb;exact hb.lt
 exact ⟨grown_newS' h.hn h2 hg,FRow.push h1 h3 h4 hf hg ho hno,ne h.nx h.bx.lt,ne h.nb lb,h.bx.grown hg h.nx,h.fx.grown hg h3,h.fb.grown hg h.nb h3⟩
theorem frac_val {w:World}{v:Value}{q:Rat}(h:IsFrac w v q):∃ f:FVal,v=f.val:=by
 obtain ⟨s,a,l,c,t,d,m,k,rfl⟩:=h.shape;exact ⟨⟨s,a,l,c,t,d,m,k⟩,rfl⟩
theorem combine_calls (xa ya xb yb:ByteArray) (x0 x1 y0 y1:Rat) (hxa:xa.data.toList=ratText x0) (hya:ya.data.toList=ratText x1) (hxb:xb.data.toList=ratText y0) (hyb:yb.data.toList=ratText y1)
  (lxa:xa.size≤100000) (lya:ya.size≤100000) (lxb:xb.size≤100000) (lyb:yb.size≤100000) (fn:Nat) (op:Rat→Rat→Rat) (hcf:∀ (args:Array Value) (W:World),Sem.run Tryz.prog (callFunc fn args) W=.ok (.enter fn args) W)
  (hop:∀ x y,(x=x0∨x=x1)→(y=y0∨y=y1)→∀ W va vb,IsFrac W va x→IsFrac W vb y→Calls Tryz.prog fn #[va,vb] W (FracPost W (op x y)))
  (hb:∀ x y,(x=x0∨x=x1)→(y=y0∨y=y1)→FB 1800 (op x y)) (w:World) (he:Env w):
  Calls Tryz.prog 141 #[.agg #[.string xa,.string ya],.agg #[.string xb,.string yb],.func (.func fn) #[] #[]] w
   (SpPost w (rs (minR (minR (minR (op x0 y0) (op x0 y1)) (op x1 y0)) (op x1 y1))) (rs (maxR (maxR (maxR (op x0 y0) (op x0 y1)) (op x1 y0)) (op x1 y1))) 0):=by
 obtain ⟨i0,hi,hz0,hz1,hz2⟩:=info_parts info_frac;have hfa:=fun B cap T W hW hB=>fromAll_two xa ya x0 x1 hxa hya lxa lya B cap T W hW hB;have hfb:=fun B cap T W hW hB=>fromAll_two xb yb y0 y1 hxb hyb lxb lyb B cap T W hW hB;clear hxa hya hxb hyb lxa lya lxb lyb;obtain ⟨mn,hmn'⟩:∃ m,minR (minR (minR (op x0 y0) (op x0 y1)) (op x1 y0)) (op x1 y1)=m:=⟨_,rfl⟩;obtain ⟨mx,hmx'⟩:∃ m,maxR (maxR (maxR (op x0 y0) (op x0 y1)) (op x1 y0)) (op x1 y1)=m:=⟨_,rfl⟩;rw[hmn',hmx'];obtain ⟨U,hU⟩:∃ X,Proofs.YtnjonlnemagomaaGreatDoor.rs mn=X:=⟨_,rfl⟩;obtain ⟨V,hV⟩:∃ X,Proofs.YtnjonlnemagomaaGreatDoor.rs mx=X:=⟨_,rfl⟩;rw[hU,hV];unfold SpPost;have HE:=hid he;have HFA:=hid hfa;have HFB:=hid hfb;have HOP:=hid hop;have HFBD:=hid hb;have HCF:=hid hcf;have HMN:=hid hmn';have HMX:=hid hmx';have HU:=hid hU;have HV:=hid hV;clear he hfa hfb hop hb hcf hmn' hmx' hU hV;go_enter Tryz.func141,Tryz.ntmps141;go_upto_region 1 with (fail);obtain ⟨BA,BB,BP,HN⟩:=lay3 w 53 #[.string xa,.string ya] 53 #[.string xb,.string yb] 53 #[.string ⟨#[]⟩,.string ⟨#[]⟩];obtain ⟨w8,hw8⟩:∃ u,((w.alloc (.cells #[.string xa,.string ya] 53)).alloc (.cells #[.string xb,.string yb] 53)).alloc (.cells #[.string ⟨#[]⟩,.string ⟨#[]⟩] 53)=u:=⟨_,rfl⟩;rw[hw8] at BA BB BP HN⊢;clear hw8;obtain ⟨pa0,pa1,pa2,pa3,pa4⟩:=BA.out.two;go_wp2_with fail;clear pa0 pa1 pa2 pa3 pa4;have HN0:=HN;clear HN;obtain ⟨BG,HN⟩:=lay1 w8 23 #[.string xa,.string ya];replace BB:=hid (BB.out.new HN.out);replace BP:=hid (BP.out.new HN.out);have HN_:=HN0.out.trans HN.out;clear HN HN0;have HN:=hid HN_;clear HN_;clear BA;refine (HFA.out _ _ _ _ (HE.out.new HN.out) BG.out).mono ?_;rintro e w2 ⟨ga,rfl,hn,hga,h2⟩;clear hga BG;have HA:=hid h2;clear h2;replace BB:=hid (BB.out.new hn);replace BP:=hid (BP.out.new hn);replace HN:=hid (HN.out.trans hn);clear hn;go_wp2_with fail;have HW:=HN;clear HN;go_loopw [8,20] (fun v i wr=>∃ (k:Nat) (rs:List Rat),i=.int .i64 (k:Int)∧Hid ((k=0∧rs=[])∨(k=1∧rs=[op x0 y0,op x0 y1])∨(k=2∧rs=[op x0 y0,op x0 y1,op x1 y0,op x1 y1]))∧Hid (New w2 wr)∧Hid (FRow w2.heap.size wr v rs)) (fun _ i _=>2 - (RowKit.intOf i).toNat)
 case atStart=>exact ⟨0,[],rfl,hid (.inl ⟨rfl,rfl⟩),hid (New.refl _),hid (FRow.nil _ _)⟩
 case round=>
  obtain ⟨k,rs,rfl,HK,HN,HR⟩:=hrel;by_cases hlt:k < 2
  ·have HAR:=hid (HA.out.new HN.out)
   have hki:(k:Int) < 2:=by omega
   go_upto_region 4 with (fail)
   go_cut [10] from 22 to 23 (fun u wx=>∃ (X:Nat) (fx:FVal) (x:Rat),u=.pointer (some ⟨X,0,none⟩)∧Hid (New wr wx)∧Hid (wr.heap.size≤X)∧Hid (FBox wx X fx)∧Hid (IsFrac wx fx.val x)∧Hid ((k=0∧x=x0)∨(k=1∧x=x1)))
   case first=>
    obtain ⟨s,a,l,c,t,d,m,kk,s',a',l',c',t',d',m',k',hbx,hf1,hf2⟩:=HAR.out;rcases (show k=0∨k=1 by omega) with rfl | rfl
    ·have z0:=hbx.cell 0;have z1:=hbx.cell 1;have z2:=hbx.cell 2;have z3:=hbx.cell 3;have HF1:=hid hf1;have HF2:=hid hf2;have HBX:=hid hbx;clear hf1 hf2 hbx;go_wp2_with fail
     go_meet
     exact ⟨_,⟨s,a,l,c,t,d,m,kk⟩,x0,rfl,hid ((New.refl _).alloc _),hid (Nat.le_refl _),hid (Box.alloc wr _ _ _ rfl),hid (HF1.out.new ((New.refl _).alloc _)),hid (by simp)⟩
    ·have z0:=hbx.cell 4;have z1:=hbx.cell 5;have z2:=hbx.cell 6;have z3:=hbx.cell 7;have HF1:=hid hf1;have HF2:=hid hf2;have HBX:=hid hbx;clear hf1 hf2 hbx;go_wp2_with fail
     go_meet
     exact ⟨_,⟨s',a',l',c',t',d',m',k'⟩,x1,rfl,hid ((New.refl _).alloc _),hid (Nat.le_refl _),hid (Box.alloc wr _ _ _ rfl),hid (HF2.out.new ((New.refl _).alloc _)),hid (by simp)⟩
   case rest=>
    obtain ⟨X,fx,x,rfl,HX1,HXX,BX,HX,HKX⟩:=hcut;have hn:=HX1.out;have BB_:=BB.out.new (HN.out.trans hn);have HN_:=HN.out.trans hn;have HR_:=HR.out.new hn
    have hnx:u8.ownBlock≠some X:=fun e=>by
     have h1:=HR.out.lt X e;have h2:=HXX.out;omega
    clear hn HX1 HN HR HAR HXX;have BBR:=hid BB_;have HNR:=hid HN_;have HR:=hid HR_;have HNX:=hid hnx;clear BB_ HN_ HR_ hnx;have HEN:=hid (HE.out.new (HW.out.trans HNR.out));have HN:=HNR;obtain ⟨pb0,pb1,pb2,pb3,pb4⟩:=BBR.out.two;go_wp2_with fail;clear pb0 pb1 pb2 pb3 pb4;clear HN;have HN:=hid (New.refl wc);have HN0:=HN;clear HN;obtain ⟨BG,HN⟩:=lay1 wc 23 #[.string xb,.string yb];replace HEN:=hid (HEN.out.new HN.out);have HN_:=HN0.out.trans HN.out;clear HN HN0;have HN:=hid HN_;clear HN_;refine (HFB.out _ _ _ _ HEN.out BG.out).mono ?_;rintro e w4 ⟨gb,rfl,hn,hgb,h2⟩;have hn4:=HN.out.trans hn
    have hnb:u8.ownBlock≠some gb:=fun e=>by
     have h1:=HR.out.lt gb e;have h2:=HN.out.size;omega
    have hst:InRel w2 X gb fx x y0 y1 u8 rs w4:=⟨HNR.out.trans hn4,HR.out.new hn4,HNX.out,hnb,BX.out.new hn4,HX.out.new hn4,h2⟩;clear hn hgb h2 hn4 hnb BG HN HNR HR HNX BX HX HEN BBR;have HS:=hid hst;clear hst;go_wp2_with fail;go_loopw [8,31] (fun v i wr=>∃ (j:Nat) (qs:List Rat),i=.int .i64 (j:Int)∧Hid ((j=0∧qs=[])∨(j=1∧qs=[op x y0])∨(j=2∧qs=[op x y0,op x y1]))∧Hid (InRel w2 X gb fx x y0 y1 v (rs ++ qs) wr)) (fun _ i _=>2 - (RowKit.intOf i).toNat)
    case atStart=>exact ⟨0,[],rfl,hid (.inl ⟨rfl,rfl⟩),by rw[List.append_nil];exact HS⟩
    case round=>
     clear HS;obtain ⟨j,qs,rfl,HJ,HI⟩:=hrel;by_cases hlj:j < 2
     ·have hji:(j:Int) < 2:=by omega
      go_upto_region 7 with (fail)
      go_cut [12] from 33 to 34 (fun u wx=>∃ (Y:Nat) (fy:FVal) (y:Rat),u=.pointer (some ⟨Y,0,none⟩)∧Hid (New wr wx)∧Hid (FBox wx Y fy)∧Hid (IsFrac wx fy.val y)∧Hid ((j=0∧y=y0)∨(j=1∧y=y1)))
      case first=>
       obtain ⟨s,a,l,c,t,d,m,kk,s',a',l',c',t',d',m',k',hbx,hf1,hf2⟩:=HI.out.fb;rcases (show j=0∨j=1 by omega) with rfl | rfl
       ·have z0:=hbx.cell 0;have z1:=hbx.cell 1;have z2:=hbx.cell 2;have z3:=hbx.cell 3;have HF1:=hid hf1;have HF2:=hid hf2;have HBX:=hid hbx;clear hf1 hf2 hbx;go_wp2_with fail
        go_meet
        exact ⟨_,⟨s,a,l,c,t,d,m,kk⟩,y0,rfl,hid ((New.refl _).alloc _),hid (Box.alloc wr _ _ _ rfl),hid (HF1.out.new ((New.refl _).alloc _)),hid (by simp)⟩
       ·have z0:=hbx.cell 4;have z1:=hbx.cell 5;have z2:=hbx.cell 6;have z3:=hbx.cell 7;have HF1:=hid hf1;have HF2:=hid hf2;have HBX:=hid hbx;clear hf1 hf2 hbx;go_wp2_with fail
        go_meet
        exact ⟨_,⟨s',a',l',c',t',d',m',k'⟩,y1,rfl,hid ((New.refl _).alloc _),hid (Box.alloc wr _ _ _ rfl),hid (HF2.out.new ((New.refl _).alloc _)),hid (by simp)⟩
      case rest=>
       obtain ⟨Y,fy,y,rfl,HY1,BY,HY,HJY⟩:=hcut;have HI2:=hid (HI.out.new HY1.out);clear HI HY1;have hx:=HKX.out;have hy:=HJY.out;have hopc:=HOP.out x y (hx.imp And.right And.right) (hy.imp And.right And.right);have HOPC:=hid hopc;clear hopc;clear hx hy;have BX:=hid HI2.out.bx;obtain ⟨⟨px0,px1,px2,px3⟩,px4,px5,px6,px7,px8⟩:=BX.out.four;obtain ⟨⟨py0,py1,py2,py3⟩,py4,py5,py6,py7,py8⟩:=BY.out.four;go_wp2_with fail;rw[HCF.out,Oper.upon_enter];refine (HOPC.out _ _ _ HI2.out.fx HY.out).mono ?_;rintro e w6 ⟨v6,rfl,hn,hf⟩;obtain ⟨f6,rfl⟩:=frac_val hf;have HI3:=hid (HI2.out.new hn);clear px0 px1 px2 px3 px4 px5 px6 px7 px8 py0 py1 py2 py3 py4 py5 py6 py7 py8;clear HI2 BX BY HY hn;have HF6:=hid hf;clear hf;have hone:=cells_one f6;have hnu:=cells_notU f6
       have hzu:∀ u∈(Value.agg #[.int .i64 0,.slice none 0 0,.int .i64 0,.slice none 0 0]).cells,NotU u:=by
        intro u hu;simp[Value.cells] at hu
        rcases hu with rfl | rfl | rfl | rfl <;> first | exact .i64 _ | exact .slice _ _ _
       have hlen:(rs ++ qs).length≤8:=by
        rcases HK.out with ⟨-,h⟩ | ⟨-,h⟩ | ⟨-,h⟩ <;> rcases HJ.out with ⟨-,h2⟩ | ⟨-,h2⟩ | ⟨-,h2⟩ <;> rw[h,h2] <;> simp
       obtain ⟨fs,hfl,hown,hno,hel⟩:=HI3.out.hr;have hsz:=HI3.out.hn.size;have HONE:=hid hone;have HNU:=hid hnu;have HZU:=hid hzu;have HLEN:=hid hlen;have HFL:=hid hfl;have HOWN:=hid hown;have HNO:=hid hno;have HSZ:=hid hsz;have HEL:=hid hel;clear hone hnu hzu hlen hfl hown hno hsz hel;go_wp2_with (at_builtin;refine wpList_append_noDig rfl _ _ 201 rfl w2.heap.size 115 i0 (.agg #[.int .i64 0,.slice none 0 0,.int .i64 0,.slice none 0 0]) 4 64 Tryz.underlying201 hi hz0 hz1 hz2 rfl (by decide) _ _ _ rfl (HOWN.out.alloc _) ⟨w6.heap.size,0,none⟩ 1 1 f6.cells rfl rfl (cells_at w6 f6 _) HONE.out (by have:=HLEN.out;unfold maxLen;omega) (by have:=HLEN.out;omega) (by have:=HSZ.out;rw[←size_alloc];omega) HZU.out HNU.out (HNO.out.new ((New.refl _).alloc _)) ?_);intro v' w7 hown' hgrow hno' hfresh;have hal:∀ o,New w6 (w6.alloc o):=fun o=>(New.refl _).alloc o
       have HI7:Hid (InRel w2 X gb fx x y0 y1 v' (rs ++ (qs ++ [op x y])) w7):=hid (by
        rw[←List.append_assoc]
        exact (HI3.out.new (hal _)).push HFL.out (HOWN.out.alloc _) (HNO.out.new (hal _)) (fun i f q e1 e2=>(HEL.out i f q e1 e2).new (hal _)) (HF6.out.new (hal _)) hgrow (by simpa using hown') hno' (fun g hg=>(hfresh g hg).imp id (fun h=>by rw[←size_alloc];exact h)))
       have HJ7:Hid ((j+1=0∧qs ++ [op x y]=[])∨(j+1=1∧qs ++ [op x y]=[op x y0])∨(j+1=2∧qs ++ [op x y]=[op x y0,op x y1])):=hid (by
        rcases HJY.out with ⟨rfl,rfl⟩ | ⟨rfl,rfl⟩
        ·rcases HJ.out with ⟨-,h⟩ | ⟨h, -⟩ | ⟨h, -⟩
         ·exact .inr (.inl ⟨rfl,by rw[h];rfl⟩)
         ·omega
         ·omega
        ·rcases HJ.out with ⟨h, -⟩ | ⟨-,h⟩ | ⟨h, -⟩
         ·omega
         ·exact .inr (.inr ⟨rfl,by rw[h];rfl⟩)
         ·omega)
       clear hown' hgrow hno' hfresh HI3 HFL HOWN HNO HEL HF6 HSZ hal;go_wp2_with fail;go_roundw
       case rel=>exact ⟨j+1,_,by go_num,HJ7,HI7⟩
       case measure=>simp[RowKit.intOf];omega
     ·have hj2:j=2∧qs=[op x y0,op x y1]:=by
       rcases HJ.out with ⟨h, -⟩ | ⟨h, -⟩ | h
       ·omega
       ·omega
       ·exact h
      obtain ⟨rfl,rfl⟩:=hj2
      have HK7:Hid ((k+1=0∧rs ++ [op x y0,op x y1]=[])∨(k+1=1∧rs ++ [op x y0,op x y1]=[op x0 y0,op x0 y1])∨(k+1=2∧rs ++ [op x y0,op x y1]=[op x0 y0,op x0 y1,op x1 y0,op x1 y1])):=hid (by
       rcases HKX.out with ⟨rfl,rfl⟩ | ⟨rfl,rfl⟩
       ·rcases HK.out with ⟨-,h⟩ | ⟨h, -⟩ | ⟨h, -⟩
        ·exact .inr (.inl ⟨rfl,by rw[h];rfl⟩)
        ·omega
        ·omega
       ·rcases HK.out with ⟨h, -⟩ | ⟨-,h⟩ | ⟨h, -⟩
        ·omega
        ·exact .inr (.inr ⟨rfl,by rw[h];rfl⟩)
        ·omega)
      have hn:=HI.out.hn;have hr:=HI.out.hr;clear HI HJ;have HN:=hid hn;have HR:=hid hr;clear hn hr;go_wp2_with fail;go_roundw
      case rel=>exact ⟨k+1,_,by go_num,HK7,HN,HR⟩
      case measure=>simp[RowKit.intOf];omega
  ·have hk2:k=2∧rs=[op x0 y0,op x0 y1,op x1 y0,op x1 y1]:=by
    rcases HK.out with ⟨h, -⟩ | ⟨h, -⟩ | h
    ·omega
    ·omega
    ·exact h
   obtain ⟨rfl,rfl⟩:=hk2;obtain ⟨fs,hfl,hown, -,hel⟩:=HR.out
   obtain ⟨f0,f1,f2,f3,rfl⟩:∃ f0 f1 f2 f3,fs=[f0,f1,f2,f3]:=by
    match fs,hfl with
    | [f0,f1,f2,f3],_=>exact ⟨f0,f1,f2,f3,rfl⟩
   obtain ⟨g,cap,rfl⟩:∃ g cap,u8=.slice (some ⟨g,0,none⟩) 4 cap:=by
    rcases hown.2 with ⟨-,h⟩ | ⟨g,cap,cur,h, -⟩
    ·cases h
    ·exact ⟨g,cap,h⟩
   have h4:Fr4 wr g f0 f1 f2 f3:=fun j u hu=>by
    have:=hown.cells (g:=g) rfl j u (by simpa using hu);rw[Addr.add_lit] at this;simpa using this
   have e0:=hel 0 f0 _ rfl rfl;have e1:=hel 1 f1 _ rfl rfl;have e2:=hel 2 f2 _ rfl rfl;have e3:=hel 3 f3 _ rfl rfl;have b0:=HFBD.out x0 y0 (.inl rfl) (.inl rfl);have b1:=HFBD.out x0 y1 (.inl rfl) (.inr rfl);have b2:=HFBD.out x1 y0 (.inr rfl) (.inl rfl);have b3:=HFBD.out x1 y1 (.inr rfl) (.inr rfl);have hmn:=fun W h4 e0 e1 e2 e3=>minFunc_four g cap f0 f1 f2 f3 _ _ _ _ 1800 W h4 e0 e1 e2 e3 b0 b1 b2 b3 (by omega);have hmx:=fun W h4 e0 e1 e2 e3=>maxFunc_four g cap f0 f1 f2 f3 _ _ _ _ 1800 W h4 e0 e1 e2 e3 b0 b1 b2 b3 (by omega)
   have mb:∀ {x y:Rat},FB 1800 x→FB 1800 y→FB 1800 (minR x y)∧FB 1800 (maxR x y):=fun {x y} hx hy=>by
    unfold minR maxR;exact ⟨by split <;> assumption,by split <;> assumption⟩
   have hsp:=fun W va vb h1 h2 hW=>nspan_calls va vb _ _ W h1 h2 (mb (mb (mb b0 b1).1 b2).1 b3).1 (mb (mb (mb b0 b1).2 b2).2 b3).2 hW;rw[HMN.out] at hmn hsp;rw[HMX.out] at hmx hsp;unfold SpPost at hsp;rw[HU.out,HV.out] at hsp;have bp:=BP.out.new HN.out;have hw:=HW.out.trans HN.out;clear HK HR HA hown hel b0 b1 b2 b3 mb hfl BB BP HN HW HU HV HMN HMX HFA HFB HOP HFBD HCF;have HMNC:=hid hmn;have HMXC:=hid hmx;have HSP:=hid hsp;have HN:=hid hw;have BP:=hid bp;have H4:=hid h4;have E0:=hid e0;have E1:=hid e1;have E2:=hid e2;have E3:=hid e3;clear hmn hmx hsp hw bp h4 e0 e1 e2 e3;go_wp2_with fail;refine (HMNC.out _ H4.out E0.out E1.out E2.out E3.out).mono ?_;rintro e w3 ⟨v3,rfl,hn,hf3⟩;obtain ⟨g3,rfl⟩:=frac_val hf3;have HF3:=hid hf3;clear hf3;replace BP:=hid (BP.out.new hn);replace H4:=hid (H4.out.new hn);replace E0:=hid (E0.out.new hn);replace E1:=hid (E1.out.new hn);replace E2:=hid (E2.out.new hn);replace E3:=hid (E3.out.new hn);replace HN:=hid (HN.out.trans hn);clear hn;go_wp2_with fail;refine (HMXC.out _ H4.out E0.out E1.out E2.out E3.out).mono ?_;rintro e w4 ⟨v4,rfl,hn,hf4⟩;obtain ⟨g4,rfl⟩:=frac_val hf4;have HF4:=hid hf4;clear hf4;replace BP:=hid (BP.out.new hn);replace HF3:=hid (HF3.out.new hn);replace HN:=hid (HN.out.trans hn);clear hn;go_wp2_with fail;refine (HSP.out _ _ _ HF3.out HF4.out (HE.out.new HN.out)).mono ?_;rintro e w5 ⟨rfl,hn⟩;replace BP:=hid (BP.out.new hn);replace HN:=hid (HN.out.trans hn);clear hn;obtain ⟨p0,p1,p2,p3,p4⟩:=BP.out.two;go_wp2_with fail;refine bodyPost_ret (v:=.tuple #[.agg #[.string U,.string V],.int .i64 0]) (by simp[results,Tryz.results141,go_sem,p0,p1]) rfl ?_;exact ⟨rfl,HN.out.putAt BP.out (by omega) _ _⟩
theorem nfirst2_new (x y:Int)(b cap:Nat)(t:TypeId)(w:World)(h:Box w b t #[.int .i64 x,.int .i64 y]):Calls Tryz.prog 86 #[.slice (some ⟨b,0,none⟩) 2 cap] w (RetNew w (if x=0 then y else x)):=
 (nfirst2 x y b cap t w h).mono fun _ _ h=>⟨h.1,.of_eq h.2⟩
theorem opspans_ok (xa ya xb yb U V:ByteArray) (fn:Nat) (ea eb:Int) (hr:(if ea=0 then eb else ea)=0) (hca:∀ W,Env W→Calls Tryz.prog 51 #[.agg #[.string xa,.string ya]] W (RetNew W ea)) (hcb:∀ W,Env W→Calls Tryz.prog 51 #[.agg #[.string xb,.string yb]] W (RetNew W eb))
  (hco:∀ W,Env W→Calls Tryz.prog 141 #[.agg #[.string xa,.string ya],.agg #[.string xb,.string yb],.func (.func fn) #[] #[]] W (SpPost W U V 0)) (w:World) (he:Env w):
  Calls Tryz.prog 140 #[.agg #[.string xa,.string ya],.agg #[.string xb,.string yb],.func (.func fn) #[] #[]] w (SpPost w U V 0):=by
 unfold SpPost at *;have HE:=hid he;have HCA:=hid hca;have HCB:=hid hcb;have HR:=hid hr;have HCO:=hid hco;clear he hca hcb hr hco;go_enter Tryz.func140,Tryz.ntmps140;go_upto_region 1 with (fail);obtain ⟨BA,BB,BP,HN⟩:=lay3 w 53 #[.string xa,.string ya] 53 #[.string xb,.string yb] 53 #[.string ⟨#[]⟩,.string ⟨#[]⟩];obtain ⟨pa0,pa1,pa2,pa3,pa4⟩:=BA.out.two;obtain ⟨pb0,pb1,pb2,pb3,pb4⟩:=BB.out.two;refine wp_region_T 6 (fun W=>W.cell? ⟨w.heap.size,0,none⟩=some (.string xa)∧W.cell? ⟨w.heap.size,1,none⟩=some (.string ya)∧W.cell? ⟨w.heap.size+1,0,none⟩=some (.string xb)∧W.cell? ⟨w.heap.size+1,1,none⟩=some (.string yb)) 7 #[false,false,false,false,false,false,false] rfl (by kernel_rfl) (by kernel_rfl) ?_;refine tk 0 (by exact ⟨pa0,pa1,pb0,pb1⟩) ?_
 try simp only[PT]
 refine tk 2 (by exact ⟨pa0,pa1,pb0,pb1⟩) ?_
 try simp only[PT]
 refine wpT_one 1 rfl (by kernel_rfl) (fun K hK=>?_);go_simp;refine (HCA.out _ (HE.out.new HN.out.drew)).mono ?_;rintro e w1 ⟨rfl,hn⟩;have hn:=hn.undrew;clear pa0 pa1 pa2 pa3 pa4 pb0 pb1 pb2 pb3 pb4;replace BA:=hid (BA.out.new hn);replace BB:=hid (BB.out.new hn);replace BP:=hid (BP.out.new hn);replace HN:=hid (HN.out.trans hn);clear hn;obtain ⟨pa0,pa1,pa2,pa3,pa4⟩:=BA.out.two;obtain ⟨pb0,pb1,pb2,pb3,pb4⟩:=BB.out.two;refine hK.out _ _ (fun _=>?_) ?_
 ·exact ⟨pa0,pa1,pb0,pb1⟩
 clear hK K
 try simp only[PT]
 refine wpT_one 3 rfl (by kernel_rfl) (fun K hK=>?_);go_simp;refine (HCB.out _ (HE.out.new HN.out)).mono ?_;rintro e w2 ⟨rfl,hn⟩;clear pa0 pa1 pa2 pa3 pa4 pb0 pb1 pb2 pb3 pb4;replace BA:=hid (BA.out.new hn);replace BB:=hid (BB.out.new hn);replace BP:=hid (BP.out.new hn);replace HN:=hid (HN.out.trans hn);clear hn;obtain ⟨pa0,pa1,pa2,pa3,pa4⟩:=BA.out.two;obtain ⟨pb0,pb1,pb2,pb3,pb4⟩:=BB.out.two;refine hK.out _ _ (fun _=>?_) ?_
 ·exact ⟨pa0,pa1,pb0,pb1⟩
 clear hK K
 try simp only[PT]
 refine wpT_one 4 rfl (by kernel_rfl) (fun K hK=>?_);go_simp;clear pa0 pa1 pa2 pa3 pa4 pb0 pb1 pb2 pb3 pb4;have HN0:=HN;clear HN;obtain ⟨BG,HN⟩:=lay1 w2 32 #[.int .i64 ea,.int .i64 eb];replace BA:=hid (BA.out.new HN.out);replace BB:=hid (BB.out.new HN.out);replace BP:=hid (BP.out.new HN.out);have HN_:=HN0.out.trans HN.out;clear HN HN0;have HN:=hid HN_;clear HN_;obtain ⟨pa0,pa1,pa2,pa3,pa4⟩:=BA.out.two;obtain ⟨pb0,pb1,pb2,pb3,pb4⟩:=BB.out.two;refine hK.out _ _ (fun _=>?_) ?_
 ·exact ⟨pa0,pa1,pb0,pb1⟩
 clear hK K
 try simp only[PT]
 refine wpT_one 5 rfl (by kernel_rfl) (fun K hK=>?_);go_simp;refine (nfirst2_new ea eb _ _ 32 _ BG.out).mono ?_;rintro e w3 ⟨rfl,hn⟩;rw[HR.out];clear BG;clear pa0 pa1 pa2 pa3 pa4 pb0 pb1 pb2 pb3 pb4;replace BA:=hid (BA.out.new hn);replace BB:=hid (BB.out.new hn);replace BP:=hid (BP.out.new hn);replace HN:=hid (HN.out.trans hn);clear hn;obtain ⟨pa0,pa1,pa2,pa3,pa4⟩:=BA.out.two;obtain ⟨pb0,pb1,pb2,pb3,pb4⟩:=BB.out.two;refine hK.out _ _ (fun _=>?_) ?_
 ·exact ⟨pa0,pa1,pb0,pb1⟩
 clear hK K
 try simp only[PT]
 refine wpT_tail rfl (by kernel_rfl) ?_;simp only[List.drop_succ_cons,List.drop_zero];go_wp2_with fail;refine (HCO.out _ (HE.out.new HN.out)).mono ?_;rintro e w4 ⟨rfl,hn⟩;clear pa0 pa1 pa2 pa3 pa4 pb0 pb1 pb2 pb3 pb4;replace BP:=hid (BP.out.new hn);replace HN:=hid (HN.out.trans hn);clear hn;obtain ⟨p0,p1,p2,p3,p4⟩:=BP.out.two;go_wp2_with fail;refine bodyPost_ret (v:=.tuple #[.agg #[.string U,.string V],.int .i64 0]) (by simp[results,Tryz.results140,go_sem,p0,p1]) rfl ?_;exact ⟨rfl,HN.out.putAt BP.out (by omega) _ _⟩
theorem ntimes_calls (xa ya xb yb U V:ByteArray)(r:Int)(hop:∀ W,Env W→Calls Tryz.prog 140 #[.agg #[.string xa,.string ya],.agg #[.string xb,.string yb],.func (.func 94) #[] #[]] W (SpPost W U V r))(w:World)(he:Env w):
  Calls Tryz.prog 54 #[.agg #[.string xa,.string ya],.agg #[.string xb,.string yb]] w (SpPost w U V r):=by
 unfold SpPost at *;have HE:=hid he;have HOP:=hid hop;clear he hop;go_enter Tryz.func54,Tryz.ntmps54;go_upto_region 1 with (fail);obtain ⟨BA,BB,BP,HN⟩:=lay3 w 53 #[.string xa,.string ya] 53 #[.string xb,.string yb] 53 #[.string ⟨#[]⟩,.string ⟨#[]⟩];obtain ⟨pa0,pa1,pa2,pa3,pa4⟩:=BA.out.two;obtain ⟨pb0,pb1,pb2,pb3,pb4⟩:=BB.out.two;go_wp2_with fail;refine (HOP.out _ (HE.out.new HN.out)).mono ?_;rintro e w4 ⟨rfl,hn⟩;clear pa0 pa1 pa2 pa3 pa4 pb0 pb1 pb2 pb3 pb4;replace BP:=hid (BP.out.new hn);replace HN:=hid (HN.out.trans hn);clear hn;obtain ⟨p0,p1,p2,p3,p4⟩:=BP.out.two;go_wp2_with fail;refine bodyPost_ret (v:=.tuple #[.agg #[.string U,.string V],.int .i64 r]) (by simp[results,Tryz.results54,go_sem,p0,p1]) rfl ?_;exact ⟨rfl,HN.out.putAt BP.out (by omega) _ _⟩
theorem nover_ok (xa ya xb yb U V:ByteArray) (y0 y1:Rat) (hxb:xb.data.toList=ratText y0) (hyb:yb.data.toList=ratText y1) (lxb:xb.size≤100000) (lyb:yb.size≤100000) (ea eb:Int) (hr:(if ea=0 then eb else ea)=0) (h0:0 < y0.num∨y1.num < 0) (hca:∀ W,Env W→Calls Tryz.prog 51 #[.agg #[.string xa,.string ya]] W (RetNew W ea)) (hcb:∀ W,Env W→Calls Tryz.prog 51 #[.agg #[.string xb,.string yb]] W (RetNew W eb))
  (hco:∀ W,Env W→Calls Tryz.prog 141 #[.agg #[.string xa,.string ya],.agg #[.string xb,.string yb],.func (.func 95) #[] #[]] W (SpPost W U V 0)) (w:World) (he:Env w):
  Calls Tryz.prog 55 #[.agg #[.string xa,.string ya],.agg #[.string xb,.string yb]] w (SpPost w U V 0):=by
 have hfx:=fun W hW=>from_calls xb y0 W hW hxb (by omega);have hfy:=fun W hW=>from_calls yb y1 W hW hyb (by omega);obtain ⟨s0,hs0⟩:∃ s,y0.num.sign=s:=⟨_,rfl⟩;obtain ⟨s1,hs1⟩:∃ s,y1.num.sign=s:=⟨_,rfl⟩;clear hxb hyb lxb lyb;unfold SpPost at *;by_cases hc:s0≤0
 ·have t0:decide (s0≤0)=true:=decide_eq_true hc
  have t1:decide (s1 ≥ 0)=false:=decide_eq_false (by
   rcases h0 with h | h
   ·rw[←hs0,Int.sign_eq_one_of_pos h] at hc;omega
   ·rw[←hs1,Int.sign_eq_neg_one_of_neg h];omega)
  clear h0 hc;have HE:=hid he;have HCA:=hid hca;have HCB:=hid hcb;have HR:=hid hr;have HFX:=hid hfx;have HFY:=hid hfy;have HS0:=hid hs0;have HS1:=hid hs1;have HCO:=hid hco;clear he hca hcb hr hfx hfy hs0 hs1 hco;go_enter Tryz.func55,Tryz.ntmps55;go_upto_region 1 with (fail);obtain ⟨BA,BB,BP,HN⟩:=lay3 w 53 #[.string xa,.string ya] 53 #[.string xb,.string yb] 53 #[.string ⟨#[]⟩,.string ⟨#[]⟩];obtain ⟨pa0,pa1,pa2,pa3,pa4⟩:=BA.out.two;obtain ⟨pb0,pb1,pb2,pb3,pb4⟩:=BB.out.two;refine wp_region_T 6 (fun W=>W.cell? ⟨w.heap.size,0,none⟩=some (.string xa)∧W.cell? ⟨w.heap.size,1,none⟩=some (.string ya)∧W.cell? ⟨w.heap.size+1,0,none⟩=some (.string xb)∧W.cell? ⟨w.heap.size+1,1,none⟩=some (.string yb)) 7 #[false,false,false,false,false,false,false] rfl (by kernel_rfl) (by kernel_rfl) ?_;refine tk 0 (by exact ⟨pa0,pa1,pb0,pb1⟩) ?_
  try simp only[PT]
  refine tk 2 (by exact ⟨pa0,pa1,pb0,pb1⟩) ?_
  try simp only[PT]
  refine wpT_one 1 rfl (by kernel_rfl) (fun K hK=>?_);go_simp;refine (HCA.out _ (HE.out.new HN.out.drew)).mono ?_;rintro e w1 ⟨rfl,hn⟩;have hn:=hn.undrew;clear pa0 pa1 pa2 pa3 pa4 pb0 pb1 pb2 pb3 pb4;replace BA:=hid (BA.out.new hn);replace BB:=hid (BB.out.new hn);replace BP:=hid (BP.out.new hn);replace HN:=hid (HN.out.trans hn);clear hn;obtain ⟨pa0,pa1,pa2,pa3,pa4⟩:=BA.out.two;obtain ⟨pb0,pb1,pb2,pb3,pb4⟩:=BB.out.two;refine hK.out _ _ (fun _=>?_) ?_
  ·exact ⟨pa0,pa1,pb0,pb1⟩
  clear hK K
  try simp only[PT]
  refine wpT_one 3 rfl (by kernel_rfl) (fun K hK=>?_);go_simp;refine (HCB.out _ (HE.out.new HN.out)).mono ?_;rintro e w2 ⟨rfl,hn⟩;clear pa0 pa1 pa2 pa3 pa4 pb0 pb1 pb2 pb3 pb4;replace BA:=hid (BA.out.new hn);replace BB:=hid (BB.out.new hn);replace BP:=hid (BP.out.new hn);replace HN:=hid (HN.out.trans hn);clear hn;obtain ⟨pa0,pa1,pa2,pa3,pa4⟩:=BA.out.two;obtain ⟨pb0,pb1,pb2,pb3,pb4⟩:=BB.out.two;refine hK.out _ _ (fun _=>?_) ?_
  ·exact ⟨pa0,pa1,pb0,pb1⟩
  clear hK K
  try simp only[PT]
  refine wpT_one 4 rfl (by kernel_rfl) (fun K hK=>?_);go_simp;clear pa0 pa1 pa2 pa3 pa4 pb0 pb1 pb2 pb3 pb4;have HN0:=HN;clear HN;obtain ⟨BG,HN⟩:=lay1 w2 32 #[.int .i64 ea,.int .i64 eb];replace BA:=hid (BA.out.new HN.out);replace BB:=hid (BB.out.new HN.out);replace BP:=hid (BP.out.new HN.out);have HN_:=HN0.out.trans HN.out;clear HN HN0;have HN:=hid HN_;clear HN_;obtain ⟨pa0,pa1,pa2,pa3,pa4⟩:=BA.out.two;obtain ⟨pb0,pb1,pb2,pb3,pb4⟩:=BB.out.two;refine hK.out _ _ (fun _=>?_) ?_
  ·exact ⟨pa0,pa1,pb0,pb1⟩
  clear hK K
  try simp only[PT]
  refine wpT_one 5 rfl (by kernel_rfl) (fun K hK=>?_);go_simp;refine (nfirst2_new ea eb _ _ 32 _ BG.out).mono ?_;rintro e w3 ⟨rfl,hn⟩;rw[HR.out];clear BG;clear pa0 pa1 pa2 pa3 pa4 pb0 pb1 pb2 pb3 pb4;replace BA:=hid (BA.out.new hn);replace BB:=hid (BB.out.new hn);replace BP:=hid (BP.out.new hn);replace HN:=hid (HN.out.trans hn);clear hn;obtain ⟨pa0,pa1,pa2,pa3,pa4⟩:=BA.out.two;obtain ⟨pb0,pb1,pb2,pb3,pb4⟩:=BB.out.two;refine hK.out _ _ (fun _=>?_) ?_
  ·exact ⟨pa0,pa1,pb0,pb1⟩
  clear hK K
  try simp only[PT]
  refine wpT_tail rfl (by kernel_rfl) ?_;simp only[List.drop_succ_cons,List.drop_zero];go_wp2_with fail;refine (HFX.out _ (HE.out.new HN.out)).mono ?_;rintro e w4 ⟨v4,rfl,hn,hf⟩;clear pa0 pa1 pa2 pa3 pa4 pb0 pb1 pb2 pb3 pb4;have HF:=hid hf;clear hf;replace BA:=hid (BA.out.new hn);replace BB:=hid (BB.out.new hn);replace BP:=hid (BP.out.new hn);replace HN:=hid (HN.out.trans hn);clear hn;obtain ⟨pa0,pa1,pa2,pa3,pa4⟩:=BA.out.two;obtain ⟨pb0,pb1,pb2,pb3,pb4⟩:=BB.out.two;go_wp2_with fail;refine (fsign_calls _ y0 _ HF.out).mono ?_;rintro e w5 ⟨rfl,hn⟩;rw[HS0.out];clear HF;clear pa0 pa1 pa2 pa3 pa4 pb0 pb1 pb2 pb3 pb4;replace BA:=hid (BA.out.new hn);replace BB:=hid (BB.out.new hn);replace BP:=hid (BP.out.new hn);replace HN:=hid (HN.out.trans hn);clear hn;obtain ⟨pa0,pa1,pa2,pa3,pa4⟩:=BA.out.two;obtain ⟨pb0,pb1,pb2,pb3,pb4⟩:=BB.out.two;go_wp2_with fail;refine (HFY.out _ (HE.out.new HN.out)).mono ?_;rintro e w6 ⟨v6,rfl,hn,hf⟩;clear pa0 pa1 pa2 pa3 pa4 pb0 pb1 pb2 pb3 pb4;have HF:=hid hf;clear hf;replace BA:=hid (BA.out.new hn);replace BB:=hid (BB.out.new hn);replace BP:=hid (BP.out.new hn);replace HN:=hid (HN.out.trans hn);clear hn;obtain ⟨pa0,pa1,pa2,pa3,pa4⟩:=BA.out.two;obtain ⟨pb0,pb1,pb2,pb3,pb4⟩:=BB.out.two;go_wp2_with fail;refine (fsign_calls _ y1 _ HF.out).mono ?_;rintro e w7 ⟨rfl,hn⟩;rw[HS1.out];clear HF;clear pa0 pa1 pa2 pa3 pa4 pb0 pb1 pb2 pb3 pb4;replace BA:=hid (BA.out.new hn);replace BB:=hid (BB.out.new hn);replace BP:=hid (BP.out.new hn);replace HN:=hid (HN.out.trans hn);clear hn;obtain ⟨pa0,pa1,pa2,pa3,pa4⟩:=BA.out.two;obtain ⟨pb0,pb1,pb2,pb3,pb4⟩:=BB.out.two;go_wp2_with fail;refine (HCO.out _ (HE.out.new HN.out)).mono ?_;rintro e w8 ⟨rfl,hn⟩;clear pa0 pa1 pa2 pa3 pa4 pb0 pb1 pb2 pb3 pb4;replace BP:=hid (BP.out.new hn);replace HN:=hid (HN.out.trans hn);clear hn;obtain ⟨p0,p1,p2,p3,p4⟩:=BP.out.two;go_wp2_with fail;refine bodyPost_ret (v:=.tuple #[.agg #[.string U,.string V],.int .i64 0]) (by simp[results,Tryz.results55,go_sem,p0,p1]) rfl ?_;exact ⟨rfl,HN.out.putAt BP.out (by omega) _ _⟩
 ·have t0:decide (s0≤0)=false:=decide_eq_false hc;clear h0 hc;have HE:=hid he;have HCA:=hid hca;have HCB:=hid hcb;have HR:=hid hr;have HFX:=hid hfx;have HFY:=hid hfy;have HS0:=hid hs0;have HS1:=hid hs1;have HCO:=hid hco;clear he hca hcb hr hfx hfy hs0 hs1 hco;go_enter Tryz.func55,Tryz.ntmps55;go_upto_region 1 with (fail);obtain ⟨BA,BB,BP,HN⟩:=lay3 w 53 #[.string xa,.string ya] 53 #[.string xb,.string yb] 53 #[.string ⟨#[]⟩,.string ⟨#[]⟩];obtain ⟨pa0,pa1,pa2,pa3,pa4⟩:=BA.out.two;obtain ⟨pb0,pb1,pb2,pb3,pb4⟩:=BB.out.two;refine wp_region_T 6 (fun W=>W.cell? ⟨w.heap.size,0,none⟩=some (.string xa)∧W.cell? ⟨w.heap.size,1,none⟩=some (.string ya)∧W.cell? ⟨w.heap.size+1,0,none⟩=some (.string xb)∧W.cell? ⟨w.heap.size+1,1,none⟩=some (.string yb)) 7 #[false,false,false,false,false,false,false] rfl (by kernel_rfl) (by kernel_rfl) ?_;refine tk 0 (by exact ⟨pa0,pa1,pb0,pb1⟩) ?_
  try simp only[PT]
  refine tk 2 (by exact ⟨pa0,pa1,pb0,pb1⟩) ?_
  try simp only[PT]
  refine wpT_one 1 rfl (by kernel_rfl) (fun K hK=>?_);go_simp;refine (HCA.out _ (HE.out.new HN.out.drew)).mono ?_;rintro e w1 ⟨rfl,hn⟩;have hn:=hn.undrew;clear pa0 pa1 pa2 pa3 pa4 pb0 pb1 pb2 pb3 pb4;replace BA:=hid (BA.out.new hn);replace BB:=hid (BB.out.new hn);replace BP:=hid (BP.out.new hn);replace HN:=hid (HN.out.trans hn);clear hn;obtain ⟨pa0,pa1,pa2,pa3,pa4⟩:=BA.out.two;obtain ⟨pb0,pb1,pb2,pb3,pb4⟩:=BB.out.two;refine hK.out _ _ (fun _=>?_) ?_
  ·exact ⟨pa0,pa1,pb0,pb1⟩
  clear hK K
  try simp only[PT]
  refine wpT_one 3 rfl (by kernel_rfl) (fun K hK=>?_);go_simp;refine (HCB.out _ (HE.out.new HN.out)).mono ?_;rintro e w2 ⟨rfl,hn⟩;clear pa0 pa1 pa2 pa3 pa4 pb0 pb1 pb2 pb3 pb4;replace BA:=hid (BA.out.new hn);replace BB:=hid (BB.out.new hn);replace BP:=hid (BP.out.new hn);replace HN:=hid (HN.out.trans hn);clear hn;obtain ⟨pa0,pa1,pa2,pa3,pa4⟩:=BA.out.two;obtain ⟨pb0,pb1,pb2,pb3,pb4⟩:=BB.out.two;refine hK.out _ _ (fun _=>?_) ?_
  ·exact ⟨pa0,pa1,pb0,pb1⟩
  clear hK K
  try simp only[PT]
  refine wpT_one 4 rfl (by kernel_rfl) (fun K hK=>?_);go_simp;clear pa0 pa1 pa2 pa3 pa4 pb0 pb1 pb2 pb3 pb4;have HN0:=HN;clear HN;obtain ⟨BG,HN⟩:=lay1 w2 32 #[.int .i64 ea,.int .i64 eb];replace BA:=hid (BA.out.new HN.out);replace BB:=hid (BB.out.new HN.out);replace BP:=hid (BP.out.new HN.out);have HN_:=HN0.out.trans HN.out;clear HN HN0;have HN:=hid HN_;clear HN_;obtain ⟨pa0,pa1,pa2,pa3,pa4⟩:=BA.out.two;obtain ⟨pb0,pb1,pb2,pb3,pb4⟩:=BB.out.two;refine hK.out _ _ (fun _=>?_) ?_
  ·exact ⟨pa0,pa1,pb0,pb1⟩
  clear hK K
  try simp only[PT]
  refine wpT_one 5 rfl (by kernel_rfl) (fun K hK=>?_);go_simp;refine (nfirst2_new ea eb _ _ 32 _ BG.out).mono ?_;rintro e w3 ⟨rfl,hn⟩;rw[HR.out];clear BG;clear pa0 pa1 pa2 pa3 pa4 pb0 pb1 pb2 pb3 pb4;replace BA:=hid (BA.out.new hn);replace BB:=hid (BB.out.new hn);replace BP:=hid (BP.out.new hn);replace HN:=hid (HN.out.trans hn);clear hn;obtain ⟨pa0,pa1,pa2,pa3,pa4⟩:=BA.out.two;obtain ⟨pb0,pb1,pb2,pb3,pb4⟩:=BB.out.two;refine hK.out _ _ (fun _=>?_) ?_
  ·exact ⟨pa0,pa1,pb0,pb1⟩
  clear hK K
  try simp only[PT]
  refine wpT_tail rfl (by kernel_rfl) ?_;simp only[List.drop_succ_cons,List.drop_zero];go_wp2_with fail;refine (HFX.out _ (HE.out.new HN.out)).mono ?_;rintro e w4 ⟨v4,rfl,hn,hf⟩;clear pa0 pa1 pa2 pa3 pa4 pb0 pb1 pb2 pb3 pb4;have HF:=hid hf;clear hf;replace BA:=hid (BA.out.new hn);replace BB:=hid (BB.out.new hn);replace BP:=hid (BP.out.new hn);replace HN:=hid (HN.out.trans hn);clear hn;obtain ⟨pa0,pa1,pa2,pa3,pa4⟩:=BA.out.two;obtain ⟨pb0,pb1,pb2,pb3,pb4⟩:=BB.out.two;go_wp2_with fail;refine (fsign_calls _ y0 _ HF.out).mono ?_;rintro e w5 ⟨rfl,hn⟩;rw[HS0.out];clear HF;clear pa0 pa1 pa2 pa3 pa4 pb0 pb1 pb2 pb3 pb4;replace BA:=hid (BA.out.new hn);replace BB:=hid (BB.out.new hn);replace BP:=hid (BP.out.new hn);replace HN:=hid (HN.out.trans hn);clear hn;obtain ⟨pa0,pa1,pa2,pa3,pa4⟩:=BA.out.two;obtain ⟨pb0,pb1,pb2,pb3,pb4⟩:=BB.out.two;go_wp2_with fail;refine (HCO.out _ (HE.out.new HN.out)).mono ?_;rintro e w8 ⟨rfl,hn⟩;clear pa0 pa1 pa2 pa3 pa4 pb0 pb1 pb2 pb3 pb4;replace BP:=hid (BP.out.new hn);replace HN:=hid (HN.out.trans hn);clear hn;obtain ⟨p0,p1,p2,p3,p4⟩:=BP.out.two;go_wp2_with fail;refine bodyPost_ret (v:=.tuple #[.agg #[.string U,.string V],.int .i64 0]) (by simp[results,Tryz.results55,go_sem,p0,p1]) rfl ?_;exact ⟨rfl,HN.out.putAt BP.out (by omega) _ _⟩
theorem field_den (s:Int)(a:Option Addr)(l c:Nat)(t:Int)(d:Option Addr)(m k:Nat)(W:World):(Instr.field 115 (.agg #[.int .i64 s,.slice a l c,.int .i64 t,.slice d m k]) 1).run Tryz.prog W=.ok (.agg #[.int .i64 t,.slice d m k]) W:=by kernel_rfl
theorem checkTurn_calls (s:ByteArray)(q:Rat)(k:Int)(hs:s.data.toList=ratText q)(hf:Fits q)(hl:s.size≤100000)(hd:q.den≤999999999)(h1:1≤k)(h2:k≤12)(w:World)(he:Env w):Calls Tryz.prog 162 #[.string s,.int .i64 k] w (RetNew w 0):=by
 have hck:=fun W hW=>check_calls s W hW hl;rw[hs,ratErr_ratText hf] at hck;have hfr:=fun W hW=>from_calls s q W hW hs (by omega);have fq:=Fits.fb hf;have hcm:=fun va W h=>cmp_calls va (.agg #[.int .i64 999999999,.slice none 0 0]) (q.den:Int) 999999999 W h (.small rfl (by omega) (by omega)) ⟨2000,by omega,fq.den⟩ ⟨30,by omega,show (999999999:Int).natAbs < 2^30 by decide⟩;unfold SignPost at hcm
 obtain ⟨t,ht,ht0⟩:∃ t,((q.den:Int) - 999999999).sign=t∧t≤0:=⟨_,rfl,by
  rcases Int.lt_trichotomy ((q.den:Int) - 999999999) 0 with h | h | h
  ·rw[Int.sign_eq_neg_one_of_neg h];decide
  ·rw[h];decide
  ·omega⟩
 have htb:decide (t > 0)=false:=decide_eq_false (by omega);rw[ht] at hcm;have hwi:=fun W=>nwithin_calls k 1 12 W;rw[show outside k 1 12=false by unfold outside;simp;omega] at hwi;clear hs hf hl hd h1 h2 ht fq ht0;have HN:=hid (New.refl w);have HE:=hid he;have HCK:=hid hck;have HFR:=hid hfr;have HCM:=hid hcm;have HWI:=hid hwi;clear he hck hfr hcm hwi;go_enter Tryz.func162,Tryz.ntmps162;go_wp2_with fail;refine (HCK.out _ (HE.out.new HN.out)).mono ?_;rintro e w1 ⟨rfl,hn⟩;replace HN:=hid (HN.out.trans hn);clear hn;go_wp2_with fail;refine (HFR.out _ (HE.out.new HN.out)).mono ?_;rintro e w2 ⟨v2,rfl,hn,hf⟩;obtain ⟨s4,a4,l4,c4,t4,d4,m4,k4,rfl⟩:=hf.shape;have HF:=hid hf;clear hf;replace HN:=hid (HN.out.trans hn);clear hn;have hfd:=field_den s4 a4 l4 c4 t4 d4 m4 k4;go_wp2_with fail;refine (of_calls 999999999 _).mono ?_;rintro e w3 ⟨rfl,hn⟩;clear hfd;replace HF:=hid (HF.out.new hn);replace HN:=hid (HN.out.trans hn);clear hn;go_wp2_with fail;refine (HCM.out _ _ HF.out.parts.2).mono ?_;rintro e w4 ⟨rfl,hn⟩;clear HF;replace HN:=hid (HN.out.trans hn);clear hn;go_wp2_with fail;refine (nwhen_calls false 4 _).mono ?_;rintro e w5 ⟨rfl,rfl⟩;go_wp2_with fail;refine (HWI.out _).mono ?_;rintro e w6 ⟨rfl,rfl⟩;go_wp2_with fail;have HN0:=HN;clear HN;obtain ⟨BG,HN⟩:=lay1 w4 32 #[.int .i64 0,.int .i64 0];have HN_:=HN0.out.trans HN.out;clear HN HN0;have HN:=hid HN_;clear HN_;refine (nfirst2_new 0 0 _ _ 32 _ BG.out).mono ?_;rintro e w7 ⟨rfl,hn⟩;clear BG;replace HN:=hid (HN.out.trans hn);clear hn;go_wp2_with fail;go_ret;exact ⟨rfl,HN.out⟩
theorem ncos_calls (s X Y:ByteArray)(q:Rat)(k:Int)(hs:s.data.toList=ratText q)(hf:Fits q)(hl:s.size≤100000)(hd:q.den≤999999999)(h1:1≤k)(h2:k≤12)(hco:∀ va W,Env W→IsFrac W va q→Calls Tryz.prog 163 #[va,.int .i64 k] W (SpPost W X Y 0))(w:World)(he:Env w):
  Calls Tryz.prog 82 #[.string s,.int .i64 k] w (SpPost w X Y 0):=by
 have hct:=fun W hW=>checkTurn_calls s q k hs hf hl hd h1 h2 W hW;have hfr:=fun W hW=>from_calls s q W hW hs (by omega);clear hs hf hl hd h1 h2;unfold SpPost at *;have HE:=hid he;have HCT:=hid hct;have HFR:=hid hfr;have HCO:=hid hco;clear he hct hfr hco;go_enter Tryz.func82,Tryz.ntmps82;go_upto_region 1 with (fail);obtain ⟨BP,HN⟩:=lay1 w 53 #[.string ⟨#[]⟩,.string ⟨#[]⟩];go_wp2_with fail;refine (HCT.out _ (HE.out.new HN.out)).mono ?_;rintro e w1 ⟨rfl,hn⟩;replace BP:=hid (BP.out.new hn);replace HN:=hid (HN.out.trans hn);clear hn;go_wp2_with fail;refine (HFR.out _ (HE.out.new HN.out)).mono ?_;rintro e w2 ⟨v2,rfl,hn,hf⟩;have HF:=hid hf;clear hf;replace BP:=hid (BP.out.new hn);replace HN:=hid (HN.out.trans hn);clear hn;go_wp2_with fail;refine (HCO.out _ _ (HE.out.new HN.out) HF.out).mono ?_;rintro e w9 ⟨rfl,hn⟩;replace BP:=hid (BP.out.new hn);replace HN:=hid (HN.out.trans hn);clear hn;obtain ⟨p0,p1,p2,p3,p4⟩:=BP.out.two;go_wp2_with fail;refine bodyPost_ret (v:=.tuple #[.agg #[.string X,.string Y],.int .i64 0]) (by simp[results,Tryz.results82,go_sem,p0,p1]) rfl ?_;exact ⟨rfl,HN.out.putAt BP.out (by omega) _ _⟩
theorem nsin_calls (s X Y:ByteArray)(q:Rat)(k:Int)(m:Nat)(hb:FB m q)(hm:m≤60000)(hs:s.data.toList=ratText q)(hf:Fits q)(hl:s.size≤100000)(hd:q.den≤999999999)(h1:1≤k)(h2:k≤12)(hco:∀ va W,Env W→IsFrac W va (q - Rat.divInt 1 4)→Calls Tryz.prog 163 #[va,.int .i64 k] W (SpPost W X Y 0))(w:World)(he:Env w):
  Calls Tryz.prog 83 #[.string s,.int .i64 k] w (SpPost w X Y 0):=by
 have hmk:=fun W=>make_of 1 4 W (by decide) (by decide) (by decide);have hsu:=fun va vb W h1 h2=>fsub_calls va vb q (Rat.divInt 1 4) m 10 W h1 h2 hb (FB.divInt (by unfold BdK;decide +kernel) (by unfold BdK;decide +kernel) (by decide)) (by omega);obtain ⟨r,hr⟩:∃ r,q - Rat.divInt 1 4=r:=⟨_,rfl⟩;simp only[hr] at hco hsu;clear hr hb hm;have hct:=fun W hW=>checkTurn_calls s q k hs hf hl hd h1 h2 W hW;have hfr:=fun W hW=>from_calls s q W hW hs (by omega);clear hs hf hl hd h1 h2;unfold SpPost at *;have HE:=hid he;have HCT:=hid hct;have HFR:=hid hfr;have HCO:=hid hco;have HMK:=hid hmk;have HSU:=hid hsu;clear he hct hfr hco hmk hsu;go_enter Tryz.func83,Tryz.ntmps83;go_upto_region 1 with (fail);obtain ⟨BP,HN⟩:=lay1 w 53 #[.string ⟨#[]⟩,.string ⟨#[]⟩];go_wp2_with fail;refine (HCT.out _ (HE.out.new HN.out)).mono ?_;rintro e w1 ⟨rfl,hn⟩;replace BP:=hid (BP.out.new hn);replace HN:=hid (HN.out.trans hn);clear hn;go_wp2_with fail;refine (HFR.out _ (HE.out.new HN.out)).mono ?_;rintro e w2 ⟨v2,rfl,hn,hf⟩;have HF:=hid hf;clear hf;replace BP:=hid (BP.out.new hn);replace HN:=hid (HN.out.trans hn);clear hn;go_wp2_with fail;refine (of_calls 1 _).mono ?_;rintro e w3 ⟨rfl,hn⟩;replace BP:=hid (BP.out.new hn);replace HF:=hid (HF.out.new hn);replace HN:=hid (HN.out.trans hn);clear hn;go_wp2_with fail;refine (of_calls 4 _).mono ?_;rintro e w4 ⟨rfl,hn⟩;replace BP:=hid (BP.out.new hn);replace HF:=hid (HF.out.new hn);replace HN:=hid (HN.out.trans hn);clear hn;go_wp2_with fail;refine (HMK.out _).mono ?_;rintro e w5 ⟨v5,rfl,hn,hf⟩;have HF5:=hid hf;clear hf;replace BP:=hid (BP.out.new hn);replace HF:=hid (HF.out.new hn);replace HN:=hid (HN.out.trans hn);clear hn;go_wp2_with fail;refine (HSU.out _ _ _ HF.out HF5.out).mono ?_;rintro e w6 ⟨v6,rfl,hn,hf⟩;clear HF HF5;have HF6:=hid hf;clear hf;replace BP:=hid (BP.out.new hn);replace HN:=hid (HN.out.trans hn);clear hn;go_wp2_with fail;refine (HCO.out _ _ (HE.out.new HN.out) HF6.out).mono ?_;rintro e w9 ⟨rfl,hn⟩;replace BP:=hid (BP.out.new hn);replace HN:=hid (HN.out.trans hn);clear hn;obtain ⟨p0,p1,p2,p3,p4⟩:=BP.out.two;go_wp2_with fail;refine bodyPost_ret (v:=.tuple #[.agg #[.string X,.string Y],.int .i64 0]) (by simp[results,Tryz.results83,go_sem,p0,p1]) rfl ?_;exact ⟨rfl,HN.out.putAt BP.out (by omega) _ _⟩
theorem cos6_aw (w:World)(he:Env w):Calls Tryz.prog 82 #[.string ⟨#[49,47,54]⟩,.int .i64 5] w (SpPost w ⟨#[49,47,50]⟩ ⟨#[49,47,50]⟩ 0):=
 ncos_calls _ _ _ (Rat.divInt 1 6) 5 (by decide +kernel) (by rw[Fits.iff];decide +kernel) (by decide) (by decide +kernel) (by omega) (by omega) (fun va W hW h=>cos_sixth va 5 W hW h) w he
theorem cos8_aw (w:World)(he:Env w):Calls Tryz.prog 82 #[.string ⟨#[49,47,56]⟩,.int .i64 3] w (SpPost w ⟨#[55,48,55,47,49,48,48,48]⟩ ⟨#[49,55,55,47,50,53,48]⟩ 0):=
 ncos_calls _ _ _ (Rat.divInt 1 8) 3 (by decide +kernel) (by rw[Fits.iff];decide +kernel) (by decide) (by decide +kernel) (by omega) (by omega) (fun va W hW h=>by
  have hc:=cos_eighth va W hW h;rw[show rs (Rat.divInt 707 1000)=⟨#[55,48,55,47,49,48,48,48]⟩ by decide +kernel,show rs (Rat.divInt (707+1) 1000)=⟨#[49,55,55,47,50,53,48]⟩ by decide +kernel] at hc
  exact hc) w he
theorem sin8_aw (w:World)(he:Env w):Calls Tryz.prog 83 #[.string ⟨#[45,49,47,56]⟩,.int .i64 3] w (SpPost w ⟨#[45,49,55,55,47,50,53,48]⟩ ⟨#[45,55,48,55,47,49,48,48,48]⟩ 0):=
 nsin_calls _ _ _ (Rat.divInt (-1) 8) 3 10 (FB.divInt (by unfold BdK;decide +kernel) (by unfold BdK;decide +kernel) (by decide)) (by omega) (by decide +kernel) (by rw[Fits.iff];decide +kernel) (by decide) (by decide +kernel) (by omega) (by omega) (fun va W hW h=>by
  rw[show Rat.divInt (-1) 8 - Rat.divInt 1 4=Rat.divInt (-3) 8 by decide +kernel]at h;have hc:=cos_minus va W hW h;rw[show rs (Rat.divInt (-708) 1000)=⟨#[45,49,55,55,47,50,53,48]⟩ by decide +kernel,show rs (Rat.divInt (-708+1) 1000)=⟨#[45,55,48,55,47,49,48,48,48]⟩ by decide +kernel] at hc
  exact hc) w he
end Go.Proofs.YtnjonlnemagomaaGreatDoor
