/- Part B38. -/
import Derived.Deep.CutBlock
import Derived.Deep.DeepCutAuto
import Derived.Test.YtnjonlnemagomaaGreatDoorB37
namespace Go.Proofs.YtnjonlnemagomaaGreatDoor
open Go.RowKit Big
open Go.Lib (hid)
set_option maxRecDepth 100000
set_option maxHeartbeats 8000000
theorem yii (f:FVal):∀ u∈f.cells,NotU u:=by
 intro u hu;simp at hu
 rcases hu with rfl | rfl | rfl | rfl <;> first | exact .i64 _ | exact .slice _ _ _
theorem cells_one (f:FVal):∀ u∈f.cells,u.oneCell'=true:=by
 intro u hu;simp at hu;rcases hu with rfl | rfl | rfl | rfl <;> rfl
theorem ym5 (w:World)(f:FVal)(t:TypeId):∀ (j:Nat) (u:Value),(f.cells)[j]?=some u->(w.alloc (.cells #[.int .i64 f.s,.slice f.a f.l f.c,.int .i64 f.t,.slice f.d f.m f.k] t)).cell? ((⟨w.heap.size,0,none⟩:Addr).add j)=some u:=by
 intro j u h;rw[Addr.add_lit];show (w.alloc _).cell? ⟨w.heap.size,0+j,none⟩=some u;rw[Nat.zero_add,(Box.alloc w _ t #[.int .i64 f.s,.slice f.a f.l f.c,.int .i64 f.t,.slice f.d f.m f.k] rfl).cell];simpa using h
def FRow (base:Nat)(wr:World)(v:Value)(rs:List Rat):Prop:=∃ fs:List FVal,fs.length=rs.length/\wr.ownsRow base 115 4 v rs.length (fs.flatMap FVal.cells)/\y5j wr v/\∀ (i:Nat) (f:FVal) (q:Rat),fs[i]?=some f->rs[i]?=some q->y07 wr f.val q
theorem FRow.nil (base:Nat)(w:World):FRow base w (.slice none 0 0) []:=⟨[],rfl,World.ownsRow_nil _ _ _ _,fun g hg=>by simp[Value.ownBlock] at hg,fun i f q h=>by simp at h⟩
theorem FRow.new {base:Nat}{w w':World}{v:Value}{rs:List Rat}(h:FRow base w v rs)(hn:New w w'):FRow base w' v rs:=by
 obtain ⟨fs,h1,h2,h3,h4⟩:=h;exact ⟨fs,h1,yc3 h2 hn,h3.new hn,fun i f q e1 e2=>(h4 i f q e1 e2).new hn⟩
theorem FRow.lt {base:Nat}{w:World}{v:Value}{rs:List Rat}(h:FRow base w v rs):∀ g,v.ownBlock=some g->g < w.heap.size:=fun g hg=>by
 obtain ⟨fs,h1,h2,h3,h4⟩:=h;exact (h2.lt g hg).2
theorem FRow.push {base:Nat} {w w':World} {v v':Value} {rs:List Rat} {f:FVal} {q:Rat} {fs:List FVal} (h1:fs.length=rs.length) (h3:y5j w v) (h4:∀ (i:Nat) (f:FVal) (q:Rat),fs[i]?=some f->rs[i]?=some q->y07 w f.val q) (hf:y07 w f.val q) (hg:w.grownBy w' v.ownBlock)
  (ho:w'.ownsRow base 115 4 v' (rs.length+1) (fs.flatMap FVal.cells ++ f.cells)) (hno:y5j w' v'):FRow base w' v' (rs ++ [q]):=by
 refine ⟨fs ++ [f],by simp[h1],by simpa using ho,hno,fun i g x e1 e2=>?_⟩;rcases Nat.lt_trichotomy i fs.length with hi | hi | hi
 ·rw[List.getElem?_append_left hi] at e1;rw[List.getElem?_append_left (by omega)] at e2;exact (h4 i g x e1 e2).grown hg h3
 ·subst hi;rw[List.getElem?_append_right (Nat.le_refl _)] at e1;rw[h1,List.getElem?_append_right (Nat.le_refl _)] at e2;simp at e1 e2;subst e1;subst e2;exact hf.grown hg h3
 ·rw[List.getElem?_eq_none (by simp;omega)] at e1
  cases e1
theorem Fr2.new {w w':World}{b:Nat}{p q:Rat}(h:Fr2 w b p q)(hn:New w w'):Fr2 w' b p q:=by
 obtain ⟨s,a,l,c,t,d,m,k,s',a',l',c',t',d',m',k',hb,h1,h2⟩:=h;exact ⟨s,a,l,c,t,d,m,k,s',a',l',c',t',d',m',k',hb.new hn,h1.new hn,h2.new hn⟩
theorem Fr2.grown {w w':World}{b:Nat}{p q:Rat}{v:Value}(h:Fr2 w b p q)(hg:w.grownBy w' v.ownBlock)(hne:v.ownBlock≠some b)(hno:y5j w v):Fr2 w' b p q:=by
 obtain ⟨s,a,l,c,t,d,m,k,s',a',l',c',t',d',m',k',hb,h1,h2⟩:=h;exact ⟨s,a,l,c,t,d,m,k,s',a',l',c',t',d',m',k',hb.grown hg hne,h1.grown hg hno,h2.grown hg hno⟩
abbrev FBox (w:World)(B:Nat)(f:FVal):Prop:=Box w B 115 #[.int .i64 f.s,.slice f.a f.l f.c,.int .i64 f.t,.slice f.d f.m f.k]
structure yc6 (w2:World)(X gb:Nat)(fx:FVal)(x y0 y1:Rat)(v:Value)(rs:List Rat)(wr:World):Prop where
 hn:New w2 wr
 hr:FRow w2.heap.size wr v rs
 nx:v.ownBlock≠some X
 nb:v.ownBlock≠some gb
 bx:FBox wr X fx
 fx:y07 wr fx.val x
 fb:Fr2 wr gb y0 y1
theorem yc6.new {w2:World}{X gb:Nat}{fx:FVal}{x y0 y1:Rat}{v:Value}{rs:List Rat}{wr w':World}(h:yc6 w2 X gb fx x y0 y1 v rs wr)(hn:New wr w'):yc6 w2 X gb fx x y0 y1 v rs w':=
 ⟨h.hn.trans hn,h.hr.new hn,h.nx,h.nb,h.bx.new hn,h.fx.new hn,h.fb.new hn⟩
theorem yc6.push {w2:World} {X gb:Nat} {fx f:FVal} {x y0 y1 q:Rat} {v v':Value} {rs:List Rat} {w w':World} {fs:List FVal} (h:yc6 w2 X gb fx x y0 y1 v rs w) (h1:fs.length=rs.length) (h2:w.ownsRow w2.heap.size 115 4 v rs.length (fs.flatMap FVal.cells)) (h3:y5j w v)
  (h4:∀ (i:Nat) (f:FVal) (q:Rat),fs[i]?=some f->rs[i]?=some q->y07 w f.val q) (hf:y07 w f.val q) (hg:w.grownBy w' v.ownBlock)
  (ho:w'.ownsRow w2.heap.size 115 4 v' (rs.length+1) (fs.flatMap FVal.cells ++ f.cells)) (hno:y5j w' v') (hfr:∀ g,v'.ownBlock=some g->v.ownBlock=some g\/w.heap.size<=g):yc6 w2 X gb fx x y0 y1 v' (rs ++ [q]) w':=by
 have ne:∀ {B:Nat},v.ownBlock≠some B->B < w.heap.size->v'.ownBlock≠some B:=fun {B} hB hl e=>by
  rcases hfr B e with h5 | h5
  ·exact hB h5
  ·omega
 have lb:gb < w.heap.size:=by
  obtain ⟨_,_,_,_,_,_,_,_,_,_,_,_,_,_,_,_,hb, -⟩:=h.fb;exact hb.lt
 exact ⟨ya2 h.hn h2 hg,FRow.push h1 h3 h4 hf hg ho hno,ne h.nx h.bx.lt,ne h.nb lb,h.bx.grown hg h.nx,h.fx.grown hg h3,h.fb.grown hg h.nb h3⟩
theorem ybs {w:World}{v:Value}{q:Rat}(h:y07 w v q):∃ f:FVal,v=f.val:=by
 obtain ⟨s,a,l,c,t,d,m,k,rfl⟩:=h.shape;exact ⟨⟨s,a,l,c,t,d,m,k⟩,rfl⟩
theorem y76 (xa ya xb yb:ByteArray) (x0 x1 y0 y1:Rat) (hxa:xa.data.toList=y02 x0) (hya:ya.data.toList=y02 x1) (hxb:xb.data.toList=y02 y0) (hyb:yb.data.toList=y02 y1)
  (lxa:xa.size<=100000) (lya:ya.size<=100000) (lxb:xb.size<=100000) (lyb:yb.size<=100000) (fn:Nat) (op:Rat->Rat->Rat) (hcf:∀ (args:Array Value) (W:World),Sem.run Tryz.prog (callFunc fn args) W=.ok (.enter fn args) W)
  (hop:∀ x y,(x=x0\/x=x1)->(y=y0\/y=y1)->∀ W va vb,y07 W va x->y07 W vb y->Calls Tryz.prog fn #[va,vb] W (y1h W (op x y)))
  (hb:∀ x y,(x=x0\/x=x1)->(y=y0\/y=y1)->FB 1800 (op x y)) (w:World) (he:Env w):
  Calls Tryz.prog 141 #[.agg #[.string xa,.string ya],.agg #[.string xb,.string yb],.func (.func fn) #[] #[]] w
   (y17 w (rs (minR (minR (minR (op x0 y0) (op x0 y1)) (op x1 y0)) (op x1 y1))) (rs (maxR (maxR (maxR (op x0 y0) (op x0 y1)) (op x1 y0)) (op x1 y1))) 0):=by
 obtain ⟨i0,hi,hz0,hz1,hz2⟩:=info_parts y9f;have hfa:=fun B cap T W hW hB=>y97 xa ya x0 x1 hxa hya lxa lya B cap T W hW hB;have hfb:=fun B cap T W hW hB=>y97 xb yb y0 y1 hxb hyb lxb lyb B cap T W hW hB;clear hxa hya hxb hyb lxa lya lxb lyb;obtain ⟨mn,hmn'⟩:∃ m,minR (minR (minR (op x0 y0) (op x0 y1)) (op x1 y0)) (op x1 y1)=m:=⟨_,rfl⟩;obtain ⟨mx,hmx'⟩:∃ m,maxR (maxR (maxR (op x0 y0) (op x0 y1)) (op x1 y0)) (op x1 y1)=m:=⟨_,rfl⟩;rw[hmn',hmx'];obtain ⟨U,hU⟩:∃ X,Proofs.YtnjonlnemagomaaGreatDoor.rs mn=X:=⟨_,rfl⟩;obtain ⟨V,hV⟩:∃ X,Proofs.YtnjonlnemagomaaGreatDoor.rs mx=X:=⟨_,rfl⟩;rw[hU,hV];unfold y17;have HE:=hid he;have HFA:=hid hfa;have HFB:=hid hfb;have HOP:=hid hop;have HFBD:=hid hb;have HCF:=hid hcf;have HMN:=hid hmn';have HMX:=hid hmx';have HU:=hid hU;have HV:=hid hV;clear he hfa hfb hop hb hcf hmn' hmx' hU hV;go_enter Tryz.func141,Tryz.ntmps141;go_upto_region 1 with (fail);obtain ⟨BA,BB,BP,HN⟩:=lay3 w 53 #[.string xa,.string ya] 53 #[.string xb,.string yb] 53 #[.string ⟨#[]⟩,.string ⟨#[]⟩];obtain ⟨w8,hw8⟩:∃ u,((w.alloc (.cells #[.string xa,.string ya] 53)).alloc (.cells #[.string xb,.string yb] 53)).alloc (.cells #[.string ⟨#[]⟩,.string ⟨#[]⟩] 53)=u:=⟨_,rfl⟩;rw[hw8] at BA BB BP HN⊢;clear hw8;obtain ⟨pa0,pa1,pa2,pa3,pa4⟩:=BA.out.two;go_wp2_with fail;clear pa0 pa1 pa2 pa3 pa4;have HN0:=HN;clear HN;obtain ⟨BG,HN⟩:=lay1 w8 23 #[.string xa,.string ya];replace BB:=hid (BB.out.new HN.out);replace BP:=hid (BP.out.new HN.out);have HN_:=HN0.out.trans HN.out;clear HN HN0;have HN:=hid HN_;clear HN_;clear BA;refine (HFA.out _ _ _ _ (HE.out.new HN.out) BG.out).mono ?_;rintro e w2 ⟨ga,rfl,hn,hga,h2⟩;clear hga BG;have HA:=hid h2;clear h2;replace BB:=bW BB hn;replace BP:=bW BP hn;replace HN:=tW HN hn;clear hn;go_wp2_with fail;have HW:=HN;clear HN;go_loopw [8,20] (fun v i wr=>∃ (k:Nat) (rs:List Rat),i=.int .i64 (k:Int)/\Hid ((k=0/\rs=[])\/(k=1/\rs=[op x0 y0,op x0 y1])\/(k=2/\rs=[op x0 y0,op x0 y1,op x1 y0,op x1 y1]))/\Hid (New w2 wr)/\Hid (FRow w2.heap.size wr v rs)) (fun _ i _=>2 - (RowKit.intOf i).toNat)
 case atStart=>exact ⟨0,[],rfl,hid (.inl ⟨rfl,rfl⟩),hid (New.refl _),hid (FRow.nil _ _)⟩
 case round=>
  obtain ⟨k,rs,rfl,HK,HN,HR⟩:=hrel;by_cases hlt:k < 2
  ·have HAR:=hid (HA.out.new HN.out)
   have hki:(k:Int) < 2:=by omega
   go_upto_region 4 with (fail)
   go_cut [10] from 22 to 23 (fun u wx=>∃ (X:Nat) (fx:FVal) (x:Rat),u=.pointer (some ⟨X,0,none⟩)/\Hid (New wr wx)/\Hid (wr.heap.size<=X)/\Hid (FBox wx X fx)/\Hid (y07 wx fx.val x)/\Hid ((k=0/\x=x0)\/(k=1/\x=x1)))
   case first=>
    obtain ⟨s,a,l,c,t,d,m,kk,s',a',l',c',t',d',m',k',hbx,hf1,hf2⟩:=HAR.out;rcases (show k=0\/k=1 by omega) with rfl | rfl
    ·have z0:=hbx.cell 0;have z1:=hbx.cell 1;have z2:=hbx.cell 2;have z3:=hbx.cell 3;have HF1:=hid hf1;have HF2:=hid hf2;have HBX:=hid hbx;clear hf1 hf2 hbx;go_wp2_with fail
     go_meet
     exact ⟨_,⟨s,a,l,c,t,d,m,kk⟩,x0,rfl,hid ((New.refl _).alloc _),hid (Nat.le_refl _),hid (Box.alloc wr _ _ _ rfl),hid (HF1.out.new ((New.refl _).alloc _)),hid (by simp)⟩
    ·have z0:=hbx.cell 4;have z1:=hbx.cell 5;have z2:=hbx.cell 6;have z3:=hbx.cell 7;have HF1:=hid hf1;have HF2:=hid hf2;have HBX:=hid hbx;clear hf1 hf2 hbx;go_wp2_with fail
     go_meet
     exact ⟨_,⟨s',a',l',c',t',d',m',k'⟩,x1,rfl,hid ((New.refl _).alloc _),hid (Nat.le_refl _),hid (Box.alloc wr _ _ _ rfl),hid (HF2.out.new ((New.refl _).alloc _)),hid (by simp)⟩
   case rest=>
    obtain ⟨X,fx,x,rfl,HX1,HXX,BX,HX,HKX⟩:=hcut;have hn:=HX1.out;have BB_:=BB.out.new (HN.out.trans hn);have HN_:=HN.out.trans hn;have HR_:=HR.out.new hn
    have hnx:u8.ownBlock≠some X:=fun e=>by
     have h1:=HR.out.lt X e;have h2:=HXX.out;omega
    clear hn HX1 HN HR HAR HXX;have BBR:=hid BB_;have HNR:=hid HN_;have HR:=hid HR_;have HNX:=hid hnx;clear BB_ HN_ HR_ hnx;have HEN:=hid (HE.out.new (HW.out.trans HNR.out));have HN:=HNR;obtain ⟨pb0,pb1,pb2,pb3,pb4⟩:=BBR.out.two;go_wp2_with fail;clear pb0 pb1 pb2 pb3 pb4;clear HN;have HN:=hid (New.refl wc);have HN0:=HN;clear HN;obtain ⟨BG,HN⟩:=lay1 wc 23 #[.string xb,.string yb];replace HEN:=hid (HEN.out.new HN.out);have HN_:=HN0.out.trans HN.out;clear HN HN0;have HN:=hid HN_;clear HN_;refine (HFB.out _ _ _ _ HEN.out BG.out).mono ?_;rintro e w4 ⟨gb,rfl,hn,hgb,h2⟩;have hn4:=HN.out.trans hn
    have hnb:u8.ownBlock≠some gb:=fun e=>by
     have h1:=HR.out.lt gb e;have h2:=HN.out.size;omega
    have hst:yc6 w2 X gb fx x y0 y1 u8 rs w4:=⟨HNR.out.trans hn4,HR.out.new hn4,HNX.out,hnb,BX.out.new hn4,HX.out.new hn4,h2⟩;clear hn hgb h2 hn4 hnb BG HN HNR HR HNX BX HX HEN BBR;have HS:=hid hst;clear hst;go_wp2_with fail;go_loopw [8,31] (fun v i wr=>∃ (j:Nat) (qs:List Rat),i=.int .i64 (j:Int)/\Hid ((j=0/\qs=[])\/(j=1/\qs=[op x y0])\/(j=2/\qs=[op x y0,op x y1]))/\Hid (yc6 w2 X gb fx x y0 y1 v (rs ++ qs) wr)) (fun _ i _=>2 - (RowKit.intOf i).toNat)
    case atStart=>exact ⟨0,[],rfl,hid (.inl ⟨rfl,rfl⟩),by rw[List.append_nil];exact HS⟩
    case round=>
     clear HS;obtain ⟨j,qs,rfl,HJ,HI⟩:=hrel;by_cases hlj:j < 2
     ·have hji:(j:Int) < 2:=by omega
      go_upto_region 7 with (fail)
      go_cut [12] from 33 to 34 (fun u wx=>∃ (Y:Nat) (fy:FVal) (y:Rat),u=.pointer (some ⟨Y,0,none⟩)/\Hid (New wr wx)/\Hid (FBox wx Y fy)/\Hid (y07 wx fy.val y)/\Hid ((j=0/\y=y0)\/(j=1/\y=y1)))
      case first=>
       obtain ⟨s,a,l,c,t,d,m,kk,s',a',l',c',t',d',m',k',hbx,hf1,hf2⟩:=HI.out.fb;rcases (show j=0\/j=1 by omega) with rfl | rfl
       ·have z0:=hbx.cell 0;have z1:=hbx.cell 1;have z2:=hbx.cell 2;have z3:=hbx.cell 3;have HF1:=hid hf1;have HF2:=hid hf2;have HBX:=hid hbx;clear hf1 hf2 hbx;go_wp2_with fail
        go_meet
        exact ⟨_,⟨s,a,l,c,t,d,m,kk⟩,y0,rfl,hid ((New.refl _).alloc _),hid (Box.alloc wr _ _ _ rfl),hid (HF1.out.new ((New.refl _).alloc _)),hid (by simp)⟩
       ·have z0:=hbx.cell 4;have z1:=hbx.cell 5;have z2:=hbx.cell 6;have z3:=hbx.cell 7;have HF1:=hid hf1;have HF2:=hid hf2;have HBX:=hid hbx;clear hf1 hf2 hbx;go_wp2_with fail
        go_meet
        exact ⟨_,⟨s',a',l',c',t',d',m',k'⟩,y1,rfl,hid ((New.refl _).alloc _),hid (Box.alloc wr _ _ _ rfl),hid (HF2.out.new ((New.refl _).alloc _)),hid (by simp)⟩
      case rest=>
       obtain ⟨Y,fy,y,rfl,HY1,BY,HY,HJY⟩:=hcut;have HI2:=hid (HI.out.new HY1.out);clear HI HY1;have hx:=HKX.out;have hy:=HJY.out;have hopc:=HOP.out x y (hx.imp And.right And.right) (hy.imp And.right And.right);have HOPC:=hid hopc;clear hopc;clear hx hy;have BX:=hid HI2.out.bx;obtain ⟨⟨px0,px1,px2,px3⟩,px4,px5,px6,px7,px8⟩:=BX.out.four;obtain ⟨⟨py0,py1,py2,py3⟩,py4,py5,py6,py7,py8⟩:=BY.out.four;go_wp2_with fail;rw[HCF.out,Oper.upon_enter];refine (HOPC.out _ _ _ HI2.out.fx HY.out).mono ?_;rintro e w6 ⟨v6,rfl,hn,hf⟩;obtain ⟨f6,rfl⟩:=ybs hf;have HI3:=hid (HI2.out.new hn);clear px0 px1 px2 px3 px4 px5 px6 px7 px8 py0 py1 py2 py3 py4 py5 py6 py7 py8;clear HI2 BX BY HY hn;have HF6:=hid hf;clear hf;have hone:=cells_one f6;have hnu:=yii f6
       have hzu:∀ u∈(Value.agg #[.int .i64 0,.slice none 0 0,.int .i64 0,.slice none 0 0]).cells,NotU u:=by
        intro u hu;simp[Value.cells] at hu
        rcases hu with rfl | rfl | rfl | rfl <;> first | exact .i64 _ | exact .slice _ _ _
       have hlen:(rs ++ qs).length<=8:=by
        rcases HK.out with ⟨-,h⟩ | ⟨-,h⟩ | ⟨-,h⟩ <;> rcases HJ.out with ⟨-,h2⟩ | ⟨-,h2⟩ | ⟨-,h2⟩ <;> rw[h,h2] <;> simp
       obtain ⟨fs,hfl,hown,hno,hel⟩:=HI3.out.hr;have hsz:=HI3.out.hn.size;have HONE:=hid hone;have HNU:=hid hnu;have HZU:=hid hzu;have HLEN:=hid hlen;have HFL:=hid hfl;have HOWN:=hid hown;have HNO:=hid hno;have HSZ:=hid hsz;have HEL:=hid hel;clear hone hnu hzu hlen hfl hown hno hsz hel;go_wp2_with (at_builtin;refine y30 rfl _ _ 201 rfl w2.heap.size 115 i0 (.agg #[.int .i64 0,.slice none 0 0,.int .i64 0,.slice none 0 0]) 4 64 Tryz.underlying201 hi hz0 hz1 hz2 rfl (by decide) _ _ _ rfl (HOWN.out.alloc _) ⟨w6.heap.size,0,none⟩ 1 1 f6.cells rfl rfl (ym5 w6 f6 _) HONE.out (by have:=HLEN.out;unfold maxLen;omega) (by have:=HLEN.out;omega) (by have:=HSZ.out;rw[<-size_alloc];omega) HZU.out HNU.out (HNO.out.new ((New.refl _).alloc _)) ?_);intro v' w7 hown' hgrow hno' hfresh;have hal:∀ o,New w6 (w6.alloc o):=fun o=>(New.refl _).alloc o
       have HI7:Hid (yc6 w2 X gb fx x y0 y1 v' (rs ++ (qs ++ [op x y])) w7):=hid (by
        rw[<-List.append_assoc]
        exact (HI3.out.new (hal _)).push HFL.out (HOWN.out.alloc _) (HNO.out.new (hal _)) (fun i f q e1 e2=>(HEL.out i f q e1 e2).new (hal _)) (HF6.out.new (hal _)) hgrow (by simpa using hown') hno' (fun g hg=>(hfresh g hg).imp id (fun h=>by rw[<-size_alloc];exact h)))
       have HJ7:Hid ((j+1=0/\qs ++ [op x y]=[])\/(j+1=1/\qs ++ [op x y]=[op x y0])\/(j+1=2/\qs ++ [op x y]=[op x y0,op x y1])):=hid (by
        rcases HJY.out with ⟨rfl,rfl⟩ | ⟨rfl,rfl⟩
        ·rcases HJ.out with ⟨-,h⟩ | ⟨h, -⟩ | ⟨h, -⟩
         ·exact .inr (.inl ⟨rfl,by rw[h];rfl⟩)
         ·omega
         ·omega
        ·rcases HJ.out with ⟨h, -⟩ | ⟨-,h⟩ | ⟨h, -⟩
         ·omega
         ·exact .inr (.inr ⟨rfl,by rw[h];rfl⟩)
         ·omega)
       clear hown' hgrow hno' hfresh HI3 HFL HOWN HNO HEL HF6 HSZ hal;go_wp2_with fail;go_roundw
       case rel=>exact ⟨j+1,_,by go_num,HJ7,HI7⟩
       case measure=>simp[RowKit.intOf];omega
     ·have hj2:j=2/\qs=[op x y0,op x y1]:=by
       rcases HJ.out with ⟨h, -⟩ | ⟨h, -⟩ | h
       ·omega
       ·omega
       ·exact h
      obtain ⟨rfl,rfl⟩:=hj2
      have HK7:Hid ((k+1=0/\rs ++ [op x y0,op x y1]=[])\/(k+1=1/\rs ++ [op x y0,op x y1]=[op x0 y0,op x0 y1])\/(k+1=2/\rs ++ [op x y0,op x y1]=[op x0 y0,op x0 y1,op x1 y0,op x1 y1])):=hid (by
       rcases HKX.out with ⟨rfl,rfl⟩ | ⟨rfl,rfl⟩
       ·rcases HK.out with ⟨-,h⟩ | ⟨h, -⟩ | ⟨h, -⟩
        ·exact .inr (.inl ⟨rfl,by rw[h];rfl⟩)
        ·omega
        ·omega
       ·rcases HK.out with ⟨h, -⟩ | ⟨-,h⟩ | ⟨h, -⟩
        ·omega
        ·exact .inr (.inr ⟨rfl,by rw[h];rfl⟩)
        ·omega)
      have hn:=HI.out.hn;have hr:=HI.out.hr;clear HI HJ;have HN:=hid hn;have HR:=hid hr;clear hn hr;go_wp2_with fail;go_roundw
      case rel=>exact ⟨k+1,_,by go_num,HK7,HN,HR⟩
      case measure=>simp[RowKit.intOf];omega
  ·have hk2:k=2/\rs=[op x0 y0,op x0 y1,op x1 y0,op x1 y1]:=by
    rcases HK.out with ⟨h, -⟩ | ⟨h, -⟩ | h
    ·omega
    ·omega
    ·exact h
   obtain ⟨rfl,rfl⟩:=hk2;obtain ⟨fs,hfl,hown, -,hel⟩:=HR.out
   obtain ⟨f0,f1,f2,f3,rfl⟩:∃ f0 f1 f2 f3,fs=[f0,f1,f2,f3]:=by
    match fs,hfl with
    | [f0,f1,f2,f3],_=>exact ⟨f0,f1,f2,f3,rfl⟩
   obtain ⟨g,cap,rfl⟩:∃ g cap,u8=.slice (some ⟨g,0,none⟩) 4 cap:=by
    rcases hown.2 with ⟨-,h⟩ | ⟨g,cap,cur,h, -⟩
    ·cases h
    ·exact ⟨g,cap,h⟩
   have h4:Fr4 wr g f0 f1 f2 f3:=fun j u hu=>by
    have:=hown.cells (g:=g) rfl j u (by simpa using hu);rw[Addr.add_lit] at this;simpa using this
   have e0:=hel 0 f0 _ rfl rfl;have e1:=hel 1 f1 _ rfl rfl;have e2:=hel 2 f2 _ rfl rfl;have e3:=hel 3 f3 _ rfl rfl;have b0:=HFBD.out x0 y0 (.inl rfl) (.inl rfl);have b1:=HFBD.out x0 y1 (.inl rfl) (.inr rfl);have b2:=HFBD.out x1 y0 (.inr rfl) (.inl rfl);have b3:=HFBD.out x1 y1 (.inr rfl) (.inr rfl);have hmn:=fun W h4 e0 e1 e2 e3=>ye7 g cap f0 f1 f2 f3 _ _ _ _ 1800 W h4 e0 e1 e2 e3 b0 b1 b2 b3 (by omega);have hmx:=fun W h4 e0 e1 e2 e3=>ye6 g cap f0 f1 f2 f3 _ _ _ _ 1800 W h4 e0 e1 e2 e3 b0 b1 b2 b3 (by omega)
   have mb:∀ {x y:Rat},FB 1800 x->FB 1800 y->FB 1800 (minR x y)/\FB 1800 (maxR x y):=fun {x y} hx hy=>by
    unfold minR maxR;exact ⟨by split <;> assumption,by split <;> assumption⟩
   have hsp:=fun W va vb h1 h2 hW=>y56 va vb _ _ W h1 h2 (mb (mb (mb b0 b1).1 b2).1 b3).1 (mb (mb (mb b0 b1).2 b2).2 b3).2 hW;rw[HMN.out] at hmn hsp;rw[HMX.out] at hmx hsp;unfold y17 at hsp;rw[HU.out,HV.out] at hsp;have bp:=BP.out.new HN.out;have hw:=HW.out.trans HN.out;clear HK HR HA hown hel b0 b1 b2 b3 mb hfl BB BP HN HW HU HV HMN HMX HFA HFB HOP HFBD HCF;have HMNC:=hid hmn;have HMXC:=hid hmx;have HSP:=hid hsp;have HN:=hid hw;have BP:=hid bp;have H4:=hid h4;have E0:=hid e0;have E1:=hid e1;have E2:=hid e2;have E3:=hid e3;clear hmn hmx hsp hw bp h4 e0 e1 e2 e3;go_wp2_with fail;refine (HMNC.out _ H4.out E0.out E1.out E2.out E3.out).mono ?_;rintro e w3 ⟨v3,rfl,hn,hf3⟩;obtain ⟨g3,rfl⟩:=ybs hf3;have HF3:=hid hf3;clear hf3;replace BP:=bW BP hn;replace H4:=hid (H4.out.new hn);replace E0:=hid (E0.out.new hn);replace E1:=hid (E1.out.new hn);replace E2:=hid (E2.out.new hn);replace E3:=hid (E3.out.new hn);replace HN:=tW HN hn;clear hn;go_wp2_with fail;refine (HMXC.out _ H4.out E0.out E1.out E2.out E3.out).mono ?_;rintro e w4 ⟨v4,rfl,hn,hf4⟩;obtain ⟨g4,rfl⟩:=ybs hf4;have HF4:=hid hf4;clear hf4;replace BP:=bW BP hn;replace HF3:=hid (HF3.out.new hn);replace HN:=tW HN hn;clear hn;go_wp2_with fail;refine (HSP.out _ _ _ HF3.out HF4.out (HE.out.new HN.out)).mono ?_;rintro e w5 ⟨rfl,hn⟩;replace BP:=bW BP hn;replace HN:=tW HN hn;clear hn;obtain ⟨p0,p1,p2,p3,p4⟩:=BP.out.two;go_wp2_with fail;refine bodyPost_ret (v:=.tuple #[.agg #[.string U,.string V],.int .i64 0]) (by simp[results,Tryz.results141,go_sem,p0,p1]) rfl ?_;exact ⟨rfl,HN.out.putAt BP.out (by omega) _ _⟩
theorem y15 (x y:Int)(b cap:Nat)(t:TypeId)(w:World)(h:Box w b t #[.int .i64 x,.int .i64 y]):Calls Tryz.prog 86 #[.slice (some ⟨b,0,none⟩) 2 cap] w (y1o w (if x=0 then y else x)):=
 (y57 x y b cap t w h).mono fun _ _ h=>⟨h.1,.of_eq h.2⟩
theorem yi4 (xa ya xb yb U V:ByteArray) (fn:Nat) (ea eb:Int) (hr:(if ea=0 then eb else ea)=0) (hca:∀ W,Env W->Calls Tryz.prog 51 #[.agg #[.string xa,.string ya]] W (y1o W ea)) (hcb:∀ W,Env W->Calls Tryz.prog 51 #[.agg #[.string xb,.string yb]] W (y1o W eb))
  (hco:∀ W,Env W->Calls Tryz.prog 141 #[.agg #[.string xa,.string ya],.agg #[.string xb,.string yb],.func (.func fn) #[] #[]] W (y17 W U V 0)) (w:World) (he:Env w):
  Calls Tryz.prog 140 #[.agg #[.string xa,.string ya],.agg #[.string xb,.string yb],.func (.func fn) #[] #[]] w (y17 w U V 0):=by
 unfold y17 at *;have HE:=hid he;have HCA:=hid hca;have HCB:=hid hcb;have HR:=hid hr;have HCO:=hid hco;clear he hca hcb hr hco;go_enter Tryz.func140,Tryz.ntmps140;go_upto_region 1 with (fail);obtain ⟨BA,BB,BP,HN⟩:=lay3 w 53 #[.string xa,.string ya] 53 #[.string xb,.string yb] 53 #[.string ⟨#[]⟩,.string ⟨#[]⟩];obtain ⟨pa0,pa1,pa2,pa3,pa4⟩:=BA.out.two;obtain ⟨pb0,pb1,pb2,pb3,pb4⟩:=BB.out.two;clear pa0 pa1 pa2 pa3 pa4;clear pb0 pb1 pb2 pb3 pb4;refine y00 6 (fun W=>(W.cell? ⟨w.heap.size,0,none⟩=some (.string xa)/\W.cell? ⟨w.heap.size,1,none⟩=some (.string ya))/\(W.cell? ⟨w.heap.size+1,0,none⟩=some (.string xb)/\W.cell? ⟨w.heap.size+1,1,none⟩=some (.string yb))) 7 #[false,false,false,false,false,false,false] rfl (by kernel_rfl) (by kernel_rfl) ?_;refine tk 0 (by exact ⟨cW2 BA,cW2 BB⟩) ?_
 try simp only[PT]
 refine tk 2 (by exact ⟨cW2 BA,cW2 BB⟩) ?_
 try simp only[PT]
 refine tk1 1 fun K hK=>?_;go_simp;refine (HCA.out _ (HE.out.new HN.out.drew)).mono ?_;rintro e w1 ⟨rfl,hn⟩;have hn:=hn.undrew;replace BA:=bW BA hn;replace BB:=bW BB hn;replace BP:=bW BP hn;replace HN:=tW HN hn;clear hn;refine hK.out _ _ (fun _=>⟨cW2 BA,cW2 BB⟩) ?_;clear hK K
 try simp only[PT]
 refine tk1 3 fun K hK=>?_;go_simp;refine (HCB.out _ (HE.out.new HN.out)).mono ?_;rintro e w2 ⟨rfl,hn⟩;replace BA:=bW BA hn;replace BB:=bW BB hn;replace BP:=bW BP hn;replace HN:=tW HN hn;clear hn;refine hK.out _ _ (fun _=>⟨cW2 BA,cW2 BB⟩) ?_;clear hK K
 try simp only[PT]
 refine tk1 4 fun K hK=>?_;go_simp;have HN0:=HN;clear HN;obtain ⟨BG,HN⟩:=lay1 w2 32 #[.int .i64 ea,.int .i64 eb];replace BA:=hid (BA.out.new HN.out);replace BB:=hid (BB.out.new HN.out);replace BP:=hid (BP.out.new HN.out);have HN_:=HN0.out.trans HN.out;clear HN HN0;have HN:=hid HN_;clear HN_;refine hK.out _ _ (fun _=>⟨cW2 BA,cW2 BB⟩) ?_;clear hK K
 try simp only[PT]
 refine tk1 5 fun K hK=>?_;go_simp;refine (y15 ea eb _ _ 32 _ BG.out).mono ?_;rintro e w3 ⟨rfl,hn⟩;rw[HR.out];clear BG;replace BA:=bW BA hn;replace BB:=bW BB hn;replace BP:=bW BP hn;replace HN:=tW HN hn;clear hn;refine hK.out _ _ (fun _=>⟨cW2 BA,cW2 BB⟩) ?_;clear hK K
 try simp only[PT]
 refine tlW ?_;obtain ⟨pa0,pa1,pa2,pa3,pa4⟩:=BA.out.two;obtain ⟨pb0,pb1,pb2,pb3,pb4⟩:=BB.out.two;go_wp2_with fail;refine (HCO.out _ (HE.out.new HN.out)).mono ?_;rintro e w4 ⟨rfl,hn⟩;clear pa0 pa1 pa2 pa3 pa4 pb0 pb1 pb2 pb3 pb4;replace BP:=bW BP hn;replace HN:=tW HN hn;clear hn;obtain ⟨p0,p1,p2,p3,p4⟩:=BP.out.two;go_wp2_with fail;refine bodyPost_ret (v:=.tuple #[.agg #[.string U,.string V],.int .i64 0]) (by simp[results,Tryz.results140,go_sem,p0,p1]) rfl ?_;exact ⟨rfl,HN.out.putAt BP.out (by omega) _ _⟩
theorem ycr (xa ya xb yb U V:ByteArray)(r:Int)(hop:∀ W,Env W->Calls Tryz.prog 140 #[.agg #[.string xa,.string ya],.agg #[.string xb,.string yb],.func (.func 94) #[] #[]] W (y17 W U V r))(w:World)(he:Env w):
  Calls Tryz.prog 54 #[.agg #[.string xa,.string ya],.agg #[.string xb,.string yb]] w (y17 w U V r):=by
 unfold y17 at *;have HE:=hid he;have HOP:=hid hop;clear he hop;go_enter Tryz.func54,Tryz.ntmps54;go_upto_region 1 with (fail);obtain ⟨BA,BB,BP,HN⟩:=lay3 w 53 #[.string xa,.string ya] 53 #[.string xb,.string yb] 53 #[.string ⟨#[]⟩,.string ⟨#[]⟩];obtain ⟨pa0,pa1,pa2,pa3,pa4⟩:=BA.out.two;obtain ⟨pb0,pb1,pb2,pb3,pb4⟩:=BB.out.two;go_wp2_with fail;refine (HOP.out _ (HE.out.new HN.out)).mono ?_;rintro e w4 ⟨rfl,hn⟩;clear pa0 pa1 pa2 pa3 pa4 pb0 pb1 pb2 pb3 pb4;replace BP:=bW BP hn;replace HN:=tW HN hn;clear hn;obtain ⟨p0,p1,p2,p3,p4⟩:=BP.out.two;go_wp2_with fail;refine bodyPost_ret (v:=.tuple #[.agg #[.string U,.string V],.int .i64 r]) (by simp[results,Tryz.results54,go_sem,p0,p1]) rfl ?_;exact ⟨rfl,HN.out.putAt BP.out (by omega) _ _⟩
theorem ymo (xa ya xb yb U V:ByteArray) (y0 y1:Rat) (hxb:xb.data.toList=y02 y0) (hyb:yb.data.toList=y02 y1) (lxb:xb.size<=100000) (lyb:yb.size<=100000) (ea eb:Int) (hr:(if ea=0 then eb else ea)=0) (h0:0 < y0.num\/y1.num < 0) (hca:∀ W,Env W->Calls Tryz.prog 51 #[.agg #[.string xa,.string ya]] W (y1o W ea)) (hcb:∀ W,Env W->Calls Tryz.prog 51 #[.agg #[.string xb,.string yb]] W (y1o W eb))
  (hco:∀ W,Env W->Calls Tryz.prog 141 #[.agg #[.string xa,.string ya],.agg #[.string xb,.string yb],.func (.func 95) #[] #[]] W (y17 W U V 0)) (w:World) (he:Env w):
  Calls Tryz.prog 55 #[.agg #[.string xa,.string ya],.agg #[.string xb,.string yb]] w (y17 w U V 0):=by
 have hfx:=fun W hW=>y0c xb y0 W hW hxb (by omega);have hfy:=fun W hW=>y0c yb y1 W hW hyb (by omega);obtain ⟨s0,hs0⟩:∃ s,y0.num.sign=s:=⟨_,rfl⟩;obtain ⟨s1,hs1⟩:∃ s,y1.num.sign=s:=⟨_,rfl⟩;clear hxb hyb lxb lyb;unfold y17 at *;by_cases hc:s0<=0
 ·have t0:decide (s0<=0)=true:=decide_eq_true hc
  have t1:decide (s1 ≥ 0)=false:=decide_eq_false (by
   rcases h0 with h | h
   ·rw[<-hs0,Int.sign_eq_one_of_pos h] at hc;omega
   ·rw[<-hs1,Int.sign_eq_neg_one_of_neg h];omega)
  clear h0 hc;have HE:=hid he;have HCA:=hid hca;have HCB:=hid hcb;have HR:=hid hr;have HFX:=hid hfx;have HFY:=hid hfy;have HS0:=hid hs0;have HS1:=hid hs1;have HCO:=hid hco;clear he hca hcb hr hfx hfy hs0 hs1 hco;go_enter Tryz.func55,Tryz.ntmps55;go_upto_region 1 with (fail);obtain ⟨BA,BB,BP,HN⟩:=lay3 w 53 #[.string xa,.string ya] 53 #[.string xb,.string yb] 53 #[.string ⟨#[]⟩,.string ⟨#[]⟩];obtain ⟨pa0,pa1,pa2,pa3,pa4⟩:=BA.out.two;obtain ⟨pb0,pb1,pb2,pb3,pb4⟩:=BB.out.two;clear pa0 pa1 pa2 pa3 pa4;clear pb0 pb1 pb2 pb3 pb4;refine y00 6 (fun W=>(W.cell? ⟨w.heap.size,0,none⟩=some (.string xa)/\W.cell? ⟨w.heap.size,1,none⟩=some (.string ya))/\(W.cell? ⟨w.heap.size+1,0,none⟩=some (.string xb)/\W.cell? ⟨w.heap.size+1,1,none⟩=some (.string yb))) 7 #[false,false,false,false,false,false,false] rfl (by kernel_rfl) (by kernel_rfl) ?_;refine tk 0 (by exact ⟨cW2 BA,cW2 BB⟩) ?_
  try simp only[PT]
  refine tk 2 (by exact ⟨cW2 BA,cW2 BB⟩) ?_
  try simp only[PT]
  refine tk1 1 fun K hK=>?_;go_simp;refine (HCA.out _ (HE.out.new HN.out.drew)).mono ?_;rintro e w1 ⟨rfl,hn⟩;have hn:=hn.undrew;replace BA:=bW BA hn;replace BB:=bW BB hn;replace BP:=bW BP hn;replace HN:=tW HN hn;clear hn;refine hK.out _ _ (fun _=>⟨cW2 BA,cW2 BB⟩) ?_;clear hK K
  try simp only[PT]
  refine tk1 3 fun K hK=>?_;go_simp;refine (HCB.out _ (HE.out.new HN.out)).mono ?_;rintro e w2 ⟨rfl,hn⟩;replace BA:=bW BA hn;replace BB:=bW BB hn;replace BP:=bW BP hn;replace HN:=tW HN hn;clear hn;refine hK.out _ _ (fun _=>⟨cW2 BA,cW2 BB⟩) ?_;clear hK K
  try simp only[PT]
  refine tk1 4 fun K hK=>?_;go_simp;have HN0:=HN;clear HN;obtain ⟨BG,HN⟩:=lay1 w2 32 #[.int .i64 ea,.int .i64 eb];replace BA:=hid (BA.out.new HN.out);replace BB:=hid (BB.out.new HN.out);replace BP:=hid (BP.out.new HN.out);have HN_:=HN0.out.trans HN.out;clear HN HN0;have HN:=hid HN_;clear HN_;refine hK.out _ _ (fun _=>⟨cW2 BA,cW2 BB⟩) ?_;clear hK K
  try simp only[PT]
  refine tk1 5 fun K hK=>?_;go_simp;refine (y15 ea eb _ _ 32 _ BG.out).mono ?_;rintro e w3 ⟨rfl,hn⟩;rw[HR.out];clear BG;replace BA:=bW BA hn;replace BB:=bW BB hn;replace BP:=bW BP hn;replace HN:=tW HN hn;clear hn;refine hK.out _ _ (fun _=>⟨cW2 BA,cW2 BB⟩) ?_;clear hK K
  try simp only[PT]
  refine tlW ?_;obtain ⟨pa0,pa1,pa2,pa3,pa4⟩:=BA.out.two;obtain ⟨pb0,pb1,pb2,pb3,pb4⟩:=BB.out.two;go_wp2_with fail;refine (HFX.out _ (HE.out.new HN.out)).mono ?_;rintro e w4 ⟨v4,rfl,hn,hf⟩;clear pa0 pa1 pa2 pa3 pa4 pb0 pb1 pb2 pb3 pb4;have HF:=hid hf;clear hf;replace BA:=bW BA hn;replace BB:=bW BB hn;replace BP:=bW BP hn;replace HN:=tW HN hn;clear hn;obtain ⟨pa0,pa1,pa2,pa3,pa4⟩:=BA.out.two;obtain ⟨pb0,pb1,pb2,pb3,pb4⟩:=BB.out.two;go_wp2_with fail;refine (y2m _ y0 _ HF.out).mono ?_;rintro e w5 ⟨rfl,hn⟩;rw[HS0.out];clear HF;clear pa0 pa1 pa2 pa3 pa4 pb0 pb1 pb2 pb3 pb4;replace BA:=bW BA hn;replace BB:=bW BB hn;replace BP:=bW BP hn;replace HN:=tW HN hn;clear hn;obtain ⟨pa0,pa1,pa2,pa3,pa4⟩:=BA.out.two;obtain ⟨pb0,pb1,pb2,pb3,pb4⟩:=BB.out.two;go_wp2_with fail;refine (HFY.out _ (HE.out.new HN.out)).mono ?_;rintro e w6 ⟨v6,rfl,hn,hf⟩;clear pa0 pa1 pa2 pa3 pa4 pb0 pb1 pb2 pb3 pb4;have HF:=hid hf;clear hf;replace BA:=bW BA hn;replace BB:=bW BB hn;replace BP:=bW BP hn;replace HN:=tW HN hn;clear hn;obtain ⟨pa0,pa1,pa2,pa3,pa4⟩:=BA.out.two;obtain ⟨pb0,pb1,pb2,pb3,pb4⟩:=BB.out.two;go_wp2_with fail;refine (y2m _ y1 _ HF.out).mono ?_;rintro e w7 ⟨rfl,hn⟩;rw[HS1.out];clear HF;clear pa0 pa1 pa2 pa3 pa4 pb0 pb1 pb2 pb3 pb4;replace BA:=bW BA hn;replace BB:=bW BB hn;replace BP:=bW BP hn;replace HN:=tW HN hn;clear hn;obtain ⟨pa0,pa1,pa2,pa3,pa4⟩:=BA.out.two;obtain ⟨pb0,pb1,pb2,pb3,pb4⟩:=BB.out.two;go_wp2_with fail;refine (HCO.out _ (HE.out.new HN.out)).mono ?_;rintro e w8 ⟨rfl,hn⟩;clear pa0 pa1 pa2 pa3 pa4 pb0 pb1 pb2 pb3 pb4;replace BP:=bW BP hn;replace HN:=tW HN hn;clear hn;obtain ⟨p0,p1,p2,p3,p4⟩:=BP.out.two;go_wp2_with fail;refine bodyPost_ret (v:=.tuple #[.agg #[.string U,.string V],.int .i64 0]) (by simp[results,Tryz.results55,go_sem,p0,p1]) rfl ?_;exact ⟨rfl,HN.out.putAt BP.out (by omega) _ _⟩
 ·have t0:decide (s0<=0)=false:=decide_eq_false hc;clear h0 hc;have HE:=hid he;have HCA:=hid hca;have HCB:=hid hcb;have HR:=hid hr;have HFX:=hid hfx;have HFY:=hid hfy;have HS0:=hid hs0;have HS1:=hid hs1;have HCO:=hid hco;clear he hca hcb hr hfx hfy hs0 hs1 hco;go_enter Tryz.func55,Tryz.ntmps55;go_upto_region 1 with (fail);obtain ⟨BA,BB,BP,HN⟩:=lay3 w 53 #[.string xa,.string ya] 53 #[.string xb,.string yb] 53 #[.string ⟨#[]⟩,.string ⟨#[]⟩];obtain ⟨pa0,pa1,pa2,pa3,pa4⟩:=BA.out.two;obtain ⟨pb0,pb1,pb2,pb3,pb4⟩:=BB.out.two;clear pa0 pa1 pa2 pa3 pa4;clear pb0 pb1 pb2 pb3 pb4;refine y00 6 (fun W=>(W.cell? ⟨w.heap.size,0,none⟩=some (.string xa)/\W.cell? ⟨w.heap.size,1,none⟩=some (.string ya))/\(W.cell? ⟨w.heap.size+1,0,none⟩=some (.string xb)/\W.cell? ⟨w.heap.size+1,1,none⟩=some (.string yb))) 7 #[false,false,false,false,false,false,false] rfl (by kernel_rfl) (by kernel_rfl) ?_;refine tk 0 (by exact ⟨cW2 BA,cW2 BB⟩) ?_
  try simp only[PT]
  refine tk 2 (by exact ⟨cW2 BA,cW2 BB⟩) ?_
  try simp only[PT]
  refine tk1 1 fun K hK=>?_;go_simp;refine (HCA.out _ (HE.out.new HN.out.drew)).mono ?_;rintro e w1 ⟨rfl,hn⟩;have hn:=hn.undrew;replace BA:=bW BA hn;replace BB:=bW BB hn;replace BP:=bW BP hn;replace HN:=tW HN hn;clear hn;refine hK.out _ _ (fun _=>⟨cW2 BA,cW2 BB⟩) ?_;clear hK K
  try simp only[PT]
  refine tk1 3 fun K hK=>?_;go_simp;refine (HCB.out _ (HE.out.new HN.out)).mono ?_;rintro e w2 ⟨rfl,hn⟩;replace BA:=bW BA hn;replace BB:=bW BB hn;replace BP:=bW BP hn;replace HN:=tW HN hn;clear hn;refine hK.out _ _ (fun _=>⟨cW2 BA,cW2 BB⟩) ?_;clear hK K
  try simp only[PT]
  refine tk1 4 fun K hK=>?_;go_simp;have HN0:=HN;clear HN;obtain ⟨BG,HN⟩:=lay1 w2 32 #[.int .i64 ea,.int .i64 eb];replace BA:=hid (BA.out.new HN.out);replace BB:=hid (BB.out.new HN.out);replace BP:=hid (BP.out.new HN.out);have HN_:=HN0.out.trans HN.out;clear HN HN0;have HN:=hid HN_;clear HN_;refine hK.out _ _ (fun _=>⟨cW2 BA,cW2 BB⟩) ?_;clear hK K
  try simp only[PT]
  refine tk1 5 fun K hK=>?_;go_simp;refine (y15 ea eb _ _ 32 _ BG.out).mono ?_;rintro e w3 ⟨rfl,hn⟩;rw[HR.out];clear BG;replace BA:=bW BA hn;replace BB:=bW BB hn;replace BP:=bW BP hn;replace HN:=tW HN hn;clear hn;refine hK.out _ _ (fun _=>⟨cW2 BA,cW2 BB⟩) ?_;clear hK K
  try simp only[PT]
  refine tlW ?_;obtain ⟨pa0,pa1,pa2,pa3,pa4⟩:=BA.out.two;obtain ⟨pb0,pb1,pb2,pb3,pb4⟩:=BB.out.two;go_wp2_with fail;refine (HFX.out _ (HE.out.new HN.out)).mono ?_;rintro e w4 ⟨v4,rfl,hn,hf⟩;clear pa0 pa1 pa2 pa3 pa4 pb0 pb1 pb2 pb3 pb4;have HF:=hid hf;clear hf;replace BA:=bW BA hn;replace BB:=bW BB hn;replace BP:=bW BP hn;replace HN:=tW HN hn;clear hn;obtain ⟨pa0,pa1,pa2,pa3,pa4⟩:=BA.out.two;obtain ⟨pb0,pb1,pb2,pb3,pb4⟩:=BB.out.two;go_wp2_with fail;refine (y2m _ y0 _ HF.out).mono ?_;rintro e w5 ⟨rfl,hn⟩;rw[HS0.out];clear HF;clear pa0 pa1 pa2 pa3 pa4 pb0 pb1 pb2 pb3 pb4;replace BA:=bW BA hn;replace BB:=bW BB hn;replace BP:=bW BP hn;replace HN:=tW HN hn;clear hn;obtain ⟨pa0,pa1,pa2,pa3,pa4⟩:=BA.out.two;obtain ⟨pb0,pb1,pb2,pb3,pb4⟩:=BB.out.two;go_wp2_with fail;refine (HCO.out _ (HE.out.new HN.out)).mono ?_;rintro e w8 ⟨rfl,hn⟩;clear pa0 pa1 pa2 pa3 pa4 pb0 pb1 pb2 pb3 pb4;replace BP:=bW BP hn;replace HN:=tW HN hn;clear hn;obtain ⟨p0,p1,p2,p3,p4⟩:=BP.out.two;go_wp2_with fail;refine bodyPost_ret (v:=.tuple #[.agg #[.string U,.string V],.int .i64 0]) (by simp[results,Tryz.results55,go_sem,p0,p1]) rfl ?_;exact ⟨rfl,HN.out.putAt BP.out (by omega) _ _⟩
theorem y6w (a b c d:ByteArray)(W:World):(Op.equalIn 10000 53 (.agg #[.string a,.string b]) (.agg #[.string c,.string d])).run Tryz.prog W=.ok (a.toList==c.toList && b.toList==d.toList) W:=by
 have hf:(Tryz.prog.fieldsOf 53).toList.length=2:=by kernel_rfl
 rw[run_equalIn_struct (P:=Tryz.prog) W 9999 53 #[.string a,.string b] #[.string c,.string d] (by kernel_rfl) (by kernel_rfl)]
 obtain ⟨f1,f2,hl⟩:∃ f1 f2,(Tryz.prog.fieldsOf 53).toList=[f1,f2]:=by
  match h:(Tryz.prog.fieldsOf 53).toList,hf with
  | [a,b],_=>exact ⟨a,b,rfl⟩
 have e1 : (f1.name == "_") = false /\ f1.type = 23 /\ f1.offset = 0 := by
  have:(Tryz.prog.fieldsOf 53).toList[0]?=some f1:=by rw[hl];rfl
  have h2 : (Tryz.prog.fieldsOf 53).toList[0]?.map (fun f => (f.name == "_", f.type, f.offset)) = some (false, 23, 0) := by kernel_rfl
  rw[this]at h2;simpa using h2
 have e2 : (f2.name == "_") = false /\ f2.type = 23 /\ f2.offset = 1 := by
  have:(Tryz.prog.fieldsOf 53).toList[1]?=some f2:=by rw[hl];rfl
  have h2 : (Tryz.prog.fieldsOf 53).toList[1]?.map (fun f => (f.name == "_", f.type, f.offset)) = some (false, 23, 1) := by kernel_rfl
  rw[this]at h2;simpa using h2
 rw[hl];have hu:Tryz.prog.underlying 23=some .string:=Tryz.underlying23
 have hpk:Tryz.prog.plainKey 23=true:=by kernel_rfl
 have hp1:∀ (x y:ByteArray),(part 23 #[.string x,.string y] 0).run Tryz.prog W=.ok (.string x) W:=fun x y=>run_part_plain W hpk rfl;have hp2:∀ (x y:ByteArray),(part 23 #[.string x,.string y] 1).run Tryz.prog W=.ok (.string y) W:=fun x y=>run_part_plain W hpk rfl
 have n1 : f1.name ≠ "_" := by simpa using e1.1
 have n2 : f2.name ≠ "_" := by simpa using e2.1
 unfold Op.eqFields;rw[if_pos n1,e1.2.1,e1.2.2];simp only[Sem.run_bind,hp1,Result.andThen_ok,run_equalIn_string W 9998 23 a c hu];unfold Op.eqFields;rw[if_pos n2,e2.2.1,e2.2.2]
 cases hac:(a.toList==c.toList)
 ·simp
 ·simp only[Bool.not_true,Bool.false_eq_true,if_false,Bool.true_and,Sem.run_bind,hp2,Result.andThen_ok,run_equalIn_string W 9998 23 b d hu];unfold Op.eqFields
  cases hbd:(b.toList==d.toList) <;> simp
theorem ykc (a b c d:ByteArray)(W:World):(binOp .eql 53 (.agg #[.string a,.string b]) (.agg #[.string c,.string d])).run Tryz.prog W=.ok (.bool (a.toList==c.toList && b.toList==d.toList)) W:=by
 rw[run_eql_struct,y6w];simp
def y6c (w:World)(n E:Int)(e:Ending)(w':World):Prop:=e=.returned (.tuple #[.int .i64 n,.int .i64 E])/\New w w'
theorem ydu (xa ya xb yb:ByteArray) (x0 x1 y0 y1:Rat) (hxa:xa.data.toList=y02 x0) (hya:ya.data.toList=y02 x1) (hxb:xb.data.toList=y02 y0) (hyb:yb.data.toList=y02 y1) (lxa:xa.size<=100000) (lya:ya.size<=100000) (lxb:xb.size<=100000) (lyb:yb.size<=100000) (f0:Fits x0) (f1:Fits x1) (g0:Fits y0) (g1:Fits y1) (ea eb:Int) (hr:(if ea=0 then eb else ea)=0)
  (hca:∀ W,Env W->Calls Tryz.prog 51 #[.agg #[.string xa,.string ya]] W (y1o W ea)) (hcb:∀ W,Env W->Calls Tryz.prog 51 #[.agg #[.string xb,.string yb]] W (y1o W eb)) (hlt:x1 < y0) (w:World) (he:Env w):
  Calls Tryz.prog 56 #[.agg #[.string xa,.string ya],.agg #[.string xb,.string yb]] w (y6c w (-1) 0):=by
 have h1:=fun W hW=>y0c ya x1 W hW hya (by omega);have h2:=fun W hW=>y0c xb y0 W hW hxb (by omega);have h3:=fun W hW=>y0c xa x0 W hW hxa (by omega);have h4:=fun W hW=>y0c yb y1 W hW hyb (by omega);have hc1:=fun va vb W h1 h2=>y16 va vb x1 y0 2000 2000 W h1 h2 (Fits.fb f1) (Fits.fb g0) (by omega);have hc2:=fun va vb W h1 h2=>y16 va vb x0 y1 2000 2000 W h1 h2 (Fits.fb f0) (Fits.fb g1) (by omega);unfold y1t at hc1 hc2;obtain ⟨r1,hr1⟩:∃ r,(y0v x1 y0).sign=r:=⟨_,rfl⟩;obtain ⟨r2,hr2⟩:∃ r,(y0v x0 y1).sign=r:=⟨_,rfl⟩
 have hi1:r1 < 0 ↔ x1 < y0:=by rw[<-hr1];exact y1x
 have hi2:0 < r2 ↔ y1 < x0:=by rw[<-hr2];exact y2o
 clear hxa hya hxb hyb lxa lya lxb lyb f0 f1 g0 g1;unfold y6c;have t1:decide (r1 < 0)=true:=decide_eq_true (hi1.2 hlt);clear hi1 hi2 hlt;have HE:=hid he;have HCA:=hid hca;have HCB:=hid hcb;have HR:=hid hr;have HF1A:=hid h1;have HF1B:=hid h2;have HF0A:=hid h3;have HF0B:=hid h4;have HC1:=hid hc1;have HC2:=hid hc2;have HR1:=hid hr1;have HR2:=hid hr2;clear he hca hcb hr h1 h2 h3 h4 hc1 hc2 hr1 hr2;go_enter Tryz.func56,Tryz.ntmps56;go_upto_region 1 with (fail);obtain ⟨BA,BB,HN⟩:=lay2 w 53 #[.string xa,.string ya] 53 #[.string xb,.string yb];obtain ⟨pa0,pa1,pa2,pa3,pa4⟩:=BA.out.two;obtain ⟨pb0,pb1,pb2,pb3,pb4⟩:=BB.out.two;clear pa0 pa1 pa2 pa3 pa4;clear pb0 pb1 pb2 pb3 pb4;refine y00 6 (fun W=>(W.cell? ⟨w.heap.size,0,none⟩=some (.string xa)/\W.cell? ⟨w.heap.size,1,none⟩=some (.string ya))/\(W.cell? ⟨w.heap.size+1,0,none⟩=some (.string xb)/\W.cell? ⟨w.heap.size+1,1,none⟩=some (.string yb))) 7 #[false,false,false,false,false,false,false] rfl (by kernel_rfl) (by kernel_rfl) ?_;refine tk 0 (by exact ⟨cW2 BA,cW2 BB⟩) ?_
 try simp only[PT]
 refine tk 2 (by exact ⟨cW2 BA,cW2 BB⟩) ?_
 try simp only[PT]
 refine tk1 1 fun K hK=>?_;go_simp;refine (HCA.out _ (HE.out.new HN.out.drew)).mono ?_;rintro e w1 ⟨rfl,hn⟩;have hn:=hn.undrew;replace BA:=bW BA hn;replace BB:=bW BB hn;replace HN:=tW HN hn;clear hn;refine hK.out _ _ (fun _=>⟨cW2 BA,cW2 BB⟩) ?_;clear hK K
 try simp only[PT]
 refine tk1 3 fun K hK=>?_;go_simp;refine (HCB.out _ (HE.out.new HN.out)).mono ?_;rintro e w2 ⟨rfl,hn⟩;replace BA:=bW BA hn;replace BB:=bW BB hn;replace HN:=tW HN hn;clear hn;refine hK.out _ _ (fun _=>⟨cW2 BA,cW2 BB⟩) ?_;clear hK K
 try simp only[PT]
 refine tk1 4 fun K hK=>?_;go_simp;have HN0:=HN;clear HN;obtain ⟨BG,HN⟩:=lay1 w2 32 #[.int .i64 ea,.int .i64 eb];replace BA:=hid (BA.out.new HN.out);replace BB:=hid (BB.out.new HN.out);have HN_:=HN0.out.trans HN.out;clear HN HN0;have HN:=hid HN_;clear HN_;refine hK.out _ _ (fun _=>⟨cW2 BA,cW2 BB⟩) ?_;clear hK K
 try simp only[PT]
 refine tk1 5 fun K hK=>?_;go_simp;refine (y15 ea eb _ _ 32 _ BG.out).mono ?_;rintro e w3 ⟨rfl,hn⟩;rw[HR.out];clear BG;replace BA:=bW BA hn;replace BB:=bW BB hn;replace HN:=tW HN hn;clear hn;refine hK.out _ _ (fun _=>⟨cW2 BA,cW2 BB⟩) ?_;clear hK K
 try simp only[PT]
 refine tlW ?_;obtain ⟨pa0,pa1,pa2,pa3,pa4⟩:=BA.out.two;obtain ⟨pb0,pb1,pb2,pb3,pb4⟩:=BB.out.two;go_wp2_with fail;clear pa0 pa1 pa2 pa3 pa4;clear pb0 pb1 pb2 pb3 pb4;refine y00 8 (fun W=>(W.cell? ⟨w.heap.size,0,none⟩=some (.string xa)/\W.cell? ⟨w.heap.size,1,none⟩=some (.string ya))/\(W.cell? ⟨w.heap.size+1,0,none⟩=some (.string xb)/\W.cell? ⟨w.heap.size+1,1,none⟩=some (.string yb))) 9 #[false,false,false,false,false,false,false,false,false] rfl (by kernel_rfl) (by kernel_rfl) ?_;refine tk 0 (by exact ⟨cW2 BA,cW2 BB⟩) ?_
 try simp only[PT]
 refine tk 1 (by exact ⟨cW2 BA,cW2 BB⟩) ?_
 try simp only[PT]
 refine tk 3 (by exact ⟨cW2 BA,cW2 BB⟩) ?_
 try simp only[PT]
 refine tk 4 (by exact ⟨cW2 BA,cW2 BB⟩) ?_
 try simp only[PT]
 refine tk1 2 fun K hK=>?_;go_simp;refine (HF1A.out _ (HE.out.new HN.out.drew)).mono ?_;rintro e w3 ⟨v3,rfl,hn,hf⟩;have hn:=hn.undrew;have HF1:=hid hf;clear hf;replace BA:=bW BA hn;replace BB:=bW BB hn;replace HN:=tW HN hn;clear hn;refine hK.out _ _ (fun _=>⟨cW2 BA,cW2 BB⟩) ?_;clear hK K
 try simp only[PT]
 refine tk1 5 fun K hK=>?_;go_simp;refine (HF1B.out _ (HE.out.new HN.out)).mono ?_;rintro e w4 ⟨v4,rfl,hn,hf⟩;have HF2:=hid hf;clear hf;replace BA:=bW BA hn;replace BB:=bW BB hn;replace HF1:=hid (HF1.out.new hn);replace HN:=tW HN hn;clear hn;refine hK.out _ _ (fun _=>⟨cW2 BA,cW2 BB⟩) ?_;clear hK K
 try simp only[PT]
 refine tk1 6 fun K hK=>?_;go_simp;refine (HC1.out _ _ _ HF1.out HF2.out).mono ?_;rintro e w5 ⟨rfl,hn⟩;rw[HR1.out];clear HF1 HF2;replace BA:=bW BA hn;replace BB:=bW BB hn;replace HN:=tW HN hn;clear hn;refine hK.out _ _ (fun _=>⟨cW2 BA,cW2 BB⟩) ?_;clear hK K
 try simp only[PT]
 refine tk 7 (by exact ⟨cW2 BA,cW2 BB⟩) ?_
 try simp only[PT]
 refine tlW ?_;obtain ⟨pa0,pa1,pa2,pa3,pa4⟩:=BA.out.two;obtain ⟨pb0,pb1,pb2,pb3,pb4⟩:=BB.out.two;go_wp2_with fail;go_ret2;exact ⟨rfl,HN.out⟩
theorem ycl (xa ya xb yb:ByteArray) (x0 x1 y0 y1:Rat) (hxa:xa.data.toList=y02 x0) (hya:ya.data.toList=y02 x1) (hxb:xb.data.toList=y02 y0) (hyb:yb.data.toList=y02 y1) (lxa:xa.size<=100000) (lya:ya.size<=100000) (lxb:xb.size<=100000) (lyb:yb.size<=100000) (f0:Fits x0) (f1:Fits x1) (g0:Fits y0) (g1:Fits y1) (ea eb:Int) (hr:(if ea=0 then eb else ea)=0)
  (hca:∀ W,Env W->Calls Tryz.prog 51 #[.agg #[.string xa,.string ya]] W (y1o W ea)) (hcb:∀ W,Env W->Calls Tryz.prog 51 #[.agg #[.string xb,.string yb]] W (y1o W eb)) (hlt:¬x1 < y0) (hgt:¬y1 < x0) (e1:(xa.toList==xb.toList && ya.toList==yb.toList)=false) (w:World) (he:Env w):
  Calls Tryz.prog 56 #[.agg #[.string xa,.string ya],.agg #[.string xb,.string yb]] w (y6c w 0 24):=by
 have h1:=fun W hW=>y0c ya x1 W hW hya (by omega);have h2:=fun W hW=>y0c xb y0 W hW hxb (by omega);have h3:=fun W hW=>y0c xa x0 W hW hxa (by omega);have h4:=fun W hW=>y0c yb y1 W hW hyb (by omega);have hc1:=fun va vb W h1 h2=>y16 va vb x1 y0 2000 2000 W h1 h2 (Fits.fb f1) (Fits.fb g0) (by omega);have hc2:=fun va vb W h1 h2=>y16 va vb x0 y1 2000 2000 W h1 h2 (Fits.fb f0) (Fits.fb g1) (by omega);unfold y1t at hc1 hc2;obtain ⟨r1,hr1⟩:∃ r,(y0v x1 y0).sign=r:=⟨_,rfl⟩;obtain ⟨r2,hr2⟩:∃ r,(y0v x0 y1).sign=r:=⟨_,rfl⟩
 have hi1:r1 < 0 ↔ x1 < y0:=by rw[<-hr1];exact y1x
 have hi2:0 < r2 ↔ y1 < x0:=by rw[<-hr2];exact y2o
 clear hxa hya hxb hyb lxa lya lxb lyb f0 f1 g0 g1;unfold y6c;have t1:decide (r1 < 0)=false:=decide_eq_false (fun h=>hlt (hi1.1 h));have t2:decide (r2 > 0)=false:=decide_eq_false (fun h=>hgt (hi2.1 h));have hes:=fun W=>ykc xa ya xb yb W;simp only[e1] at hes;clear hi1 hi2 hlt hgt e1;have HE:=hid he;have HCA:=hid hca;have HCB:=hid hcb;have HR:=hid hr;have HF1A:=hid h1;have HF1B:=hid h2;have HF0A:=hid h3;have HF0B:=hid h4;have HC1:=hid hc1;have HC2:=hid hc2;have HR1:=hid hr1;have HR2:=hid hr2;clear he hca hcb hr h1 h2 h3 h4 hc1 hc2 hr1 hr2;go_enter Tryz.func56,Tryz.ntmps56;go_upto_region 1 with (fail);obtain ⟨BA,BB,HN⟩:=lay2 w 53 #[.string xa,.string ya] 53 #[.string xb,.string yb];obtain ⟨pa0,pa1,pa2,pa3,pa4⟩:=BA.out.two;obtain ⟨pb0,pb1,pb2,pb3,pb4⟩:=BB.out.two;clear pa0 pa1 pa2 pa3 pa4;clear pb0 pb1 pb2 pb3 pb4;refine y00 6 (fun W=>(W.cell? ⟨w.heap.size,0,none⟩=some (.string xa)/\W.cell? ⟨w.heap.size,1,none⟩=some (.string ya))/\(W.cell? ⟨w.heap.size+1,0,none⟩=some (.string xb)/\W.cell? ⟨w.heap.size+1,1,none⟩=some (.string yb))) 7 #[false,false,false,false,false,false,false] rfl (by kernel_rfl) (by kernel_rfl) ?_;refine tk 0 (by exact ⟨cW2 BA,cW2 BB⟩) ?_
 try simp only[PT]
 refine tk 2 (by exact ⟨cW2 BA,cW2 BB⟩) ?_
 try simp only[PT]
 refine tk1 1 fun K hK=>?_;go_simp;refine (HCA.out _ (HE.out.new HN.out.drew)).mono ?_;rintro e w1 ⟨rfl,hn⟩;have hn:=hn.undrew;replace BA:=bW BA hn;replace BB:=bW BB hn;replace HN:=tW HN hn;clear hn;refine hK.out _ _ (fun _=>⟨cW2 BA,cW2 BB⟩) ?_;clear hK K
 try simp only[PT]
 refine tk1 3 fun K hK=>?_;go_simp;refine (HCB.out _ (HE.out.new HN.out)).mono ?_;rintro e w2 ⟨rfl,hn⟩;replace BA:=bW BA hn;replace BB:=bW BB hn;replace HN:=tW HN hn;clear hn;refine hK.out _ _ (fun _=>⟨cW2 BA,cW2 BB⟩) ?_;clear hK K
 try simp only[PT]
 refine tk1 4 fun K hK=>?_;go_simp;have HN0:=HN;clear HN;obtain ⟨BG,HN⟩:=lay1 w2 32 #[.int .i64 ea,.int .i64 eb];replace BA:=hid (BA.out.new HN.out);replace BB:=hid (BB.out.new HN.out);have HN_:=HN0.out.trans HN.out;clear HN HN0;have HN:=hid HN_;clear HN_;refine hK.out _ _ (fun _=>⟨cW2 BA,cW2 BB⟩) ?_;clear hK K
 try simp only[PT]
 refine tk1 5 fun K hK=>?_;go_simp;refine (y15 ea eb _ _ 32 _ BG.out).mono ?_;rintro e w3 ⟨rfl,hn⟩;rw[HR.out];clear BG;replace BA:=bW BA hn;replace BB:=bW BB hn;replace HN:=tW HN hn;clear hn;refine hK.out _ _ (fun _=>⟨cW2 BA,cW2 BB⟩) ?_;clear hK K
 try simp only[PT]
 refine tlW ?_;obtain ⟨pa0,pa1,pa2,pa3,pa4⟩:=BA.out.two;obtain ⟨pb0,pb1,pb2,pb3,pb4⟩:=BB.out.two;go_wp2_with fail;clear pa0 pa1 pa2 pa3 pa4;clear pb0 pb1 pb2 pb3 pb4;refine y00 8 (fun W=>(W.cell? ⟨w.heap.size,0,none⟩=some (.string xa)/\W.cell? ⟨w.heap.size,1,none⟩=some (.string ya))/\(W.cell? ⟨w.heap.size+1,0,none⟩=some (.string xb)/\W.cell? ⟨w.heap.size+1,1,none⟩=some (.string yb))) 9 #[false,false,false,false,false,false,false,false,false] rfl (by kernel_rfl) (by kernel_rfl) ?_;refine tk 0 (by exact ⟨cW2 BA,cW2 BB⟩) ?_
 try simp only[PT]
 refine tk 1 (by exact ⟨cW2 BA,cW2 BB⟩) ?_
 try simp only[PT]
 refine tk 3 (by exact ⟨cW2 BA,cW2 BB⟩) ?_
 try simp only[PT]
 refine tk 4 (by exact ⟨cW2 BA,cW2 BB⟩) ?_
 try simp only[PT]
 refine tk1 2 fun K hK=>?_;go_simp;refine (HF1A.out _ (HE.out.new HN.out.drew)).mono ?_;rintro e w3 ⟨v3,rfl,hn,hf⟩;have hn:=hn.undrew;have HF1:=hid hf;clear hf;replace BA:=bW BA hn;replace BB:=bW BB hn;replace HN:=tW HN hn;clear hn;refine hK.out _ _ (fun _=>⟨cW2 BA,cW2 BB⟩) ?_;clear hK K
 try simp only[PT]
 refine tk1 5 fun K hK=>?_;go_simp;refine (HF1B.out _ (HE.out.new HN.out)).mono ?_;rintro e w4 ⟨v4,rfl,hn,hf⟩;have HF2:=hid hf;clear hf;replace BA:=bW BA hn;replace BB:=bW BB hn;replace HF1:=hid (HF1.out.new hn);replace HN:=tW HN hn;clear hn;refine hK.out _ _ (fun _=>⟨cW2 BA,cW2 BB⟩) ?_;clear hK K
 try simp only[PT]
 refine tk1 6 fun K hK=>?_;go_simp;refine (HC1.out _ _ _ HF1.out HF2.out).mono ?_;rintro e w5 ⟨rfl,hn⟩;rw[HR1.out];clear HF1 HF2;replace BA:=bW BA hn;replace BB:=bW BB hn;replace HN:=tW HN hn;clear hn;refine hK.out _ _ (fun _=>⟨cW2 BA,cW2 BB⟩) ?_;clear hK K
 try simp only[PT]
 refine tk 7 (by exact ⟨cW2 BA,cW2 BB⟩) ?_
 try simp only[PT]
 refine tlW ?_;obtain ⟨pa0,pa1,pa2,pa3,pa4⟩:=BA.out.two;obtain ⟨pb0,pb1,pb2,pb3,pb4⟩:=BB.out.two;go_wp2_with fail;clear pa0 pa1 pa2 pa3 pa4;clear pb0 pb1 pb2 pb3 pb4;refine y00 8 (fun W=>(W.cell? ⟨w.heap.size,0,none⟩=some (.string xa)/\W.cell? ⟨w.heap.size,1,none⟩=some (.string ya))/\(W.cell? ⟨w.heap.size+1,0,none⟩=some (.string xb)/\W.cell? ⟨w.heap.size+1,1,none⟩=some (.string yb))) 9 #[false,false,false,false,false,false,false,false,false] rfl (by kernel_rfl) (by kernel_rfl) ?_;refine tk 0 (by exact ⟨cW2 BA,cW2 BB⟩) ?_
 try simp only[PT]
 refine tk 1 (by exact ⟨cW2 BA,cW2 BB⟩) ?_
 try simp only[PT]
 refine tk 3 (by exact ⟨cW2 BA,cW2 BB⟩) ?_
 try simp only[PT]
 refine tk 4 (by exact ⟨cW2 BA,cW2 BB⟩) ?_
 try simp only[PT]
 refine tk1 2 fun K hK=>?_;go_simp;refine (HF0A.out _ (HE.out.new HN.out.drew)).mono ?_;rintro e w3 ⟨v3,rfl,hn,hf⟩;have hn:=hn.undrew;have HF1:=hid hf;clear hf;replace BA:=bW BA hn;replace BB:=bW BB hn;replace HN:=tW HN hn;clear hn;refine hK.out _ _ (fun _=>⟨cW2 BA,cW2 BB⟩) ?_;clear hK K
 try simp only[PT]
 refine tk1 5 fun K hK=>?_;go_simp;refine (HF0B.out _ (HE.out.new HN.out)).mono ?_;rintro e w4 ⟨v4,rfl,hn,hf⟩;have HF2:=hid hf;clear hf;replace BA:=bW BA hn;replace BB:=bW BB hn;replace HF1:=hid (HF1.out.new hn);replace HN:=tW HN hn;clear hn;refine hK.out _ _ (fun _=>⟨cW2 BA,cW2 BB⟩) ?_;clear hK K
 try simp only[PT]
 refine tk1 6 fun K hK=>?_;go_simp;refine (HC2.out _ _ _ HF1.out HF2.out).mono ?_;rintro e w5 ⟨rfl,hn⟩;rw[HR2.out];clear HF1 HF2;replace BA:=bW BA hn;replace BB:=bW BB hn;replace HN:=tW HN hn;clear hn;refine hK.out _ _ (fun _=>⟨cW2 BA,cW2 BB⟩) ?_;clear hK K
 try simp only[PT]
 refine tk 7 (by exact ⟨cW2 BA,cW2 BB⟩) ?_
 try simp only[PT]
 refine tlW ?_;obtain ⟨pa0,pa1,pa2,pa3,pa4⟩:=BA.out.two;obtain ⟨pb0,pb1,pb2,pb3,pb4⟩:=BB.out.two;go_wp2_with fail;go_ret2;exact ⟨rfl,HN.out⟩
end Go.Proofs.YtnjonlnemagomaaGreatDoor
