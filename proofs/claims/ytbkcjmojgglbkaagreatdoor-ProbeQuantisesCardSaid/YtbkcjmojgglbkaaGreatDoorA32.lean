/- Part A32. -/
import Derived.Deep.DeepCutAuto
import Derived.OpenShut
import Derived.WideShapes
import Derived.Deep.Slices
import Derived.Laws.Cover2
import Derived.Carry
import Derived.RowKit
import Derived.Lay
import Derived.Shelf.Vars
import Derived.Stop.LaidErr
import Derived.Stop.Joined
import Derived.LaidMore
import Derived.ProofKit
import Derived.Lib.SmallJoins
import Derived.Test.YtbkcjmojgglbkaaGreatDoorTie
import Derived.Test.YtbkcjmojgglbkaaGreatDoorCards
import Derived.Test.YtbkcjmojgglbkaaGreatDoorA20
import Derived.Test.YtbkcjmojgglbkaaGreatDoorA31
namespace Go.Proofs.YtbkcjmojgglbkaaGreatDoor
open Go.RowKit Big Go.ChangeShapes Go.WideShapes Go.Deep Go.Lib
set_option maxRecDepth 100000
set_option maxHeartbeats 8000000
theorem awake_calls (w:World)(he:Env w):Calls Tryz.prog 10 #[] w fun e w'=>e=.returned (.bool true)∧New w w':=by
 have HE:=hid he;clear he;go_enter Tryz.func10,Tryz.ntmps10;go_wp2_with fail;refine (sample_calls _).mono ?_;rintro e w1 ⟨rfl,hn⟩;have HSZ:=hid hn.size;have HN:=hid hn;clear hn;go_wp2_with fail;have HN0:=HN;clear HN;obtain ⟨BA,HN⟩:=lay1 w1 32 #[.int .i64 8,.int .i64 (-3),.int .i64 128,.string ⟨#[49]⟩,.string ⟨#[48]⟩];have HN_:=HN0.out.trans HN.out;clear HN HN0;have HN:=hid HN_;clear HN_;refine (full_aw _ (HE.out.new HN.out)).mono ?_;rintro e w2 ⟨rfl,hn⟩;replace BA:=bW BA hn;replace HN:=tW HN hn;clear hn;obtain ⟨⟨pa0,pa1,pa2,pa3,pa4⟩,pa5⟩:=BA.out.five;go_wp2_with fail;clear pa0 pa1 pa2 pa3 pa4 pa5;have HN0:=HN;clear HN;obtain ⟨BF,HN⟩:=lay1 w2 28 #[.string ⟨#[45,49,54]⟩,.string ⟨#[49,50,55,47,56]⟩];replace BA:=hid (BA.out.new HN.out);have HN_:=HN0.out.trans HN.out;clear HN HN0;have HN:=hid HN_;clear HN_;refine (code_aw _ (HE.out.new HN.out)).mono ?_;rintro e w3 ⟨rfl,hn⟩;replace BA:=bW BA hn;replace BF:=bW BF hn;replace HN:=tW HN hn;clear hn;obtain ⟨⟨pa0,pa1,pa2,pa3,pa4⟩,pa5⟩:=BA.out.five;go_wp2_with fail;clear pa0 pa1 pa2 pa3 pa4 pa5;refine (volts_aw _ (HE.out.new HN.out)).mono ?_;rintro e w4 ⟨rfl,hn⟩;replace BA:=bW BA hn;replace BF:=bW BF hn;replace HN:=tW HN hn;clear hn;obtain ⟨⟨pa0,pa1,pa2,pa3,pa4⟩,pa5⟩:=BA.out.five;go_wp2_with fail;clear pa0 pa1 pa2 pa3 pa4 pa5;have HN0:=HN;clear HN;obtain ⟨BV,HN⟩:=lay1 w4 22 #[.string ⟨#[45,50,48]⟩,.string ⟨#[48]⟩,.string ⟨#[49,47,49,48]⟩,.string ⟨#[50,48]⟩,.string ⟨#[51,48]⟩];replace BA:=hid (BA.out.new HN.out);replace BF:=hid (BF.out.new HN.out);have HN_:=HN0.out.trans HN.out;clear HN HN0;have HN:=hid HN_;clear HN_;refine (sampled_aw _ (HE.out.new HN.out) _ _ BV.out.rdl).mono ?_;intro e w5 h;obtain ⟨a5,c5,rfl,hn,hr5⟩:=h.rd 5 rfl;clear h;replace BA:=bW BA hn;replace BF:=bW BF hn;replace HN:=tW HN hn;clear hn;clear BV;have HR5:=hid hr5;clear hr5;obtain ⟨⟨pa0,pa1,pa2,pa3,pa4⟩,pa5⟩:=BA.out.five;go_wp2_with fail;clear pa0 pa1 pa2 pa3 pa4 pa5;refine (codes_aw _ (HE.out.new HN.out) _ _ HR5.out).mono ?_;intro e w6 h;obtain ⟨a6,c6,rfl,hn,hr6⟩:=h.rd 5 rfl;clear h;replace BA:=bW BA hn;replace BF:=bW BF hn;replace HR5:=hid (HR5.out.new hn);replace HN:=tW HN hn;clear hn;have HR6:=hid hr6;clear hr6;obtain ⟨⟨pa0,pa1,pa2,pa3,pa4⟩,pa5⟩:=BA.out.five;go_wp2_with fail;clear pa0 pa1 pa2 pa3 pa4 pa5;refine (clipped_aw _ (HE.out.new HN.out) _ _ HR5.out).mono ?_;intro e w7 h;obtain ⟨a7,c7,rfl,hn,hr7⟩:=h.rd;clear h;replace BA:=bW BA hn;replace BF:=bW BF hn;replace HR6:=hid (HR6.out.new hn);replace HN:=tW HN hn;clear hn;have HR7:=hid hr7;clear hr7;obtain ⟨⟨pa0,pa1,pa2,pa3,pa4⟩,pa5⟩:=BA.out.five;go_wp2_with fail;clear pa0 pa1 pa2 pa3 pa4 pa5;refine (cal_aw _ (HE.out.new HN.out)).mono ?_;rintro e w8 ⟨rfl,hn⟩;replace BA:=bW BA hn;replace BF:=bW BF hn;replace HR6:=hid (HR6.out.new hn);replace HR7:=hid (HR7.out.new hn);replace HN:=tW HN hn;clear hn;obtain ⟨pf0,pf1,pf2,pf3,pf4⟩:=BF.out.two;have hns:=fun W=>neq_span ⟨#[45,49,54]⟩ ⟨#[49,50,55,47,56]⟩ W
 have hfo:FloatKind.f32.format.order 1048576000 1048576000=some Ordering.eq:=by decide +kernel
 go_wp2_with fail;clear hfo hns;clear pf0 pf1 pf2 pf3 pf4;have HN0:=HN;clear HN;obtain ⟨BC,BI,HN⟩:=lay2 w8 32 #[.int .i64 8,.int .i64 (-3),.int .i64 128,.string ⟨#[50]⟩,.string ⟨#[49,47,50]⟩] 3 #[.int .i64 0,.int .i64 128,.int .i64 129,.int .i64 255,.int .i64 255];replace BA:=hid (BA.out.new HN.out);replace HR6:=hid (HR6.out.new HN.out);replace HR7:=hid (HR7.out.new HN.out);have HN_:=HN0.out.trans HN.out;clear HN HN0;have HN:=hid HN_;clear HN_;clear BF;refine (same_ints a6 (some ⟨w8.heap.size+1,0,none⟩) c6 5 [0,128,129,255,255] [0,128,129,255,255] _ (by decide) rfl HR6.out BI.out.rdl (by intro k h h';simp)).mono ?_;rintro e w9 ⟨rfl,hn⟩;clear HR6 BI;replace BA:=bW BA hn;replace BC:=bW BC hn;replace HR7:=hid (HR7.out.new hn);replace HN:=tW HN hn;clear hn;go_wp2_with fail;have HN0:=HN;clear HN;obtain ⟨BP,HN⟩:=lay1 w9 95 #[.int .i64 0,.int .i64 1,.int .i64 3,.int .i64 5];replace BA:=hid (BA.out.new HN.out);replace BC:=hid (BC.out.new HN.out);replace HR7:=hid (HR7.out.new HN.out);have HN_:=HN0.out.trans HN.out;clear HN HN0;have HN:=hid HN_;clear HN_;refine (same_pairs a7 (some ⟨w9.heap.size,0,none⟩) c7 2 [(0,1),(3,5)] _ (by decide) HR7.out BP.out.rdl).mono ?_;rintro e w10 ⟨rfl,hn⟩;clear HR7 BP;replace BA:=bW BA hn;replace BC:=bW BC hn;replace HN:=tW HN hn;clear hn;obtain ⟨⟨pa0,pa1,pa2,pa3,pa4⟩,pa5⟩:=BA.out.five;obtain ⟨⟨pc0,pc1,pc2,pc3,pc4⟩,pc5⟩:=BC.out.five;have fz3:=BA.out.frozen 3;have fz4:=BA.out.frozen 4;go_wp2_with fail;clear fz3 fz4;clear pa0 pa1 pa2 pa3 pa4 pa5;clear pc0 pc1 pc2 pc3 pc4 pc5;clear BC;have BA2_:Box ((w10.setCell ⟨w1.heap.size,3,none⟩ (.string ⟨#[50]⟩)).setCell ⟨w1.heap.size,4,none⟩ (.string ⟨#[49]⟩)) w1.heap.size 32 #[.int .i64 8,.int .i64 (-3),.int .i64 128,.string ⟨#[50]⟩,.string ⟨#[49]⟩]:=(BA.out.set 3 _).set 4 _;have HN_:=(HN.out.setCell (p:=⟨w1.heap.size,3,none⟩) HSZ.out (.string ⟨#[50]⟩)).setCell (p:=⟨w1.heap.size,4,none⟩) HSZ.out (.string ⟨#[49]⟩);clear BA HN;have BA:=hid BA2_;have HN:=hid HN_;clear BA2_ HN_;refine (true_aw _ (HE.out.new HN.out)).mono ?_;rintro e w11 ⟨rfl,hn⟩;replace BA:=bW BA hn;replace HN:=tW HN hn;clear hn;obtain ⟨⟨pa0,pa1,pa2,pa3,pa4⟩,pa5⟩:=BA.out.five;go_wp2_with fail;clear pa0 pa1 pa2 pa3 pa4 pa5;have HN0:=HN;clear HN;obtain ⟨BT,HN⟩:=lay1 w11 28 #[.string ⟨#[57,47,56]⟩,.string ⟨#[49,49,47,56]⟩];replace BA:=hid (BA.out.new HN.out);have HN_:=HN0.out.trans HN.out;clear HN HN0;have HN:=hid HN_;clear HN_;refine (interval_aw _ (HE.out.new HN.out)).mono ?_;rintro e w12 ⟨rfl,hn⟩;clear BA;replace BT:=bW BT hn;replace HN:=tW HN hn;clear hn;go_wp2_with fail;have HN0:=HN;clear HN;obtain ⟨BE,BS,HN⟩:=lay2 w12 28 #[.string ⟨#[]⟩,.string ⟨#[]⟩] 35 #[.float .f32 0,.float .f32 1065353216,.float .f32 1056964608,.float .f32 0,.float .f32 1056964608,.float .f32 1065353216];replace BT:=hid (BT.out.new HN.out);have HN_:=HN0.out.trans HN.out;clear HN HN0;have HN:=hid HN_;clear HN_;refine (dig_aw _ _ _ BS.out.rdl).mono ?_;intro e w13 h;obtain ⟨a13,c13,rfl,hn,hr13⟩:=h.rd 6 rfl;clear h BE BS;replace BT:=bW BT hn;replace HN:=tW HN hn;clear hn;have HR13:=hid hr13;clear hr13;go_wp2_with fail;refine (chg_aw _ _ _ HR13.out).mono ?_;intro e w14 h;obtain ⟨a14,c14,rfl,hn,hr14⟩:=h.rd 3 rfl;clear h HR13;replace BT:=bW BT hn;replace HN:=tW HN hn;clear hn;have HR14:=hid hr14;clear hr14;go_wp2_with fail;have HN0:=HN;clear HN;obtain ⟨B1,B2,BL,HN⟩:=lay3 w14 4 #[.bool true,.bool false,.bool true] 4 #[.bool true,.bool true,.bool false] 96 #[.slice (some ⟨w14.heap.size,0,none⟩) 3 3,.slice (some ⟨w14.heap.size+1,0,none⟩) 3 3];replace BT:=hid (BT.out.new HN.out);replace HR14:=hid (HR14.out.new HN.out);have HN_:=HN0.out.trans HN.out;clear HN HN0;have HN:=hid HN_;clear HN_;refine (words_aw _ (w14.heap.size+1+1) 2 _ (rdll_two BL.out.rdl B1.out.rdl B2.out.rdl (by decide) (by decide))).mono ?_;intro e w15 h;obtain ⟨a15,c15,rfl,hn,hr15⟩:=h.rd 3 rfl;clear h B1 B2 BL;replace BT:=bW BT hn;replace HR14:=hid (HR14.out.new hn);replace HN:=tW HN hn;clear hn;have HR15:=hid hr15;clear hr15;go_wp2_with fail;refine (blocks_aw _ _ _ HR15.out).mono ?_;intro e w16 h;obtain ⟨a16,c16,rfl,hn,hr16⟩:=h.rd;clear h;replace BT:=bW BT hn;replace HR14:=hid (HR14.out.new hn);replace HR15:=hid (HR15.out.new hn);replace HN:=tW HN hn;clear hn;have HR16:=hid hr16;clear hr16;go_wp2_with fail;have HN0:=HN;clear HN;have B1:=hid ((Box.alloc w16 (w16.heap.size) 35 #[.float .f32 1065353216,.float .f32 1073741824,.float .f32 1077936128,.float .f32 1082130432] (by simp)).new ((((New.refl _).alloc (.cells #[.float .f32 1073741824,.float .f32 1077936128,.float .f32 1082130432] 35)).alloc (.cells #[.slice (some ⟨w16.heap.size,0,none⟩) 4 4,.slice (some ⟨w16.heap.size+1,0,none⟩) 3 3] 52)).alloc (.cells #[.int .i64 1,.int .i64 0] 3)));have B2:=hid ((Box.alloc (w16.alloc (.cells #[.float .f32 1065353216,.float .f32 1073741824,.float .f32 1077936128,.float .f32 1082130432] 35)) (w16.heap.size+1) 35 #[.float .f32 1073741824,.float .f32 1077936128,.float .f32 1082130432] (by simp)).new (((New.refl _).alloc (.cells #[.slice (some ⟨w16.heap.size,0,none⟩) 4 4,.slice (some ⟨w16.heap.size+1,0,none⟩) 3 3] 52)).alloc (.cells #[.int .i64 1,.int .i64 0] 3)));have BL:=hid ((Box.alloc ((w16.alloc (.cells #[.float .f32 1065353216,.float .f32 1073741824,.float .f32 1077936128,.float .f32 1082130432] 35)).alloc (.cells #[.float .f32 1073741824,.float .f32 1077936128,.float .f32 1082130432] 35)) (w16.heap.size+1+1) 52 #[.slice (some ⟨w16.heap.size,0,none⟩) 4 4,.slice (some ⟨w16.heap.size+1,0,none⟩) 3 3] (by simp)).new ((New.refl _).alloc (.cells #[.int .i64 1,.int .i64 0] 3)));have BI:=hid ((Box.alloc (((w16.alloc (.cells #[.float .f32 1065353216,.float .f32 1073741824,.float .f32 1077936128,.float .f32 1082130432] 35)).alloc (.cells #[.float .f32 1073741824,.float .f32 1077936128,.float .f32 1082130432] 35)).alloc (.cells #[.slice (some ⟨w16.heap.size,0,none⟩) 4 4,.slice (some ⟨w16.heap.size+1,0,none⟩) 3 3] 52)) (w16.heap.size+1+1+1) 3 #[.int .i64 1,.int .i64 0] (by simp)).new (New.refl _));have HN:=hid (((((New.refl w16).alloc (.cells #[.float .f32 1065353216,.float .f32 1073741824,.float .f32 1077936128,.float .f32 1082130432] 35)).alloc (.cells #[.float .f32 1073741824,.float .f32 1077936128,.float .f32 1082130432] 35)).alloc (.cells #[.slice (some ⟨w16.heap.size,0,none⟩) 4 4,.slice (some ⟨w16.heap.size+1,0,none⟩) 3 3] 52)).alloc (.cells #[.int .i64 1,.int .i64 0] 3));replace BT:=hid (BT.out.new HN.out);replace HR14:=hid (HR14.out.new HN.out);replace HR15:=hid (HR15.out.new HN.out);replace HR16:=hid (HR16.out.new HN.out);have HN_:=HN0.out.trans HN.out;clear HN HN0;have HN:=hid HN_;clear HN_;refine (al_aw _ _ _ 2 2 _ (rdll_two BL.out.rdl B1.out.rdl B2.out.rdl (by decide) (by decide)) BI.out.rdl).mono ?_;rintro e w17 ⟨v17,rfl,hn,hrows⟩;obtain ⟨a17,c17,vs17,rfl,hr17⟩:=hrows.rdll;clear hrows B1 B2 BL BI;replace BT:=bW BT hn;replace HR14:=hid (HR14.out.new hn);replace HR15:=hid (HR15.out.new hn);replace HR16:=hid (HR16.out.new hn);replace HN:=tW HN hn;clear hn;have HR17:=hid hr17;clear hr17;go_wp2_with fail;refine (block_aw2 _ _ _).mono ?_;rintro e w18 ⟨rfl,hn⟩;replace BT:=bW BT hn;replace HR14:=hid (HR14.out.new hn);replace HR15:=hid (HR15.out.new hn);replace HR16:=hid (HR16.out.new hn);replace HR17:=hid (HR17.out.new hn);replace HN:=tW HN hn;clear hn;obtain ⟨b16,o16,rfl,h0,h1,h2,h3,h4,h5,h6,h7,h8,h9,h10,h11,h12,h13,h14,h15⟩:=rd_block HR16.out;obtain ⟨b17,o17,a1,d1,a2,d2,rfl,hp1,hp2,hq1,hq2⟩:=HR17.out.two;have HS_:AwS w18 w11.heap.size b16 o16 b17 o17 a1 a2 d1 d2:=⟨BT.out.cell 0,BT.out.cell 1,h0,h1,h2,h3,h4,h5,h6,h7,h8,h9,h10,h11,h12,h13,h14,h15,hp1,hp2⟩;clear HR16 HR17 BT h0 h1 h2 h3 h4 h5 h6 h7 h8 h9 h10 h11 h12 h13 h14 h15 hp1 hp2;have HQ1:=hid hq1;have HQ2:=hid hq2;have HS:=hid HS_;clear hq1 hq2 HS_;go_upto_region 20 with (fail);have HN0:=HN;clear HN;obtain ⟨BK,HN⟩:=lay1 w18 113 #[.int .u16 0,.int .u16 0,.int .u16 0,.int .u16 0,.int .u16 0,.int .u16 0,.int .u16 0,.int .u16 0,.int .u16 0,.int .u16 0,.int .u16 0,.int .u16 0,.int .u16 0,.int .u16 0,.int .u16 0,.int .u16 0];replace HR14:=hid (HR14.out.new HN.out);replace HR15:=hid (HR15.out.new HN.out);replace HQ1:=hid (HQ1.out.new HN.out);replace HQ2:=hid (HQ2.out.new HN.out);replace HS:=hid (HS.out.new HN.out);have HN_:=HN0.out.trans HN.out;clear HN HN0;have HN:=hid HN_;clear HN_;refine awake_tail w _ _ w11.heap.size b16 o16 b17 o17 c14 c15 c16 c17 d1 d2 a14 a15 a1 a2 HN HR14 HR15 HQ1 HQ2 HS ?_ _ ?_
 ·exact ⟨rfl,rfl,rfl,rfl,rfl,rfl,rfl,rfl,rfl,rfl,rfl,rfl,rfl,rfl,rfl,trivial⟩
 ·assumption
section
variable {H:Type} {enc:TypeId × Value→H} {P:Program} {w:World} {base:Nat} {sp:Nat→Bool} {held:Bool}
theorem trod_int' {t:TypeId}{k:IntKind}{fuel:Nat}{v:Value}{y:DataW H × List MemPlace}(ht:P.underlying t=some (.int k))(h:DataW.trod enc P w base sp held fuel t [v]=some y):∃ n,v=.int k n∧(Lit.int k n).wf=true:=by
 obtain ⟨n,h1,_,hw⟩:=DataW.trod_int ht h;exact ⟨n,by simpa using h1,hw⟩
end
theorem returns_and_shaped {H:Type} {enc:TypeId × Value→H} {a:Assume} {C:Checked} {os:Os} {f:FuncId} {fn:Func} {s:ChangeSpec} {conds:List PathCond} {apart fresh handsOn again:Bool} {X:World→Array Value→Prop}
  (hX:∀ (w w':World) (args:Array Value),w.heap=w'.heap→X w args→X w' args)
  (own:ownKnob C.prog.godebug=none) (started:os.Started) (noInit:C.prog.inits.idxOf? f=none) (hfn:C.prog.funcs[f]?=some fn)
  (witness:∃ (w:World) (tape:Tape) (i:Input),w.os=os∧(w.forCall tape i).Shaped C.prog∧i.vars=[]∧Input.okWide C.prog (w.forCall tape i) .any w.heap.size f i∧
   ((s.pre enc C.prog fn conds apart (w.forCall tape i).memory i.args∧X (w.forCall tape i).memory i.args)∧sizedMet enc C.prog fn (OpenSpec.ofChange s) apart (w.forCall tape i).memory i.args)∧a.holds C.prog (lone (Frame.enter C.prog f i.args .normal) [] (w.forCall tape i)))
  (contract:∀ (W:World) (base:Nat) (args:Array Value) (ds gs:List (DataW H)) (before:List MemPlace),
   (∀ (j:Nat) t v,fn.params[j]?=some t→args[j]?=some v→Value.okWide C.prog W .any base t v)→
   DataW.Whole enc C.prog fn.params.toList s.vars apart W args.toList ds gs before→X W args→W.ShapedOpen C.prog→
   Calls C.prog f args W fun e W'=>∃ v,e=.returned v∧s.post enc C.prog fn apart fresh handsOn again W args v W'):
  ReturnsInHanded a C os f .any (fun w args=>(s.pre enc C.prog fn conds apart w args∧X w args)∧sizedMet enc C.prog fn (OpenSpec.ofChange s) apart w args) (s.post enc C.prog fn apart fresh handsOn again):=by
 refine returnsInHanded_of_calls own started noInit witness ?_;intro w tape i _ hsh _ hok hpre _;obtain ⟨_,_,_,fn',hfn',_,_,_,_,hval⟩:=hok;have e:fn'=fn:=Option.some.inj (hfn'.symm.trans hfn);subst e;obtain ⟨⟨⟨ds,gs,before,hw,_⟩,hx⟩,_⟩:=hpre;have hw':=DataW.Whole.of_heap (w':=w.forCall tape i) (by rfl) hw;refine (contract (w.forCall tape i) w.heap.size i.args ds gs before hval hw' (hX _ _ _ (by rfl) hx) hsh).mono fun e W' ⟨v,he,hp⟩=>?_;subst he;exact ChangeSpec.post_blind hp
theorem own:ownKnob Tryz.prog.godebug=none:=by kernel_rfl
theorem laidOut:laidOutB Tryz.prog=true:=by kernel_rfl
noncomputable def Listed:List (String × DataW Unit):=Rows.probeCodesRow.laid
theorem env_of {W:World}(h:laidMetH Tryz.prog Listed W)(hsh:W.ShapedOpen Tryz.prog):Env W:=by
 refine ⟨cell_of_shapedOpen_int hsh (g:=1) (t:=3) (zero:=#[.int .i64 0]) (of_decide_eq_true (by kernel_rfl)) (by kernel_rfl) rfl (by kernel_rfl) (by kernel_rfl) Tryz.underlying3,?_⟩;rw[MakeChecks.laidMetH_plain _ _ _ (by kernel_rfl)] at h
 have h2 : laidMet Tryz.prog (("internal/strconv.uint64pow10", Rows.laid_internal_strconv_uint64pow10) :: Listed.drop 3) W := h.tail.tail
 have e:(Rows.laid_internal_strconv_uint64pow10:DataW Unit)=Lib.tabData .u64 Lib.pow10Tab:=by kernel_rfl
 rw[e]at h2;exact Lib.tabIs_of_head (g:=6) (t:=299) (e:=221) (n:=20) (by kernel_rfl) (by kernel_rfl) Tryz.underlying299 Tryz.underlying221 (by kernel_rfl) (by kernel_rfl) h2
theorem witness_laid (os:Os)(args:Array Value):laidMetH Tryz.prog Listed ((World.laidAll Tryz.prog os Listed).forCall (fun _ _=>0) ⟨#[],args,[]⟩).memory:=by
 rw[MakeChecks.laidMetH_plain _ _ _ (by kernel_rfl)];exact laidMet_laidAll _ (by kernel_rfl) (by kernel_rfl)
theorem wrap64n {z:Int}{k:Nat}(h:z=(k:Int))(hk:k < 1000000):wrap64 z=(k:Int):=by
 subst h;exact ld_in (by omega) (by omega)
theorem power_calls (n:Nat)(w:World)(hn:n≤16):Calls Tryz.prog 142 #[.int .i64 (n:Int)] w fun e w'=>e=.returned (.int .i64 ((2^n:Nat):Int))∧w'=w:=by
 have hni:(n:Int)≤16:=by omega
 go_enter Tryz.func142,Tryz.ntmps142;go_wp2_with fail;go_loopw [3,4] (fun p i wr=>∃ (k q:Nat),k≤n∧i=.int .i64 (k:Int)∧p=.int .i64 (q:Int)∧Hid (2^k=q)∧wr=w) (fun _ i _=>n - (RowKit.intOf i).toNat)
 case atStart=>exact ⟨0,1,Nat.zero_le _,rfl,rfl,hid rfl,rfl⟩
 case round=>
  obtain ⟨k,q,hk,rfl,rfl,HQ,rfl⟩:=hrel
  have hq:q≤65536:=by
   rw[←HQ.out];have:2^k≤2^16:=Nat.pow_le_pow_right (by decide) (by omega);exact this
  by_cases hlt:k < n
  ·have hw1:wrap64 (2*(q:Int))=((2*q:Nat):Int):=wrap64n (by omega) (by omega)
   have hw2:IntKind.i64.wrap (2*(q:Int))=((2*q:Nat):Int):=by rw[IntKind.wrap_i64];omega
   go_wp2_with fail;go_roundw
   case rel=>exact ⟨k+1,2*q,by omega,by go_num,rfl,hid (by rw[Nat.pow_succ,HQ.out];omega),by first | rfl | trivial⟩
   case measure=>simp[RowKit.intOf];omega
  ·have hkk:k=n:=by omega
   have HKK:=hid hkk;clear hkk;go_wp2_with fail;go_ret;exact ⟨ret_i64 (by rw[←HKK.out,HQ.out]),rfl⟩
theorem rtop_calls (b s z:Int)(g o:ByteArray)(w:World)(lo:0≤b)(hi:b≤12):Calls Tryz.prog 78 #[.agg #[.int .i64 b,.int .i64 s,.int .i64 z,.string g,.string o]] w fun e w'=>e=.returned (.int .i64 (2^b.toNat - 1))∧New w w':=by
 obtain ⟨n,rfl⟩:∃ n:Nat,b=(n:Int):=⟨b.toNat,by omega⟩;have hp:=fun W=>power_calls n W (by omega);have hle:2^n≤2^12:=Nat.pow_le_pow_right (by decide) (by omega)
 have he:(2:Int)^((n:Int)).toNat - 1=((2^n:Nat):Int) - 1:=by rw[Int.toNat_natCast];simp
 rw[he];obtain ⟨p,hp2⟩:∃ p,2^n=p:=⟨_,rfl⟩;rw[hp2] at hle⊢;simp only[hp2] at hp
 have hpi:(p:Int)≤4096:=by omega
 clear he hp2 hle lo hi;have HP:=hid hp;clear hp;go_enter Tryz.func78,Tryz.ntmps78;go_wp2_with fail;obtain ⟨BA,HN⟩:=lay1 w 24 #[.int .i64 (n:Int),.int .i64 s,.int .i64 z,.string g,.string o];refine (HP.out _).mono ?_;rintro e w1 ⟨rfl,hw⟩;rw[hw];clear hw;go_wp2_with fail;go_ret;exact ⟨rfl,HN.out⟩
theorem rat_two_pow (n:Nat):(2:Rat)^n=((2^n:Int):Rat):=by
 induction n with
 | zero=>rfl
 | succ n ih=>
  rw[Rat.pow_succ,ih,Int.pow_succ];exact (Rat.intCast_mul _ _).symm
theorem rat_inv_pow {a:Rat}(h:a≠0)(n:Nat):a⁻¹^n=(a^n)⁻¹:=by
 have h1:∀ n:Nat,a⁻¹^n*a^n=1:=fun n=>by
  induction n with
  | zero=>rw[Rat.pow_zero,Rat.pow_zero,Rat.mul_one]
  | succ n ih=>
   rw[Rat.pow_succ,Rat.pow_succ,Rat.mul_assoc,Rat.mul_comm a⁻¹,Rat.mul_assoc,Rat.mul_inv_cancel a h,Rat.mul_one];exact ih
 have h2:a^n≠0:=by
  intro e;have:=h1 n;rw[e,Rat.mul_zero] at this;exact absurd this (by decide)
 have h3:=h1 n
 have h4:a⁻¹^n*a^n*(a^n)⁻¹=(a^n)⁻¹:=by rw[h3,Rat.one_mul]
 rwa [Rat.mul_assoc,Rat.mul_inv_cancel _ h2,Rat.mul_one] at h4
theorem rs_two:rs 2=⟨#[50]⟩:=by
 rw[show (2:Rat)=((2:Int):Rat) from rfl,rs_int,show (2:Int)=((2:Nat):Int) from rfl,Big.itoa_nonneg,decDigits_small (by omega)];rfl
theorem rfb_two:RFB 2 2:=⟨by show (2:Int).natAbs < 4;decide,by show (1:Nat) < 4;decide⟩
theorem rpow2_calls (s:Int)(w:World)(lo: -200≤s)(hi:s≤200):Calls Tryz.prog 103 #[.string ⟨#[50]⟩,.int .i64 s] w (RetS w (stepQ s)):=by
 unfold stepQ;by_cases h:s < 0
 ·obtain ⟨n,rfl⟩:∃ n:Nat,s= -(n:Int):=⟨(-s).toNat,by omega⟩;rw[if_pos h,←rs_two];have:=rpow_neg 2 n 2 w rfb_two (by decide) (by omega) (by omega) (by omega);rw[rat_inv_pow (by decide),rat_two_pow] at this;rw[show (- -(n:Int)).toNat=n by omega];exact this
 ·obtain ⟨n,rfl⟩:∃ n:Nat,s=(n:Int):=⟨s.toNat,by omega⟩;rw[if_neg h,←rs_two];have:=rpow_nat 2 n 2 w rfb_two (by omega) (by omega);rw[rat_two_pow] at this;rw[Int.toNat_natCast];exact this
theorem rlsb_calls (b s z:Int)(g o:ByteArray)(w:World)(lo: -20≤s)(hi:s≤4):Calls Tryz.prog 46 #[.agg #[.int .i64 b,.int .i64 s,.int .i64 z,.string g,.string o]] w (RetS w (stepQ s)):=by
 have hp:=fun W=>rpow2_calls s W (by omega) (by omega);obtain ⟨R,hR⟩:∃ R,stepQ s=R:=⟨_,rfl⟩;simp only[hR] at hp;rw[hR];clear hR lo hi;have HP:=hid hp;clear hp;go_enter Tryz.func46,Tryz.ntmps46;go_wp2_with fail;obtain ⟨BA,HN⟩:=lay1 w 24 #[.int .i64 b,.int .i64 s,.int .i64 z,.string g,.string o];refine (HP.out _).mono ?_;rintro e w1 ⟨rfl,hn⟩;replace HN:=tW HN hn;clear hn;go_wp2_with fail;go_ret;exact ⟨rfl,HN.out⟩
theorem RFB.of {k:Nat}{q:Rat}(h:FB k q):RFB k q:=⟨h.num,by simpa[BdK] using h.den⟩
theorem rfb_int {z:Int}{k:Nat}(h:z.natAbs < 2^k)(hk:1≤k):RFB k (z:Rat):=⟨by rw[Rat.num_intCast];exact h,by
 rw[Rat.den_intCast]
 exact Nat.lt_of_lt_of_le (by decide:1 < 2^1) (Nat.pow_le_pow_right (by omega) hk)⟩
theorem rnominal_calls (b s z code:Int)(g o:ByteArray)(w:World)(lo: -20≤s)(hi:s≤4)(zl:0≤z)(zh:z≤4095)(cl:0≤code)(ch:code≤4096):Calls Tryz.prog 77 #[.agg #[.int .i64 b,.int .i64 s,.int .i64 z,.string g,.string o],.int .i64 code] w (RetS w (nomQ s z code)):=by
 have hls:=fun W=>rlsb_calls b s z g o W lo hi;have hfi:=fun W=>rfromInt_calls (code - z) W (by omega) (by omega);have hmu:=fun W=>rmulQ_calls 41 13 (stepQ s) ((code - z:Int):Rat) W (RFB.of (stepQ_fb lo hi)) (rfb_int (by omega) (by omega)) (by omega);obtain ⟨R,hR⟩:∃ R,nomQ s z code=R:=⟨_,rfl⟩;have hR':=hR;unfold nomQ at hR';obtain ⟨A,hA⟩:∃ A,rs (stepQ s)=A:=⟨_,rfl⟩;obtain ⟨B,hB⟩:∃ B,rs ((code - z:Int):Rat)=B:=⟨_,rfl⟩;have hls:=fun W=>(hls W).mono fun e w' h=>RetS.to hA h;have hfi:=fun W=>(hfi W).mono fun e w' h=>RetS.to hB h;simp only[hA,hB,hR'] at hmu;rw[hR]
 have hcz:IntKind.i64.wrap (code - z)=code - z:=by rw[IntKind.wrap_i64];omega
 clear hR hR' hA hB lo hi;have HLS:=hid hls;have HFI:=hid hfi;have HMU:=hid hmu;clear hls hfi hmu;go_enter Tryz.func77,Tryz.ntmps77;go_upto_region 1 with (fail);obtain ⟨BA,HN⟩:=lay1 w 24 #[.int .i64 b,.int .i64 s,.int .i64 z,.string g,.string o];obtain ⟨⟨pa0,pa1,pa2,pa3,pa4⟩,pa5⟩:=BA.out.five;clear pa0 pa1 pa2 pa3 pa4 pa5;refine wp_region_T 8 (fun W=>W.cell? ⟨w.heap.size,0,none⟩=some (.int .i64 b)∧W.cell? ⟨w.heap.size,1,none⟩=some (.int .i64 s)∧W.cell? ⟨w.heap.size,2,none⟩=some (.int .i64 z)∧W.cell? ⟨w.heap.size,3,none⟩=some (.string g)∧W.cell? ⟨w.heap.size,4,none⟩=some (.string o)) 9 #[false,false,false,false,false,false,false,false,false] rfl (by kernel_rfl) (by kernel_rfl) ?_;refine tk 0 (by exact cW5 BA) ?_
 try simp only[PT]
 refine tk 2 (by exact cW5 BA) ?_
 try simp only[PT]
 refine tk 3 (by exact cW5 BA) ?_
 try simp only[PT]
 refine tk 4 (by exact cW5 BA) ?_
 try simp only[PT]
 refine tk 5 (by exact cW5 BA) ?_
 try simp only[PT]
 refine tk1 1 fun K hK=>?_;go_simp;refine (HLS.out _).mono ?_;rintro e w1 ⟨rfl,hn⟩;have hn:=hn.undr;replace BA:=bW BA hn;replace HN:=tW HN hn;clear hn;refine hK.out _ _ (fun _=>cW5 BA) ?_;clear hK K
 try simp only[PT]
 refine tk1 6 fun K hK=>?_;go_simp;refine (HFI.out _).mono ?_;rintro e w2 ⟨rfl,hn⟩;replace BA:=bW BA hn;replace HN:=tW HN hn;clear hn;refine hK.out _ _ (fun _=>cW5 BA) ?_;clear hK K
 try simp only[PT]
 refine tk1 7 fun K hK=>?_;go_simp;refine (HMU.out _).mono ?_;rintro e w3 ⟨rfl,hn⟩;replace BA:=bW BA hn;replace HN:=tW HN hn;clear hn;refine hK.out _ _ (fun _=>cW5 BA) ?_;clear hK K
 try simp only[PT]
 refine tlW ?_;obtain ⟨⟨pa0,pa1,pa2,pa3,pa4⟩,pa5⟩:=BA.out.five;go_wp2_with fail;go_ret;exact ⟨rfl,HN.out⟩
theorem rcheckCode_calls (b s z code:Int)(g o:ByteArray)(w:World)(lo:0≤b)(hi:b≤12):
  Calls Tryz.prog 19 #[.agg #[.int .i64 b,.int .i64 s,.int .i64 z,.string g,.string o],.int .i64 code] w (RetNew w (if outside code 0 (2^b.toNat - 1) then 3 else 0)):=by
 obtain ⟨t,ht⟩:∃ t,(2:Int)^b.toNat - 1=t:=⟨_,rfl⟩;have htp:=fun W=>rtop_calls b s z g o W lo hi;rw[ht] at htp⊢;clear ht lo hi;by_cases h1:code < 0
 ·have hr:(if outside code 0 t then (3:Int) else 0)=3:=by rw[if_pos (by simp[outside];omega)]
  have h1b:decide (code < 0)=true:=decide_eq_true h1;rw[hr];clear hr htp;go_enter Tryz.func19,Tryz.ntmps19;go_upto_region 1 with (fail);obtain ⟨BA,HN⟩:=lay1 w 24 #[.int .i64 b,.int .i64 s,.int .i64 z,.string g,.string o];obtain ⟨⟨pa0,pa1,pa2,pa3,pa4⟩,pa5⟩:=BA.out.five;go_wp2_with fail;go_ret;exact ⟨rfl,HN.out⟩
 ·have h1b:decide (code < 0)=false:=decide_eq_false h1;by_cases h2:t < code
  ·have hr:(if outside code 0 t then (3:Int) else 0)=3:=by rw[if_pos (by simp[outside];omega)]
   have h2b:decide (t < code)=true:=decide_eq_true h2;rw[hr];clear hr;have HTP:=hid htp;clear htp;go_enter Tryz.func19,Tryz.ntmps19;go_upto_region 1 with (fail);obtain ⟨BA,HN⟩:=lay1 w 24 #[.int .i64 b,.int .i64 s,.int .i64 z,.string g,.string o];obtain ⟨⟨pa0,pa1,pa2,pa3,pa4⟩,pa5⟩:=BA.out.five;go_wp2_with fail;refine (HTP.out _).mono ?_;rintro e w1 ⟨rfl,hn⟩;clear pa0 pa1 pa2 pa3 pa4 pa5;replace HN:=tW HN hn;clear hn;go_wp2_with fail;go_ret;exact ⟨rfl,HN.out⟩
  ·have hr:(if outside code 0 t then (3:Int) else 0)=0:=by rw[if_neg (by simp[outside];omega)]
   have h2b:decide (t < code)=false:=decide_eq_false h2;rw[hr];clear hr;have HTP:=hid htp;clear htp;go_enter Tryz.func19,Tryz.ntmps19;go_upto_region 1 with (fail);obtain ⟨BA,HN⟩:=lay1 w 24 #[.int .i64 b,.int .i64 s,.int .i64 z,.string g,.string o];obtain ⟨⟨pa0,pa1,pa2,pa3,pa4⟩,pa5⟩:=BA.out.five;go_wp2_with fail;refine (HTP.out _).mono ?_;rintro e w1 ⟨rfl,hn⟩;clear pa0 pa1 pa2 pa3 pa4 pa5;replace HN:=tW HN hn;clear hn;go_wp2_with fail;go_ret;exact ⟨rfl,HN.out⟩
theorem rcheckAdc_a (b s z:Int)(g o:ByteArray)(w:World)(hb:outside b 8 12=true∨outside s (-20) 4=true):
  Calls Tryz.prog 14 #[.agg #[.int .i64 b,.int .i64 s,.int .i64 z,.string g,.string o]] w (RetNew w 3):=by
 by_cases h1:b < 8
 ·have h1b:=decide_eq_true h1;clear hb;go_enter Tryz.func14,Tryz.ntmps14;go_upto_region 1 with (fail);obtain ⟨BA,HN⟩:=lay1 w 24 #[.int .i64 b,.int .i64 s,.int .i64 z,.string g,.string o];obtain ⟨⟨pa0,pa1,pa2,pa3,pa4⟩,pa5⟩:=BA.out.five;go_wp2_with fail;go_ret;exact ⟨rfl,HN.out⟩
 have h1b:=decide_eq_false h1;by_cases h2:12 < b
 ·have h2b:=decide_eq_true h2;clear hb;go_enter Tryz.func14,Tryz.ntmps14;go_upto_region 1 with (fail);obtain ⟨BA,HN⟩:=lay1 w 24 #[.int .i64 b,.int .i64 s,.int .i64 z,.string g,.string o];obtain ⟨⟨pa0,pa1,pa2,pa3,pa4⟩,pa5⟩:=BA.out.five;go_wp2_with fail;go_ret;exact ⟨rfl,HN.out⟩
 have h2b:=decide_eq_false h2;by_cases h3:s < -20
 ·have h3b:=decide_eq_true h3;clear hb;go_enter Tryz.func14,Tryz.ntmps14;go_upto_region 1 with (fail);obtain ⟨BA,HN⟩:=lay1 w 24 #[.int .i64 b,.int .i64 s,.int .i64 z,.string g,.string o];obtain ⟨⟨pa0,pa1,pa2,pa3,pa4⟩,pa5⟩:=BA.out.five;go_wp2_with fail;go_ret;exact ⟨rfl,HN.out⟩
 have h3b:=decide_eq_false h3
 have h4:4 < s:=by
  simp only[outside,Bool.or_eq_true,decide_eq_true_eq]at hb;omega
 have h4b:=decide_eq_true h4;clear hb;go_enter Tryz.func14,Tryz.ntmps14;go_upto_region 1 with (fail);obtain ⟨BA,HN⟩:=lay1 w 24 #[.int .i64 b,.int .i64 s,.int .i64 z,.string g,.string o];obtain ⟨⟨pa0,pa1,pa2,pa3,pa4⟩,pa5⟩:=BA.out.five;go_wp2_with fail;go_ret;exact ⟨rfl,HN.out⟩
theorem rcheckAdc_b (b s z:Int) (g o:ByteArray) (w:World) (hgl:g.size≤100000) (hb:outside b 8 12=false) (hs:outside s (-20) 4=false) (r:Int)
  (hz:(outside z 0 (2^b.toNat - 1)=true∧r=3)∨(outside z 0 (2^b.toNat - 1)=false∧r=ratErr g.data.toList∧r≠0)):
  Calls Tryz.prog 14 #[.agg #[.int .i64 b,.int .i64 s,.int .i64 z,.string g,.string o]] w (RetNew w r):=by
 have h1:¬b < 8:=by simp only[outside,Bool.or_eq_false_iff,decide_eq_false_iff_not] at hb;omega
 have h2:¬12 < b:=by simp only[outside,Bool.or_eq_false_iff,decide_eq_false_iff_not] at hb;omega
 have h3:¬s < -20:=by simp only[outside,Bool.or_eq_false_iff,decide_eq_false_iff_not] at hs;omega
 have h4:¬4 < s:=by simp only[outside,Bool.or_eq_false_iff,decide_eq_false_iff_not] at hs;omega
 have h1b:=decide_eq_false h1;have h2b:=decide_eq_false h2;have h3b:=decide_eq_false h3;have h4b:=decide_eq_false h4;have hcc:=fun W=>rcheckCode_calls b s z z g o W (by omega) (by omega);have hck:=fun W=>rcheck_calls g W (by omega);rcases hz with ⟨hz,rfl⟩ | ⟨hz,hr,hr0⟩
 ·rw[hz,if_pos rfl] at hcc;clear hb hs hz hck hgl;have HCC:=hid hcc;clear hcc;go_enter Tryz.func14,Tryz.ntmps14;go_upto_region 1 with (fail);obtain ⟨BA,HN⟩:=lay1 w 24 #[.int .i64 b,.int .i64 s,.int .i64 z,.string g,.string o];obtain ⟨⟨pa0,pa1,pa2,pa3,pa4⟩,pa5⟩:=BA.out.five;go_wp2_with fail;refine (HCC.out _).mono ?_;rintro e w1 ⟨rfl,hn⟩;clear pa0 pa1 pa2 pa3 pa4 pa5;replace BA:=bW BA hn;replace HN:=tW HN hn;clear hn;obtain ⟨⟨pa0,pa1,pa2,pa3,pa4⟩,pa5⟩:=BA.out.five;go_wp2_with fail;go_ret;exact ⟨rfl,HN.out⟩
 ·rw[hz,if_neg (by decide)] at hcc;rw[←hr] at hck
  have hrb:(r != 0)=true:=by simpa using hr0
  have hrc:(r==0)=false:=by simpa using hr0
  clear hb hs hz hr hr0 hgl;have HCC:=hid hcc;have HCK:=hid hck;clear hcc hck;go_enter Tryz.func14,Tryz.ntmps14;go_upto_region 1 with (fail);obtain ⟨BA,HN⟩:=lay1 w 24 #[.int .i64 b,.int .i64 s,.int .i64 z,.string g,.string o];obtain ⟨⟨pa0,pa1,pa2,pa3,pa4⟩,pa5⟩:=BA.out.five;go_wp2_with fail;refine (HCC.out _).mono ?_;rintro e w1 ⟨rfl,hn⟩;clear pa0 pa1 pa2 pa3 pa4 pa5;replace BA:=bW BA hn;replace HN:=tW HN hn;clear hn;obtain ⟨⟨pa0,pa1,pa2,pa3,pa4⟩,pa5⟩:=BA.out.five;go_wp2_with fail;refine (HCK.out _).mono ?_;rintro e w2 ⟨rfl,hn⟩;clear pa0 pa1 pa2 pa3 pa4 pa5;replace BA:=bW BA hn;replace HN:=tW HN hn;clear hn;go_wp2_with fail;go_ret;exact ⟨rfl,HN.out⟩
theorem rcheckAdc_c (b s z:Int) (g o:ByteArray) (w:World) (hgl:g.size≤100000) (hol:o.size≤100000) (hb:outside b 8 12=false) (hs:outside s (-20) 4=false)
  (hz:outside z 0 (2^b.toNat - 1)=false) (q:Rat) (hf:Fits q) (hg:g.data.toList=ratText q):
  Calls Tryz.prog 14 #[.agg #[.int .i64 b,.int .i64 s,.int .i64 z,.string g,.string o]] w (RetNew w (if q.num.sign≤0 then 3 else ratErr o.data.toList)):=by
 have h1:¬b < 8:=by simp only[outside,Bool.or_eq_false_iff,decide_eq_false_iff_not] at hb;omega
 have h2:¬12 < b:=by simp only[outside,Bool.or_eq_false_iff,decide_eq_false_iff_not] at hb;omega
 have h3:¬s < -20:=by simp only[outside,Bool.or_eq_false_iff,decide_eq_false_iff_not] at hs;omega
 have h4:¬4 < s:=by simp only[outside,Bool.or_eq_false_iff,decide_eq_false_iff_not] at hs;omega
 have h1b:=decide_eq_false h1;have h2b:=decide_eq_false h2;have h3b:=decide_eq_false h3;have h4b:=decide_eq_false h4;have hcc:=fun W=>rcheckCode_calls b s z z g o W (by omega) (by omega);have hck:=fun W=>rcheck_calls g W (by omega);have hco:=fun W=>rcheck_calls o W (by omega);rw[hg,ratErr_ratText hf] at hck;rw[hz,if_neg (by decide)] at hcc;have hsg:=fun W=>rsign_calls q W
 have hgq:rs q=g:=by
  apply ByteArray.ext;apply Array.toList_inj.1;rw[rs_list,hg]
 simp only[hgq]at hsg;obtain ⟨t,ht⟩:∃ t,q.num.sign=t:=⟨_,rfl⟩;obtain ⟨r,hr⟩:∃ r,ratErr o.data.toList=r:=⟨_,rfl⟩;simp only[ht] at hsg;rw[hr] at hco;rw[ht,hr];clear hb hs hz hgl hol hf hg hgq ht hr;by_cases h0:t≤0
 ·rw[if_pos h0];have h0b:=decide_eq_true h0;have HCC:=hid hcc;have HCK:=hid hck;have HSG:=hid hsg;clear hcc hck hsg;go_enter Tryz.func14,Tryz.ntmps14;go_upto_region 1 with (fail);obtain ⟨BA,HN⟩:=lay1 w 24 #[.int .i64 b,.int .i64 s,.int .i64 z,.string g,.string o];obtain ⟨⟨pa0,pa1,pa2,pa3,pa4⟩,pa5⟩:=BA.out.five;go_wp2_with fail;refine (HCC.out _).mono ?_;rintro e w1 ⟨rfl,hn⟩;clear pa0 pa1 pa2 pa3 pa4 pa5;replace BA:=bW BA hn;replace HN:=tW HN hn;clear hn;obtain ⟨⟨pa0,pa1,pa2,pa3,pa4⟩,pa5⟩:=BA.out.five;go_wp2_with fail;refine (HCK.out _).mono ?_;rintro e w2 ⟨rfl,hn⟩;clear pa0 pa1 pa2 pa3 pa4 pa5;replace BA:=bW BA hn;replace HN:=tW HN hn;clear hn;obtain ⟨⟨pa0,pa1,pa2,pa3,pa4⟩,pa5⟩:=BA.out.five;go_wp2_with fail;refine (HSG.out _).mono ?_;rintro e w3 ⟨rfl,hw⟩;rw[hw];clear hw;go_wp2_with fail;go_ret;exact ⟨rfl,HN.out⟩
 ·rw[if_neg h0];have h0b:=decide_eq_false h0;have HCC:=hid hcc;have HCK:=hid hck;have HSG:=hid hsg;have HCO:=hid hco;clear hcc hck hsg hco;go_enter Tryz.func14,Tryz.ntmps14;go_upto_region 1 with (fail);obtain ⟨BA,HN⟩:=lay1 w 24 #[.int .i64 b,.int .i64 s,.int .i64 z,.string g,.string o];obtain ⟨⟨pa0,pa1,pa2,pa3,pa4⟩,pa5⟩:=BA.out.five;go_wp2_with fail;refine (HCC.out _).mono ?_;rintro e w1 ⟨rfl,hn⟩;clear pa0 pa1 pa2 pa3 pa4 pa5;replace BA:=bW BA hn;replace HN:=tW HN hn;clear hn;obtain ⟨⟨pa0,pa1,pa2,pa3,pa4⟩,pa5⟩:=BA.out.five;go_wp2_with fail;refine (HCK.out _).mono ?_;rintro e w2 ⟨rfl,hn⟩;clear pa0 pa1 pa2 pa3 pa4 pa5;replace BA:=bW BA hn;replace HN:=tW HN hn;clear hn;obtain ⟨⟨pa0,pa1,pa2,pa3,pa4⟩,pa5⟩:=BA.out.five;go_wp2_with fail;refine (HSG.out _).mono ?_;rintro e w3 ⟨rfl,hw⟩;rw[hw];clear hw;go_wp2_with fail;refine (HCO.out _).mono ?_;rintro e w4 ⟨rfl,hn⟩;clear pa0 pa1 pa2 pa3 pa4 pa5;replace HN:=tW HN hn;clear hn;go_wp2_with fail;go_ret;exact ⟨rfl,HN.out⟩
abbrev adcV (b s z:Int)(g o:ByteArray):Value:=.agg #[.int .i64 b,.int .i64 s,.int .i64 z,.string g,.string o]
theorem adc_err (b s z:Int)(g o:ByteArray)(hgl:g.size≤100000)(hol:o.size≤100000):∃ n:Int,
  (∀ W,Env W→Calls Tryz.prog 15 #[adcV b s z g o] W (RetNew W n))∧(∀ W,Calls Tryz.prog 14 #[adcV b s z g o] W (RetNew W n))∧
  (n=0→∃ qg qo,AdcOk b s z g o qg qo):=by
 by_cases h1:outside b 8 12=true∨outside s (-20) 4=true
 ·exact ⟨3,fun W hW=>checkAdc_a b s z g o W h1,fun W=>rcheckAdc_a b s z g o W h1,fun h=>by omega⟩
 rw[not_or,Bool.not_eq_true,Bool.not_eq_true]at h1;by_cases h2:outside z 0 (2^b.toNat - 1)=true
 ·exact ⟨3,fun W hW=>checkAdc_b b s z g o W hW hgl h1.1 h1.2 3 (.inl ⟨h2,rfl⟩),fun W=>rcheckAdc_b b s z g o W hgl h1.1 h1.2 3 (.inl ⟨h2,rfl⟩),fun h=>by omega⟩
 rw[Bool.not_eq_true]at h2;by_cases h3:ratErr g.data.toList=0
 ·obtain ⟨q,hf,hg⟩:=ratText_of_err h3;refine ⟨_,fun W hW=>checkAdc_c b s z g o W hW hgl hol h1.1 h1.2 h2 q hf hg,fun W=>rcheckAdc_c b s z g o W hgl hol h1.1 h1.2 h2 q hf hg,fun h=>?_⟩;by_cases h4:q.num.sign≤0
  ·rw[if_pos h4] at h;omega
  rw[if_neg h4]at h;obtain ⟨q2,hf2,ho⟩:=ratText_of_err h;simp only[outside,Bool.or_eq_false_iff,decide_eq_false_iff_not] at h1 h2;exact ⟨q,q2,by omega,by omega,by omega,by omega,by omega,by omega,hg,hf,Int.sign_pos_iff.1 (by omega),hgl,ho,hf2,hol⟩
 ·exact ⟨_,fun W hW=>checkAdc_b b s z g o W hW hgl h1.1 h1.2 _ (.inr ⟨h2,rfl,h3⟩),fun W=>rcheckAdc_b b s z g o W hgl h1.1 h1.2 _ (.inr ⟨h2,rfl,h3⟩),fun h=>absurd h h3⟩
theorem half_inv:(1 / 2:Rat)=((2:Int):Rat)⁻¹:=by rw[Rat.div_def,Rat.one_mul];rfl
theorem int_sign (n:Int):((n:Rat)).num.sign=n.sign:=by rw[Rat.num_intCast]
theorem int_sub_sign (n t:Int):((n:Rat) - (t:Rat)).num.sign=(n - t).sign:=by
 rw[←Rat.intCast_sub,Rat.num_intCast]
theorem stepQ_pos {s:Int}(lo: -20≤s)(hi:s≤4):0 < (stepQ s).num:=by
 have key:∀ n:Nat,n < 25→0 < (stepQ ((n:Int) - 20)).num:=by decide +kernel
 have:=key (s+20).toNat (by omega)
 rwa [show (((s+20).toNat:Int) - 20)=s by omega] at this
theorem rcode_calls (b s z:Int)(g o:ByteArray)(q:Rat)(w:World)(hq:RFB 4000 q)(bl:0≤b)(bh:b≤12)(lo: -20≤s)(hi:s≤4)(zl:0≤z)(zh:z≤4095):
  Calls Tryz.prog 18 #[.agg #[.int .i64 b,.int .i64 s,.int .i64 z,.string g,.string o],.string (rs q)] w (CodePost w (rawQ s z q) (2^b.toNat - 1)):=by
 have htp:=fun W=>rtop_calls b s z g o W bl bh;obtain ⟨t,ht⟩:∃ t,(2:Int)^b.toNat - 1=t:=⟨_,rfl⟩
 have ht0:0≤t∧t≤4095:=by
  obtain ⟨n,rfl⟩:∃ n:Nat,b=(n:Int):=⟨b.toNat,by omega⟩;have h1:(2:Nat)^n≤2^12:=Nat.pow_le_pow_right (by decide) (by omega);have h2:0 < (2:Nat)^n:=Nat.pow_pos (by decide)
  have h3:(2:Int)^((n:Int)).toNat=((2^n:Nat):Int):=by rw[Int.toNat_natCast];simp
  omega
 rw[ht]at htp⊢;have hsb:=RFB.of (stepQ_fb lo hi);have hls:=fun W=>(rlsb_calls b s z g o W lo hi).mono fun e w' h=>RetS.to rfl h;have hdv:=fun W=>(rdivQ_calls 4000 41 q (stepQ s) W hq hsb (by omega) (stepQ_pos lo hi)).mono fun e w' h=>RetS.to rfl h;have hfz:=fun W=>(rfromInt_calls z W (by omega) (by omega)).mono fun e w' h=>RetS.to rfl h
 have hb1:RFB 4041 (q / stepQ s):=by rw[Rat.div_def];exact hq.mul (hsb.inv (by have:=stepQ_pos lo hi;omega))
 have hbz:RFB 13 (z:Rat):=rfb_int (by omega) (by omega);have had:=fun W=>(raddQ_calls 4041 13 (q / stepQ s) (z:Rat) W hb1 hbz (by omega)).mono fun e w' h=>RetS.to rfl h;have hb2:RFB 4055 (q / stepQ s+(z:Rat)):=hb1.add hbz;have hah:=fun W=>(raddQ_calls 4055 2 (q / stepQ s+(z:Rat)) (1 / 2) W hb2 rfb_half (by omega)).mono fun e w' h=>RetS.to rfl h;have hb3:RFB 4058 (q / stepQ s+(z:Rat)+1 / 2):=hb2.add rfb_half;have hfl:=fun W=>(rfloorQ_calls 4058 (q / stepQ s+(z:Rat)+1 / 2) W hb3 (by omega)).mono fun e w' h=>RetS.to rfl h
 have hnb:(rawQ s z q).natAbs < 2^4058:=by
  unfold rawQ;rw[←half_inv,Rat.floor_def];exact Nat.lt_of_le_of_lt (Int.natAbs_ediv_le_natAbs _ _) hb3.num
 rw[half_inv]at hfl;rw[show (q / stepQ s+(z:Rat)+((2:Int):Rat)⁻¹).floor=rawQ s z q from rfl,←half_inv] at hfl;obtain ⟨n,hn⟩:∃ n,rawQ s z q=n:=⟨_,rfl⟩;rw[hn] at hfl hnb⊢;have hnR:RFB 4058 (n:Rat):=rfb_int hnb (by omega);have hsg:=fun W=>rsign_calls (n:Rat) W;simp only[int_sign] at hsg;have hft:=fun W=>(rfromInt_calls t W (by omega) (by omega)).mono fun e w' h=>RetS.to rfl h;have hcm:=fun W=>rcmpQ_calls 4058 13 (n:Rat) (t:Rat) W hnR (rfb_int (by omega) (by omega)) (by omega);simp only[int_sub_sign] at hcm;have hto:=fun (m:Nat) (h:n=(m:Int)) (h2:m≤4095) W=>rtoInt_calls m W (by omega);obtain ⟨V,hV⟩:∃ V,rs q=V:=⟨_,rfl⟩;obtain ⟨L,hL⟩:∃ L,rs (stepQ s)=L:=⟨_,rfl⟩;obtain ⟨D,hD⟩:∃ D,rs (q / stepQ s)=D:=⟨_,rfl⟩;obtain ⟨Z,hZ⟩:∃ Z,rs (z:Rat)=Z:=⟨_,rfl⟩;obtain ⟨P,hP⟩:∃ P,rs (q / stepQ s+(z:Rat))=P:=⟨_,rfl⟩;obtain ⟨Q,hQ⟩:∃ Q,rs (q / stepQ s+(z:Rat)+1 / 2)=Q:=⟨_,rfl⟩;obtain ⟨N,hN⟩:∃ N,rs (n:Rat)=N:=⟨_,rfl⟩;obtain ⟨T,hT⟩:∃ T,rs (t:Rat)=T:=⟨_,rfl⟩;simp only[hL] at hls;simp only[hV,hL,hD] at hdv;simp only[hZ] at hfz;simp only[hD,hZ,hP] at had;simp only[rs_half,hP,hQ] at hah;simp only[hQ,hN] at hfl;simp only[hN] at hsg;simp only[hT] at hft;simp only[hN,hT] at hcm;rw[hV];have hres:∀ (x y:Int) W,clipC n t=(x,y)→New w W→CodePost w n t (.returned (.tuple #[.int .i64 x,.int .i64 y])) W:=fun x y W h1 h2=>⟨by rw[h1],h2⟩
 have hto2:∀ m:Nat,n=(m:Int)→m≤4095→∀ W,Calls Tryz.prog 86 #[.string N] W fun e w'=>e=.returned (.tuple #[.int .i64 (m:Int),.bool true])∧New W w':=fun m h h2 W=>by
  have:=hto m h h2 W;rw[←h,hN] at this;rw[←h];exact this
 clear hto hV hL hD hZ hP hQ hN hT hq hsb hb1 hb2 hb3 hbz hnb hnR hn ht bl bh lo hi;have HTP:=hid htp;have HLS:=hid hls;have HDV:=hid hdv;have HFZ:=hid hfz;have HAD:=hid had;have HAH:=hid hah;have HFL:=hid hfl;have HSG:=hid hsg;have HFT:=hid hft;have HCM:=hid hcm;have HRES:=hid hres;have HTO:=hid hto2;clear htp hls hdv hfz had hah hfl hsg hft hcm hres hto2;go_enter Tryz.func18,Tryz.ntmps18;go_upto_region 1 with (fail);obtain ⟨BA,HN⟩:=lay1 w 24 #[.int .i64 b,.int .i64 s,.int .i64 z,.string g,.string o];obtain ⟨⟨pa0,pa1,pa2,pa3,pa4⟩,pa5⟩:=BA.out.five;clear pa0 pa1 pa2 pa3 pa4 pa5;refine wp_region_T 10 (fun W=>W.cell? ⟨w.heap.size,0,none⟩=some (.int .i64 b)∧W.cell? ⟨w.heap.size,1,none⟩=some (.int .i64 s)∧W.cell? ⟨w.heap.size,2,none⟩=some (.int .i64 z)∧W.cell? ⟨w.heap.size,3,none⟩=some (.string g)∧W.cell? ⟨w.heap.size,4,none⟩=some (.string o)) 11 #[false,false,false,false,false,false,false,false,false,false,false] rfl (by kernel_rfl) (by kernel_rfl) ?_;refine tk 0 (by exact cW5 BA) ?_
 try simp only[PT]
 refine tk 1 (by exact cW5 BA) ?_
 try simp only[PT]
 refine tk 4 (by exact cW5 BA) ?_
 try simp only[PT]
 refine tk 5 (by exact cW5 BA) ?_
 try simp only[PT]
 refine tk1 2 fun K hK=>?_;go_simp;refine (HLS.out _).mono ?_;rintro e w1 ⟨rfl,hn⟩;have hn:=hn.undr;replace BA:=bW BA hn;replace HN:=tW HN hn;clear hn;refine hK.out _ _ (fun _=>cW5 BA) ?_;clear hK K
 try simp only[PT]
 refine tk1 3 fun K hK=>?_;go_simp;refine (HDV.out _).mono ?_;rintro e w2 ⟨rfl,hn⟩;replace BA:=bW BA hn;replace HN:=tW HN hn;clear hn;refine hK.out _ _ (fun _=>cW5 BA) ?_;clear hK K
 try simp only[PT]
 refine tk1 6 fun K hK=>?_;go_simp;refine (HFZ.out _).mono ?_;rintro e w3 ⟨rfl,hn⟩;replace BA:=bW BA hn;replace HN:=tW HN hn;clear hn;refine hK.out _ _ (fun _=>cW5 BA) ?_;clear hK K
 try simp only[PT]
 refine tk1 7 fun K hK=>?_;go_simp;refine (HAD.out _).mono ?_;rintro e w4 ⟨rfl,hn⟩;replace BA:=bW BA hn;replace HN:=tW HN hn;clear hn;refine hK.out _ _ (fun _=>cW5 BA) ?_;clear hK K
 try simp only[PT]
 refine tk1 8 fun K hK=>?_;go_simp;refine (HAH.out _).mono ?_;rintro e w5 ⟨rfl,hn⟩;replace BA:=bW BA hn;replace HN:=tW HN hn;clear hn;refine hK.out _ _ (fun _=>cW5 BA) ?_;clear hK K
 try simp only[PT]
 refine tk1 9 fun K hK=>?_;go_simp;refine (HFL.out _).mono ?_;rintro e w6 ⟨rfl,hn⟩;replace BA:=bW BA hn;replace HN:=tW HN hn;clear hn;refine hK.out _ _ (fun _=>cW5 BA) ?_;clear hK K
 try simp only[PT]
 refine tlW ?_;obtain ⟨⟨pa0,pa1,pa2,pa3,pa4⟩,pa5⟩:=BA.out.five;go_wp2_with fail;refine (HSG.out _).mono ?_;rintro e w7 ⟨rfl,hw⟩;rw[hw];clear hw;by_cases hn0:n < 0
 ·have hs:n.sign < 0:=by rw[Int.sign_eq_neg_one_of_neg hn0];omega
  have hcl:clipC n t=(0, -1):=by unfold clipC;rw[if_pos hn0]
  obtain ⟨sg,hsg⟩:∃ sg,n.sign=sg:=⟨_,rfl⟩;rw[hsg] at hs⊢;have hsb:=decide_eq_true hs;clear hn0 hsg ht0;have HCL:=hid hcl;clear hcl;go_wp2_with fail;go_ret2;exact HRES.out _ _ _ HCL.out HN.out
 ·have hs:¬n.sign < 0:=by
   intro h;exact hn0 (Int.sign_neg_iff.1 h)
  obtain ⟨sg,hsg⟩:∃ sg,n.sign=sg:=⟨_,rfl⟩;rw[hsg] at hs⊢;have hsb:=decide_eq_false hs;clear hsg;have HT0:=hid ht0;have HN0:=hid hn0;clear ht0 hn0;go_wp2_with fail;refine (HTP.out _).mono ?_;rintro e w8 ⟨rfl,hn⟩;clear hs hsb;clear pa0 pa1 pa2 pa3 pa4 pa5;replace BA:=bW BA hn;replace HN:=tW HN hn;clear hn;go_wp2_with fail;refine (HFT.out _).mono ?_;rintro e w9 ⟨rfl,hn⟩;replace BA:=bW BA hn;replace HN:=tW HN hn;clear hn;go_wp2_with fail;refine (HCM.out _).mono ?_;rintro e w10 ⟨rfl,hn⟩;replace BA:=bW BA hn;replace HN:=tW HN hn;clear hn;obtain ⟨⟨pa0,pa1,pa2,pa3,pa4⟩,pa5⟩:=BA.out.five;by_cases hnt:t < n
  ·have hs:0 < (n - t).sign:=by rw[Int.sign_eq_one_of_pos (by omega)];omega
   have hcl:clipC n t=(t,1):=by unfold clipC;rw[if_neg (Int.not_lt.2 (Int.not_lt.1 (by have:=HN0.out;omega))),if_pos hnt]
   obtain ⟨sg,hsg⟩:∃ sg,(n - t).sign=sg:=⟨_,rfl⟩;rw[hsg] at hs⊢;have hsb:=decide_eq_true hs;clear hnt hsg;have HCL:=hid hcl;clear hcl;go_wp2_with fail;refine (HTP.out _).mono ?_;rintro e w11 ⟨rfl,hn⟩;clear pa0 pa1 pa2 pa3 pa4 pa5;replace BA:=bW BA hn;replace HN:=tW HN hn;clear hn;go_wp2_with fail;go_ret2;exact HRES.out _ _ _ HCL.out HN.out
  ·have hs:¬0 < (n - t).sign:=by
    intro h;have:=Int.sign_pos_iff.1 h;omega
   have hcl:clipC n t=(n,0):=by unfold clipC;rw[if_neg (Int.not_lt.2 (Int.not_lt.1 (by have:=HN0.out;omega))),if_neg hnt]
   obtain ⟨m,hm⟩:∃ m:Nat,n=(m:Int):=⟨n.toNat,by have:=HN0.out;omega⟩;have hti:=HTO.out m hm (by have:=HT0.out;omega);rw[←hm] at hti;obtain ⟨sg,hsg⟩:∃ sg,(n - t).sign=sg:=⟨_,rfl⟩;rw[hsg] at hs⊢;have hsb:=decide_eq_false hs;clear hnt hsg hm;have HCL:=hid hcl;have HTI:=hid hti;clear hcl hti;go_wp2_with fail;refine (HTI.out _).mono ?_;rintro e w11 ⟨rfl,hn⟩;clear pa0 pa1 pa2 pa3 pa4 pa5;replace BA:=bW BA hn;replace HN:=tW HN hn;clear hn;go_wp2_with fail;go_ret2;exact HRES.out _ _ _ HCL.out HN.out
end Go.Proofs.YtbkcjmojgglbkaaGreatDoor
