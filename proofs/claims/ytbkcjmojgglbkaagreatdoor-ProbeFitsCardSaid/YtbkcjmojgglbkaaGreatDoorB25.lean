/- Part B25. -/
import Derived.Deep.DeepCutAuto
import Derived.OpenShut
import Derived.WideShapes
import Derived.Deep.Slices
import Derived.Laws.Cover2
import Derived.Carry
import Derived.RowKit
import Derived.Lay
import Derived.Shelf.Vars
import Derived.Stop.LaidErr
import Derived.Stop.Joined
import Derived.LaidMore
import Derived.ProofKit
import Derived.Lib.SmallJoins
import Derived.Test.YtbkcjmojgglbkaaGreatDoorTie
import Derived.Test.YtbkcjmojgglbkaaGreatDoorCards
import Derived.Test.YtbkcjmojgglbkaaGreatDoorB24
namespace Go.Proofs.YtbkcjmojgglbkaaGreatDoor
open Go.RowKit Big Go.ChangeShapes Go.WideShapes Go.Deep
open Go.Lib (hid)
set_option maxRecDepth 100000
set_option maxHeartbeats 8000000
theorem awake_calls (w:World)(he:Env w):Calls Tryz.prog 10 #[] w fun e w'=>e=.returned (.bool true)∧New w w':=by
 have HE:=hid he;clear he;go_enter Tryz.func10,Tryz.ntmps10;go_wp2_with fail;refine (sample_calls _).mono ?_;rintro e w1 ⟨rfl,hn⟩;have HSZ:=hid hn.size;have HN:=hid hn;clear hn;go_wp2_with fail;have HN0:=HN;clear HN;obtain ⟨BA,HN⟩:=lay1 w1 32 #[.int .i64 8,.int .i64 (-3),.int .i64 128,.string ⟨#[49]⟩,.string ⟨#[48]⟩];have HN_:=HN0.out.trans HN.out;clear HN HN0;have HN:=hid HN_;clear HN_;refine (full_aw _ (HE.out.new HN.out)).mono ?_;rintro e w2 ⟨rfl,hn⟩;replace BA:=bW BA hn;replace HN:=tW HN hn;clear hn;obtain ⟨⟨pa0,pa1,pa2,pa3,pa4⟩,pa5⟩:=BA.out.five;go_wp2_with fail;clear pa0 pa1 pa2 pa3 pa4 pa5;have HN0:=HN;clear HN;obtain ⟨BF,HN⟩:=lay1 w2 28 #[.string ⟨#[45,49,54]⟩,.string ⟨#[49,50,55,47,56]⟩];replace BA:=hid (BA.out.new HN.out);have HN_:=HN0.out.trans HN.out;clear HN HN0;have HN:=hid HN_;clear HN_;refine (code_aw _ (HE.out.new HN.out)).mono ?_;rintro e w3 ⟨rfl,hn⟩;replace BA:=bW BA hn;replace BF:=bW BF hn;replace HN:=tW HN hn;clear hn;obtain ⟨⟨pa0,pa1,pa2,pa3,pa4⟩,pa5⟩:=BA.out.five;go_wp2_with fail;clear pa0 pa1 pa2 pa3 pa4 pa5;refine (volts_aw _ (HE.out.new HN.out)).mono ?_;rintro e w4 ⟨rfl,hn⟩;replace BA:=bW BA hn;replace BF:=bW BF hn;replace HN:=tW HN hn;clear hn;obtain ⟨⟨pa0,pa1,pa2,pa3,pa4⟩,pa5⟩:=BA.out.five;go_wp2_with fail;clear pa0 pa1 pa2 pa3 pa4 pa5;have HN0:=HN;clear HN;obtain ⟨BV,HN⟩:=lay1 w4 22 #[.string ⟨#[45,50,48]⟩,.string ⟨#[48]⟩,.string ⟨#[49,47,49,48]⟩,.string ⟨#[50,48]⟩,.string ⟨#[51,48]⟩];replace BA:=hid (BA.out.new HN.out);replace BF:=hid (BF.out.new HN.out);have HN_:=HN0.out.trans HN.out;clear HN HN0;have HN:=hid HN_;clear HN_;refine (sampled_aw _ (HE.out.new HN.out) _ _ BV.out.rdl).mono ?_;intro e w5 h;obtain ⟨a5,c5,rfl,hn,hr5⟩:=h.rd 5 rfl;clear h;replace BA:=bW BA hn;replace BF:=bW BF hn;replace HN:=tW HN hn;clear hn;clear BV;have HR5:=hid hr5;clear hr5;obtain ⟨⟨pa0,pa1,pa2,pa3,pa4⟩,pa5⟩:=BA.out.five;go_wp2_with fail;clear pa0 pa1 pa2 pa3 pa4 pa5;refine (codes_aw _ (HE.out.new HN.out) _ _ HR5.out).mono ?_;intro e w6 h;obtain ⟨a6,c6,rfl,hn,hr6⟩:=h.rd 5 rfl;clear h;replace BA:=bW BA hn;replace BF:=bW BF hn;replace HR5:=hid (HR5.out.new hn);replace HN:=tW HN hn;clear hn;have HR6:=hid hr6;clear hr6;obtain ⟨⟨pa0,pa1,pa2,pa3,pa4⟩,pa5⟩:=BA.out.five;go_wp2_with fail;clear pa0 pa1 pa2 pa3 pa4 pa5;refine (clipped_aw _ (HE.out.new HN.out) _ _ HR5.out).mono ?_;intro e w7 h;obtain ⟨a7,c7,rfl,hn,hr7⟩:=h.rd;clear h;replace BA:=bW BA hn;replace BF:=bW BF hn;replace HR6:=hid (HR6.out.new hn);replace HN:=tW HN hn;clear hn;have HR7:=hid hr7;clear hr7;obtain ⟨⟨pa0,pa1,pa2,pa3,pa4⟩,pa5⟩:=BA.out.five;go_wp2_with fail;clear pa0 pa1 pa2 pa3 pa4 pa5;refine (cal_aw _ (HE.out.new HN.out)).mono ?_;rintro e w8 ⟨rfl,hn⟩;replace BA:=bW BA hn;replace BF:=bW BF hn;replace HR6:=hid (HR6.out.new hn);replace HR7:=hid (HR7.out.new hn);replace HN:=tW HN hn;clear hn;obtain ⟨pf0,pf1,pf2,pf3,pf4⟩:=BF.out.two;have hns:=fun W=>neq_span ⟨#[45,49,54]⟩ ⟨#[49,50,55,47,56]⟩ W
 have hfo:FloatKind.f32.format.order 1048576000 1048576000=some Ordering.eq:=by decide +kernel
 go_wp2_with fail;clear hfo hns;clear pf0 pf1 pf2 pf3 pf4;have HN0:=HN;clear HN;obtain ⟨BC,BI,HN⟩:=lay2 w8 32 #[.int .i64 8,.int .i64 (-3),.int .i64 128,.string ⟨#[50]⟩,.string ⟨#[49,47,50]⟩] 3 #[.int .i64 0,.int .i64 128,.int .i64 129,.int .i64 255,.int .i64 255];replace BA:=hid (BA.out.new HN.out);replace HR6:=hid (HR6.out.new HN.out);replace HR7:=hid (HR7.out.new HN.out);have HN_:=HN0.out.trans HN.out;clear HN HN0;have HN:=hid HN_;clear HN_;clear BF;refine (same_ints a6 (some ⟨w8.heap.size+1,0,none⟩) c6 5 [0,128,129,255,255] [0,128,129,255,255] _ (by decide) rfl HR6.out BI.out.rdl (by intro k h h';simp)).mono ?_;rintro e w9 ⟨rfl,hn⟩;clear HR6 BI;replace BA:=bW BA hn;replace BC:=bW BC hn;replace HR7:=hid (HR7.out.new hn);replace HN:=tW HN hn;clear hn;go_wp2_with fail;have HN0:=HN;clear HN;obtain ⟨BP,HN⟩:=lay1 w9 95 #[.int .i64 0,.int .i64 1,.int .i64 3,.int .i64 5];replace BA:=hid (BA.out.new HN.out);replace BC:=hid (BC.out.new HN.out);replace HR7:=hid (HR7.out.new HN.out);have HN_:=HN0.out.trans HN.out;clear HN HN0;have HN:=hid HN_;clear HN_;refine (same_pairs a7 (some ⟨w9.heap.size,0,none⟩) c7 2 [(0,1),(3,5)] _ (by decide) HR7.out BP.out.rdl).mono ?_;rintro e w10 ⟨rfl,hn⟩;clear HR7 BP;replace BA:=bW BA hn;replace BC:=bW BC hn;replace HN:=tW HN hn;clear hn;obtain ⟨⟨pa0,pa1,pa2,pa3,pa4⟩,pa5⟩:=BA.out.five;obtain ⟨⟨pc0,pc1,pc2,pc3,pc4⟩,pc5⟩:=BC.out.five;have fz3:=BA.out.frozen 3;have fz4:=BA.out.frozen 4;go_wp2_with fail;clear fz3 fz4;clear pa0 pa1 pa2 pa3 pa4 pa5;clear pc0 pc1 pc2 pc3 pc4 pc5;clear BC;have BA2_:Box ((w10.setCell ⟨w1.heap.size,3,none⟩ (.string ⟨#[50]⟩)).setCell ⟨w1.heap.size,4,none⟩ (.string ⟨#[49]⟩)) w1.heap.size 32 #[.int .i64 8,.int .i64 (-3),.int .i64 128,.string ⟨#[50]⟩,.string ⟨#[49]⟩]:=(BA.out.set 3 _).set 4 _;have HN_:=(HN.out.setCell (p:=⟨w1.heap.size,3,none⟩) HSZ.out (.string ⟨#[50]⟩)).setCell (p:=⟨w1.heap.size,4,none⟩) HSZ.out (.string ⟨#[49]⟩);clear BA HN;have BA:=hid BA2_;have HN:=hid HN_;clear BA2_ HN_;refine (true_aw _ (HE.out.new HN.out)).mono ?_;rintro e w11 ⟨rfl,hn⟩;replace BA:=bW BA hn;replace HN:=tW HN hn;clear hn;obtain ⟨⟨pa0,pa1,pa2,pa3,pa4⟩,pa5⟩:=BA.out.five;go_wp2_with fail;clear pa0 pa1 pa2 pa3 pa4 pa5;have HN0:=HN;clear HN;obtain ⟨BT,HN⟩:=lay1 w11 28 #[.string ⟨#[57,47,56]⟩,.string ⟨#[49,49,47,56]⟩];replace BA:=hid (BA.out.new HN.out);have HN_:=HN0.out.trans HN.out;clear HN HN0;have HN:=hid HN_;clear HN_;refine (interval_aw _ (HE.out.new HN.out)).mono ?_;rintro e w12 ⟨rfl,hn⟩;clear BA;replace BT:=bW BT hn;replace HN:=tW HN hn;clear hn;go_wp2_with fail;have HN0:=HN;clear HN;obtain ⟨BE,BS,HN⟩:=lay2 w12 28 #[.string ⟨#[]⟩,.string ⟨#[]⟩] 35 #[.float .f32 0,.float .f32 1065353216,.float .f32 1056964608,.float .f32 0,.float .f32 1056964608,.float .f32 1065353216];replace BT:=hid (BT.out.new HN.out);have HN_:=HN0.out.trans HN.out;clear HN HN0;have HN:=hid HN_;clear HN_;refine (dig_aw _ _ _ BS.out.rdl).mono ?_;intro e w13 h;obtain ⟨a13,c13,rfl,hn,hr13⟩:=h.rd 6 rfl;clear h BE BS;replace BT:=bW BT hn;replace HN:=tW HN hn;clear hn;have HR13:=hid hr13;clear hr13;go_wp2_with fail;refine (chg_aw _ _ _ HR13.out).mono ?_;intro e w14 h;obtain ⟨a14,c14,rfl,hn,hr14⟩:=h.rd 3 rfl;clear h HR13;replace BT:=bW BT hn;replace HN:=tW HN hn;clear hn;have HR14:=hid hr14;clear hr14;go_wp2_with fail;have HN0:=HN;clear HN;obtain ⟨B1,B2,BL,HN⟩:=lay3 w14 4 #[.bool true,.bool false,.bool true] 4 #[.bool true,.bool true,.bool false] 96 #[.slice (some ⟨w14.heap.size,0,none⟩) 3 3,.slice (some ⟨w14.heap.size+1,0,none⟩) 3 3];replace BT:=hid (BT.out.new HN.out);replace HR14:=hid (HR14.out.new HN.out);have HN_:=HN0.out.trans HN.out;clear HN HN0;have HN:=hid HN_;clear HN_;refine (words_aw _ (w14.heap.size+1+1) 2 _ (rdll_two BL.out.rdl B1.out.rdl B2.out.rdl (by decide) (by decide))).mono ?_;intro e w15 h;obtain ⟨a15,c15,rfl,hn,hr15⟩:=h.rd 3 rfl;clear h B1 B2 BL;replace BT:=bW BT hn;replace HR14:=hid (HR14.out.new hn);replace HN:=tW HN hn;clear hn;have HR15:=hid hr15;clear hr15;go_wp2_with fail;refine (blocks_aw _ _ _ HR15.out).mono ?_;intro e w16 h;obtain ⟨a16,c16,rfl,hn,hr16⟩:=h.rd;clear h;replace BT:=bW BT hn;replace HR14:=hid (HR14.out.new hn);replace HR15:=hid (HR15.out.new hn);replace HN:=tW HN hn;clear hn;have HR16:=hid hr16;clear hr16;go_wp2_with fail;have HN0:=HN;clear HN;have B1:=hid ((Box.alloc w16 (w16.heap.size) 35 #[.float .f32 1065353216,.float .f32 1073741824,.float .f32 1077936128,.float .f32 1082130432] (by simp)).new ((((New.refl _).alloc (.cells #[.float .f32 1073741824,.float .f32 1077936128,.float .f32 1082130432] 35)).alloc (.cells #[.slice (some ⟨w16.heap.size,0,none⟩) 4 4,.slice (some ⟨w16.heap.size+1,0,none⟩) 3 3] 52)).alloc (.cells #[.int .i64 1,.int .i64 0] 3)));have B2:=hid ((Box.alloc (w16.alloc (.cells #[.float .f32 1065353216,.float .f32 1073741824,.float .f32 1077936128,.float .f32 1082130432] 35)) (w16.heap.size+1) 35 #[.float .f32 1073741824,.float .f32 1077936128,.float .f32 1082130432] (by simp)).new (((New.refl _).alloc (.cells #[.slice (some ⟨w16.heap.size,0,none⟩) 4 4,.slice (some ⟨w16.heap.size+1,0,none⟩) 3 3] 52)).alloc (.cells #[.int .i64 1,.int .i64 0] 3)));have BL:=hid ((Box.alloc ((w16.alloc (.cells #[.float .f32 1065353216,.float .f32 1073741824,.float .f32 1077936128,.float .f32 1082130432] 35)).alloc (.cells #[.float .f32 1073741824,.float .f32 1077936128,.float .f32 1082130432] 35)) (w16.heap.size+1+1) 52 #[.slice (some ⟨w16.heap.size,0,none⟩) 4 4,.slice (some ⟨w16.heap.size+1,0,none⟩) 3 3] (by simp)).new ((New.refl _).alloc (.cells #[.int .i64 1,.int .i64 0] 3)));have BI:=hid ((Box.alloc (((w16.alloc (.cells #[.float .f32 1065353216,.float .f32 1073741824,.float .f32 1077936128,.float .f32 1082130432] 35)).alloc (.cells #[.float .f32 1073741824,.float .f32 1077936128,.float .f32 1082130432] 35)).alloc (.cells #[.slice (some ⟨w16.heap.size,0,none⟩) 4 4,.slice (some ⟨w16.heap.size+1,0,none⟩) 3 3] 52)) (w16.heap.size+1+1+1) 3 #[.int .i64 1,.int .i64 0] (by simp)).new (New.refl _));have HN:=hid (((((New.refl w16).alloc (.cells #[.float .f32 1065353216,.float .f32 1073741824,.float .f32 1077936128,.float .f32 1082130432] 35)).alloc (.cells #[.float .f32 1073741824,.float .f32 1077936128,.float .f32 1082130432] 35)).alloc (.cells #[.slice (some ⟨w16.heap.size,0,none⟩) 4 4,.slice (some ⟨w16.heap.size+1,0,none⟩) 3 3] 52)).alloc (.cells #[.int .i64 1,.int .i64 0] 3));replace BT:=hid (BT.out.new HN.out);replace HR14:=hid (HR14.out.new HN.out);replace HR15:=hid (HR15.out.new HN.out);replace HR16:=hid (HR16.out.new HN.out);have HN_:=HN0.out.trans HN.out;clear HN HN0;have HN:=hid HN_;clear HN_;refine (al_aw _ _ _ 2 2 _ (rdll_two BL.out.rdl B1.out.rdl B2.out.rdl (by decide) (by decide)) BI.out.rdl).mono ?_;rintro e w17 ⟨v17,rfl,hn,hrows⟩;obtain ⟨a17,c17,vs17,rfl,hr17⟩:=hrows.rdll;clear hrows B1 B2 BL BI;replace BT:=bW BT hn;replace HR14:=hid (HR14.out.new hn);replace HR15:=hid (HR15.out.new hn);replace HR16:=hid (HR16.out.new hn);replace HN:=tW HN hn;clear hn;have HR17:=hid hr17;clear hr17;go_wp2_with fail;refine (block_aw2 _ _ _).mono ?_;rintro e w18 ⟨rfl,hn⟩;replace BT:=bW BT hn;replace HR14:=hid (HR14.out.new hn);replace HR15:=hid (HR15.out.new hn);replace HR16:=hid (HR16.out.new hn);replace HR17:=hid (HR17.out.new hn);replace HN:=tW HN hn;clear hn;obtain ⟨b16,o16,rfl,h0,h1,h2,h3,h4,h5,h6,h7,h8,h9,h10,h11,h12,h13,h14,h15⟩:=rd_block HR16.out;obtain ⟨b17,o17,a1,d1,a2,d2,rfl,hp1,hp2,hq1,hq2⟩:=HR17.out.two;have HS_:AwS w18 w11.heap.size b16 o16 b17 o17 a1 a2 d1 d2:=⟨BT.out.cell 0,BT.out.cell 1,h0,h1,h2,h3,h4,h5,h6,h7,h8,h9,h10,h11,h12,h13,h14,h15,hp1,hp2⟩;clear HR16 HR17 BT h0 h1 h2 h3 h4 h5 h6 h7 h8 h9 h10 h11 h12 h13 h14 h15 hp1 hp2;have HQ1:=hid hq1;have HQ2:=hid hq2;have HS:=hid HS_;clear hq1 hq2 HS_;go_upto_region 20 with (fail);have HN0:=HN;clear HN;obtain ⟨BK,HN⟩:=lay1 w18 113 #[.int .u16 0,.int .u16 0,.int .u16 0,.int .u16 0,.int .u16 0,.int .u16 0,.int .u16 0,.int .u16 0,.int .u16 0,.int .u16 0,.int .u16 0,.int .u16 0,.int .u16 0,.int .u16 0,.int .u16 0,.int .u16 0];replace HR14:=hid (HR14.out.new HN.out);replace HR15:=hid (HR15.out.new HN.out);replace HQ1:=hid (HQ1.out.new HN.out);replace HQ2:=hid (HQ2.out.new HN.out);replace HS:=hid (HS.out.new HN.out);have HN_:=HN0.out.trans HN.out;clear HN HN0;have HN:=hid HN_;clear HN_;refine awake_tail w _ _ w11.heap.size b16 o16 b17 o17 c14 c15 c16 c17 d1 d2 a14 a15 a1 a2 HN HR14 HR15 HQ1 HQ2 HS ?_ _ ?_
 ·exact ⟨rfl,rfl,rfl,rfl,rfl,rfl,rfl,rfl,rfl,rfl,rfl,rfl,rfl,rfl,rfl,trivial⟩
 ·assumption
section
variable {H:Type} {enc:TypeId × Value→H} {P:Program} {w:World} {base:Nat} {sp:Nat→Bool} {held:Bool}
theorem trod_int' {t:TypeId}{k:IntKind}{fuel:Nat}{v:Value}{y:DataW H × List MemPlace}(ht:P.underlying t=some (.int k))(h:DataW.trod enc P w base sp held fuel t [v]=some y):∃ n,v=.int k n∧(Lit.int k n).wf=true:=by
 obtain ⟨n,h1,_,hw⟩:=DataW.trod_int ht h;exact ⟨n,by simpa using h1,hw⟩
end
theorem returns_and_shaped {H:Type} {enc:TypeId × Value→H} {a:Assume} {C:Checked} {os:Os} {f:FuncId} {fn:Func} {s:ChangeSpec} {conds:List PathCond} {apart fresh handsOn again:Bool} {X:World→Array Value→Prop}
  (hX:∀ (w w':World) (args:Array Value),w.heap=w'.heap→X w args→X w' args)
  (own:ownKnob C.prog.godebug=none) (started:os.Started) (noInit:C.prog.inits.idxOf? f=none) (hfn:C.prog.funcs[f]?=some fn)
  (witness:∃ (w:World) (tape:Tape) (i:Input),w.os=os∧(w.forCall tape i).Shaped C.prog∧i.vars=[]∧Input.okWide C.prog (w.forCall tape i) .any w.heap.size f i∧
   ((s.pre enc C.prog fn conds apart (w.forCall tape i).memory i.args∧X (w.forCall tape i).memory i.args)∧sizedMet enc C.prog fn (OpenSpec.ofChange s) apart (w.forCall tape i).memory i.args)∧a.holds C.prog (lone (Frame.enter C.prog f i.args .normal) [] (w.forCall tape i)))
  (contract:∀ (W:World) (base:Nat) (args:Array Value) (ds gs:List (DataW H)) (before:List MemPlace),
   (∀ (j:Nat) t v,fn.params[j]?=some t→args[j]?=some v→Value.okWide C.prog W .any base t v)→
   DataW.Whole enc C.prog fn.params.toList s.vars apart W args.toList ds gs before→X W args→W.ShapedOpen C.prog→
   Calls C.prog f args W fun e W'=>∃ v,e=.returned v∧s.post enc C.prog fn apart fresh handsOn again W args v W'):
  ReturnsInHanded a C os f .any (fun w args=>(s.pre enc C.prog fn conds apart w args∧X w args)∧sizedMet enc C.prog fn (OpenSpec.ofChange s) apart w args) (s.post enc C.prog fn apart fresh handsOn again):=by
 refine returnsInHanded_of_calls own started noInit witness ?_;intro w tape i _ hsh _ hok hpre _;obtain ⟨_,_,_,fn',hfn',_,_,_,_,hval⟩:=hok;have e:fn'=fn:=Option.some.inj (hfn'.symm.trans hfn);subst e;obtain ⟨⟨⟨ds,gs,before,hw,_⟩,hx⟩,_⟩:=hpre;have hw':=DataW.Whole.of_heap (w':=w.forCall tape i) (by rfl) hw;refine (contract (w.forCall tape i) w.heap.size i.args ds gs before hval hw' (hX _ _ _ (by rfl) hx) hsh).mono fun e W' ⟨v,he,hp⟩=>?_;subst he;exact ChangeSpec.post_blind hp
theorem own:ownKnob Tryz.prog.godebug=none:=by kernel_rfl
theorem laidOut:laidOutB Tryz.prog=true:=by kernel_rfl
noncomputable def Listed:List (String × DataW Unit):=Rows.probeCodesRow.laid
theorem env_of {W:World}(h:laidMetH Tryz.prog Listed W)(hsh:W.ShapedOpen Tryz.prog):Env W:=by
 refine ⟨cell_of_shapedOpen_int hsh (g:=1) (t:=3) (zero:=#[.int .i64 0]) (of_decide_eq_true (by kernel_rfl)) (by kernel_rfl) rfl (by kernel_rfl) (by kernel_rfl) Tryz.underlying3,?_⟩;rw[MakeChecks.laidMetH_plain _ _ _ (by kernel_rfl)] at h
 have h2 : laidMet Tryz.prog (("internal/strconv.uint64pow10", Rows.laid_internal_strconv_uint64pow10) :: Listed.drop 3) W := h.tail.tail
 have e:(Rows.laid_internal_strconv_uint64pow10:DataW Unit)=Lib.tabData .u64 Lib.pow10Tab:=by kernel_rfl
 rw[e]at h2;exact Lib.tabIs_of_head (g:=6) (t:=299) (e:=221) (n:=20) (by kernel_rfl) (by kernel_rfl) Tryz.underlying299 Tryz.underlying221 (by kernel_rfl) (by kernel_rfl) h2
theorem witness_laid (os:Os)(args:Array Value):laidMetH Tryz.prog Listed ((World.laidAll Tryz.prog os Listed).forCall (fun _ _=>0) ⟨#[],args,[]⟩).memory:=by
 rw[MakeChecks.laidMetH_plain _ _ _ (by kernel_rfl)];exact laidMet_laidAll _ (by kernel_rfl) (by kernel_rfl)
abbrev B9:Nat:=1000000000
def SlM (v:Value)(a:Option Addr)(n cap:Nat):Prop:=v=.slice a n cap∧n≤cap∧cap≤maxLen∧(a=none→cap=0)
def DgN (w:World)(v:Value)(n:Nat)(f:Nat→Nat):Prop:=∃ a cap,SlM v a n cap∧Rd w a .i64 n f∧∀ i,i < n→f i < B9
def Dg (w:World)(v:Value)(n:Nat)(f:Nat→Nat):Prop:=DgN w v n f∧(n≠0→f (n - 1)≠0)
theorem DgN.new {w w':World}{v:Value}{n:Nat}{f:Nat→Nat}(h:DgN w v n f)(hn:New w w'):DgN w' v n f:=by
 obtain ⟨a,cap,h1,h2,h3⟩:=h;exact ⟨a,cap,h1,h2.new hn,h3⟩
theorem Dg.new {w w':World}{v:Value}{n:Nat}{f:Nat→Nat}(h:Dg w v n f)(hn:New w w'):Dg w' v n f:=⟨h.1.new hn,h.2⟩
theorem Dg.canon {w:World}{v:Value}{n:Nat}{f:Nat→Nat}(h:Dg w v n f):Canon B9 f n:=by
 obtain ⟨⟨a,cap,h1,h2,h3⟩,h4⟩:=h;exact ⟨h3,h4⟩
theorem DgN.lt {w:World}{v:Value}{n:Nat}{f:Nat→Nat}(h:DgN w v n f):∀ i,i < n→f i < B9:=by
 obtain ⟨a,cap,h1,h2,h3⟩:=h;exact h3
def lenOf:Value→Nat
 | .slice _ n _=>n
 | _=>0
def ds (o:Nat→Nat)(k:Nat):List Value:=(List.range k).map fun i=>.int .i64 ((o i:Nat):Int)
theorem ds_len (o:Nat→Nat)(k:Nat):(ds o k).length=k:=by simp[ds]
theorem ds_snoc (o:Nat→Nat)(k y:Nat):ds (upd o k y) (k+1)=ds o k ++ [.int .i64 ((y:Nat):Int)]:=by
 unfold ds;rw[List.range_succ,List.map_append];congr 1
 ·refine List.map_congr_left fun i hi=>?_;rw[upd_other _ _ (by have:=List.mem_range.1 hi;omega)]
 ·simp[upd_same]
theorem ds_cell (o:Nat→Nat)(k:Nat):∀ u∈ds o k,u.oneCell'=true:=by intro u hu;simp[ds] at hu;obtain ⟨x, -,rfl⟩:=hu;rfl
theorem rdl_ds {w:World}{a:Option Addr}{o:Nat→Nat}{n:Nat}(h:RdL w a (ds o n)):Rd w a .i64 n o:=fun i hi=>by
 obtain ⟨b,off,e,hc⟩:=h i (by rw[ds_len];exact hi);exact ⟨b,off,e,by rw[hc];simp[ds]⟩
theorem rd_ds {w:World}{a:Option Addr}{o:Nat→Nat}{n:Nat}(h:Rd w a .i64 n o):RdL w a (ds o n):=fun i hi=>by
 rw[ds_len]at hi;obtain ⟨b,off,e,hc⟩:=h i hi;exact ⟨b,off,e,by rw[hc];simp[ds]⟩
theorem own_sl {w:World}{base n:Nat}{t:TypeId}{v:Value}{o:Nat→Nat}(h:w.ownsRow base t 1 v n (ds o n)):∃ a cap,SlM v a n cap∧Rd w a .i64 n o:=by
 obtain ⟨a,cap,e,hr, -⟩:=own_rd h;refine ⟨a,cap,?_,rdl_ds hr⟩;rcases h.2 with ⟨e2,rfl⟩ | ⟨g,cap2,cur,e2,hb,hc,h2,h3,h4,h5⟩
 ·rw[e] at e2;injection e2 with e3 e4 e5;exact ⟨e,by omega,by rw[e5];exact Nat.zero_le _,fun _=>e5⟩
 ·rw[e] at e2;injection e2 with e3 e4 e5;exact ⟨e,by omega,by omega,fun h=>by rw[h] at e3;cases e3⟩
theorem own_dgn {w:World}{base n:Nat}{t:TypeId}{v:Value}{o:Nat→Nat}(h:w.ownsRow base t 1 v n (ds o n))(hl:∀ i,i < n→o i < B9):DgN w v n o:=by
 obtain ⟨a,cap,h1,h2⟩:=own_sl h;exact ⟨a,cap,h1,h2,hl⟩
def RTrimPost (w:World)(a:Option Addr)(cap len:Nat)(f:Nat→Nat)(e:Ending)(w':World):Prop:=
 w=w'∧∃ n,e=.returned (.slice a n cap)∧n≤len∧(∀ i,n≤i→i < len→f i=0)∧(n=0∨f (n - 1)≠0)
theorem rtrim_any (a:Option Addr)(len cap:Nat)(f:Nat→Nat)(w:World)(hl:len≤cap)(hcap:cap≤maxLen)(hr:Rd w a .i64 len f):
  Calls Tryz.prog 189 #[.slice a len cap] w (RTrimPost w a cap len f):=by
 have hcap':cap≤9223372036854775807:=hcap
 have h0:(0:Int)≤(len:Int):=by omega
 clear hcap;go_enter Tryz.func189,Tryz.ntmps189;go_wp2
 go_loop [0] (fun v=>∃ k:Nat,k≤len∧v=.slice a k cap∧∀ i,k≤i→i < len→f i=0) (fun v=>lenOf v)
 case atStart=>exact ⟨len,Nat.le_refl _,rfl,fun i h1 h2=>by omega⟩
 case round=>
  obtain ⟨k,hk,rfl,hz⟩:=hrel;have HZ:=hid hz;clear hz;by_cases hk0:0 < k
  ·obtain ⟨b,off,rfl,hcell⟩:=hr (k - 1) (by omega);clear hr;go_wp2
   ·have hz:((f (k - 1):Int)==0)=true:=by assumption
    have hz':f (k - 1)=0:=by simp at hz;omega
    go_round
    case rel=>exact ⟨k - 1,by omega,by go_num,fun i h1 h2=>by
     by_cases e:i=k - 1
     ·rw[e];exact hz'
     ·exact HZ.out i (by omega) h2⟩
    case measure=>simp[lenOf];omega
   ·have hz:((f (k - 1):Int)==0)=false:=by assumption
    have hz':f (k - 1)≠0:=by intro e;rw[e] at hz;simp at hz
    go_ret;exact ⟨rfl,k,rfl,hk,HZ.out,.inr hz'⟩
  ·obtain rfl:k=0:=by omega
   clear hr;go_wp2;go_ret;exact ⟨rfl,0,rfl,hk,HZ.out,.inl rfl⟩
theorem rtrim_calls (v:Value)(len:Nat)(f:Nat→Nat)(w:World)(h:DgN w v len f):
  Calls Tryz.prog 189 #[v] w fun e w'=>w=w'∧∃ v n,e=.returned v∧n≤len∧Dg w v n f∧vf B9 f n=vf B9 f len:=by
 obtain ⟨a,cap,⟨rfl,h1,h2,h3⟩,hr,hlt⟩:=h;refine (rtrim_any a len cap f w h1 h2 hr).mono fun e w' ⟨h4,n,h5,h6,h7,h8⟩=>?_;obtain ⟨c1,c2⟩:=canon_trim hlt h6 h7 h8;exact ⟨h4,_,n,h5,h6,⟨⟨a,cap,⟨rfl,by omega,h2,h3⟩,hr.le h6,c1.lt⟩,c1.top⟩,c2⟩
def RCmpPost (w:World)(m n:Nat)(f g:Nat→Nat)(e:Ending)(w':World):Prop:=New w w'∧∃ r:Int,e=.returned (.int .i64 r)∧
 ((r= -1∧(m < n∨(m=n∧∃ i,i < n∧f i < g i∧∀ j,i < j→j < n→f j=g j)))∨(r=1∧(n < m∨(m=n∧∃ i,i < n∧g i < f i∧∀ j,i < j→j < n→f j=g j)))∨(r=0∧m=n∧∀ j,j < n→f j=g j))
theorem rcompare_any (a b:Option Addr)(m n ca cb:Nat)(f g:Nat→Nat)(w:World)(hm:m≤281474976710656)(hn:n≤281474976710656)(ha:Rd w a .i64 m f)(hb:Rd w b .i64 n g):
  Calls Tryz.prog 169 #[.slice a m ca,.slice b n cb] w (RCmpPost w m n f g):=by
 go_enter Tryz.func169,Tryz.ntmps169;by_cases hmn:m=n
 ·subst hmn;go_wp2;go_loopw [5] (fun i wr=>∃ k:Nat,k≤m∧i=.int .i64 ((k:Int) - 1)∧(∀ j,k≤j→j < m→f j=g j)∧New w wr) (fun n _=>(intOf n+1).toNat)
  case atStart=>exact ⟨m,Nat.le_refl _,rfl,fun i h1 h2=>by omega,New.refl _⟩
  case round=>
   obtain ⟨k,hk,rfl,hz,hbl⟩:=hrel;have HZ:=hid hz;clear hz;by_cases hk0:k=0
   ·subst hk0;go_wp2;go_ret;exact ⟨hbl,_,rfl,.inr (.inr ⟨rfl,rfl,fun j hj=>HZ.out j (by omega) hj⟩)⟩
   ·obtain ⟨b1,o1,rfl,h1⟩:=(ha.new hbl) (k - 1) (by omega);obtain ⟨b2,o2,rfl,h2⟩:=(hb.new hbl) (k - 1) (by omega);clear ha hb;go_wp2
    go_quiet (fail)
    go_wp2
    ·have hlt:f (k - 1) < g (k - 1):=by assumption
     go_ret;exact ⟨hbl.drewN _,_,rfl,.inl ⟨rfl,.inr ⟨rfl,k - 1,by omega,hlt,fun j h1 h2=>HZ.out j (by omega) h2⟩⟩⟩
    ·have hlt:¬f (k - 1) < g (k - 1):=by assumption
     go_quiet (fail)
     go_wp2
     ·have hgt:g (k - 1) < f (k - 1):=by assumption
      go_ret;exact ⟨(hbl.drewN _).drewN _,_,rfl,.inr (.inl ⟨rfl,.inr ⟨rfl,k - 1,by omega,hgt,fun j h1 h2=>HZ.out j (by omega) h2⟩⟩)⟩
     ·have hgt:¬g (k - 1) < f (k - 1):=by assumption
      go_roundw
      case rel=>exact ⟨k - 1,by omega,by go_num,fun j h1 h2=>by
       by_cases e:j=k - 1
       ·rw[e];omega
       ·exact HZ.out j (by omega) h2,hbl.drewN _⟩
      case measure=>simp[intOf];omega
 ·have hne:(m==n)=false:=by simpa using hmn
  go_wp2
  all_goals (go_ret;rename_i h1 h2)
  ·exact ⟨New.refl _,_,rfl,.inl ⟨rfl,.inl (by assumption)⟩⟩
  ·exact ⟨New.refl _,_,rfl,.inr (.inl ⟨rfl,.inl (by omega)⟩)⟩
theorem rcompare_calls (va vb:Value)(m n:Nat)(f g:Nat→Nat)(w:World)(ha:Dg w va m f)(hb:Dg w vb n g)(hm:m≤1000000)(hn:n≤1000000):
  Calls Tryz.prog 169 #[va,vb] w fun e w'=>New w w'∧e=.returned (.int .i64 (cmpNat (vf B9 f m) (vf B9 g n))):=by
 have cf:=ha.canon;have cg:=hb.canon;obtain ⟨⟨a,ca,⟨rfl,a1,a2,a3⟩,ra,_⟩,_⟩:=ha;obtain ⟨⟨b,cb,⟨rfl,b1,b2,b3⟩,rb,_⟩,_⟩:=hb;refine (rcompare_any a b m n ca cb f g w (by omega) (by omega) ra rb).mono fun e w' ⟨h1,r,h2,h3⟩=>⟨h1,?_⟩;rw[h2];congr 2;unfold cmpNat;rcases h3 with ⟨rfl,h | ⟨rfl,i,hi,hlt,heq⟩⟩ | ⟨rfl,h | ⟨rfl,i,hi,hlt,heq⟩⟩ | ⟨rfl,rfl,heq⟩
 ·rw[if_pos (cf.lt_of_len cg (by decide) h)]
 ·rw[if_pos (vf_lt_of_digit cf.lt cg.lt hi heq hlt)]
 ·have:=cg.lt_of_len cf (by decide) h;rw[if_neg (by omega),if_pos this]
 ·have:=vf_lt_of_digit cg.lt cf.lt hi (fun j h1 h2=>(heq j h1 h2).symm) hlt;rw[if_neg (by omega),if_pos this]
 ·have:vf B9 f m=vf B9 g m:=vf_congr heq;rw[if_neg (by omega),if_neg (by omega)]
theorem rdigit_calls (v:Value)(n:Nat)(f:Nat→Nat)(i:Nat)(w:World)(h:DgN w v n f)(_hn:n≤1000000):
  Calls Tryz.prog 207 #[v,.int .i64 (i:Int)] w fun e w'=>e=.returned (.int .i64 (padded f n i:Nat))∧w'=w:=by
 obtain ⟨a,cap,⟨rfl,h1,h2,h3⟩,hr,hlt⟩:=h;by_cases hi:i < n
 ·obtain ⟨b,off,rfl,hcell⟩:=hr i hi;rw[padded_in hi];clear hr h3 h2 hlt
  have hii:(i:Int) < (n:Int):=by omega
  go_enter Tryz.func207,Tryz.ntmps207;go_wp2_with fail;go_ret;exact ⟨rfl,rfl⟩
 ·rw[padded_out hi];clear hr h3 h2 hlt
  have hii:¬(i:Int) < (n:Int):=by omega
  go_enter Tryz.func207,Tryz.ntmps207;go_wp2_with fail;go_ret;exact ⟨rfl,rfl⟩
theorem div9 (s:Nat):∃ q r:Nat,r+B9*q=s∧r < B9∧(s:Int) / 1000000000=(q:Int)∧Int.tdiv (s:Int) 1000000000=(q:Int)∧Int.tmod (s:Int) 1000000000=(r:Int)∧(s:Int) % 1000000000=(r:Int):=by
 refine ⟨s / 1000000000,s % 1000000000,by unfold B9;omega,by unfold B9;omega,by omega,?_,?_,by omega⟩
 ·rw[Int.tdiv_eq_ediv_of_nonneg (by omega)];omega
 ·rw[Int.tmod_eq_emod_of_nonneg (by omega)];omega
theorem own_b9 {o:Nat→Nat}{k y:Nat}(h:∀ j,o j < B9)(hy:y < B9):∀ j,upd o k y j < B9:=fun j=>upd_lt h hy j
def RAddPost (w:World)(m z:Nat)(e:Ending)(w':World):Prop:=∃ v k o,e=.returned v∧New w w'∧DgN w' v k o∧vf B9 o k=z∧k≤m
theorem radd_calls (va vb:Value)(m n:Nat)(f g:Nat→Nat)(w:World)(ha:DgN w va m f)(hb:DgN w vb n g)(hm:m≤100000)(hn:n≤100000):
  Calls Tryz.prog 168 #[va,vb] w (RAddPost w (max m n+1) (vf B9 f m+vf B9 g n)):=by
 obtain ⟨M,hM⟩:∃ M,max m n=M:=⟨_,rfl⟩;rw[hM]
 have hM1:M≤100000∧m≤M∧n≤M∧(M≤m∨M≤n):=by omega
 have hda:=fun W (hW:New w W) k=>rdigit_calls va m f k W (ha.new hW) (by omega);have hdb:=fun W (hW:New w W) k=>rdigit_calls vb n g k W (hb.new hW) (by omega);have hfa:=fun j=>padded_lt (n:=m) (g:=f) (B:=B9) (by decide) ha.lt j;have hfb:=fun j=>padded_lt (n:=n) (g:=g) (B:=B9) (by decide) hb.lt j
 have hea:∀ K,m≤K→vf B9 (padded f m) K=vf B9 f m:=fun K hK=>by
  rw[vf_pad (m:=m) hK fun i h1 _=>padded_out (by omega)];exact vf_congr fun i hi=>padded_in hi
 have heb:∀ K,n≤K→vf B9 (padded g n) K=vf B9 g n:=fun K hK=>by
  rw[vf_pad (m:=n) hK fun i h1 _=>padded_out (by omega)];exact vf_congr fun i hi=>padded_in hi
 have hfz:∀ j,m≤j→padded f m j=0:=fun j h=>padded_out (by omega);have hgz:∀ j,n≤j→padded g n j=0:=fun j h=>padded_out (by omega);obtain ⟨F,hF⟩:∃ F,padded f m=F:=⟨_,rfl⟩;obtain ⟨G,hG⟩:∃ G,padded g n=G:=⟨_,rfl⟩;simp only[hF,hG] at hda hdb hfa hfb hea heb hfz hgz;obtain ⟨aa,ca,⟨rfl, -⟩, -⟩:=ha;obtain ⟨ab,cb,⟨rfl, -⟩, -⟩:=hb;obtain ⟨i0,hi0,hz0,hz1,hz2⟩:=info_parts info_int;clear hF hG hM;have HDA:=hid hda;have HDB:=hid hdb;have HFA:=hid hfa;have HFB:=hid hfb;have HEA:=hid hea;have HEB:=hid heb;have HM1:=hid hM1;have HFZ:=hid hfz;have HGZ:=hid hgz;clear hda hdb hfa hfb hea heb hM1 hfz hgz;go_enter Tryz.func168,Tryz.ntmps168;go_wp2_with fail;go_loopw [5,6,7] (fun v c i wr=>∃ (k cc:Nat) (o:Nat→Nat),k≤M+1∧cc≤1∧i=.int .i64 (k:Int)∧c=.int .i64 (cc:Int)∧Hid (k=M+1→cc=0)∧Hid (wr.ownsRow w.heap.size 3 1 v k (ds o k))∧Hid (New w wr)∧Hid (∀ j,o j < B9)∧Hid (vf B9 o k+cc*B9^k=vf B9 F k+vf B9 G k)) (fun _ _ i _=>M+1 - (intOf i).toNat)
 case atStart=>exact ⟨0,0,fun _=>0,Nat.zero_le _,Nat.zero_le _,rfl,rfl,hid (fun _=>rfl),hid (World.ownsRow_nil _ _ _ _),hid (New.refl _),hid (fun _=>Nat.zero_lt_succ _),hid rfl⟩
 case round=>
  obtain ⟨k,cc,o,hk,hcc,rfl,rfl,HL,HO,HN,HB,HV⟩:=hrel;obtain ⟨t,ht⟩:∃ t:Bool,decide (k < m∨k < n∨0 < cc)=t:=⟨_,rfl⟩;have HT:=hid ht;clear ht;go_upto_region 4 with (fail)
  go_cut [22] (fun s wx=>s=.bool t∧wx=wr)
  case first=>
   by_cases h1:k < m
   ·have d1:decide ((k:Int) < (m:Int))=true:=decide_eq_true (by omega)
    have h1i:(k:Int) < (m:Int):=by omega
    have ht:=HT.out;rw[decide_eq_true (.inl h1)] at ht;subst ht;go_wp2_with fail
    go_meet
    exact ⟨rfl,rfl⟩
   have d1:decide ((k:Int) < (m:Int))=false:=decide_eq_false (by omega)
   have h1i:¬(k:Int) < (m:Int):=by omega
   by_cases h2:k < n
   ·have d2:decide ((k:Int) < (n:Int))=true:=decide_eq_true (by omega)
    have h2i:(k:Int) < (n:Int):=by omega
    have ht:=HT.out;rw[decide_eq_true (.inr (.inl h2))] at ht;subst ht;go_wp2_with fail
    go_meet
    exact ⟨rfl,rfl⟩
   have d2:decide ((k:Int) < (n:Int))=false:=decide_eq_false (by omega)
   have h2i:¬(k:Int) < (n:Int):=by omega
   by_cases h3:0 < cc
   ·have d3:decide ((0:Int) < (cc:Int))=true:=decide_eq_true (by omega)
    have h3i:(0:Int) < (cc:Int):=by omega
    have ht:=HT.out;rw[decide_eq_true (.inr (.inr h3))] at ht;subst ht;go_wp2_with fail
    go_meet
    exact ⟨rfl,rfl⟩
   have d3:decide ((0:Int) < (cc:Int))=false:=decide_eq_false (by omega)
   have h3i:¬(0:Int) < (cc:Int):=by omega
   have ht:=HT.out;rw[decide_eq_false (by omega)] at ht;subst ht;go_wp2_with fail
   go_meet
   exact ⟨rfl,rfl⟩
  case rest=>
   obtain ⟨rfl,hwx⟩:=hcut;replace hwx:=hwx.symm;subst hwx
   go_step
   cases t with
   | true=>
    have hcont:=HT.out;rw[decide_eq_true_eq] at hcont;obtain ⟨x,hx⟩:∃ x,F k=x:=⟨_,rfl⟩;obtain ⟨y,hy⟩:∃ y,G k=y:=⟨_,rfl⟩;have hx9:=HFA.out k;have hy9:=HFB.out k;have hca:=HDA.out wr HN.out k;have hcb:=HDB.out wr HN.out k;rw[hx] at hx9 hca;rw[hy] at hy9 hcb
    have hkM:k≤M:=by
     have:=HM1.out;have:=HL.out;rcases Nat.lt_or_ge k (M+1) with h | h
     ·omega
     ·have h4:=HL.out (by omega);omega
    have hx9i:(x:Int) < 1000000000:=by unfold B9 at hx9;omega
    have hy9i:(y:Int) < 1000000000:=by unfold B9 at hy9;omega
    have hcci:(cc:Int)≤1:=by omega
    have hki:(k:Int)≤200000:=by have:=HM1.out;omega
    obtain ⟨s,hs⟩:∃ s,x+y+cc=s:=⟨_,rfl⟩
    have hsi:(x:Int)+(y:Int)+(cc:Int)=(s:Int):=by omega
    obtain ⟨q,r,hqr,hr9,e1,e2,e3,e4⟩:=div9 s
    have hq1:q≤1:=by unfold B9 at *;omega
    have hstep:vf B9 (upd o k r) (k+1)+q*B9^(k+1)=vf B9 F (k+1)+vf B9 G (k+1):=by
     refine add_step (c:=cc) ?_ ?_
     ·rw[vf_upd_above (Nat.le_refl _)];exact HV.out
     ·rw[upd_same,hx,hy,hqr,hs]
    have hlast:k+1=M+1→q=0:=fun h=>by
     have h5:=HM1.out;have h6:=HFZ.out k (by omega);have h7:=HGZ.out k (by omega);rw[hx] at h6;rw[hy] at h7;unfold B9 at hqr;omega
    have hdn:=own_b9 (k:=k) HB.out hr9
    have hs9:(s:Int) < 3000000000:=by omega
    have hr9i:(r:Int) < 1000000000:=by unfold B9 at hr9;omega
    have hk63:k+1≤maxLen:=by have:=HM1.out;unfold maxLen;omega
    have hk47:(k+1)*8≤140737488355328:=by have:=HM1.out;omega
    clear hx hy hs hqr hcont;have HCA:=hid hca;have HCB:=hid hcb;have HST:=hid hstep;have HLA:=hid hlast;have HDN:=hid hdn;have HX9:=hid hx9;have HY9:=hid hy9;have HR9:=hid hr9;have HK63:=hid hk63;have HK47:=hid hk47;clear hca hcb hstep hlast hdn hx9 hy9 hr9 hk63 hk47;go_wp2_with fail;refine HCA.out.mono ?_;rintro e w1 ⟨rfl,hw1⟩;rw[hw1];clear hw1;go_wp2_with fail;refine HCB.out.mono ?_;rintro e w1 ⟨rfl,hw1⟩;rw[hw1];clear hw1;go_wp2_with (at_builtin;refine wpList_append_own _ rfl _ _ 57 rfl w.heap.size 3 i0 (.int .i64 0) 1 8 Tryz.underlying57 hi0 hz0 hz1 hz2 rfl (by decide) _ _ _ rfl (HO.out.alloc _) ⟨wr.heap.size,0,none⟩ 1 1 [.int .i64 (r:Int)] rfl rfl (one_c1 _ _ _) (one_c2 _) HK63.out HK47.out (by have:=HN.out.size;rw[←size_alloc];omega) ?_);intro v' w9 hown' hgrow _;have hN1:=grown_new HN.out HO.out hgrow;rw[←ds_snoc] at hown';clear hgrow;have HN1:=hid hN1;have HO1:=hid hown';clear hN1 hown';go_wp2_with fail;go_roundw
    case rel=>exact ⟨k+1,q,upd o k r,by omega,hq1,by go_num,rfl,HLA,HO1,HN1,HDN,HST⟩
    case measure=>simp[intOf];omega
   | false=>
    have hstop:=HT.out;rw[decide_eq_false_iff_not] at hstop;have hv:=HV.out
    have hc0:cc=0:=by omega
    rw[hc0,Nat.zero_mul,Nat.add_zero,HEA.out k (by omega),HEB.out k (by omega)]at hv;have hd:=own_dgn HO.out fun i _=>HB.out i;have HVV:=hid hv;have HDD:=hid hd;clear hv hd;go_wp2_with fail;go_ret;exact ⟨_,k,o,rfl,HN.out,HDD.out,HVV.out,hk⟩
def IsD (w:World)(v:Value)(z:Nat):Prop:=∃ n f,Dg w v n f∧vf B9 f n=z
theorem IsD.new {w w':World}{v:Value}{z:Nat}(h:IsD w v z)(hn:New w w'):IsD w' v z:=by
 obtain ⟨n,f,h1,h2⟩:=h;exact ⟨n,f,h1.new hn,h2⟩
def RetD (w:World)(z:Nat)(e:Ending)(w':World):Prop:=∃ v,e=.returned v∧New w w'∧IsD w' v z
theorem rsub_calls (va vb:Value)(x y:Nat)(m:Nat)(f:Nat→Nat)(w:World)(ha:Dg w va m f)(hfx:vf B9 f m=x)(hb:IsD w vb y)(hm:m≤100000)(hle:y≤x):
  Calls Tryz.prog 170 #[va,vb] w (RetD w (x - y)):=by
 obtain ⟨n,g,hb,hgy⟩:=hb
 have hnm:n≤m:=by
  rcases Nat.lt_or_ge m n with h | h
  ·have:=ha.canon.lt_of_len hb.canon (by decide) h;omega
  ·exact h
 have hfl:=ha.1.lt;have hdb:=fun W (hW:New w W) k=>rdigit_calls vb n g k W (hb.1.new hW) (by omega);have hfb:=fun j=>padded_lt (n:=n) (g:=g) (B:=B9) (by decide) hb.1.lt j
 have heb:vf B9 (padded g n) m=y:=by
  rw[vf_pad (m:=n) hnm fun i h1 _=>padded_out (by omega),←hgy];exact vf_congr fun i hi=>padded_in hi
 obtain ⟨G,hG⟩:∃ G,padded g n=G:=⟨_,rfl⟩;simp only[hG] at hdb hfb heb;obtain ⟨⟨aa,ca,⟨rfl, -⟩,hra, -⟩, -⟩:=ha;obtain ⟨⟨ab,cb,⟨rfl, -⟩, -⟩, -⟩:=hb;obtain ⟨i0,hi0,hz0,hz1,hz2⟩:=info_parts info_int
 have hmi:(m:Int)≤100000:=by omega
 clear hG hgy hnm;have HDB:=hid hdb;have HFB:=hid hfb;have HEB:=hid heb;have HFX:=hid hfx;have HFL:=hid hfl;have HRA:=hid hra;have HLE:=hid hle;clear hdb hfb heb hfx hfl hra hle;go_enter Tryz.func170,Tryz.ntmps170;go_wp2_with fail;go_loopw [5,6,7] (fun v c i wr=>∃ (k bb:Nat) (o:Nat→Nat),k≤m∧bb≤1∧i=.int .i64 (k:Int)∧c=.int .i64 (bb:Int)∧Hid (wr.ownsRow w.heap.size 3 1 v k (ds o k))∧Hid (New w wr)∧Hid (∀ j,o j < B9)∧Hid (vf B9 o k+vf B9 G k=vf B9 f k+bb*B9^k)) (fun _ _ i _=>m - (intOf i).toNat)
 case atStart=>exact ⟨0,0,fun _=>0,Nat.zero_le _,Nat.zero_le _,rfl,rfl,hid (World.ownsRow_nil _ _ _ _),hid (New.refl _),hid (fun _=>Nat.zero_lt_succ _),hid rfl⟩
 case round=>
  obtain ⟨k,bb,o,hk,hbb,rfl,rfl,HO,HN,HB,HV⟩:=hrel;by_cases hlt:k < m
  ·obtain ⟨b',off',rfl,hcell⟩:=HRA.out k hlt;replace hcell:=HN.out.cell hcell;obtain ⟨x',hx⟩:∃ x,f k=x:=⟨_,rfl⟩;obtain ⟨y',hy⟩:∃ y,G k=y:=⟨_,rfl⟩;have hx9:=HFL.out k hlt;have hy9:=HFB.out k;have hcb:=fun W hW=>HDB.out W hW k;rw[hx] at hx9 hcell;rw[hy] at hy9;simp only[hy] at hcb
   have hx9i:(x':Int) < 1000000000:=by unfold B9 at hx9;omega
   have hy9i:(y':Int) < 1000000000:=by unfold B9 at hy9;omega
   have hbbi:(bb:Int)≤1:=by omega
   have hki:(k:Int) < (m:Int):=by omega
   obtain ⟨s,hs⟩:∃ s:Int,(x':Int) - (y':Int) - (bb:Int)=s:=⟨_,rfl⟩
   have hs1: -2000000000 < s:=by omega
   have hs2:s < 1000000000:=by omega
   have hk63:k+1≤maxLen:=by unfold maxLen;omega
   have hk47:(k+1)*8≤140737488355328:=by omega
   have HCB:=hid hcb;have HK63:=hid hk63;have HK47:=hid hk47;clear hcb hk63 hk47;go_wp2_with fail
   go_quiet ((go_at_call 207;exact Calls.quiet_of_same (HCB.out _ (HN.out.drewN _))))
   replace HO:Hid ((wr.drewN nq).ownsRow w.heap.size 3 1 u5 k (ds o k)):=hid HO.out;have hN2:=HN.out.drewN nq;obtain ⟨w1,hw1⟩:∃ x,wr.drewN nq=x:=⟨_,rfl⟩;rw[hw1] at HO hN2⊢;clear hw1 hcell HN;have HN:=hid hN2;clear hN2;by_cases hneg:s < 0
   ·obtain ⟨r,hr'⟩:∃ r:Nat,s+1000000000=(r:Int):=⟨(s+1000000000).toNat,by omega⟩
    have hstep:vf B9 (upd o k r) (k+1)+vf B9 G (k+1)=vf B9 f (k+1)+1*B9^(k+1):=by
     refine sub_step (c:=bb) ?_ ?_
     ·rw[vf_upd_above (Nat.le_refl _)];exact HV.out
     ·rw[upd_same,hx,hy];unfold B9;omega
    have hr9:r < B9:=by unfold B9 at *;omega
    have hdn:=own_b9 (k:=k) HB.out hr9;clear hx hy hx9 hy9 hr9;have HST:=hid hstep;have HDN:=hid hdn;clear hstep hdn;go_wp2_with (at_builtin;refine wpList_append_own _ rfl _ _ 57 rfl w.heap.size 3 i0 (.int .i64 0) 1 8 Tryz.underlying57 hi0 hz0 hz1 hz2 rfl (by decide) _ _ _ rfl (HO.out.alloc _) ⟨w1.heap.size,0,none⟩ 1 1 [.int .i64 (r:Int)] rfl rfl (one_c1 _ _ _) (one_c2 _) HK63.out HK47.out (by have:=HN.out.size;rw[←size_alloc];omega) ?_);intro v' w9 hown' hgrow _;have hN1:=grown_new HN.out HO.out hgrow;rw[←ds_snoc] at hown';clear hgrow;have HN1:=hid hN1;have HO1:=hid hown';clear hN1 hown';go_wp2_with fail;go_roundw
    case rel=>exact ⟨k+1,1,upd o k r,by omega,by decide,by go_num,rfl,HO1,HN1,HDN,HST⟩
    case measure=>simp[intOf];omega
   ·obtain ⟨r,rfl⟩:∃ r:Nat,s=(r:Int):=⟨s.toNat,by omega⟩
    have hstep:vf B9 (upd o k r) (k+1)+vf B9 G (k+1)=vf B9 f (k+1)+0*B9^(k+1):=by
     refine sub_step (c:=bb) ?_ ?_
     ·rw[vf_upd_above (Nat.le_refl _)];exact HV.out
     ·rw[upd_same,hx,hy];unfold B9;omega
    have hr9:r < B9:=by unfold B9 at *;omega
    have hdn:=own_b9 (k:=k) HB.out hr9;clear hx hy hx9 hy9 hr9;have HST:=hid hstep;have HDN:=hid hdn;clear hstep hdn;go_wp2_with (at_builtin;refine wpList_append_own _ rfl _ _ 57 rfl w.heap.size 3 i0 (.int .i64 0) 1 8 Tryz.underlying57 hi0 hz0 hz1 hz2 rfl (by decide) _ _ _ rfl (HO.out.alloc _) ⟨w1.heap.size,0,none⟩ 1 1 [.int .i64 (r:Int)] rfl rfl (one_c1 _ _ _) (one_c2 _) HK63.out HK47.out (by have:=HN.out.size;rw[←size_alloc];omega) ?_);intro v' w9 hown' hgrow _;have hN1:=grown_new HN.out HO.out hgrow;rw[←ds_snoc] at hown';clear hgrow;have HN1:=hid hN1;have HO1:=hid hown';clear hN1 hown';go_wp2_with fail;go_roundw
    case rel=>exact ⟨k+1,0,upd o k r,by omega,by decide,by go_num,rfl,HO1,HN1,HDN,HST⟩
    case measure=>simp[intOf];omega
  ·obtain rfl:k=m:=by omega
   have hv:=HV.out;have hlo:vf B9 o k < B9^k:=vf_lt fun i _=>HB.out i;rw[HEB.out,HFX.out] at hv
   have hb0:bb=0:=by
    rcases Nat.lt_or_ge bb 1 with h | h
    ·omega
    ·obtain rfl:bb=1:=by omega
     have:=HLE.out;rw[Nat.one_mul] at hv;generalize B9^k=P at *;omega
   subst hb0
   have hval:vf B9 o k=x - y:=by omega
   have hd:=own_dgn HO.out fun i _=>HB.out i;have htr:=fun W (hW:New wr W)=>rtrim_calls u5 k o W (hd.new hW);clear hlo hv hd;have HVAL:=hid hval;have HTR:=hid htr;clear hval htr;go_wp2_with fail;refine (HTR.out _ (New.refl _)).mono ?_;rintro e w9 ⟨hw9,v9,n9,rfl, -,hd9,hv9⟩;rw[←hw9];rw[HVAL.out] at hv9;clear hw9;have HD9:=hid hd9;have HV9:=hid hv9;clear hd9 hv9;go_wp2_with fail;go_ret;exact ⟨_,rfl,HN.out,n9,o,HD9.out,HV9.out⟩
end Go.Proofs.YtbkcjmojgglbkaaGreatDoor
