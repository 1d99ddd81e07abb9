/- Part B36. -/
import Derived.Test.YtnjonlnemagomaaGreatDoorB35
namespace Go.Proofs.YtnjonlnemagomaaGreatDoor
open Go.RowKit Big Go.Lib Tryz
set_option maxRecDepth 100000
set_option maxHeartbeats 8000000
set_option linter.all false
theorem Box.rdl {w:World}{B:Nat}{t:TypeId}{cs:Array Value}(h:Box w B t cs):RdL w (some ⟨B,0,none⟩) cs.toList:=fun i hi=>⟨B,0,rfl,by rw[Nat.zero_add,h.cell];simp at hi;simp[hi]⟩
def AwB (W:World)(b3 b4 b7:Nat):Prop:=Two W b3 ⟨#[49,47,50]⟩ ⟨#[49,47,50]⟩∧Two W b4 ⟨#[55,48,55,47,49,48,48,48]⟩ ⟨#[49,55,55,47,50,53,48]⟩∧Two W b7 ⟨#[45,49,55,55,47,50,53,48]⟩ ⟨#[45,55,48,55,47,49,48,48,48]⟩
theorem AwB.new {w w':World}{b3 b4 b7:Nat}(h:AwB w b3 b4 b7)(hn:New w w'):AwB w' b3 b4 b7:=⟨h.1.new hn,h.2.1.new hn,h.2.2.new hn⟩
theorem awake_r20 (w w18:World) (A:Act) (b8 b9 ba c17 c18:Nat) (a17 a18:Option Addr) (HN:Hid (New w w18)) (ac:Hid (RdL w18 a17 (ints [7,14,29]))) (ab:Hid (RdL w18 a18 (ints [1,2,0]))) (HS:Hid (AwB w18 b8 b9 ba)) (HA:Has 218 A (awRest b8 b9 ba c17 c18 a17 a18)) (K0:Act→World→Prop)
  (aj:∀ a W,Code.wp prog Code.ret (bodyPost prog Tryz.f13 (fun e w'=>e=.returned (.bool true)∧New w w')) a W→K0 a W):
  Code.wp prog (headC (awakeCode 19)) (Exit.then K0 (bodyPost prog Tryz.f13 (fun e w'=>e=.returned (.bool true)∧New w w'))) A w18:=by
 conv=>arg 2;whnf
 replace aj:=hid aj;have aa:Has 218 A [(178,.bool false),(15,.pointer (some ⟨b8,0,none⟩)),(17,.pointer (some ⟨b9,0,none⟩)),(19,.pointer (some ⟨ba,0,none⟩)),(23,.string ⟨#[49,49,49,56,52,56,49,49,47,51,51,53,53,52,52,51,50]⟩),(25,.float .f32 1266679808),(27,.float .f32 1266679810),(29,.string ⟨#[49,52]⟩),(31,.slice a17 3 c17),(33,.slice a18 3 c18)]:=HA;clear HA;have HA:=hid aa;clear aa;refine zR 39 40 (fun W=>AwB W b8 b9 ba) ?_;refine sT (N:=218) (d:=179) (v:=?_) 0 HS HA ?_ ?_;rotate_left
 ·(intro W hW;have bu:=HA.out.get 1 rfl;have c5:=getD_of bu;obtain ⟨⟨h0,h1⟩, -⟩:=hW;go_simp;try with_reducible rfl)
 intro A aa;clear HA;have HA:=hid aa;clear aa;refine loudT 1 rfl (by kernel_rfl) (wanted_plain rfl) (fun K hK=>?_);go_simp;refine zM (span_aw ⟨#[49,47,50]⟩ ⟨#[49,47,50]⟩ _) fun de hn=>?_;have hn:=hn.undrew;replace HS:=hid (HS.new hn);replace ac:=hid (ac.new hn);replace ab:=hid (ab.new hn);replace HN:=tW HN hn;clear hn;refine hK.out _ _ (fun _=>HS) ?_;clear hK K;refine putT (N:=218) (d:=180) HA (by decide) (by kernel_rfl) ?_;intro A aa;clear HA;have HA:=hid aa;clear aa;refine sT (N:=218) (d:=181) (v:=?_) 2 HS HA ?_ ?_;rotate_left
 ·(intro W hW;have ak:=HA.out.get 1 rfl;have b4:=getD_of ak;have al:=HA.out.get 0 rfl;have b5:=getD_of al;have bq:=eql_span ⟨#[49,47,50]⟩ ⟨#[49,47,50]⟩;go_simp;try with_reducible rfl)
 intro A aa;clear HA;have HA:=hid aa;clear aa;refine sT (N:=218) (d:=182) (v:=?_) 3 HS HA ?_ ?_;rotate_left
 ·(intro W hW;have am:=HA.out.get 0 rfl;have b6:=getD_of am;go_simp;try with_reducible rfl)
 intro A aa;clear HA;have HA:=hid aa;clear aa;refine sT (N:=218) (d:=183) (v:=?_) (hw:=wanted_by rfl rfl (HA.get 0 rfl)) 4 HS HA ?_ ?_;rotate_left
 ·(intro W hW;have bv:=HA.out.get 6 rfl;have c6:=getD_of bv;obtain ⟨-,⟨h0,h1⟩, -⟩:=hW;go_simp;try with_reducible rfl)
 intro A aa;clear HA;have HA:=hid aa;clear aa;refine loudT 5 rfl (by kernel_rfl) (wanted_by rfl rfl (HA.get 1 rfl)) (fun K hK=>?_);go_simp;refine zM (span_aw ⟨#[55,48,55,47,49,48,48,48]⟩ ⟨#[49,55,55,47,50,53,48]⟩ _) fun df hn=>?_;replace HS:=hid (HS.new hn);replace ac:=hid (ac.new hn);replace ab:=hid (ab.new hn);replace HN:=tW HN hn;clear hn;refine hK.out _ _ (fun _=>HS) ?_;clear hK K;refine putT (N:=218) (d:=184) HA (by decide) (by kernel_rfl) ?_;intro A aa;clear HA;have HA:=hid aa;clear aa;refine sT (N:=218) (d:=185) (v:=?_) (hw:=wanted_by rfl rfl (HA.get 2 rfl)) 6 HS HA ?_ ?_;rotate_left
 ·(intro W hW;have ao:=HA.out.get 1 rfl;have ca:=getD_of ao;have ap:=HA.out.get 0 rfl;have cb:=getD_of ap;have bq:=eql_span ⟨#[55,48,55,47,49,48,48,48]⟩ ⟨#[49,55,55,47,50,53,48]⟩;go_simp;try with_reducible rfl)
 intro A aa;clear HA;have HA:=hid aa;clear aa;refine sT (N:=218) (d:=186) (v:=?_) 7 HS HA ?_ ?_;rotate_left
 ·(intro W hW;have an:=HA.out.get 3 rfl;have b7:=getD_of an;have aq:=HA.out.get 0 rfl;have cd:=getD_of aq;go_simp;try with_reducible rfl)
 intro A aa;clear HA;have HA:=hid aa;clear aa;refine sT (N:=218) (d:=187) (v:=?_) 8 HS HA ?_ ?_;rotate_left
 ·(intro W hW;have ar:=HA.out.get 0 rfl;have ce:=getD_of ar;go_simp;try with_reducible rfl)
 intro A aa;clear HA;have HA:=hid aa;clear aa;refine sT (N:=218) (d:=188) (v:=?_) (hw:=wanted_by rfl rfl (HA.get 0 rfl)) 9 HS HA ?_ ?_;rotate_left
 ·(intro W hW;have bw:=HA.out.get 12 rfl;have c7:=getD_of bw;obtain ⟨-, -,h0,h1⟩:=hW;go_simp;try with_reducible rfl)
 intro A aa;clear HA;have HA:=hid aa;clear aa;refine loudT 10 rfl (by kernel_rfl) (wanted_by rfl rfl (HA.get 1 rfl)) (fun K hK=>?_);go_simp;refine zM (span_aw ⟨#[45,49,55,55,47,50,53,48]⟩ ⟨#[45,55,48,55,47,49,48,48,48]⟩ _) fun br hn=>?_;replace HS:=hid (HS.new hn);replace ac:=hid (ac.new hn);replace ab:=hid (ab.new hn);replace HN:=tW HN hn;clear hn;refine hK.out _ _ (fun _=>HS) ?_;clear hK K;refine putT (N:=218) (d:=189) HA (by decide) (by kernel_rfl) ?_;intro A aa;clear HA;have HA:=hid aa;clear aa;refine sT (N:=218) (d:=190) (v:=?_) (hw:=wanted_by rfl rfl (HA.get 2 rfl)) 11 HS HA ?_ ?_;rotate_left
 ·(intro W hW;have av:=HA.out.get 1 rfl;have cg:=getD_of av;have aw:=HA.out.get 0 rfl;have ch:=getD_of aw;have bq:=eql_span ⟨#[45,49,55,55,47,50,53,48]⟩ ⟨#[45,55,48,55,47,49,48,48,48]⟩;go_simp;try with_reducible rfl)
 intro A aa;clear HA;have HA:=hid aa;clear aa;refine sT (N:=218) (d:=191) (v:=?_) 12 HS HA ?_ ?_;rotate_left
 ·(intro W hW;have au:=HA.out.get 3 rfl;have cf:=getD_of au;have ax:=HA.out.get 0 rfl;have ci:=getD_of ax;go_simp;try with_reducible rfl)
 intro A aa;clear HA;have HA:=hid aa;clear aa;refine sT (N:=218) (d:=192) (v:=?_) 13 HS HA ?_ ?_;rotate_left
 ·(intro W hW;have ay:=HA.out.get 0 rfl;have cj:=getD_of ay;go_simp;try with_reducible rfl)
 intro A aa;clear HA;have HA:=hid aa;clear aa;refine sT (N:=218) (d:=193) (v:=?_) (hw:=wanted_by rfl rfl (HA.get 0 rfl)) 14 HS HA ?_ ?_;rotate_left
 ·(intro W hW;have bx:=HA.out.get 18 rfl;have c8:=getD_of bx;go_simp;try with_reducible rfl)
 intro A aa;clear HA;have HA:=hid aa;clear aa;refine sT (N:=218) (d:=194) (v:=?_) (hw:=wanted_by rfl rfl (HA.get 1 rfl)) 15 HS HA ?_ ?_;rotate_left
 ·(intro W hW;have a0:=HA.out.get 0 rfl;have cl:=getD_of a0;go_simp;try with_reducible rfl)
 intro A aa;clear HA;have HA:=hid aa;clear aa;refine sT (N:=218) (d:=195) (v:=?_) 16 HS HA ?_ ?_;rotate_left
 ·(intro W hW;have az:=HA.out.get 2 rfl;have ck:=getD_of az;have a1:=HA.out.get 0 rfl;have cm:=getD_of a1;go_simp;try with_reducible rfl)
 intro A aa;clear HA;have HA:=hid aa;clear aa;refine sT (N:=218) (d:=196) (v:=?_) 17 HS HA ?_ ?_;rotate_left
 ·(intro W hW;have a2:=HA.out.get 0 rfl;have cn:=getD_of a2;go_simp;try with_reducible rfl)
 intro A aa;clear HA;have HA:=hid aa;clear aa;refine sT (N:=218) (d:=197) (v:=?_) (hw:=wanted_by rfl rfl (HA.get 0 rfl)) 18 HS HA ?_ ?_;rotate_left
 ·(intro W hW;have bz:=HA.out.get 23 rfl;have c9:=getD_of bz;go_simp;try with_reducible rfl)
 intro A aa;clear HA;have HA:=hid aa;clear aa;refine sT (N:=218) (d:=198) (v:=?_) (hw:=wanted_by rfl rfl (HA.get 1 rfl)) 19 HS HA ?_ ?_;rotate_left
 ·(intro W hW;have a4:=HA.out.get 0 rfl;have cp:=getD_of a4;go_simp;try with_reducible rfl)
 intro A aa;clear HA;have HA:=hid aa;clear aa;refine sT (N:=218) (d:=199) (v:=?_) 20 HS HA ?_ ?_;rotate_left
 ·(intro W hW;have a3:=HA.out.get 2 rfl;have co:=getD_of a3;have a5:=HA.out.get 0 rfl;have cq:=getD_of a5;go_simp;try with_reducible rfl)
 intro A aa;clear HA;have HA:=hid aa;clear aa;refine sT (N:=218) (d:=200) (v:=?_) 21 HS HA ?_ ?_;rotate_left
 ·(intro W hW;have a6:=HA.out.get 0 rfl;have cr:=getD_of a6;go_simp;try with_reducible rfl)
 intro A aa;clear HA;have HA:=hid aa;clear aa;refine sT (N:=218) (d:=201) (v:=?_) (hw:=wanted_by rfl rfl (HA.get 0 rfl)) 22 HS HA ?_ ?_;rotate_left
 ·(intro W hW;have b0:=HA.out.get 28 rfl;have da:=getD_of b0;go_simp;try with_reducible rfl)
 intro A aa;clear HA;have HA:=hid aa;clear aa;refine sT (N:=218) (d:=202) (v:=?_) (hw:=wanted_by rfl rfl (HA.get 1 rfl)) 23 HS HA ?_ ?_;rotate_left
 ·(intro W hW;have a8:=HA.out.get 0 rfl;have ct:=getD_of a8;go_simp;try with_reducible rfl)
 intro A aa;clear HA;have HA:=hid aa;clear aa;refine sT (N:=218) (d:=203) (v:=?_) 24 HS HA ?_ ?_;rotate_left
 ·(intro W hW;have a7:=HA.out.get 2 rfl;have cs:=getD_of a7;have a9:=HA.out.get 0 rfl;have cu:=getD_of a9;go_simp;try with_reducible rfl)
 intro A aa;clear HA;have HA:=hid aa;clear aa;refine sT (N:=218) (d:=204) (v:=?_) 25 HS HA ?_ ?_;rotate_left
 ·(intro W hW;have bb:=HA.out.get 0 rfl;have cv:=getD_of bb;go_simp;try with_reducible rfl)
 intro A aa;clear HA;have HA:=hid aa;clear aa;refine sT (N:=218) (d:=205) (v:=?_) (hw:=wanted_by rfl rfl (HA.get 0 rfl)) 26 HS HA ?_ ?_;rotate_left
 ·(intro W hW;have b1:=HA.out.get 33 rfl;have db:=getD_of b1;go_simp;try with_reducible rfl)
 intro A aa;clear HA;have HA:=hid aa;clear aa;refine sT (N:=218) (d:=206) (v:=?_) (hw:=wanted_by rfl rfl (HA.get 1 rfl)) 27 HS HA ?_ ?_;rotate_left
 ·(intro W hW;have be:=HA.out.get 0 rfl;have cx:=getD_of be;go_simp;try with_reducible rfl)
 intro A aa;clear HA;have HA:=hid aa;clear aa;refine sT (N:=218) (d:=207) (v:=?_) 28 HS HA ?_ ?_;rotate_left
 ·(intro W hW;have bc:=HA.out.get 2 rfl;have cw:=getD_of bc;have bf:=HA.out.get 0 rfl;have cy:=getD_of bf;go_simp;try with_reducible rfl)
 intro A aa;clear HA;have HA:=hid aa;clear aa;refine sT (N:=218) (d:=208) (v:=?_) 29 HS HA ?_ ?_;rotate_left
 ·(intro W hW;have bg:=HA.out.get 0 rfl;have cz:=getD_of bg;go_simp;try with_reducible rfl)
 intro A aa;clear HA;have HA:=hid aa;clear aa;refine sT (N:=218) (d:=209) (v:=?_) (hw:=wanted_by rfl rfl (HA.get 0 rfl)) 30 HS HA ?_ ?_;rotate_left
 ·(intro W hW;have b2:=HA.out.get 38 rfl;have dc:=getD_of b2;go_simp;try with_reducible rfl)
 intro A aa;clear HA;have HA:=hid aa;clear aa;refine loudT 31 rfl (by kernel_rfl) (wanted_by rfl rfl (HA.get 1 rfl)) (fun K hK=>?_);go_simp;obtain ⟨BI,hn⟩:=lay1 br 3 #[.int .i64 7,.int .i64 14,.int .i64 29];replace HS:=hid (HS.new hn);replace ac:=hid (ac.new hn);replace ab:=hid (ab.new hn);replace HN:=tW HN hn;clear hn;refine hK.out _ _ (fun _=>HS) ?_;clear hK K;refine putT (N:=218) (d:=210) HA (by decide) (by kernel_rfl) ?_;intro A aa;clear HA;have HA:=hid aa;clear aa;refine loudT 32 rfl (by kernel_rfl) (wanted_by rfl rfl (HA.get 2 rfl)) (fun K hK=>?_);have ad:=HA.out.get 1 rfl;have bm:=getD_of ad;have ae:=HA.out.get 0 rfl;have bn:=getD_of ae;go_simp;clear bn ae bm ad;refine zM (same_ints a17 (some ⟨br.heap.size,0,none⟩) c17 3 [7,14,29] [7,14,29] _ (by decide) rfl ac BI.rdl (by intro k h h';simp)) fun bt hn=>?_;clear BI ac;replace HS:=hid (HS.new hn);replace ab:=hid (ab.new hn);replace HN:=tW HN hn;clear hn;refine hK.out _ _ (fun _=>HS) ?_;clear hK K;refine putT (N:=218) (d:=211) HA (by decide) (by kernel_rfl) ?_;intro A aa;clear HA;have HA:=hid aa;clear aa;refine sT (N:=218) (d:=212) (v:=?_) 33 HS HA ?_ ?_;rotate_left
 ·(intro W hW;have bh:=HA.out.get 3 rfl;have c0:=getD_of bh;have bi:=HA.out.get 0 rfl;have c1:=getD_of bi;go_simp;try with_reducible rfl)
 intro A aa;clear HA;have HA:=hid aa;clear aa;refine sT (N:=218) (d:=213) (v:=?_) 34 HS HA ?_ ?_;rotate_left
 ·(intro W hW;have bj:=HA.out.get 0 rfl;have c2:=getD_of bj;go_simp;try with_reducible rfl)
 intro A aa;clear HA;have HA:=hid aa;clear aa;refine sT (N:=218) (d:=214) (v:=?_) (hw:=wanted_by rfl rfl (HA.get 0 rfl)) 35 HS HA ?_ ?_;rotate_left
 ·(intro W hW;have b3:=HA.out.get 44 rfl;have dd:=getD_of b3;go_simp;try with_reducible rfl)
 intro A aa;clear HA;have HA:=hid aa;clear aa;refine loudT 36 rfl (by kernel_rfl) (wanted_by rfl rfl (HA.get 1 rfl)) (fun K hK=>?_);go_simp;obtain ⟨BI,hn⟩:=lay1 bt 3 #[.int .i64 1,.int .i64 2,.int .i64 0];replace HS:=hid (HS.new hn);replace ab:=hid (ab.new hn);replace HN:=tW HN hn;clear hn;refine hK.out _ _ (fun _=>HS) ?_;clear hK K;refine putT (N:=218) (d:=215) HA (by decide) (by kernel_rfl) ?_;intro A aa;clear HA;have HA:=hid aa;clear aa;refine loudT 37 rfl (by kernel_rfl) (wanted_by rfl rfl (HA.get 2 rfl)) (fun K hK=>?_);have af:=HA.out.get 1 rfl;have bo:=getD_of af;have ag:=HA.out.get 0 rfl;have bp:=getD_of ag;go_simp;clear bp ag bo af;refine zM (same_ints a18 (some ⟨bt.heap.size,0,none⟩) c18 3 [1,2,0] [1,2,0] _ (by decide) rfl ab BI.rdl (by intro k h h';simp)) fun dg hn=>?_;clear BI ab;replace HS:=hid (HS.new hn);replace HN:=tW HN hn;clear hn;refine hK.out _ _ (fun _=>HS) ?_;clear hK K;refine putT (N:=218) (d:=216) HA (by decide) (by kernel_rfl) ?_;intro A aa;clear HA;have HA:=hid aa;clear aa;refine sT (N:=218) (d:=217) (v:=?_) 38 HS HA ?_ ?_;rotate_left
 ·(intro W hW;have bk:=HA.out.get 3 rfl;have c3:=getD_of bk;have bl:=HA.out.get 0 rfl;have c4:=getD_of bl;go_simp;try with_reducible rfl)
 intro A aa;clear HA;replace aa:=hid aa;refine wpT_tail rfl (by kernel_rfl) ?_;have ah:=aa.out.get 0 rfl;have ai:=getD_of ah;simp only[List.drop_succ_cons,List.drop_zero]
 have hb:(FloatKind.f32.format.order 1266679808 1266679808==some Ordering.eq && FloatKind.f32.format.order 1266679810 1266679810==some Ordering.eq)=true:=by decide +kernel
 rw[hb]at ai;clear ah;refine wpList_plain rfl fun K hK=>?_;refine BigFrame.wp_assign _ rfl ?_;refine hK _ _ ?_;clear hK K;have HB:=aa.out.put (d:=0) (v:=.bool true) (by decide) (by kernel_rfl);have e0:=HB.get 0 rfl;have g0:=getD_of e0;rw[wpList];refine aj _ _ ?_;go_wp2_with fail;show bodyPost _ _ _ _ (A.put (some 0) (.bool true)) _;clear ai e0;refine bodyPost_ret (v:=.bool true) ((results_tmp (t:=0) rfl _ _ _).trans (by rw[g0])) HB.2.1 ?_;exact ⟨rfl,HN⟩
end Go.Proofs.YtnjonlnemagomaaGreatDoor
