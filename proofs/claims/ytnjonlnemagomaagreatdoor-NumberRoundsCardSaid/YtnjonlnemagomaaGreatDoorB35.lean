/- Part B35. -/
import Derived.Test.YtnjonlnemagomaaGreatDoorB34
namespace Go.Proofs.YtnjonlnemagomaaGreatDoor
open Go.RowKit Big Go.Lib Tryz
set_option maxRecDepth 100000
set_option maxHeartbeats 8000000
set_option linter.all false
theorem neq_span (a b:ByteArray)(W:World):(binOp .neq 53 (.agg #[.string a,.string b]) (.agg #[.string a,.string b])).run prog W=.ok (.bool false) W:=by
 rw[run_neq_struct,eq_span_run];simp
theorem eql_span (a b:ByteArray)(W:World):(binOp .eql 53 (.agg #[.string a,.string b]) (.agg #[.string a,.string b])).run prog W=.ok (.bool true) W:=by
 rw[run_eql_struct,eq_span_run];simp
noncomputable def awakeCode (n:Nat):Code:=tailN n ((Tryz.f13.body).getD .skip)
def headC:Code→Code
 | .seq a _=>a
 | c=>c
def Two (W:World)(b:Nat)(x y:ByteArray):Prop:=W.cell? ⟨b,0,none⟩=some (.string x)∧W.cell? ⟨b,1,none⟩=some (.string y)
theorem Two.new {w w':World}{b:Nat}{x y:ByteArray}(h:Two w b x y)(hn:New w w'):Two w' b x y:=⟨hn.cell h.1,hn.cell h.2⟩
def AwA (W:World)(b3 b4 b7:Nat):Prop:=Two W b3 ⟨#[45,54]⟩ ⟨#[56]⟩∧Two W b4 ⟨#[49,47,56]⟩ ⟨#[49,47,50]⟩∧Two W b7 ⟨#[55,48,55,47,53,48,48]⟩ ⟨#[50,56,51,47,50,48,48]⟩
theorem AwA.new {w w':World}{b3 b4 b7:Nat}(h:AwA w b3 b4 b7)(hn:New w w'):AwA w' b3 b4 b7:=⟨h.1.new hn,h.2.1.new hn,h.2.2.new hn⟩
def awAll (b3 b4 b7 b8 b9 ba c17 c18:Nat)(a17 a18:Option Addr):List (Nat × Value):=[(2,.int .i64 0),(4,.int .i64 0),(6,.int .i64 0),(8,.int .i64 0),(10,.int .i64 0),(14,.int .i64 0),(16,.int .i64 0),(18,.int .i64 0),(20,.int .i64 0),(22,.int .i64 0),(24,.int .i64 0),(26,.int .i64 0),(28,.int .i64 0),(30,.int .i64 0),(32,.int .i64 0),(34,.int .i64 0),(1,.string ⟨#[45,53,47,50]⟩),(3,.string ⟨#[45,51]⟩),(9,.int .i64 (-1)),(12,.int .i64 24),(5,.pointer (some ⟨b3,0,none⟩)),(7,.pointer (some ⟨b4,0,none⟩)),(13,.pointer (some ⟨b7,0,none⟩)),(15,.pointer (some ⟨b8,0,none⟩)),(17,.pointer (some ⟨b9,0,none⟩)),(19,.pointer (some ⟨ba,0,none⟩)),(23,.string ⟨#[49,49,49,56,52,56,49,49,47,51,51,53,53,52,52,51,50]⟩),(25,.float .f32 1266679808),(27,.float .f32 1266679810),(29,.string ⟨#[49,52]⟩),(31,.slice a17 3 c17),(33,.slice a18 3 c18)]
def awRest (b8 b9 ba c17 c18:Nat)(a17 a18:Option Addr):List (Nat × Value):=[(178,.bool false),(15,.pointer (some ⟨b8,0,none⟩)),(17,.pointer (some ⟨b9,0,none⟩)),(19,.pointer (some ⟨ba,0,none⟩)),(23,.string ⟨#[49,49,49,56,52,56,49,49,47,51,51,53,53,52,52,51,50]⟩),(25,.float .f32 1266679808),(27,.float .f32 1266679810),(29,.string ⟨#[49,52]⟩),(31,.slice a17 3 c17),(33,.slice a18 3 c18)]
theorem awake_r18 (w w18:World) (A:Act) (b3 b4 b7 b8 b9 ba c17 c18:Nat) (a17 a18:Option Addr) (HS:Hid (AwA w18 b3 b4 b7)) (HA:Has 218 A (awAll b3 b4 b7 b8 b9 ba c17 c18 a17 a18)) (K0 K1:Act→World→Prop)
  (ab:∀ a W,Has 218 a (awRest b8 b9 ba c17 c18 a17 a18)→New w18 W→K0 a W):
  Code.wp prog (headC (headC (awakeCode 18))) (Exit.then K0 (Exit.then K1 (bodyPost prog Tryz.f13 (fun e w'=>e=.returned (.bool true)∧New w w')))) A w18:=by
 have HN:=hid (New.refl w18)
 conv=>arg 2;whnf
 replace ab:=hid ab;have aa:Has 218 A [(2,.int .i64 0),(4,.int .i64 0),(6,.int .i64 0),(8,.int .i64 0),(10,.int .i64 0),(14,.int .i64 0),(16,.int .i64 0),(18,.int .i64 0),(20,.int .i64 0),(22,.int .i64 0),(24,.int .i64 0),(26,.int .i64 0),(28,.int .i64 0),(30,.int .i64 0),(32,.int .i64 0),(34,.int .i64 0),(1,.string ⟨#[45,53,47,50]⟩),(3,.string ⟨#[45,51]⟩),(9,.int .i64 (-1)),(12,.int .i64 24),(5,.pointer (some ⟨b3,0,none⟩)),(7,.pointer (some ⟨b4,0,none⟩)),(13,.pointer (some ⟨b7,0,none⟩)),(15,.pointer (some ⟨b8,0,none⟩)),(17,.pointer (some ⟨b9,0,none⟩)),(19,.pointer (some ⟨ba,0,none⟩)),(23,.string ⟨#[49,49,49,56,52,56,49,49,47,51,51,53,53,52,52,51,50]⟩),(25,.float .f32 1266679808),(27,.float .f32 1266679810),(29,.string ⟨#[49,52]⟩),(31,.slice a17 3 c17),(33,.slice a18 3 c18)]:=HA;clear HA;have HA:=hid aa;clear aa;refine zR 62 63 (fun W=>AwA W b3 b4 b7) ?_;refine sT (N:=218) (d:=116) (v:=?_) 0 HS HA ?_ ?_;rotate_left
 ·(intro W hW;have e2:=HA.out.get 0 rfl;have g2:=getD_of e2;go_simp;try with_reducible rfl)
 intro A aa;clear HA;have HA:=hid aa;clear aa;refine sT (N:=218) (d:=117) (v:=?_) 1 HS HA ?_ ?_;rotate_left
 ·(intro W hW;have e4:=HA.out.get 2 rfl;have g4:=getD_of e4;go_simp;try with_reducible rfl)
 intro A aa;clear HA;have HA:=hid aa;clear aa;refine sT (N:=218) (d:=118) (v:=?_) 2 HS HA ?_ ?_;rotate_left
 ·(intro W hW;have ac:=HA.out.get 1 rfl;have ct:=getD_of ac;have ad:=HA.out.get 0 rfl;have cu:=getD_of ad;go_simp;try with_reducible rfl)
 intro A aa;clear HA;have HA:=hid aa;clear aa;refine sT (N:=218) (d:=119) (v:=?_) 3 HS HA ?_ ?_;rotate_left
 ·(intro W hW;have e6:=HA.out.get 5 rfl;have g6:=getD_of e6;go_simp;try with_reducible rfl)
 intro A aa;clear HA;have HA:=hid aa;clear aa;refine sT (N:=218) (d:=120) (v:=?_) 4 HS HA ?_ ?_;rotate_left
 ·(intro W hW;have ae:=HA.out.get 1 rfl;have cv:=getD_of ae;have af:=HA.out.get 0 rfl;have cw:=getD_of af;go_simp;try with_reducible rfl)
 intro A aa;clear HA;have HA:=hid aa;clear aa;refine sT (N:=218) (d:=121) (v:=?_) 5 HS HA ?_ ?_;rotate_left
 ·(intro W hW;have e8:=HA.out.get 8 rfl;have g8:=getD_of e8;go_simp;try with_reducible rfl)
 intro A aa;clear HA;have HA:=hid aa;clear aa;refine sT (N:=218) (d:=122) (v:=?_) 6 HS HA ?_ ?_;rotate_left
 ·(intro W hW;have ag:=HA.out.get 1 rfl;have cx:=getD_of ag;have ah:=HA.out.get 0 rfl;have cy:=getD_of ah;go_simp;try with_reducible rfl)
 intro A aa;clear HA;have HA:=hid aa;clear aa;refine sT (N:=218) (d:=123) (v:=?_) 7 HS HA ?_ ?_;rotate_left
 ·(intro W hW;have cf:=HA.out.get 11 rfl;have el:=getD_of cf;go_simp;try with_reducible rfl)
 intro A aa;clear HA;have HA:=hid aa;clear aa;refine sT (N:=218) (d:=124) (v:=?_) 8 HS HA ?_ ?_;rotate_left
 ·(intro W hW;have ai:=HA.out.get 1 rfl;have cz:=getD_of ai;have aj:=HA.out.get 0 rfl;have c0:=getD_of aj;go_simp;try with_reducible rfl)
 intro A aa;clear HA;have HA:=hid aa;clear aa;refine sT (N:=218) (d:=125) (v:=?_) 9 HS HA ?_ ?_;rotate_left
 ·(intro W hW;have ci:=HA.out.get 14 rfl;have eo:=getD_of ci;go_simp;try with_reducible rfl)
 intro A aa;clear HA;have HA:=hid aa;clear aa;refine sT (N:=218) (d:=126) (v:=?_) 10 HS HA ?_ ?_;rotate_left
 ·(intro W hW;have ak:=HA.out.get 1 rfl;have c1:=getD_of ak;have al:=HA.out.get 0 rfl;have c2:=getD_of al;go_simp;try with_reducible rfl)
 intro A aa;clear HA;have HA:=hid aa;clear aa;refine sT (N:=218) (d:=127) (v:=?_) 11 HS HA ?_ ?_;rotate_left
 ·(intro W hW;have cj:=HA.out.get 17 rfl;have ep:=getD_of cj;go_simp;try with_reducible rfl)
 intro A aa;clear HA;have HA:=hid aa;clear aa;refine sT (N:=218) (d:=128) (v:=?_) 12 HS HA ?_ ?_;rotate_left
 ·(intro W hW;have am:=HA.out.get 1 rfl;have c3:=getD_of am;have an:=HA.out.get 0 rfl;have c4:=getD_of an;go_simp;try with_reducible rfl)
 intro A aa;clear HA;have HA:=hid aa;clear aa;refine sT (N:=218) (d:=129) (v:=?_) 13 HS HA ?_ ?_;rotate_left
 ·(intro W hW;have ck:=HA.out.get 20 rfl;have er:=getD_of ck;go_simp;try with_reducible rfl)
 intro A aa;clear HA;have HA:=hid aa;clear aa;refine sT (N:=218) (d:=130) (v:=?_) 14 HS HA ?_ ?_;rotate_left
 ·(intro W hW;have ao:=HA.out.get 1 rfl;have c5:=getD_of ao;have ap:=HA.out.get 0 rfl;have c6:=getD_of ap;go_simp;try with_reducible rfl)
 intro A aa;clear HA;have HA:=hid aa;clear aa;refine sT (N:=218) (d:=131) (v:=?_) 15 HS HA ?_ ?_;rotate_left
 ·(intro W hW;have cl:=HA.out.get 23 rfl;have es:=getD_of cl;go_simp;try with_reducible rfl)
 intro A aa;clear HA;have HA:=hid aa;clear aa;refine sT (N:=218) (d:=132) (v:=?_) 16 HS HA ?_ ?_;rotate_left
 ·(intro W hW;have aq:=HA.out.get 1 rfl;have c7:=getD_of aq;have ar:=HA.out.get 0 rfl;have c8:=getD_of ar;go_simp;try with_reducible rfl)
 intro A aa;clear HA;have HA:=hid aa;clear aa;refine sT (N:=218) (d:=133) (v:=?_) 17 HS HA ?_ ?_;rotate_left
 ·(intro W hW;have cm:=HA.out.get 26 rfl;have et:=getD_of cm;go_simp;try with_reducible rfl)
 intro A aa;clear HA;have HA:=hid aa;clear aa;refine sT (N:=218) (d:=134) (v:=?_) 18 HS HA ?_ ?_;rotate_left
 ·(intro W hW;have au:=HA.out.get 1 rfl;have c9:=getD_of au;have av:=HA.out.get 0 rfl;have da:=getD_of av;go_simp;try with_reducible rfl)
 intro A aa;clear HA;have HA:=hid aa;clear aa;refine sT (N:=218) (d:=135) (v:=?_) 19 HS HA ?_ ?_;rotate_left
 ·(intro W hW;have cn:=HA.out.get 29 rfl;have eu:=getD_of cn;go_simp;try with_reducible rfl)
 intro A aa;clear HA;have HA:=hid aa;clear aa;refine sT (N:=218) (d:=136) (v:=?_) 20 HS HA ?_ ?_;rotate_left
 ·(intro W hW;have aw:=HA.out.get 1 rfl;have db:=getD_of aw;have ax:=HA.out.get 0 rfl;have dc:=getD_of ax;go_simp;try with_reducible rfl)
 intro A aa;clear HA;have HA:=hid aa;clear aa;refine sT (N:=218) (d:=137) (v:=?_) 21 HS HA ?_ ?_;rotate_left
 ·(intro W hW;have co:=HA.out.get 32 rfl;have ev:=getD_of co;go_simp;try with_reducible rfl)
 intro A aa;clear HA;have HA:=hid aa;clear aa;refine sT (N:=218) (d:=138) (v:=?_) 22 HS HA ?_ ?_;rotate_left
 ·(intro W hW;have ay:=HA.out.get 1 rfl;have dd:=getD_of ay;have az:=HA.out.get 0 rfl;have de:=getD_of az;go_simp;try with_reducible rfl)
 intro A aa;clear HA;have HA:=hid aa;clear aa;refine sT (N:=218) (d:=139) (v:=?_) 23 HS HA ?_ ?_;rotate_left
 ·(intro W hW;have cp:=HA.out.get 35 rfl;have ew:=getD_of cp;go_simp;try with_reducible rfl)
 intro A aa;clear HA;have HA:=hid aa;clear aa;refine sT (N:=218) (d:=140) (v:=?_) 24 HS HA ?_ ?_;rotate_left
 ·(intro W hW;have a0:=HA.out.get 1 rfl;have df:=getD_of a0;have a1:=HA.out.get 0 rfl;have dg:=getD_of a1;go_simp;try with_reducible rfl)
 intro A aa;clear HA;have HA:=hid aa;clear aa;refine sT (N:=218) (d:=141) (v:=?_) 25 HS HA ?_ ?_;rotate_left
 ·(intro W hW;have cq:=HA.out.get 38 rfl;have ex:=getD_of cq;go_simp;try with_reducible rfl)
 intro A aa;clear HA;have HA:=hid aa;clear aa;refine sT (N:=218) (d:=142) (v:=?_) 26 HS HA ?_ ?_;rotate_left
 ·(intro W hW;have a2:=HA.out.get 1 rfl;have dh:=getD_of a2;have a3:=HA.out.get 0 rfl;have di:=getD_of a3;go_simp;try with_reducible rfl)
 intro A aa;clear HA;have HA:=hid aa;clear aa;refine sT (N:=218) (d:=143) (v:=?_) 27 HS HA ?_ ?_;rotate_left
 ·(intro W hW;have cr:=HA.out.get 41 rfl;have ey:=getD_of cr;go_simp;try with_reducible rfl)
 intro A aa;clear HA;have HA:=hid aa;clear aa;refine sT (N:=218) (d:=144) (v:=?_) 28 HS HA ?_ ?_;rotate_left
 ·(intro W hW;have a4:=HA.out.get 1 rfl;have dj:=getD_of a4;have a5:=HA.out.get 0 rfl;have dk:=getD_of a5;go_simp;try with_reducible rfl)
 intro A aa;clear HA;have HA:=hid aa;clear aa;refine sT (N:=218) (d:=145) (v:=?_) 29 HS HA ?_ ?_;rotate_left
 ·(intro W hW;have cs:=HA.out.get 44 rfl;have ez:=getD_of cs;go_simp;try with_reducible rfl)
 intro A aa;clear HA;have HA:=hid aa;clear aa;refine sT (N:=218) (d:=146) (v:=?_) 30 HS HA ?_ ?_;rotate_left
 ·(intro W hW;have a6:=HA.out.get 1 rfl;have dl:=getD_of a6;have a7:=HA.out.get 0 rfl;have dm:=getD_of a7;go_simp;try with_reducible rfl)
 intro A aa;clear HA;have HA:=hid aa;clear aa;refine sT (N:=218) (d:=147) (v:=?_) 31 HS HA ?_ ?_;rotate_left
 ·(intro W hW;have a8:=HA.out.get 0 rfl;have dn:=getD_of a8;go_simp;try with_reducible rfl)
 intro A aa;clear HA;have HA:=hid aa;clear aa;refine sT (N:=218) (d:=148) (v:=?_) 32 HS HA ?_ ?_;rotate_left
 ·(intro W hW;have a9:=HA.out.get 0 rfl;have dp:=getD_of a9;go_simp;try with_reducible rfl)
 intro A aa;clear HA;have HA:=hid aa;clear aa;refine sT (N:=218) (d:=149) (v:=?_) (hw:=wanted_by rfl rfl (HA.get 0 rfl)) 33 HS HA ?_ ?_;rotate_left
 ·(intro W hW;have e1:=HA.out.get 49 rfl;have g1:=getD_of e1;go_simp;try with_reducible rfl)
 intro A aa;clear HA;have HA:=hid aa;clear aa;refine sT (N:=218) (d:=150) (v:=?_) (hw:=wanted_by rfl rfl (HA.get 1 rfl)) 34 HS HA ?_ ?_;rotate_left
 ·(intro W hW;have bc:=HA.out.get 0 rfl;have dr:=getD_of bc;go_simp;try with_reducible rfl)
 intro A aa;clear HA;have HA:=hid aa;clear aa;refine sT (N:=218) (d:=151) (v:=?_) 35 HS HA ?_ ?_;rotate_left
 ·(intro W hW;have bb:=HA.out.get 2 rfl;have dq:=getD_of bb;have be:=HA.out.get 0 rfl;have dt:=getD_of be;go_simp;try with_reducible rfl)
 intro A aa;clear HA;have HA:=hid aa;clear aa;refine sT (N:=218) (d:=152) (v:=?_) 36 HS HA ?_ ?_;rotate_left
 ·(intro W hW;have bf:=HA.out.get 0 rfl;have du:=getD_of bf;go_simp;try with_reducible rfl)
 intro A aa;clear HA;have HA:=hid aa;clear aa;refine sT (N:=218) (d:=153) (v:=?_) (hw:=wanted_by rfl rfl (HA.get 0 rfl)) 37 HS HA ?_ ?_;rotate_left
 ·(intro W hW;have e3:=HA.out.get 54 rfl;have g3:=getD_of e3;go_simp;try with_reducible rfl)
 intro A aa;clear HA;have HA:=hid aa;clear aa;refine sT (N:=218) (d:=154) (v:=?_) (hw:=wanted_by rfl rfl (HA.get 1 rfl)) 38 HS HA ?_ ?_;rotate_left
 ·(intro W hW;have bh:=HA.out.get 0 rfl;have dw:=getD_of bh;go_simp;try with_reducible rfl)
 intro A aa;clear HA;have HA:=hid aa;clear aa;refine sT (N:=218) (d:=155) (v:=?_) 39 HS HA ?_ ?_;rotate_left
 ·(intro W hW;have bg:=HA.out.get 2 rfl;have dv:=getD_of bg;have bi:=HA.out.get 0 rfl;have dx:=getD_of bi;go_simp;try with_reducible rfl)
 intro A aa;clear HA;have HA:=hid aa;clear aa;refine sT (N:=218) (d:=156) (v:=?_) 40 HS HA ?_ ?_;rotate_left
 ·(intro W hW;have bj:=HA.out.get 0 rfl;have dy:=getD_of bj;go_simp;try with_reducible rfl)
 intro A aa;clear HA;have HA:=hid aa;clear aa;refine sT (N:=218) (d:=157) (v:=?_) (hw:=wanted_by rfl rfl (HA.get 0 rfl)) 41 HS HA ?_ ?_;rotate_left
 ·(intro W hW;have e5:=HA.out.get 61 rfl;have g5:=getD_of e5;obtain ⟨⟨h0,h1⟩, -⟩:=hW;go_simp;try with_reducible rfl)
 intro A aa;clear HA;have HA:=hid aa;clear aa;refine loudT 42 rfl (by kernel_rfl) (wanted_by rfl rfl (HA.get 1 rfl)) (fun K hK=>?_);go_simp;refine zM (span_aw ⟨#[45,54]⟩ ⟨#[56]⟩ _) fun e0 hn=>?_;obtain ⟨HN,HS⟩:=zn2 hn.undrew HN HS.new;clear hn;refine hK.out _ _ (fun _=>HS) ?_;clear hK K;refine putT (N:=218) (d:=158) HA (by decide) (by kernel_rfl) ?_;intro A aa;clear HA;have HA:=hid aa;clear aa;refine sT (N:=218) (d:=159) (v:=?_) (hw:=wanted_by rfl rfl (HA.get 2 rfl)) 43 HS HA ?_ ?_;rotate_left
 ·(intro W hW;have bl:=HA.out.get 1 rfl;have d0:=getD_of bl;have bm:=HA.out.get 0 rfl;have d1:=getD_of bm;have ce:=neq_span ⟨#[45,54]⟩ ⟨#[56]⟩;go_simp;try with_reducible rfl)
 intro A aa;clear HA;have HA:=hid aa;clear aa;refine sT (N:=218) (d:=160) (v:=?_) 44 HS HA ?_ ?_;rotate_left
 ·(intro W hW;have bk:=HA.out.get 3 rfl;have dz:=getD_of bk;have bn:=HA.out.get 0 rfl;have d2:=getD_of bn;go_simp;try with_reducible rfl)
 intro A aa;clear HA;have HA:=hid aa;clear aa;refine sT (N:=218) (d:=161) (v:=?_) 45 HS HA ?_ ?_;rotate_left
 ·(intro W hW;have bo:=HA.out.get 0 rfl;have d3:=getD_of bo;go_simp;try with_reducible rfl)
 intro A aa;clear HA;have HA:=hid aa;clear aa;refine sT (N:=218) (d:=162) (v:=?_) (hw:=wanted_by rfl rfl (HA.get 0 rfl)) 46 HS HA ?_ ?_;rotate_left
 ·(intro W hW;have e7:=HA.out.get 67 rfl;have g7:=getD_of e7;obtain ⟨-,⟨h0,h1⟩, -⟩:=hW;go_simp;try with_reducible rfl)
 intro A aa;clear HA;have HA:=hid aa;clear aa;refine loudT 47 rfl (by kernel_rfl) (wanted_by rfl rfl (HA.get 1 rfl)) (fun K hK=>?_);go_simp;refine zM (span_aw ⟨#[49,47,56]⟩ ⟨#[49,47,50]⟩ _) fun fa hn=>?_;obtain ⟨HN,HS⟩:=zn2 hn HN HS.new;clear hn;refine hK.out _ _ (fun _=>HS) ?_;clear hK K;refine putT (N:=218) (d:=163) HA (by decide) (by kernel_rfl) ?_;intro A aa;clear HA;have HA:=hid aa;clear aa;refine sT (N:=218) (d:=164) (v:=?_) (hw:=wanted_by rfl rfl (HA.get 2 rfl)) 48 HS HA ?_ ?_;rotate_left
 ·(intro W hW;have bq:=HA.out.get 1 rfl;have d5:=getD_of bq;have br:=HA.out.get 0 rfl;have d6:=getD_of br;have ce:=neq_span ⟨#[49,47,56]⟩ ⟨#[49,47,50]⟩;go_simp;try with_reducible rfl)
 intro A aa;clear HA;have HA:=hid aa;clear aa;refine sT (N:=218) (d:=165) (v:=?_) 49 HS HA ?_ ?_;rotate_left
 ·(intro W hW;have bp:=HA.out.get 3 rfl;have d4:=getD_of bp;have bt:=HA.out.get 0 rfl;have d7:=getD_of bt;go_simp;try with_reducible rfl)
 intro A aa;clear HA;have HA:=hid aa;clear aa;refine sT (N:=218) (d:=166) (v:=?_) 50 HS HA ?_ ?_;rotate_left
 ·(intro W hW;have bu:=HA.out.get 0 rfl;have d8:=getD_of bu;go_simp;try with_reducible rfl)
 intro A aa;clear HA;have HA:=hid aa;clear aa;refine sT (N:=218) (d:=167) (v:=?_) (hw:=wanted_by rfl rfl (HA.get 0 rfl)) 51 HS HA ?_ ?_;rotate_left
 ·(intro W hW;have e9:=HA.out.get 69 rfl;have g9:=getD_of e9;go_simp;try with_reducible rfl)
 intro A aa;clear HA;have HA:=hid aa;clear aa;refine sT (N:=218) (d:=168) (v:=?_) (hw:=wanted_by rfl rfl (HA.get 1 rfl)) 52 HS HA ?_ ?_;rotate_left
 ·(intro W hW;have bw:=HA.out.get 0 rfl;have ea:=getD_of bw;go_simp;try with_reducible rfl)
 intro A aa;clear HA;have HA:=hid aa;clear aa;refine sT (N:=218) (d:=169) (v:=?_) 53 HS HA ?_ ?_;rotate_left
 ·(intro W hW;have bv:=HA.out.get 2 rfl;have d9:=getD_of bv;have bx:=HA.out.get 0 rfl;have eb:=getD_of bx;go_simp;try with_reducible rfl)
 intro A aa;clear HA;have HA:=hid aa;clear aa;refine sT (N:=218) (d:=170) (v:=?_) 54 HS HA ?_ ?_;rotate_left
 ·(intro W hW;have bz:=HA.out.get 0 rfl;have ec:=getD_of bz;go_simp;try with_reducible rfl)
 intro A aa;clear HA;have HA:=hid aa;clear aa;refine sT (N:=218) (d:=171) (v:=?_) (hw:=wanted_by rfl rfl (HA.get 0 rfl)) 55 HS HA ?_ ?_;rotate_left
 ·(intro W hW;have cg:=HA.out.get 74 rfl;have em:=getD_of cg;go_simp;try with_reducible rfl)
 intro A aa;clear HA;have HA:=hid aa;clear aa;refine sT (N:=218) (d:=172) (v:=?_) (hw:=wanted_by rfl rfl (HA.get 1 rfl)) 56 HS HA ?_ ?_;rotate_left
 ·(intro W hW;have b1:=HA.out.get 0 rfl;have ee:=getD_of b1;go_simp;try with_reducible rfl)
 intro A aa;clear HA;have HA:=hid aa;clear aa;refine sT (N:=218) (d:=173) (v:=?_) 57 HS HA ?_ ?_;rotate_left
 ·(intro W hW;have b0:=HA.out.get 2 rfl;have ed:=getD_of b0;have b2:=HA.out.get 0 rfl;have ef:=getD_of b2;go_simp;try with_reducible rfl)
 intro A aa;clear HA;have HA:=hid aa;clear aa;refine sT (N:=218) (d:=174) (v:=?_) 58 HS HA ?_ ?_;rotate_left
 ·(intro W hW;have b5:=HA.out.get 0 rfl;have eg:=getD_of b5;go_simp;try with_reducible rfl)
 intro A aa;clear HA;have HA:=hid aa;clear aa;refine sT (N:=218) (d:=175) (v:=?_) (hw:=wanted_by rfl rfl (HA.get 0 rfl)) 59 HS HA ?_ ?_;rotate_left
 ·(intro W hW;have ch:=HA.out.get 81 rfl;have en:=getD_of ch;obtain ⟨-, -,h0,h1⟩:=hW;go_simp;try with_reducible rfl)
 intro A aa;clear HA;have HA:=hid aa;clear aa;refine loudT 60 rfl (by kernel_rfl) (wanted_by rfl rfl (HA.get 1 rfl)) (fun K hK=>?_);go_simp;refine zM (span_aw ⟨#[55,48,55,47,53,48,48]⟩ ⟨#[50,56,51,47,50,48,48]⟩ _) fun fc hn=>?_;obtain ⟨HN,HS⟩:=zn2 hn HN HS.new;clear hn;refine hK.out _ _ (fun _=>HS) ?_;clear hK K;refine putT (N:=218) (d:=176) HA (by decide) (by kernel_rfl) ?_;intro A aa;clear HA;have HA:=hid aa;clear aa;refine sT (N:=218) (d:=177) (v:=?_) (hw:=wanted_by rfl rfl (HA.get 2 rfl)) 61 HS HA ?_ ?_;rotate_left
 ·(intro W hW;have ca:=HA.out.get 1 rfl;have ei:=getD_of ca;have cb:=HA.out.get 0 rfl;have ej:=getD_of cb;have ce:=neq_span ⟨#[55,48,55,47,53,48,48]⟩ ⟨#[50,56,51,47,50,48,48]⟩;go_simp;try with_reducible rfl)
 intro A aa;clear HA;replace aa:=hid aa;refine wpT_tail rfl (by kernel_rfl) ?_;have b6:=aa.out.get 3 rfl;have eh:=getD_of b6;have cd:=aa.out.get 0 rfl;have ek:=getD_of cd;simp only[List.drop_succ_cons,List.drop_zero];refine wpList_plain rfl fun K hK=>?_;go_simp;refine hK _ _ ?_;clear hK K;have HB:=aa.out.put (d:=178) (v:=.bool false) (by decide) (by kernel_rfl);rw[wpList];refine ab _ _ ⟨HB.1,HB.2.1,HB.get 0 rfl,HB.get (85+1) rfl,HB.get (86+1) rfl,HB.get (87+1) rfl,HB.get (88+1) rfl,HB.get (89+1) rfl,HB.get (90+1) rfl,HB.get (91+1) rfl,HB.get (92+1) rfl,HB.get (93+1) rfl,trivial⟩ HN
end Go.Proofs.YtnjonlnemagomaaGreatDoor
