/- Part B48. -/
import Derived.Test.YtnjonlnemagomaaGreatDoorB47
namespace Go.Proofs.YtnjonlnemagomaaGreatDoor
open Go.RowKit Big Go.Lib
set_option maxRecDepth 100000
set_option maxHeartbeats 8000000
theorem yc1 (a b:ByteArray)(W:World):(binOp .neq 53 (.agg #[.string a,.string b]) (.agg #[.string a,.string b])).run Tryz.prog W=.ok (.bool false) W:=by
 rw[run_neq_struct,y6w];simp
theorem ych (a b:ByteArray)(W:World):(binOp .eql 53 (.agg #[.string a,.string b]) (.agg #[.string a,.string b])).run Tryz.prog W=.ok (.bool true) W:=by
 rw[run_eql_struct,y6w];simp
noncomputable def yd1 (n:Nat):Code:=ylq n ((Tryz.f13.body).getD .skip)
def yoa:Code->Code
 | .seq a _=>a
 | c=>c
def Two (W:World)(b:Nat)(x y:ByteArray):Prop:=W.cell? ⟨b,0,none⟩=some (.string x)/\W.cell? ⟨b,1,none⟩=some (.string y)
theorem Two.new {w w':World}{b:Nat}{x y:ByteArray}(h:Two w b x y)(hn:New w w'):Two w' b x y:=⟨hn.cell h.1,hn.cell h.2⟩
def AwA (W:World)(b3 b4 b7:Nat):Prop:=Two W b3 ⟨#[45,54]⟩ ⟨#[56]⟩/\Two W b4 ⟨#[49,47,56]⟩ ⟨#[49,47,50]⟩/\Two W b7 ⟨#[55,48,55,47,53,48,48]⟩ ⟨#[50,56,51,47,50,48,48]⟩
theorem AwA.new {w w':World}{b3 b4 b7:Nat}(h:AwA w b3 b4 b7)(hn:New w w'):AwA w' b3 b4 b7:=⟨h.1.new hn,h.2.1.new hn,h.2.2.new hn⟩
def awAll (b3 b4 b7 b8 b9 ba c17 c18:Nat)(a17 a18:Option Addr):List (Nat × Value):=[(2,.int .i64 0),(4,.int .i64 0),(6,.int .i64 0),(8,.int .i64 0),(10,.int .i64 0),(14,.int .i64 0),(16,.int .i64 0),(18,.int .i64 0),(20,.int .i64 0),(22,.int .i64 0),(24,.int .i64 0),(26,.int .i64 0),(28,.int .i64 0),(30,.int .i64 0),(32,.int .i64 0),(34,.int .i64 0),(1,.string ⟨#[45,53,47,50]⟩),(3,.string ⟨#[45,51]⟩),(9,.int .i64 (-1)),(12,.int .i64 24),(5,.pointer (some ⟨b3,0,none⟩)),(7,.pointer (some ⟨b4,0,none⟩)),(13,.pointer (some ⟨b7,0,none⟩)),(15,.pointer (some ⟨b8,0,none⟩)),(17,.pointer (some ⟨b9,0,none⟩)),(19,.pointer (some ⟨ba,0,none⟩)),(23,.string ⟨#[49,49,49,56,52,56,49,49,47,51,51,53,53,52,52,51,50]⟩),(25,.float .f32 1266679808),(27,.float .f32 1266679810),(29,.string ⟨#[49,52]⟩),(31,.slice a17 3 c17),(33,.slice a18 3 c18)]
def ynm (b8 b9 ba c17 c18:Nat)(a17 a18:Option Addr):List (Nat × Value):=[(178,.bool false),(15,.pointer (some ⟨b8,0,none⟩)),(17,.pointer (some ⟨b9,0,none⟩)),(19,.pointer (some ⟨ba,0,none⟩)),(23,.string ⟨#[49,49,49,56,52,56,49,49,47,51,51,53,53,52,52,51,50]⟩),(25,.float .f32 1266679808),(27,.float .f32 1266679810),(29,.string ⟨#[49,52]⟩),(31,.slice a17 3 c17),(33,.slice a18 3 c18)]
theorem ykw (w w18:World) (A:Act) (b3 b4 b7 b8 b9 ba c17 c18:Nat) (a17 a18:Option Addr) (HS:Hid (AwA w18 b3 b4 b7)) (HA:Has 218 A (awAll b3 b4 b7 b8 b9 ba c17 c18 a17 a18)) (K0 K1:Act->World->Prop)
  (hK0:∀ a W,Has 218 a (ynm b8 b9 ba c17 c18 a17 a18)->New w18 W->K0 a W):
  Code.wp Tryz.prog (yoa (yoa (yd1 18))) (Exit.then K0 (Exit.then K1 (bodyPost Tryz.prog Tryz.f13 (fun e w'=>e=.returned (.bool true)/\New w w')))) A w18:=by
 have HN:=hid (New.refl w18)
 conv=>arg 2;whnf
 have HK0:=hid hK0;clear hK0;have HA_:Has 218 A [(2,.int .i64 0),(4,.int .i64 0),(6,.int .i64 0),(8,.int .i64 0),(10,.int .i64 0),(14,.int .i64 0),(16,.int .i64 0),(18,.int .i64 0),(20,.int .i64 0),(22,.int .i64 0),(24,.int .i64 0),(26,.int .i64 0),(28,.int .i64 0),(30,.int .i64 0),(32,.int .i64 0),(34,.int .i64 0),(1,.string ⟨#[45,53,47,50]⟩),(3,.string ⟨#[45,51]⟩),(9,.int .i64 (-1)),(12,.int .i64 24),(5,.pointer (some ⟨b3,0,none⟩)),(7,.pointer (some ⟨b4,0,none⟩)),(13,.pointer (some ⟨b7,0,none⟩)),(15,.pointer (some ⟨b8,0,none⟩)),(17,.pointer (some ⟨b9,0,none⟩)),(19,.pointer (some ⟨ba,0,none⟩)),(23,.string ⟨#[49,49,49,56,52,56,49,49,47,51,51,53,53,52,52,51,50]⟩),(25,.float .f32 1266679808),(27,.float .f32 1266679810),(29,.string ⟨#[49,52]⟩),(31,.slice a17 3 c17),(33,.slice a18 3 c18)]:=HA;clear HA;have HA:=hid HA_;clear HA_;refine y00 62 (fun W=>AwA W b3 b4 b7) 63 (List.toArray (false::false::false::false::false::false::false::false::false::false::false::false::false::false::false::false::false::false::false::false::false::false::false::false::false::false::false::false::false::false::false::false::false::false::false::false::false::false::false::false::false::false::false::false::false::false::false::false::false::false::false::false::false::false::false::false::false::false::false::false::false::false::false::[])) rfl (by kernel_rfl) (by kernel_rfl) ?_;refine sT (N:=218) (d:=116) (v:=?_) 0 HS HA ?_ ?_;rotate_left
 ·(intro W hW;have e2:=HA.out.get 0 rfl;have g2:=y01 e2;go_simp;try with_reducible rfl)
 intro A HA_;clear HA;have HA:=hid HA_;clear HA_;refine sT (N:=218) (d:=117) (v:=?_) 1 HS HA ?_ ?_;rotate_left
 ·(intro W hW;have e4:=HA.out.get 2 rfl;have g4:=y01 e4;go_simp;try with_reducible rfl)
 intro A HA_;clear HA;have HA:=hid HA_;clear HA_;refine sT (N:=218) (d:=118) (v:=?_) 2 HS HA ?_ ?_;rotate_left
 ·(intro W hW;have e116:=HA.out.get 1 rfl;have g116:=y01 e116;have e117:=HA.out.get 0 rfl;have g117:=y01 e117;go_simp;try with_reducible rfl)
 intro A HA_;clear HA;have HA:=hid HA_;clear HA_;refine sT (N:=218) (d:=119) (v:=?_) 3 HS HA ?_ ?_;rotate_left
 ·(intro W hW;have e6:=HA.out.get 5 rfl;have g6:=y01 e6;go_simp;try with_reducible rfl)
 intro A HA_;clear HA;have HA:=hid HA_;clear HA_;refine sT (N:=218) (d:=120) (v:=?_) 4 HS HA ?_ ?_;rotate_left
 ·(intro W hW;have e118:=HA.out.get 1 rfl;have g118:=y01 e118;have e119:=HA.out.get 0 rfl;have g119:=y01 e119;go_simp;try with_reducible rfl)
 intro A HA_;clear HA;have HA:=hid HA_;clear HA_;refine sT (N:=218) (d:=121) (v:=?_) 5 HS HA ?_ ?_;rotate_left
 ·(intro W hW;have e8:=HA.out.get 8 rfl;have g8:=y01 e8;go_simp;try with_reducible rfl)
 intro A HA_;clear HA;have HA:=hid HA_;clear HA_;refine sT (N:=218) (d:=122) (v:=?_) 6 HS HA ?_ ?_;rotate_left
 ·(intro W hW;have e120:=HA.out.get 1 rfl;have g120:=y01 e120;have e121:=HA.out.get 0 rfl;have g121:=y01 e121;go_simp;try with_reducible rfl)
 intro A HA_;clear HA;have HA:=hid HA_;clear HA_;refine sT (N:=218) (d:=123) (v:=?_) 7 HS HA ?_ ?_;rotate_left
 ·(intro W hW;have e10:=HA.out.get 11 rfl;have g10:=y01 e10;go_simp;try with_reducible rfl)
 intro A HA_;clear HA;have HA:=hid HA_;clear HA_;refine sT (N:=218) (d:=124) (v:=?_) 8 HS HA ?_ ?_;rotate_left
 ·(intro W hW;have e122:=HA.out.get 1 rfl;have g122:=y01 e122;have e123:=HA.out.get 0 rfl;have g123:=y01 e123;go_simp;try with_reducible rfl)
 intro A HA_;clear HA;have HA:=hid HA_;clear HA_;refine sT (N:=218) (d:=125) (v:=?_) 9 HS HA ?_ ?_;rotate_left
 ·(intro W hW;have e14:=HA.out.get 14 rfl;have g14:=y01 e14;go_simp;try with_reducible rfl)
 intro A HA_;clear HA;have HA:=hid HA_;clear HA_;refine sT (N:=218) (d:=126) (v:=?_) 10 HS HA ?_ ?_;rotate_left
 ·(intro W hW;have e124:=HA.out.get 1 rfl;have g124:=y01 e124;have e125:=HA.out.get 0 rfl;have g125:=y01 e125;go_simp;try with_reducible rfl)
 intro A HA_;clear HA;have HA:=hid HA_;clear HA_;refine sT (N:=218) (d:=127) (v:=?_) 11 HS HA ?_ ?_;rotate_left
 ·(intro W hW;have e16:=HA.out.get 17 rfl;have g16:=y01 e16;go_simp;try with_reducible rfl)
 intro A HA_;clear HA;have HA:=hid HA_;clear HA_;refine sT (N:=218) (d:=128) (v:=?_) 12 HS HA ?_ ?_;rotate_left
 ·(intro W hW;have e126:=HA.out.get 1 rfl;have g126:=y01 e126;have e127:=HA.out.get 0 rfl;have g127:=y01 e127;go_simp;try with_reducible rfl)
 intro A HA_;clear HA;have HA:=hid HA_;clear HA_;refine sT (N:=218) (d:=129) (v:=?_) 13 HS HA ?_ ?_;rotate_left
 ·(intro W hW;have e18:=HA.out.get 20 rfl;have g18:=y01 e18;go_simp;try with_reducible rfl)
 intro A HA_;clear HA;have HA:=hid HA_;clear HA_;refine sT (N:=218) (d:=130) (v:=?_) 14 HS HA ?_ ?_;rotate_left
 ·(intro W hW;have e128:=HA.out.get 1 rfl;have g128:=y01 e128;have e129:=HA.out.get 0 rfl;have g129:=y01 e129;go_simp;try with_reducible rfl)
 intro A HA_;clear HA;have HA:=hid HA_;clear HA_;refine sT (N:=218) (d:=131) (v:=?_) 15 HS HA ?_ ?_;rotate_left
 ·(intro W hW;have e20:=HA.out.get 23 rfl;have g20:=y01 e20;go_simp;try with_reducible rfl)
 intro A HA_;clear HA;have HA:=hid HA_;clear HA_;refine sT (N:=218) (d:=132) (v:=?_) 16 HS HA ?_ ?_;rotate_left
 ·(intro W hW;have e130:=HA.out.get 1 rfl;have g130:=y01 e130;have e131:=HA.out.get 0 rfl;have g131:=y01 e131;go_simp;try with_reducible rfl)
 intro A HA_;clear HA;have HA:=hid HA_;clear HA_;refine sT (N:=218) (d:=133) (v:=?_) 17 HS HA ?_ ?_;rotate_left
 ·(intro W hW;have e22:=HA.out.get 26 rfl;have g22:=y01 e22;go_simp;try with_reducible rfl)
 intro A HA_;clear HA;have HA:=hid HA_;clear HA_;refine sT (N:=218) (d:=134) (v:=?_) 18 HS HA ?_ ?_;rotate_left
 ·(intro W hW;have e132:=HA.out.get 1 rfl;have g132:=y01 e132;have e133:=HA.out.get 0 rfl;have g133:=y01 e133;go_simp;try with_reducible rfl)
 intro A HA_;clear HA;have HA:=hid HA_;clear HA_;refine sT (N:=218) (d:=135) (v:=?_) 19 HS HA ?_ ?_;rotate_left
 ·(intro W hW;have e24:=HA.out.get 29 rfl;have g24:=y01 e24;go_simp;try with_reducible rfl)
 intro A HA_;clear HA;have HA:=hid HA_;clear HA_;refine sT (N:=218) (d:=136) (v:=?_) 20 HS HA ?_ ?_;rotate_left
 ·(intro W hW;have e134:=HA.out.get 1 rfl;have g134:=y01 e134;have e135:=HA.out.get 0 rfl;have g135:=y01 e135;go_simp;try with_reducible rfl)
 intro A HA_;clear HA;have HA:=hid HA_;clear HA_;refine sT (N:=218) (d:=137) (v:=?_) 21 HS HA ?_ ?_;rotate_left
 ·(intro W hW;have e26:=HA.out.get 32 rfl;have g26:=y01 e26;go_simp;try with_reducible rfl)
 intro A HA_;clear HA;have HA:=hid HA_;clear HA_;refine sT (N:=218) (d:=138) (v:=?_) 22 HS HA ?_ ?_;rotate_left
 ·(intro W hW;have e136:=HA.out.get 1 rfl;have g136:=y01 e136;have e137:=HA.out.get 0 rfl;have g137:=y01 e137;go_simp;try with_reducible rfl)
 intro A HA_;clear HA;have HA:=hid HA_;clear HA_;refine sT (N:=218) (d:=139) (v:=?_) 23 HS HA ?_ ?_;rotate_left
 ·(intro W hW;have e28:=HA.out.get 35 rfl;have g28:=y01 e28;go_simp;try with_reducible rfl)
 intro A HA_;clear HA;have HA:=hid HA_;clear HA_;refine sT (N:=218) (d:=140) (v:=?_) 24 HS HA ?_ ?_;rotate_left
 ·(intro W hW;have e138:=HA.out.get 1 rfl;have g138:=y01 e138;have e139:=HA.out.get 0 rfl;have g139:=y01 e139;go_simp;try with_reducible rfl)
 intro A HA_;clear HA;have HA:=hid HA_;clear HA_;refine sT (N:=218) (d:=141) (v:=?_) 25 HS HA ?_ ?_;rotate_left
 ·(intro W hW;have e30:=HA.out.get 38 rfl;have g30:=y01 e30;go_simp;try with_reducible rfl)
 intro A HA_;clear HA;have HA:=hid HA_;clear HA_;refine sT (N:=218) (d:=142) (v:=?_) 26 HS HA ?_ ?_;rotate_left
 ·(intro W hW;have e140:=HA.out.get 1 rfl;have g140:=y01 e140;have e141:=HA.out.get 0 rfl;have g141:=y01 e141;go_simp;try with_reducible rfl)
 intro A HA_;clear HA;have HA:=hid HA_;clear HA_;refine sT (N:=218) (d:=143) (v:=?_) 27 HS HA ?_ ?_;rotate_left
 ·(intro W hW;have e32:=HA.out.get 41 rfl;have g32:=y01 e32;go_simp;try with_reducible rfl)
 intro A HA_;clear HA;have HA:=hid HA_;clear HA_;refine sT (N:=218) (d:=144) (v:=?_) 28 HS HA ?_ ?_;rotate_left
 ·(intro W hW;have e142:=HA.out.get 1 rfl;have g142:=y01 e142;have e143:=HA.out.get 0 rfl;have g143:=y01 e143;go_simp;try with_reducible rfl)
 intro A HA_;clear HA;have HA:=hid HA_;clear HA_;refine sT (N:=218) (d:=145) (v:=?_) 29 HS HA ?_ ?_;rotate_left
 ·(intro W hW;have e34:=HA.out.get 44 rfl;have g34:=y01 e34;go_simp;try with_reducible rfl)
 intro A HA_;clear HA;have HA:=hid HA_;clear HA_;refine sT (N:=218) (d:=146) (v:=?_) 30 HS HA ?_ ?_;rotate_left
 ·(intro W hW;have e144:=HA.out.get 1 rfl;have g144:=y01 e144;have e145:=HA.out.get 0 rfl;have g145:=y01 e145;go_simp;try with_reducible rfl)
 intro A HA_;clear HA;have HA:=hid HA_;clear HA_;refine sT (N:=218) (d:=147) (v:=?_) 31 HS HA ?_ ?_;rotate_left
 ·(intro W hW;have e146:=HA.out.get 0 rfl;have g146:=y01 e146;go_simp;try with_reducible rfl)
 intro A HA_;clear HA;have HA:=hid HA_;clear HA_;refine sT (N:=218) (d:=148) (v:=?_) 32 HS HA ?_ ?_;rotate_left
 ·(intro W hW;have e147:=HA.out.get 0 rfl;have g147:=y01 e147;go_simp;try with_reducible rfl)
 intro A HA_;clear HA;have HA:=hid HA_;clear HA_;refine sT (N:=218) (d:=149) (v:=?_) (hw:=y08 rfl rfl (HA.out.get 0 rfl)) 33 HS HA ?_ ?_;rotate_left
 ·(intro W hW;have e1:=HA.out.get 49 rfl;have g1:=y01 e1;go_simp;try with_reducible rfl)
 intro A HA_;clear HA;have HA:=hid HA_;clear HA_;refine sT (N:=218) (d:=150) (v:=?_) (hw:=y08 rfl rfl (HA.out.get 1 rfl)) 34 HS HA ?_ ?_;rotate_left
 ·(intro W hW;have e149:=HA.out.get 0 rfl;have g149:=y01 e149;go_simp;try with_reducible rfl)
 intro A HA_;clear HA;have HA:=hid HA_;clear HA_;refine sT (N:=218) (d:=151) (v:=?_) 35 HS HA ?_ ?_;rotate_left
 ·(intro W hW;have e148:=HA.out.get 2 rfl;have g148:=y01 e148;have e150:=HA.out.get 0 rfl;have g150:=y01 e150;go_simp;try with_reducible rfl)
 intro A HA_;clear HA;have HA:=hid HA_;clear HA_;refine sT (N:=218) (d:=152) (v:=?_) 36 HS HA ?_ ?_;rotate_left
 ·(intro W hW;have e151:=HA.out.get 0 rfl;have g151:=y01 e151;go_simp;try with_reducible rfl)
 intro A HA_;clear HA;have HA:=hid HA_;clear HA_;refine sT (N:=218) (d:=153) (v:=?_) (hw:=y08 rfl rfl (HA.out.get 0 rfl)) 37 HS HA ?_ ?_;rotate_left
 ·(intro W hW;have e3:=HA.out.get 54 rfl;have g3:=y01 e3;go_simp;try with_reducible rfl)
 intro A HA_;clear HA;have HA:=hid HA_;clear HA_;refine sT (N:=218) (d:=154) (v:=?_) (hw:=y08 rfl rfl (HA.out.get 1 rfl)) 38 HS HA ?_ ?_;rotate_left
 ·(intro W hW;have e153:=HA.out.get 0 rfl;have g153:=y01 e153;go_simp;try with_reducible rfl)
 intro A HA_;clear HA;have HA:=hid HA_;clear HA_;refine sT (N:=218) (d:=155) (v:=?_) 39 HS HA ?_ ?_;rotate_left
 ·(intro W hW;have e152:=HA.out.get 2 rfl;have g152:=y01 e152;have e154:=HA.out.get 0 rfl;have g154:=y01 e154;go_simp;try with_reducible rfl)
 intro A HA_;clear HA;have HA:=hid HA_;clear HA_;refine sT (N:=218) (d:=156) (v:=?_) 40 HS HA ?_ ?_;rotate_left
 ·(intro W hW;have e155:=HA.out.get 0 rfl;have g155:=y01 e155;go_simp;try with_reducible rfl)
 intro A HA_;clear HA;have HA:=hid HA_;clear HA_;refine sT (N:=218) (d:=157) (v:=?_) (hw:=y08 rfl rfl (HA.out.get 0 rfl)) 41 HS HA ?_ ?_;rotate_left
 ·(intro W hW;have e5:=HA.out.get 61 rfl;have g5:=y01 e5;obtain ⟨⟨h0,h1⟩, -⟩:=hW;go_simp;try with_reducible rfl)
 intro A HA_;clear HA;have HA:=hid HA_;clear HA_;refine yab 42 rfl (by kernel_rfl) (y08 rfl rfl (HA.out.get 1 rfl)) (fun K hK=>?_);go_simp;refine (y3f ⟨#[45,54]⟩ ⟨#[56]⟩ _).mono ?_;rintro e wx0 ⟨rfl,hn⟩;have hn:=hn.undrew;replace HS:=hid (HS.out.new hn);replace HN:=tW HN hn;clear hn;refine hK.out _ _ (fun _=>HS.out) ?_;clear hK K;refine putT (N:=218) (d:=158) HA.out (by decide) (by kernel_rfl) ?_;intro A HA_;clear HA;have HA:=hid HA_;clear HA_;refine sT (N:=218) (d:=159) (v:=?_) (hw:=y08 rfl rfl (HA.out.get 2 rfl)) 43 HS HA ?_ ?_;rotate_left
 ·(intro W hW;have e157:=HA.out.get 1 rfl;have g157:=y01 e157;have e158:=HA.out.get 0 rfl;have g158:=y01 e158;have hes:=yc1 ⟨#[45,54]⟩ ⟨#[56]⟩;go_simp;try with_reducible rfl)
 intro A HA_;clear HA;have HA:=hid HA_;clear HA_;refine sT (N:=218) (d:=160) (v:=?_) 44 HS HA ?_ ?_;rotate_left
 ·(intro W hW;have e156:=HA.out.get 3 rfl;have g156:=y01 e156;have e159:=HA.out.get 0 rfl;have g159:=y01 e159;go_simp;try with_reducible rfl)
 intro A HA_;clear HA;have HA:=hid HA_;clear HA_;refine sT (N:=218) (d:=161) (v:=?_) 45 HS HA ?_ ?_;rotate_left
 ·(intro W hW;have e160:=HA.out.get 0 rfl;have g160:=y01 e160;go_simp;try with_reducible rfl)
 intro A HA_;clear HA;have HA:=hid HA_;clear HA_;refine sT (N:=218) (d:=162) (v:=?_) (hw:=y08 rfl rfl (HA.out.get 0 rfl)) 46 HS HA ?_ ?_;rotate_left
 ·(intro W hW;have e7:=HA.out.get 67 rfl;have g7:=y01 e7;obtain ⟨-,⟨h0,h1⟩, -⟩:=hW;go_simp;try with_reducible rfl)
 intro A HA_;clear HA;have HA:=hid HA_;clear HA_;refine yab 47 rfl (by kernel_rfl) (y08 rfl rfl (HA.out.get 1 rfl)) (fun K hK=>?_);go_simp;refine (y3f ⟨#[49,47,56]⟩ ⟨#[49,47,50]⟩ _).mono ?_;rintro e wx1 ⟨rfl,hn⟩;replace HS:=hid (HS.out.new hn);replace HN:=tW HN hn;clear hn;refine hK.out _ _ (fun _=>HS.out) ?_;clear hK K;refine putT (N:=218) (d:=163) HA.out (by decide) (by kernel_rfl) ?_;intro A HA_;clear HA;have HA:=hid HA_;clear HA_;refine sT (N:=218) (d:=164) (v:=?_) (hw:=y08 rfl rfl (HA.out.get 2 rfl)) 48 HS HA ?_ ?_;rotate_left
 ·(intro W hW;have e162:=HA.out.get 1 rfl;have g162:=y01 e162;have e163:=HA.out.get 0 rfl;have g163:=y01 e163;have hes:=yc1 ⟨#[49,47,56]⟩ ⟨#[49,47,50]⟩;go_simp;try with_reducible rfl)
 intro A HA_;clear HA;have HA:=hid HA_;clear HA_;refine sT (N:=218) (d:=165) (v:=?_) 49 HS HA ?_ ?_;rotate_left
 ·(intro W hW;have e161:=HA.out.get 3 rfl;have g161:=y01 e161;have e164:=HA.out.get 0 rfl;have g164:=y01 e164;go_simp;try with_reducible rfl)
 intro A HA_;clear HA;have HA:=hid HA_;clear HA_;refine sT (N:=218) (d:=166) (v:=?_) 50 HS HA ?_ ?_;rotate_left
 ·(intro W hW;have e165:=HA.out.get 0 rfl;have g165:=y01 e165;go_simp;try with_reducible rfl)
 intro A HA_;clear HA;have HA:=hid HA_;clear HA_;refine sT (N:=218) (d:=167) (v:=?_) (hw:=y08 rfl rfl (HA.out.get 0 rfl)) 51 HS HA ?_ ?_;rotate_left
 ·(intro W hW;have e9:=HA.out.get 69 rfl;have g9:=y01 e9;go_simp;try with_reducible rfl)
 intro A HA_;clear HA;have HA:=hid HA_;clear HA_;refine sT (N:=218) (d:=168) (v:=?_) (hw:=y08 rfl rfl (HA.out.get 1 rfl)) 52 HS HA ?_ ?_;rotate_left
 ·(intro W hW;have e167:=HA.out.get 0 rfl;have g167:=y01 e167;go_simp;try with_reducible rfl)
 intro A HA_;clear HA;have HA:=hid HA_;clear HA_;refine sT (N:=218) (d:=169) (v:=?_) 53 HS HA ?_ ?_;rotate_left
 ·(intro W hW;have e166:=HA.out.get 2 rfl;have g166:=y01 e166;have e168:=HA.out.get 0 rfl;have g168:=y01 e168;go_simp;try with_reducible rfl)
 intro A HA_;clear HA;have HA:=hid HA_;clear HA_;refine sT (N:=218) (d:=170) (v:=?_) 54 HS HA ?_ ?_;rotate_left
 ·(intro W hW;have e169:=HA.out.get 0 rfl;have g169:=y01 e169;go_simp;try with_reducible rfl)
 intro A HA_;clear HA;have HA:=hid HA_;clear HA_;refine sT (N:=218) (d:=171) (v:=?_) (hw:=y08 rfl rfl (HA.out.get 0 rfl)) 55 HS HA ?_ ?_;rotate_left
 ·(intro W hW;have e12:=HA.out.get 74 rfl;have g12:=y01 e12;go_simp;try with_reducible rfl)
 intro A HA_;clear HA;have HA:=hid HA_;clear HA_;refine sT (N:=218) (d:=172) (v:=?_) (hw:=y08 rfl rfl (HA.out.get 1 rfl)) 56 HS HA ?_ ?_;rotate_left
 ·(intro W hW;have e171:=HA.out.get 0 rfl;have g171:=y01 e171;go_simp;try with_reducible rfl)
 intro A HA_;clear HA;have HA:=hid HA_;clear HA_;refine sT (N:=218) (d:=173) (v:=?_) 57 HS HA ?_ ?_;rotate_left
 ·(intro W hW;have e170:=HA.out.get 2 rfl;have g170:=y01 e170;have e172:=HA.out.get 0 rfl;have g172:=y01 e172;go_simp;try with_reducible rfl)
 intro A HA_;clear HA;have HA:=hid HA_;clear HA_;refine sT (N:=218) (d:=174) (v:=?_) 58 HS HA ?_ ?_;rotate_left
 ·(intro W hW;have e173:=HA.out.get 0 rfl;have g173:=y01 e173;go_simp;try with_reducible rfl)
 intro A HA_;clear HA;have HA:=hid HA_;clear HA_;refine sT (N:=218) (d:=175) (v:=?_) (hw:=y08 rfl rfl (HA.out.get 0 rfl)) 59 HS HA ?_ ?_;rotate_left
 ·(intro W hW;have e13:=HA.out.get 81 rfl;have g13:=y01 e13;obtain ⟨-, -,h0,h1⟩:=hW;go_simp;try with_reducible rfl)
 intro A HA_;clear HA;have HA:=hid HA_;clear HA_;refine yab 60 rfl (by kernel_rfl) (y08 rfl rfl (HA.out.get 1 rfl)) (fun K hK=>?_);go_simp;refine (y3f ⟨#[55,48,55,47,53,48,48]⟩ ⟨#[50,56,51,47,50,48,48]⟩ _).mono ?_;rintro e wx2 ⟨rfl,hn⟩;replace HS:=hid (HS.out.new hn);replace HN:=tW HN hn;clear hn;refine hK.out _ _ (fun _=>HS.out) ?_;clear hK K;refine putT (N:=218) (d:=176) HA.out (by decide) (by kernel_rfl) ?_;intro A HA_;clear HA;have HA:=hid HA_;clear HA_;refine sT (N:=218) (d:=177) (v:=?_) (hw:=y08 rfl rfl (HA.out.get 2 rfl)) 61 HS HA ?_ ?_;rotate_left
 ·(intro W hW;have e175:=HA.out.get 1 rfl;have g175:=y01 e175;have e176:=HA.out.get 0 rfl;have g176:=y01 e176;have hes:=yc1 ⟨#[55,48,55,47,53,48,48]⟩ ⟨#[50,56,51,47,50,48,48]⟩;go_simp;try with_reducible rfl)
 intro A HA_;clear HA;have HA:=hid HA_;clear HA_;refine yc2 rfl (by kernel_rfl) ?_;have e174:=HA.out.get 3 rfl;have g174:=y01 e174;have e177:=HA.out.get 0 rfl;have g177:=y01 e177;simp only[List.drop_succ_cons,List.drop_zero];refine wpList_plain rfl fun K hK=>?_;go_simp;refine hK _ _ ?_;clear hK K;have HB:=HA.out.put (d:=178) (v:=.bool false) (by decide) (by kernel_rfl);rw[wpList];refine HK0.out _ _ ⟨HB.1,HB.2.1,HB.get 0 rfl,HB.get (85+1) rfl,HB.get (86+1) rfl,HB.get (87+1) rfl,HB.get (88+1) rfl,HB.get (89+1) rfl,HB.get (90+1) rfl,HB.get (91+1) rfl,HB.get (92+1) rfl,HB.get (93+1) rfl,trivial⟩ HN.out
end Go.Proofs.YtnjonlnemagomaaGreatDoor
