/- Part B49. -/
import Derived.Test.YtnjonlnemagomaaGreatDoorB48
namespace Go.Proofs.YtnjonlnemagomaaGreatDoor
open Go.RowKit Big Go.Lib
set_option maxRecDepth 100000
set_option maxHeartbeats 8000000
theorem Box.rdl {w:World}{B:Nat}{t:TypeId}{cs:Array Value}(h:Box w B t cs):RdL w (some ⟨B,0,none⟩) cs.toList:=fun i hi=>⟨B,0,rfl,by rw[Nat.zero_add,h.cell];simp at hi;simp[hi]⟩
def AwB (W:World)(b3 b4 b7:Nat):Prop:=Two W b3 ⟨#[49,47,50]⟩ ⟨#[49,47,50]⟩/\Two W b4 ⟨#[55,48,55,47,49,48,48,48]⟩ ⟨#[49,55,55,47,50,53,48]⟩/\Two W b7 ⟨#[45,49,55,55,47,50,53,48]⟩ ⟨#[45,55,48,55,47,49,48,48,48]⟩
theorem AwB.new {w w':World}{b3 b4 b7:Nat}(h:AwB w b3 b4 b7)(hn:New w w'):AwB w' b3 b4 b7:=⟨h.1.new hn,h.2.1.new hn,h.2.2.new hn⟩
theorem yix (w w18:World) (A:Act) (b8 b9 ba c17 c18:Nat) (a17 a18:Option Addr) (HN:Hid (New w w18)) (HR1:Hid (RdL w18 a17 (ints [7,14,29]))) (HR2:Hid (RdL w18 a18 (ints [1,2,0]))) (HS:Hid (AwB w18 b8 b9 ba)) (HA:Has 218 A (ynm b8 b9 ba c17 c18 a17 a18)) (K0:Act->World->Prop)
  (hK0:∀ a W,Code.wp Tryz.prog Code.ret (bodyPost Tryz.prog Tryz.f13 (fun e w'=>e=.returned (.bool true)/\New w w')) a W->K0 a W):
  Code.wp Tryz.prog (yoa (yd1 19)) (Exit.then K0 (bodyPost Tryz.prog Tryz.f13 (fun e w'=>e=.returned (.bool true)/\New w w'))) A w18:=by
 conv=>arg 2;whnf
 have HK0:=hid hK0;clear hK0;have HA_:Has 218 A [(178,.bool false),(15,.pointer (some ⟨b8,0,none⟩)),(17,.pointer (some ⟨b9,0,none⟩)),(19,.pointer (some ⟨ba,0,none⟩)),(23,.string ⟨#[49,49,49,56,52,56,49,49,47,51,51,53,53,52,52,51,50]⟩),(25,.float .f32 1266679808),(27,.float .f32 1266679810),(29,.string ⟨#[49,52]⟩),(31,.slice a17 3 c17),(33,.slice a18 3 c18)]:=HA;clear HA;have HA:=hid HA_;clear HA_;refine y00 39 (fun W=>AwB W b8 b9 ba) 40 #[false,false,false,false,false,false,false,false,false,false,false,false,false,false,false,false,false,false,false,false,false,false,false,false,false,false,false,false,false,false,false,false,false,false,false,false,false,false,false,false] rfl (by kernel_rfl) (by kernel_rfl) ?_;refine sT (N:=218) (d:=179) (v:=?_) 0 HS HA ?_ ?_;rotate_left
 ·(intro W hW;have e15:=HA.out.get 1 rfl;have g15:=y01 e15;obtain ⟨⟨h0,h1⟩, -⟩:=hW;go_simp;try with_reducible rfl)
 intro A HA_;clear HA;have HA:=hid HA_;clear HA_;refine yab 1 rfl (by kernel_rfl) (y8a rfl) (fun K hK=>?_);go_simp;refine (y3f ⟨#[49,47,50]⟩ ⟨#[49,47,50]⟩ _).mono ?_;rintro e wx0 ⟨rfl,hn⟩;have hn:=hn.undrew;replace HS:=hid (HS.out.new hn);replace HR1:=hid (HR1.out.new hn);replace HR2:=hid (HR2.out.new hn);replace HN:=tW HN hn;clear hn;refine hK.out _ _ (fun _=>HS.out) ?_;clear hK K;refine putT (N:=218) (d:=180) HA.out (by decide) (by kernel_rfl) ?_;intro A HA_;clear HA;have HA:=hid HA_;clear HA_;refine sT (N:=218) (d:=181) (v:=?_) 2 HS HA ?_ ?_;rotate_left
 ·(intro W hW;have e179:=HA.out.get 1 rfl;have g179:=y01 e179;have e180:=HA.out.get 0 rfl;have g180:=y01 e180;have hes:=ych ⟨#[49,47,50]⟩ ⟨#[49,47,50]⟩;go_simp;try with_reducible rfl)
 intro A HA_;clear HA;have HA:=hid HA_;clear HA_;refine sT (N:=218) (d:=182) (v:=?_) 3 HS HA ?_ ?_;rotate_left
 ·(intro W hW;have e181:=HA.out.get 0 rfl;have g181:=y01 e181;go_simp;try with_reducible rfl)
 intro A HA_;clear HA;have HA:=hid HA_;clear HA_;refine sT (N:=218) (d:=183) (v:=?_) (hw:=y08 rfl rfl (HA.out.get 0 rfl)) 4 HS HA ?_ ?_;rotate_left
 ·(intro W hW;have e17:=HA.out.get 6 rfl;have g17:=y01 e17;obtain ⟨-,⟨h0,h1⟩, -⟩:=hW;go_simp;try with_reducible rfl)
 intro A HA_;clear HA;have HA:=hid HA_;clear HA_;refine yab 5 rfl (by kernel_rfl) (y08 rfl rfl (HA.out.get 1 rfl)) (fun K hK=>?_);go_simp;refine (y3f ⟨#[55,48,55,47,49,48,48,48]⟩ ⟨#[49,55,55,47,50,53,48]⟩ _).mono ?_;rintro e wx1 ⟨rfl,hn⟩;replace HS:=hid (HS.out.new hn);replace HR1:=hid (HR1.out.new hn);replace HR2:=hid (HR2.out.new hn);replace HN:=tW HN hn;clear hn;refine hK.out _ _ (fun _=>HS.out) ?_;clear hK K;refine putT (N:=218) (d:=184) HA.out (by decide) (by kernel_rfl) ?_;intro A HA_;clear HA;have HA:=hid HA_;clear HA_;refine sT (N:=218) (d:=185) (v:=?_) (hw:=y08 rfl rfl (HA.out.get 2 rfl)) 6 HS HA ?_ ?_;rotate_left
 ·(intro W hW;have e183:=HA.out.get 1 rfl;have g183:=y01 e183;have e184:=HA.out.get 0 rfl;have g184:=y01 e184;have hes:=ych ⟨#[55,48,55,47,49,48,48,48]⟩ ⟨#[49,55,55,47,50,53,48]⟩;go_simp;try with_reducible rfl)
 intro A HA_;clear HA;have HA:=hid HA_;clear HA_;refine sT (N:=218) (d:=186) (v:=?_) 7 HS HA ?_ ?_;rotate_left
 ·(intro W hW;have e182:=HA.out.get 3 rfl;have g182:=y01 e182;have e185:=HA.out.get 0 rfl;have g185:=y01 e185;go_simp;try with_reducible rfl)
 intro A HA_;clear HA;have HA:=hid HA_;clear HA_;refine sT (N:=218) (d:=187) (v:=?_) 8 HS HA ?_ ?_;rotate_left
 ·(intro W hW;have e186:=HA.out.get 0 rfl;have g186:=y01 e186;go_simp;try with_reducible rfl)
 intro A HA_;clear HA;have HA:=hid HA_;clear HA_;refine sT (N:=218) (d:=188) (v:=?_) (hw:=y08 rfl rfl (HA.out.get 0 rfl)) 9 HS HA ?_ ?_;rotate_left
 ·(intro W hW;have e19:=HA.out.get 12 rfl;have g19:=y01 e19;obtain ⟨-, -,h0,h1⟩:=hW;go_simp;try with_reducible rfl)
 intro A HA_;clear HA;have HA:=hid HA_;clear HA_;refine yab 10 rfl (by kernel_rfl) (y08 rfl rfl (HA.out.get 1 rfl)) (fun K hK=>?_);go_simp;refine (y3f ⟨#[45,49,55,55,47,50,53,48]⟩ ⟨#[45,55,48,55,47,49,48,48,48]⟩ _).mono ?_;rintro e wx2 ⟨rfl,hn⟩;replace HS:=hid (HS.out.new hn);replace HR1:=hid (HR1.out.new hn);replace HR2:=hid (HR2.out.new hn);replace HN:=tW HN hn;clear hn;refine hK.out _ _ (fun _=>HS.out) ?_;clear hK K;refine putT (N:=218) (d:=189) HA.out (by decide) (by kernel_rfl) ?_;intro A HA_;clear HA;have HA:=hid HA_;clear HA_;refine sT (N:=218) (d:=190) (v:=?_) (hw:=y08 rfl rfl (HA.out.get 2 rfl)) 11 HS HA ?_ ?_;rotate_left
 ·(intro W hW;have e188:=HA.out.get 1 rfl;have g188:=y01 e188;have e189:=HA.out.get 0 rfl;have g189:=y01 e189;have hes:=ych ⟨#[45,49,55,55,47,50,53,48]⟩ ⟨#[45,55,48,55,47,49,48,48,48]⟩;go_simp;try with_reducible rfl)
 intro A HA_;clear HA;have HA:=hid HA_;clear HA_;refine sT (N:=218) (d:=191) (v:=?_) 12 HS HA ?_ ?_;rotate_left
 ·(intro W hW;have e187:=HA.out.get 3 rfl;have g187:=y01 e187;have e190:=HA.out.get 0 rfl;have g190:=y01 e190;go_simp;try with_reducible rfl)
 intro A HA_;clear HA;have HA:=hid HA_;clear HA_;refine sT (N:=218) (d:=192) (v:=?_) 13 HS HA ?_ ?_;rotate_left
 ·(intro W hW;have e191:=HA.out.get 0 rfl;have g191:=y01 e191;go_simp;try with_reducible rfl)
 intro A HA_;clear HA;have HA:=hid HA_;clear HA_;refine sT (N:=218) (d:=193) (v:=?_) (hw:=y08 rfl rfl (HA.out.get 0 rfl)) 14 HS HA ?_ ?_;rotate_left
 ·(intro W hW;have e23:=HA.out.get 18 rfl;have g23:=y01 e23;go_simp;try with_reducible rfl)
 intro A HA_;clear HA;have HA:=hid HA_;clear HA_;refine sT (N:=218) (d:=194) (v:=?_) (hw:=y08 rfl rfl (HA.out.get 1 rfl)) 15 HS HA ?_ ?_;rotate_left
 ·(intro W hW;have e193:=HA.out.get 0 rfl;have g193:=y01 e193;go_simp;try with_reducible rfl)
 intro A HA_;clear HA;have HA:=hid HA_;clear HA_;refine sT (N:=218) (d:=195) (v:=?_) 16 HS HA ?_ ?_;rotate_left
 ·(intro W hW;have e192:=HA.out.get 2 rfl;have g192:=y01 e192;have e194:=HA.out.get 0 rfl;have g194:=y01 e194;go_simp;try with_reducible rfl)
 intro A HA_;clear HA;have HA:=hid HA_;clear HA_;refine sT (N:=218) (d:=196) (v:=?_) 17 HS HA ?_ ?_;rotate_left
 ·(intro W hW;have e195:=HA.out.get 0 rfl;have g195:=y01 e195;go_simp;try with_reducible rfl)
 intro A HA_;clear HA;have HA:=hid HA_;clear HA_;refine sT (N:=218) (d:=197) (v:=?_) (hw:=y08 rfl rfl (HA.out.get 0 rfl)) 18 HS HA ?_ ?_;rotate_left
 ·(intro W hW;have e25:=HA.out.get 23 rfl;have g25:=y01 e25;go_simp;try with_reducible rfl)
 intro A HA_;clear HA;have HA:=hid HA_;clear HA_;refine sT (N:=218) (d:=198) (v:=?_) (hw:=y08 rfl rfl (HA.out.get 1 rfl)) 19 HS HA ?_ ?_;rotate_left
 ·(intro W hW;have e197:=HA.out.get 0 rfl;have g197:=y01 e197;go_simp;try with_reducible rfl)
 intro A HA_;clear HA;have HA:=hid HA_;clear HA_;refine sT (N:=218) (d:=199) (v:=?_) 20 HS HA ?_ ?_;rotate_left
 ·(intro W hW;have e196:=HA.out.get 2 rfl;have g196:=y01 e196;have e198:=HA.out.get 0 rfl;have g198:=y01 e198;go_simp;try with_reducible rfl)
 intro A HA_;clear HA;have HA:=hid HA_;clear HA_;refine sT (N:=218) (d:=200) (v:=?_) 21 HS HA ?_ ?_;rotate_left
 ·(intro W hW;have e199:=HA.out.get 0 rfl;have g199:=y01 e199;go_simp;try with_reducible rfl)
 intro A HA_;clear HA;have HA:=hid HA_;clear HA_;refine sT (N:=218) (d:=201) (v:=?_) (hw:=y08 rfl rfl (HA.out.get 0 rfl)) 22 HS HA ?_ ?_;rotate_left
 ·(intro W hW;have e27:=HA.out.get 28 rfl;have g27:=y01 e27;go_simp;try with_reducible rfl)
 intro A HA_;clear HA;have HA:=hid HA_;clear HA_;refine sT (N:=218) (d:=202) (v:=?_) (hw:=y08 rfl rfl (HA.out.get 1 rfl)) 23 HS HA ?_ ?_;rotate_left
 ·(intro W hW;have e201:=HA.out.get 0 rfl;have g201:=y01 e201;go_simp;try with_reducible rfl)
 intro A HA_;clear HA;have HA:=hid HA_;clear HA_;refine sT (N:=218) (d:=203) (v:=?_) 24 HS HA ?_ ?_;rotate_left
 ·(intro W hW;have e200:=HA.out.get 2 rfl;have g200:=y01 e200;have e202:=HA.out.get 0 rfl;have g202:=y01 e202;go_simp;try with_reducible rfl)
 intro A HA_;clear HA;have HA:=hid HA_;clear HA_;refine sT (N:=218) (d:=204) (v:=?_) 25 HS HA ?_ ?_;rotate_left
 ·(intro W hW;have e203:=HA.out.get 0 rfl;have g203:=y01 e203;go_simp;try with_reducible rfl)
 intro A HA_;clear HA;have HA:=hid HA_;clear HA_;refine sT (N:=218) (d:=205) (v:=?_) (hw:=y08 rfl rfl (HA.out.get 0 rfl)) 26 HS HA ?_ ?_;rotate_left
 ·(intro W hW;have e29:=HA.out.get 33 rfl;have g29:=y01 e29;go_simp;try with_reducible rfl)
 intro A HA_;clear HA;have HA:=hid HA_;clear HA_;refine sT (N:=218) (d:=206) (v:=?_) (hw:=y08 rfl rfl (HA.out.get 1 rfl)) 27 HS HA ?_ ?_;rotate_left
 ·(intro W hW;have e205:=HA.out.get 0 rfl;have g205:=y01 e205;go_simp;try with_reducible rfl)
 intro A HA_;clear HA;have HA:=hid HA_;clear HA_;refine sT (N:=218) (d:=207) (v:=?_) 28 HS HA ?_ ?_;rotate_left
 ·(intro W hW;have e204:=HA.out.get 2 rfl;have g204:=y01 e204;have e206:=HA.out.get 0 rfl;have g206:=y01 e206;go_simp;try with_reducible rfl)
 intro A HA_;clear HA;have HA:=hid HA_;clear HA_;refine sT (N:=218) (d:=208) (v:=?_) 29 HS HA ?_ ?_;rotate_left
 ·(intro W hW;have e207:=HA.out.get 0 rfl;have g207:=y01 e207;go_simp;try with_reducible rfl)
 intro A HA_;clear HA;have HA:=hid HA_;clear HA_;refine sT (N:=218) (d:=209) (v:=?_) (hw:=y08 rfl rfl (HA.out.get 0 rfl)) 30 HS HA ?_ ?_;rotate_left
 ·(intro W hW;have e31:=HA.out.get 38 rfl;have g31:=y01 e31;go_simp;try with_reducible rfl)
 intro A HA_;clear HA;have HA:=hid HA_;clear HA_;refine yab 31 rfl (by kernel_rfl) (y08 rfl rfl (HA.out.get 1 rfl)) (fun K hK=>?_);go_simp;have HN0:=HN;clear HN;obtain ⟨BI,HN⟩:=lay1 wx2 3 #[.int .i64 7,.int .i64 14,.int .i64 29];replace HS:=hid (HS.out.new HN.out);replace HR1:=hid (HR1.out.new HN.out);replace HR2:=hid (HR2.out.new HN.out);have HN_:=HN0.out.trans HN.out;clear HN HN0;have HN:=hid HN_;clear HN_;refine hK.out _ _ (fun _=>HS.out) ?_;clear hK K;refine putT (N:=218) (d:=210) HA.out (by decide) (by kernel_rfl) ?_;intro A HA_;clear HA;have HA:=hid HA_;clear HA_;refine yab 32 rfl (by kernel_rfl) (y08 rfl rfl (HA.out.get 2 rfl)) (fun K hK=>?_);have e209:=HA.out.get 1 rfl;have g209:=y01 e209;have e210:=HA.out.get 0 rfl;have g210:=y01 e210;go_simp;clear g210 e210 g209 e209;refine (yd2 a17 (some ⟨wx2.heap.size,0,none⟩) c17 3 [7,14,29] [7,14,29] _ (by decide) rfl HR1.out BI.out.rdl (by intro k h h';simp)).mono ?_;rintro e wy0 ⟨rfl,hn⟩;clear BI HR1;replace HS:=hid (HS.out.new hn);replace HR2:=hid (HR2.out.new hn);replace HN:=tW HN hn;clear hn;refine hK.out _ _ (fun _=>HS.out) ?_;clear hK K;refine putT (N:=218) (d:=211) HA.out (by decide) (by kernel_rfl) ?_;intro A HA_;clear HA;have HA:=hid HA_;clear HA_;refine sT (N:=218) (d:=212) (v:=?_) 33 HS HA ?_ ?_;rotate_left
 ·(intro W hW;have e208:=HA.out.get 3 rfl;have g208:=y01 e208;have e211:=HA.out.get 0 rfl;have g211:=y01 e211;go_simp;try with_reducible rfl)
 intro A HA_;clear HA;have HA:=hid HA_;clear HA_;refine sT (N:=218) (d:=213) (v:=?_) 34 HS HA ?_ ?_;rotate_left
 ·(intro W hW;have e212:=HA.out.get 0 rfl;have g212:=y01 e212;go_simp;try with_reducible rfl)
 intro A HA_;clear HA;have HA:=hid HA_;clear HA_;refine sT (N:=218) (d:=214) (v:=?_) (hw:=y08 rfl rfl (HA.out.get 0 rfl)) 35 HS HA ?_ ?_;rotate_left
 ·(intro W hW;have e33:=HA.out.get 44 rfl;have g33:=y01 e33;go_simp;try with_reducible rfl)
 intro A HA_;clear HA;have HA:=hid HA_;clear HA_;refine yab 36 rfl (by kernel_rfl) (y08 rfl rfl (HA.out.get 1 rfl)) (fun K hK=>?_);go_simp;have HN0:=HN;clear HN;obtain ⟨BI,HN⟩:=lay1 wy0 3 #[.int .i64 1,.int .i64 2,.int .i64 0];replace HS:=hid (HS.out.new HN.out);replace HR2:=hid (HR2.out.new HN.out);have HN_:=HN0.out.trans HN.out;clear HN HN0;have HN:=hid HN_;clear HN_;refine hK.out _ _ (fun _=>HS.out) ?_;clear hK K;refine putT (N:=218) (d:=215) HA.out (by decide) (by kernel_rfl) ?_;intro A HA_;clear HA;have HA:=hid HA_;clear HA_;refine yab 37 rfl (by kernel_rfl) (y08 rfl rfl (HA.out.get 2 rfl)) (fun K hK=>?_);have e214:=HA.out.get 1 rfl;have g214:=y01 e214;have e215:=HA.out.get 0 rfl;have g215:=y01 e215;go_simp;clear g215 e215 g214 e214;refine (yd2 a18 (some ⟨wy0.heap.size,0,none⟩) c18 3 [1,2,0] [1,2,0] _ (by decide) rfl HR2.out BI.out.rdl (by intro k h h';simp)).mono ?_;rintro e wy1 ⟨rfl,hn⟩;clear BI HR2;replace HS:=hid (HS.out.new hn);replace HN:=tW HN hn;clear hn;refine hK.out _ _ (fun _=>HS.out) ?_;clear hK K;refine putT (N:=218) (d:=216) HA.out (by decide) (by kernel_rfl) ?_;intro A HA_;clear HA;have HA:=hid HA_;clear HA_;refine sT (N:=218) (d:=217) (v:=?_) 38 HS HA ?_ ?_;rotate_left
 ·(intro W hW;have e213:=HA.out.get 3 rfl;have g213:=y01 e213;have e216:=HA.out.get 0 rfl;have g216:=y01 e216;go_simp;try with_reducible rfl)
 intro A HA_;clear HA;have HA:=hid HA_;clear HA_;refine yc2 rfl (by kernel_rfl) ?_;have e217:=HA.out.get 0 rfl;have g217:=y01 e217;simp only[List.drop_succ_cons,List.drop_zero]
 have hb:(FloatKind.f32.format.order 1266679808 1266679808==some Ordering.eq && FloatKind.f32.format.order 1266679810 1266679810==some Ordering.eq)=true:=by decide +kernel
 rw[hb]at g217;clear e217;refine wpList_plain rfl fun K hK=>?_;refine BigFrame.wp_assign _ rfl ?_;refine hK _ _ ?_;clear hK K;have HB:=HA.out.put (d:=0) (v:=.bool true) (by decide) (by kernel_rfl);have e0:=HB.get 0 rfl;have g0:=y01 e0;rw[wpList];refine HK0.out _ _ ?_;go_wp2_with fail;show bodyPost _ _ _ _ (A.put (some 0) (.bool true)) _;clear g217 e0;refine bodyPost_ret (v:=.bool true) ((results_tmp (t:=0) rfl _ _ _).trans (by rw[g0])) HB.2.1 ?_;exact ⟨rfl,HN.out⟩
end Go.Proofs.YtnjonlnemagomaaGreatDoor
