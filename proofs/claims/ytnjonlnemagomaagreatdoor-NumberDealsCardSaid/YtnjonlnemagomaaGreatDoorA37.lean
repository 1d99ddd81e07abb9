/- Part A37. -/
import Derived.Test.YtnjonlnemagomaaGreatDoorA35
import Derived.Test.YtnjonlnemagomaaGreatDoorA36
namespace Go.Proofs.YtnjonlnemagomaaGreatDoor
open Go.RowKit Big Go.Lib
set_option maxRecDepth 100000
set_option maxHeartbeats 8000000
theorem Box.rdl {w:World}{B:Nat}{t:TypeId}{cs:Array Value}(h:Box w B t cs):RdL w (some ⟨B,0,none⟩) cs.toList:=fun i hi=>⟨B,0,rfl,by rw[Nat.zero_add,h.cell];simp at hi;simp[hi]⟩
def AwB (W:World)(b3 b4 b7:Nat):Prop:=Two W b3 ⟨#[49,47,50]⟩ ⟨#[49,47,50]⟩∧Two W b4 ⟨#[55,48,55,47,49,48,48,48]⟩ ⟨#[49,55,55,47,50,53,48]⟩∧Two W b7 ⟨#[45,49,55,55,47,50,53,48]⟩ ⟨#[45,55,48,55,47,49,48,48,48]⟩
theorem AwB.new {w w':World}{b3 b4 b7:Nat}(h:AwB w b3 b4 b7)(hn:New w w'):AwB w' b3 b4 b7:=⟨h.1.new hn,h.2.1.new hn,h.2.2.new hn⟩
theorem awake_r20 (w w18:World) (A:Act) (b8 b9 ba c17 c18:Nat) (a17 a18:Option Addr) (HN:Hid (New w w18)) (HR1:Hid (RdL w18 a17 (ints [7,14,29]))) (HR2:Hid (RdL w18 a18 (ints [1,2,0]))) (HS:Hid (AwB w18 b8 b9 ba)) (HA:Has 218 A (awRest b8 b9 ba c17 c18 a17 a18)) (K0:Act→World→Prop)
  (hK0:∀ a W,Code.wp Tryz.prog Code.ret (bodyPost Tryz.prog Tryz.f13 (fun e w'=>e=.returned (.bool true)∧New w w')) a W→K0 a W):
  Code.wp Tryz.prog (headC (awakeCode 19)) (Exit.then K0 (bodyPost Tryz.prog Tryz.f13 (fun e w'=>e=.returned (.bool true)∧New w w'))) A w18:=by
 conv=>arg 2;whnf
 have HK0:=hid hK0;clear hK0;have HA_:Has 218 A [(178,.bool false),(15,.pointer (some ⟨b8,0,none⟩)),(17,.pointer (some ⟨b9,0,none⟩)),(19,.pointer (some ⟨ba,0,none⟩)),(23,.string ⟨#[49,49,49,56,52,56,49,49,47,51,51,53,53,52,52,51,50]⟩),(25,.float .f32 1266679808),(27,.float .f32 1266679810),(29,.string ⟨#[49,52]⟩),(31,.slice a17 3 c17),(33,.slice a18 3 c18)]:=HA;clear HA;have HA:=hid HA_;clear HA_;refine wp_region_T 39 (fun W=>AwB W b8 b9 ba) 40 #[false,false,false,false,false,false,false,false,false,false,false,false,false,false,false,false,false,false,false,false,false,false,false,false,false,false,false,false,false,false,false,false,false,false,false,false,false,false,false,false] rfl (by kernel_rfl) (by kernel_rfl) ?_;refine stepT (N:=218) (d:=179) (v:=?_) 0 rfl (by kernel_rfl) (fun _ _ _ h=>h) (by exact HS.out) HA.out rfl (by decide) (by kernel_rfl) (wanted_plain rfl) ?_ ?_;rotate_left
 ·(intro W hW;have e15:=HA.out.get 1 rfl;have g15:=getD_of e15;obtain ⟨⟨h0,h1⟩, -⟩:=hW;go_simp;try with_reducible rfl)
 intro A HA_;clear HA;have HA:=hid HA_;clear HA_;refine loudT 1 rfl (by kernel_rfl) (wanted_plain rfl) (fun K hK=>?_);go_simp;refine (span_aw ⟨#[49,47,50]⟩ ⟨#[49,47,50]⟩ _).mono ?_;rintro e wx0 ⟨rfl,hn⟩;have hn:=hn.undrew;replace HS:=hid (HS.out.new hn);replace HR1:=hid (HR1.out.new hn);replace HR2:=hid (HR2.out.new hn);replace HN:=hid (HN.out.trans hn);clear hn;refine hK.out _ _ (fun _=>?_) ?_
 ·exact HS.out
 clear hK K;refine putT (N:=218) (d:=180) HA.out (by decide) (by kernel_rfl) ?_;intro A HA_;clear HA;have HA:=hid HA_;clear HA_;refine stepT (N:=218) (d:=181) (v:=?_) 2 rfl (by kernel_rfl) (fun _ _ _ h=>h) (by exact HS.out) HA.out rfl (by decide) (by kernel_rfl) (wanted_plain rfl) ?_ ?_;rotate_left
 ·(intro W hW;have e179:=HA.out.get 1 rfl;have g179:=getD_of e179;have e180:=HA.out.get 0 rfl;have g180:=getD_of e180;have hes:=eql_span ⟨#[49,47,50]⟩ ⟨#[49,47,50]⟩;go_simp;try with_reducible rfl)
 intro A HA_;clear HA;have HA:=hid HA_;clear HA_;refine stepT (N:=218) (d:=182) (v:=?_) 3 rfl (by kernel_rfl) (fun _ _ _ h=>h) (by exact HS.out) HA.out rfl (by decide) (by kernel_rfl) (wanted_plain rfl) ?_ ?_;rotate_left
 ·(intro W hW;have e181:=HA.out.get 0 rfl;have g181:=getD_of e181;go_simp;try with_reducible rfl)
 intro A HA_;clear HA;have HA:=hid HA_;clear HA_;refine stepT (N:=218) (d:=183) (v:=?_) 4 rfl (by kernel_rfl) (fun _ _ _ h=>h) (by exact HS.out) HA.out rfl (by decide) (by kernel_rfl) (wanted_by rfl rfl (HA.out.get 0 rfl)) ?_ ?_;rotate_left
 ·(intro W hW;have e17:=HA.out.get 6 rfl;have g17:=getD_of e17;obtain ⟨-,⟨h0,h1⟩, -⟩:=hW;go_simp;try with_reducible rfl)
 intro A HA_;clear HA;have HA:=hid HA_;clear HA_;refine loudT 5 rfl (by kernel_rfl) (wanted_by rfl rfl (HA.out.get 1 rfl)) (fun K hK=>?_);go_simp;refine (span_aw ⟨#[55,48,55,47,49,48,48,48]⟩ ⟨#[49,55,55,47,50,53,48]⟩ _).mono ?_;rintro e wx1 ⟨rfl,hn⟩;replace HS:=hid (HS.out.new hn);replace HR1:=hid (HR1.out.new hn);replace HR2:=hid (HR2.out.new hn);replace HN:=hid (HN.out.trans hn);clear hn;refine hK.out _ _ (fun _=>?_) ?_
 ·exact HS.out
 clear hK K;refine putT (N:=218) (d:=184) HA.out (by decide) (by kernel_rfl) ?_;intro A HA_;clear HA;have HA:=hid HA_;clear HA_;refine stepT (N:=218) (d:=185) (v:=?_) 6 rfl (by kernel_rfl) (fun _ _ _ h=>h) (by exact HS.out) HA.out rfl (by decide) (by kernel_rfl) (wanted_by rfl rfl (HA.out.get 2 rfl)) ?_ ?_;rotate_left
 ·(intro W hW;have e183:=HA.out.get 1 rfl;have g183:=getD_of e183;have e184:=HA.out.get 0 rfl;have g184:=getD_of e184;have hes:=eql_span ⟨#[55,48,55,47,49,48,48,48]⟩ ⟨#[49,55,55,47,50,53,48]⟩;go_simp;try with_reducible rfl)
 intro A HA_;clear HA;have HA:=hid HA_;clear HA_;refine stepT (N:=218) (d:=186) (v:=?_) 7 rfl (by kernel_rfl) (fun _ _ _ h=>h) (by exact HS.out) HA.out rfl (by decide) (by kernel_rfl) (wanted_plain rfl) ?_ ?_;rotate_left
 ·(intro W hW;have e182:=HA.out.get 3 rfl;have g182:=getD_of e182;have e185:=HA.out.get 0 rfl;have g185:=getD_of e185;go_simp;try with_reducible rfl)
 intro A HA_;clear HA;have HA:=hid HA_;clear HA_;refine stepT (N:=218) (d:=187) (v:=?_) 8 rfl (by kernel_rfl) (fun _ _ _ h=>h) (by exact HS.out) HA.out rfl (by decide) (by kernel_rfl) (wanted_plain rfl) ?_ ?_;rotate_left
 ·(intro W hW;have e186:=HA.out.get 0 rfl;have g186:=getD_of e186;go_simp;try with_reducible rfl)
 intro A HA_;clear HA;have HA:=hid HA_;clear HA_;refine stepT (N:=218) (d:=188) (v:=?_) 9 rfl (by kernel_rfl) (fun _ _ _ h=>h) (by exact HS.out) HA.out rfl (by decide) (by kernel_rfl) (wanted_by rfl rfl (HA.out.get 0 rfl)) ?_ ?_;rotate_left
 ·(intro W hW;have e19:=HA.out.get 12 rfl;have g19:=getD_of e19;obtain ⟨-, -,h0,h1⟩:=hW;go_simp;try with_reducible rfl)
 intro A HA_;clear HA;have HA:=hid HA_;clear HA_;refine loudT 10 rfl (by kernel_rfl) (wanted_by rfl rfl (HA.out.get 1 rfl)) (fun K hK=>?_);go_simp;refine (span_aw ⟨#[45,49,55,55,47,50,53,48]⟩ ⟨#[45,55,48,55,47,49,48,48,48]⟩ _).mono ?_;rintro e wx2 ⟨rfl,hn⟩;replace HS:=hid (HS.out.new hn);replace HR1:=hid (HR1.out.new hn);replace HR2:=hid (HR2.out.new hn);replace HN:=hid (HN.out.trans hn);clear hn;refine hK.out _ _ (fun _=>?_) ?_
 ·exact HS.out
 clear hK K;refine putT (N:=218) (d:=189) HA.out (by decide) (by kernel_rfl) ?_;intro A HA_;clear HA;have HA:=hid HA_;clear HA_;refine stepT (N:=218) (d:=190) (v:=?_) 11 rfl (by kernel_rfl) (fun _ _ _ h=>h) (by exact HS.out) HA.out rfl (by decide) (by kernel_rfl) (wanted_by rfl rfl (HA.out.get 2 rfl)) ?_ ?_;rotate_left
 ·(intro W hW;have e188:=HA.out.get 1 rfl;have g188:=getD_of e188;have e189:=HA.out.get 0 rfl;have g189:=getD_of e189;have hes:=eql_span ⟨#[45,49,55,55,47,50,53,48]⟩ ⟨#[45,55,48,55,47,49,48,48,48]⟩;go_simp;try with_reducible rfl)
 intro A HA_;clear HA;have HA:=hid HA_;clear HA_;refine stepT (N:=218) (d:=191) (v:=?_) 12 rfl (by kernel_rfl) (fun _ _ _ h=>h) (by exact HS.out) HA.out rfl (by decide) (by kernel_rfl) (wanted_plain rfl) ?_ ?_;rotate_left
 ·(intro W hW;have e187:=HA.out.get 3 rfl;have g187:=getD_of e187;have e190:=HA.out.get 0 rfl;have g190:=getD_of e190;go_simp;try with_reducible rfl)
 intro A HA_;clear HA;have HA:=hid HA_;clear HA_;refine stepT (N:=218) (d:=192) (v:=?_) 13 rfl (by kernel_rfl) (fun _ _ _ h=>h) (by exact HS.out) HA.out rfl (by decide) (by kernel_rfl) (wanted_plain rfl) ?_ ?_;rotate_left
 ·(intro W hW;have e191:=HA.out.get 0 rfl;have g191:=getD_of e191;go_simp;try with_reducible rfl)
 intro A HA_;clear HA;have HA:=hid HA_;clear HA_;refine stepT (N:=218) (d:=193) (v:=?_) 14 rfl (by kernel_rfl) (fun _ _ _ h=>h) (by exact HS.out) HA.out rfl (by decide) (by kernel_rfl) (wanted_by rfl rfl (HA.out.get 0 rfl)) ?_ ?_;rotate_left
 ·(intro W hW;have e23:=HA.out.get 18 rfl;have g23:=getD_of e23;go_simp;try with_reducible rfl)
 intro A HA_;clear HA;have HA:=hid HA_;clear HA_;refine stepT (N:=218) (d:=194) (v:=?_) 15 rfl (by kernel_rfl) (fun _ _ _ h=>h) (by exact HS.out) HA.out rfl (by decide) (by kernel_rfl) (wanted_by rfl rfl (HA.out.get 1 rfl)) ?_ ?_;rotate_left
 ·(intro W hW;have e193:=HA.out.get 0 rfl;have g193:=getD_of e193;go_simp;try with_reducible rfl)
 intro A HA_;clear HA;have HA:=hid HA_;clear HA_;refine stepT (N:=218) (d:=195) (v:=?_) 16 rfl (by kernel_rfl) (fun _ _ _ h=>h) (by exact HS.out) HA.out rfl (by decide) (by kernel_rfl) (wanted_plain rfl) ?_ ?_;rotate_left
 ·(intro W hW;have e192:=HA.out.get 2 rfl;have g192:=getD_of e192;have e194:=HA.out.get 0 rfl;have g194:=getD_of e194;go_simp;try with_reducible rfl)
 intro A HA_;clear HA;have HA:=hid HA_;clear HA_;refine stepT (N:=218) (d:=196) (v:=?_) 17 rfl (by kernel_rfl) (fun _ _ _ h=>h) (by exact HS.out) HA.out rfl (by decide) (by kernel_rfl) (wanted_plain rfl) ?_ ?_;rotate_left
 ·(intro W hW;have e195:=HA.out.get 0 rfl;have g195:=getD_of e195;go_simp;try with_reducible rfl)
 intro A HA_;clear HA;have HA:=hid HA_;clear HA_;refine stepT (N:=218) (d:=197) (v:=?_) 18 rfl (by kernel_rfl) (fun _ _ _ h=>h) (by exact HS.out) HA.out rfl (by decide) (by kernel_rfl) (wanted_by rfl rfl (HA.out.get 0 rfl)) ?_ ?_;rotate_left
 ·(intro W hW;have e25:=HA.out.get 23 rfl;have g25:=getD_of e25;go_simp;try with_reducible rfl)
 intro A HA_;clear HA;have HA:=hid HA_;clear HA_;refine stepT (N:=218) (d:=198) (v:=?_) 19 rfl (by kernel_rfl) (fun _ _ _ h=>h) (by exact HS.out) HA.out rfl (by decide) (by kernel_rfl) (wanted_by rfl rfl (HA.out.get 1 rfl)) ?_ ?_;rotate_left
 ·(intro W hW;have e197:=HA.out.get 0 rfl;have g197:=getD_of e197;go_simp;try with_reducible rfl)
 intro A HA_;clear HA;have HA:=hid HA_;clear HA_;refine stepT (N:=218) (d:=199) (v:=?_) 20 rfl (by kernel_rfl) (fun _ _ _ h=>h) (by exact HS.out) HA.out rfl (by decide) (by kernel_rfl) (wanted_plain rfl) ?_ ?_;rotate_left
 ·(intro W hW;have e196:=HA.out.get 2 rfl;have g196:=getD_of e196;have e198:=HA.out.get 0 rfl;have g198:=getD_of e198;go_simp;try with_reducible rfl)
 intro A HA_;clear HA;have HA:=hid HA_;clear HA_;refine stepT (N:=218) (d:=200) (v:=?_) 21 rfl (by kernel_rfl) (fun _ _ _ h=>h) (by exact HS.out) HA.out rfl (by decide) (by kernel_rfl) (wanted_plain rfl) ?_ ?_;rotate_left
 ·(intro W hW;have e199:=HA.out.get 0 rfl;have g199:=getD_of e199;go_simp;try with_reducible rfl)
 intro A HA_;clear HA;have HA:=hid HA_;clear HA_;refine stepT (N:=218) (d:=201) (v:=?_) 22 rfl (by kernel_rfl) (fun _ _ _ h=>h) (by exact HS.out) HA.out rfl (by decide) (by kernel_rfl) (wanted_by rfl rfl (HA.out.get 0 rfl)) ?_ ?_;rotate_left
 ·(intro W hW;have e27:=HA.out.get 28 rfl;have g27:=getD_of e27;go_simp;try with_reducible rfl)
 intro A HA_;clear HA;have HA:=hid HA_;clear HA_;refine stepT (N:=218) (d:=202) (v:=?_) 23 rfl (by kernel_rfl) (fun _ _ _ h=>h) (by exact HS.out) HA.out rfl (by decide) (by kernel_rfl) (wanted_by rfl rfl (HA.out.get 1 rfl)) ?_ ?_;rotate_left
 ·(intro W hW;have e201:=HA.out.get 0 rfl;have g201:=getD_of e201;go_simp;try with_reducible rfl)
 intro A HA_;clear HA;have HA:=hid HA_;clear HA_;refine stepT (N:=218) (d:=203) (v:=?_) 24 rfl (by kernel_rfl) (fun _ _ _ h=>h) (by exact HS.out) HA.out rfl (by decide) (by kernel_rfl) (wanted_plain rfl) ?_ ?_;rotate_left
 ·(intro W hW;have e200:=HA.out.get 2 rfl;have g200:=getD_of e200;have e202:=HA.out.get 0 rfl;have g202:=getD_of e202;go_simp;try with_reducible rfl)
 intro A HA_;clear HA;have HA:=hid HA_;clear HA_;refine stepT (N:=218) (d:=204) (v:=?_) 25 rfl (by kernel_rfl) (fun _ _ _ h=>h) (by exact HS.out) HA.out rfl (by decide) (by kernel_rfl) (wanted_plain rfl) ?_ ?_;rotate_left
 ·(intro W hW;have e203:=HA.out.get 0 rfl;have g203:=getD_of e203;go_simp;try with_reducible rfl)
 intro A HA_;clear HA;have HA:=hid HA_;clear HA_;refine stepT (N:=218) (d:=205) (v:=?_) 26 rfl (by kernel_rfl) (fun _ _ _ h=>h) (by exact HS.out) HA.out rfl (by decide) (by kernel_rfl) (wanted_by rfl rfl (HA.out.get 0 rfl)) ?_ ?_;rotate_left
 ·(intro W hW;have e29:=HA.out.get 33 rfl;have g29:=getD_of e29;go_simp;try with_reducible rfl)
 intro A HA_;clear HA;have HA:=hid HA_;clear HA_;refine stepT (N:=218) (d:=206) (v:=?_) 27 rfl (by kernel_rfl) (fun _ _ _ h=>h) (by exact HS.out) HA.out rfl (by decide) (by kernel_rfl) (wanted_by rfl rfl (HA.out.get 1 rfl)) ?_ ?_;rotate_left
 ·(intro W hW;have e205:=HA.out.get 0 rfl;have g205:=getD_of e205;go_simp;try with_reducible rfl)
 intro A HA_;clear HA;have HA:=hid HA_;clear HA_;refine stepT (N:=218) (d:=207) (v:=?_) 28 rfl (by kernel_rfl) (fun _ _ _ h=>h) (by exact HS.out) HA.out rfl (by decide) (by kernel_rfl) (wanted_plain rfl) ?_ ?_;rotate_left
 ·(intro W hW;have e204:=HA.out.get 2 rfl;have g204:=getD_of e204;have e206:=HA.out.get 0 rfl;have g206:=getD_of e206;go_simp;try with_reducible rfl)
 intro A HA_;clear HA;have HA:=hid HA_;clear HA_;refine stepT (N:=218) (d:=208) (v:=?_) 29 rfl (by kernel_rfl) (fun _ _ _ h=>h) (by exact HS.out) HA.out rfl (by decide) (by kernel_rfl) (wanted_plain rfl) ?_ ?_;rotate_left
 ·(intro W hW;have e207:=HA.out.get 0 rfl;have g207:=getD_of e207;go_simp;try with_reducible rfl)
 intro A HA_;clear HA;have HA:=hid HA_;clear HA_;refine stepT (N:=218) (d:=209) (v:=?_) 30 rfl (by kernel_rfl) (fun _ _ _ h=>h) (by exact HS.out) HA.out rfl (by decide) (by kernel_rfl) (wanted_by rfl rfl (HA.out.get 0 rfl)) ?_ ?_;rotate_left
 ·(intro W hW;have e31:=HA.out.get 38 rfl;have g31:=getD_of e31;go_simp;try with_reducible rfl)
 intro A HA_;clear HA;have HA:=hid HA_;clear HA_;refine loudT 31 rfl (by kernel_rfl) (wanted_by rfl rfl (HA.out.get 1 rfl)) (fun K hK=>?_);go_simp;have HN0:=HN;clear HN;obtain ⟨BI,HN⟩:=lay1 wx2 3 #[.int .i64 7,.int .i64 14,.int .i64 29];replace HS:=hid (HS.out.new HN.out);replace HR1:=hid (HR1.out.new HN.out);replace HR2:=hid (HR2.out.new HN.out);have HN_:=HN0.out.trans HN.out;clear HN HN0;have HN:=hid HN_;clear HN_;refine hK.out _ _ (fun _=>?_) ?_
 ·exact HS.out
 clear hK K;refine putT (N:=218) (d:=210) HA.out (by decide) (by kernel_rfl) ?_;intro A HA_;clear HA;have HA:=hid HA_;clear HA_;refine loudT 32 rfl (by kernel_rfl) (wanted_by rfl rfl (HA.out.get 2 rfl)) (fun K hK=>?_);have e209:=HA.out.get 1 rfl;have g209:=getD_of e209;have e210:=HA.out.get 0 rfl;have g210:=getD_of e210;go_simp;clear g210 e210 g209 e209;refine (same_ints a17 (some ⟨wx2.heap.size,0,none⟩) c17 3 [7,14,29] [7,14,29] _ (by decide) rfl HR1.out BI.out.rdl (by intro k h h';simp)).mono ?_;rintro e wy0 ⟨rfl,hn⟩;clear BI HR1;replace HS:=hid (HS.out.new hn);replace HR2:=hid (HR2.out.new hn);replace HN:=hid (HN.out.trans hn);clear hn;refine hK.out _ _ (fun _=>?_) ?_
 ·exact HS.out
 clear hK K;refine putT (N:=218) (d:=211) HA.out (by decide) (by kernel_rfl) ?_;intro A HA_;clear HA;have HA:=hid HA_;clear HA_;refine stepT (N:=218) (d:=212) (v:=?_) 33 rfl (by kernel_rfl) (fun _ _ _ h=>h) (by exact HS.out) HA.out rfl (by decide) (by kernel_rfl) (wanted_plain rfl) ?_ ?_;rotate_left
 ·(intro W hW;have e208:=HA.out.get 3 rfl;have g208:=getD_of e208;have e211:=HA.out.get 0 rfl;have g211:=getD_of e211;go_simp;try with_reducible rfl)
 intro A HA_;clear HA;have HA:=hid HA_;clear HA_;refine stepT (N:=218) (d:=213) (v:=?_) 34 rfl (by kernel_rfl) (fun _ _ _ h=>h) (by exact HS.out) HA.out rfl (by decide) (by kernel_rfl) (wanted_plain rfl) ?_ ?_;rotate_left
 ·(intro W hW;have e212:=HA.out.get 0 rfl;have g212:=getD_of e212;go_simp;try with_reducible rfl)
 intro A HA_;clear HA;have HA:=hid HA_;clear HA_;refine stepT (N:=218) (d:=214) (v:=?_) 35 rfl (by kernel_rfl) (fun _ _ _ h=>h) (by exact HS.out) HA.out rfl (by decide) (by kernel_rfl) (wanted_by rfl rfl (HA.out.get 0 rfl)) ?_ ?_;rotate_left
 ·(intro W hW;have e33:=HA.out.get 44 rfl;have g33:=getD_of e33;go_simp;try with_reducible rfl)
 intro A HA_;clear HA;have HA:=hid HA_;clear HA_;refine loudT 36 rfl (by kernel_rfl) (wanted_by rfl rfl (HA.out.get 1 rfl)) (fun K hK=>?_);go_simp;have HN0:=HN;clear HN;obtain ⟨BI,HN⟩:=lay1 wy0 3 #[.int .i64 1,.int .i64 2,.int .i64 0];replace HS:=hid (HS.out.new HN.out);replace HR2:=hid (HR2.out.new HN.out);have HN_:=HN0.out.trans HN.out;clear HN HN0;have HN:=hid HN_;clear HN_;refine hK.out _ _ (fun _=>?_) ?_
 ·exact HS.out
 clear hK K;refine putT (N:=218) (d:=215) HA.out (by decide) (by kernel_rfl) ?_;intro A HA_;clear HA;have HA:=hid HA_;clear HA_;refine loudT 37 rfl (by kernel_rfl) (wanted_by rfl rfl (HA.out.get 2 rfl)) (fun K hK=>?_);have e214:=HA.out.get 1 rfl;have g214:=getD_of e214;have e215:=HA.out.get 0 rfl;have g215:=getD_of e215;go_simp;clear g215 e215 g214 e214;refine (same_ints a18 (some ⟨wy0.heap.size,0,none⟩) c18 3 [1,2,0] [1,2,0] _ (by decide) rfl HR2.out BI.out.rdl (by intro k h h';simp)).mono ?_;rintro e wy1 ⟨rfl,hn⟩;clear BI HR2;replace HS:=hid (HS.out.new hn);replace HN:=hid (HN.out.trans hn);clear hn;refine hK.out _ _ (fun _=>?_) ?_
 ·exact HS.out
 clear hK K;refine putT (N:=218) (d:=216) HA.out (by decide) (by kernel_rfl) ?_;intro A HA_;clear HA;have HA:=hid HA_;clear HA_;refine stepT (N:=218) (d:=217) (v:=?_) 38 rfl (by kernel_rfl) (fun _ _ _ h=>h) (by exact HS.out) HA.out rfl (by decide) (by kernel_rfl) (wanted_plain rfl) ?_ ?_;rotate_left
 ·(intro W hW;have e213:=HA.out.get 3 rfl;have g213:=getD_of e213;have e216:=HA.out.get 0 rfl;have g216:=getD_of e216;go_simp;try with_reducible rfl)
 intro A HA_;clear HA;have HA:=hid HA_;clear HA_;refine wpT_tail rfl (by kernel_rfl) ?_;have e217:=HA.out.get 0 rfl;have g217:=getD_of e217;simp only[List.drop_succ_cons,List.drop_zero]
 have hb:(FloatKind.f32.format.order 1266679808 1266679808==some Ordering.eq && FloatKind.f32.format.order 1266679810 1266679810==some Ordering.eq)=true:=by decide +kernel
 rw[hb]at g217;clear e217;refine wpList_plain rfl fun K hK=>?_;refine BigFrame.wp_assign _ rfl ?_;refine hK _ _ ?_;clear hK K;have HB:=HA.out.put (d:=0) (v:=.bool true) (by decide) (by kernel_rfl);have e0:=HB.get 0 rfl;have g0:=getD_of e0;rw[wpList];refine HK0.out _ _ ?_;go_wp2_with fail;show bodyPost _ _ _ _ (A.put (some 0) (.bool true)) _;clear g217 e0;refine bodyPost_ret (v:=.bool true) ((results_tmp (t:=0) rfl _ _ _).trans (by rw[g0])) HB.2.1 ?_;exact ⟨rfl,HN.out⟩
end Go.Proofs.YtnjonlnemagomaaGreatDoor
