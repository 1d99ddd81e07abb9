/- Part B34. -/
import Derived.Test.YtnjonlnemagomaaGreatDoorB28
import Derived.Test.YtnjonlnemagomaaGreatDoorB30
import Derived.Test.YtnjonlnemagomaaGreatDoorB32
import Derived.Test.YtnjonlnemagomaaGreatDoorB33
namespace Go.Proofs.YtnjonlnemagomaaGreatDoor
open Go.RowKit Big Go.Lib Tryz
set_option maxRecDepth 100000
set_option maxHeartbeats 8000000
set_option linter.all false
theorem of_aw (w:World)(he:Env w):Calls prog 69 #[.int .i64 15,.int .i64 (-6)] w (TxtPost w ⟨#[45,53,47,50]⟩ 0):=by
 have h:=nof_calls 15 (-6) w he (by decide) (by decide) (by decide);rw[show rs (Rat.divInt 15 (-6))=⟨#[45,53,47,50]⟩ by decide +kernel] at h;exact h
theorem floor_aw (w:World)(he:Env w):Calls prog 70 #[.string ⟨#[45,53,47,50]⟩] w (TxtPost w ⟨#[45,51]⟩ 0):=by
 have h:=nfloor_ok ⟨#[45,53,47,50]⟩ (Rat.divInt (-5) 2) (by decide +kernel) (by rw[Fits.iff];decide +kernel) (by decide) w he;rw[show resS (((Rat.divInt (-5) 2).floor:Int):Rat)=⟨#[45,51]⟩ by decide +kernel,show resE (((Rat.divInt (-5) 2).floor:Int):Rat)=0 by decide +kernel] at h;exact h
theorem rootIs (n m:Int)(h:0≤m∧m*m≤n∧n < (m+1)*(m+1)):IsRt n m:=⟨h.1,h.2.1,h.2.2⟩
theorem root_aw (w:World)(he:Env w):Calls prog 31 #[.string ⟨#[50]⟩] w (SpPost w ⟨#[55,48,55,47,53,48,48]⟩ ⟨#[50,56,51,47,50,48,48]⟩ 0):=by
 have h:=nroot_near ⟨#[50]⟩ (Rat.divInt 2 1) 1 1 1414 (by decide +kernel) (by rw[Fits.iff];decide +kernel) (FB.divInt (by unfold BdK;decide +kernel) (by unfold BdK;decide +kernel) (by decide)) (by decide) (by decide +kernel) (rootIs _ _ (by decide +kernel)) (rootIs _ _ (by decide +kernel)) (by decide +kernel) (rootIs _ _ (by decide +kernel)) w he;rw[show rs (Rat.divInt 1414 1000)=⟨#[55,48,55,47,53,48,48]⟩ by decide +kernel,show rs (Rat.divInt (1414+1) 1000)=⟨#[50,56,51,47,50,48,48]⟩ by decide +kernel] at h;exact h
theorem chk_m1_2 (w:World)(he:Env w):Calls prog 51 #[.agg #[.string ⟨#[45,49]⟩,.string ⟨#[50]⟩]] w (RetNew w 0):=by
 have h:=ncheckSpan_ok (Rat.divInt (-1) 1) (Rat.divInt 2 1) ⟨#[45,49]⟩ ⟨#[50]⟩ (by decide +kernel) (by decide +kernel) (by rw[Fits.iff];decide +kernel) (by rw[Fits.iff];decide +kernel) (by decide) (by decide) w he;rw[if_neg (by decide +kernel)] at h;exact h
theorem chk_m3_4 (w:World)(he:Env w):Calls prog 51 #[.agg #[.string ⟨#[45,51]⟩,.string ⟨#[52]⟩]] w (RetNew w 0):=by
 have h:=ncheckSpan_ok (Rat.divInt (-3) 1) (Rat.divInt 4 1) ⟨#[45,51]⟩ ⟨#[52]⟩ (by decide +kernel) (by decide +kernel) (by rw[Fits.iff];decide +kernel) (by rw[Fits.iff];decide +kernel) (by decide) (by decide) w he;rw[if_neg (by decide +kernel)] at h;exact h
theorem chk_1_2 (w:World)(he:Env w):Calls prog 51 #[.agg #[.string ⟨#[49]⟩,.string ⟨#[50]⟩]] w (RetNew w 0):=by
 have h:=ncheckSpan_ok (Rat.divInt 1 1) (Rat.divInt 2 1) ⟨#[49]⟩ ⟨#[50]⟩ (by decide +kernel) (by decide +kernel) (by rw[Fits.iff];decide +kernel) (by rw[Fits.iff];decide +kernel) (by decide) (by decide) w he;rw[if_neg (by decide +kernel)] at h;exact h
theorem chk_4_8 (w:World)(he:Env w):Calls prog 51 #[.agg #[.string ⟨#[52]⟩,.string ⟨#[56]⟩]] w (RetNew w 0):=by
 have h:=ncheckSpan_ok (Rat.divInt 4 1) (Rat.divInt 8 1) ⟨#[52]⟩ ⟨#[56]⟩ (by decide +kernel) (by decide +kernel) (by rw[Fits.iff];decide +kernel) (by rw[Fits.iff];decide +kernel) (by decide) (by decide) w he;rw[if_neg (by decide +kernel)] at h;exact h
theorem chk_3_4 (w:World)(he:Env w):Calls prog 51 #[.agg #[.string ⟨#[51]⟩,.string ⟨#[52]⟩]] w (RetNew w 0):=by
 have h:=ncheckSpan_ok (Rat.divInt 3 1) (Rat.divInt 4 1) ⟨#[51]⟩ ⟨#[52]⟩ (by decide +kernel) (by decide +kernel) (by rw[Fits.iff];decide +kernel) (by rw[Fits.iff];decide +kernel) (by decide) (by decide) w he;rw[if_neg (by decide +kernel)] at h;exact h
theorem chk_2_3 (w:World)(he:Env w):Calls prog 51 #[.agg #[.string ⟨#[50]⟩,.string ⟨#[51]⟩]] w (RetNew w 0):=by
 have h:=ncheckSpan_ok (Rat.divInt 2 1) (Rat.divInt 3 1) ⟨#[50]⟩ ⟨#[51]⟩ (by decide +kernel) (by decide +kernel) (by rw[Fits.iff];decide +kernel) (by rw[Fits.iff];decide +kernel) (by decide) (by decide) w he;rw[if_neg (by decide +kernel)] at h;exact h
theorem enter_mul (args:Array Value)(W:World):Sem.run prog (callFunc 94 args) W=.ok (.enter 94 args) W:=by kernel_rfl
theorem enter_div (args:Array Value)(W:World):Sem.run prog (callFunc 95 args) W=.ok (.enter 95 args) W:=by kernel_rfl
theorem int1 {z:Int}{q:Rat}(h:q=Rat.divInt z 1)(hz:z.natAbs < 2^40):FB 40 q:=by
 rw[h];exact FB.divInt hz (by unfold BdK;decide +kernel) (by decide)
theorem times_aw (w:World)(he:Env w):Calls prog 54 #[.agg #[.string ⟨#[45,49]⟩,.string ⟨#[50]⟩],.agg #[.string ⟨#[45,51]⟩,.string ⟨#[52]⟩]] w (SpPost w ⟨#[45,54]⟩ ⟨#[56]⟩ 0):=by
 refine ntimes_calls _ _ _ _ _ _ _ (fun W hW=>opspans_all _ _ _ _ _ _ _ 0 0 0 rfl (fun W h=>chk_m1_2 W h) (fun W h=>chk_m3_4 W h) (fun _ W hW=>?_) (fun h=>absurd rfl h) W hW) w he
 have fx:∀ x,(x=Rat.divInt (-1) 1∨x=Rat.divInt 2 1)→FB 40 x:=fun x h=>by
  rcases h with h | h
  ·exact int1 h (by decide)
  ·exact int1 h (by decide)
 have fy:∀ x,(x=Rat.divInt (-3) 1∨x=Rat.divInt 4 1)→FB 40 x:=fun x h=>by
  rcases h with h | h
  ·exact int1 h (by decide)
  ·exact int1 h (by decide)
 have h:=combine_calls ⟨#[45,49]⟩ ⟨#[50]⟩ ⟨#[45,51]⟩ ⟨#[52]⟩ (Rat.divInt (-1) 1) (Rat.divInt 2 1) (Rat.divInt (-3) 1) (Rat.divInt 4 1) (by decide +kernel) (by decide +kernel) (by decide +kernel) (by decide +kernel) (by decide) (by decide) (by decide) (by decide) 94 (fun x y=>x*y) enter_mul
  (fun x y hx hy W va vb h1 h2=>fmul_calls va vb x y 40 40 W h1 h2 (fx x hx) (fy y hy) (by omega)) (fun x y hx hy=>((fx x hx).mul (fy y hy)).mono (by omega)) W hW
 rw[show rs (minR (minR (minR (Rat.divInt (-1) 1*Rat.divInt (-3) 1) (Rat.divInt (-1) 1*Rat.divInt 4 1)) (Rat.divInt 2 1*Rat.divInt (-3) 1)) (Rat.divInt 2 1*Rat.divInt 4 1))=⟨#[45,54]⟩ by decide +kernel,
  show rs (maxR (maxR (maxR (Rat.divInt (-1) 1*Rat.divInt (-3) 1) (Rat.divInt (-1) 1*Rat.divInt 4 1)) (Rat.divInt 2 1*Rat.divInt (-3) 1)) (Rat.divInt 2 1*Rat.divInt 4 1))=⟨#[56]⟩ by decide +kernel] at h
 exact h
theorem over_aw (w:World)(he:Env w):Calls prog 55 #[.agg #[.string ⟨#[49]⟩,.string ⟨#[50]⟩],.agg #[.string ⟨#[52]⟩,.string ⟨#[56]⟩]] w (SpPost w ⟨#[49,47,56]⟩ ⟨#[49,47,50]⟩ 0):=by
 refine nover_all _ _ _ _ _ _ (Rat.divInt 4 1) (Rat.divInt 8 1) 0 0 0 0 rfl (fun _=>⟨by decide +kernel,by decide +kernel,by decide,by decide⟩) (fun W h=>chk_1_2 W h) (fun W h=>chk_4_8 W h) (fun h=>absurd rfl h) (fun _ h=>absurd h (by decide +kernel)) (fun _ _=>⟨rfl,fun W hW=>?_⟩) w he
 have fx:∀ x,(x=Rat.divInt 1 1∨x=Rat.divInt 2 1)→FB 40 x:=fun x h=>by
  rcases h with h | h
  ·exact int1 h (by decide)
  ·exact int1 h (by decide)
 have fy:∀ x,(x=Rat.divInt 4 1∨x=Rat.divInt 8 1)→FB 40 x∧x≠0:=fun x h=>by
  rcases h with h | h
  ·exact ⟨int1 h (by decide),by rw[h];decide +kernel⟩
  ·exact ⟨int1 h (by decide),by rw[h];decide +kernel⟩
 have h:=combine_calls ⟨#[49]⟩ ⟨#[50]⟩ ⟨#[52]⟩ ⟨#[56]⟩ (Rat.divInt 1 1) (Rat.divInt 2 1) (Rat.divInt 4 1) (Rat.divInt 8 1) (by decide +kernel) (by decide +kernel) (by decide +kernel) (by decide +kernel) (by decide) (by decide) (by decide) (by decide) 95 (fun x y=>x / y) enter_div
  (fun x y hx hy W va vb h1 h2=>fdiv_calls va vb x y 40 40 W h1 h2 (fx x hx) (fy y hy).1 (by omega) (fy y hy).2) (fun x y hx hy=>((fx x hx).div (fy y hy).1 (fy y hy).2).mono (by omega)) W hW
 rw[show rs (minR (minR (minR (Rat.divInt 1 1 / Rat.divInt 4 1) (Rat.divInt 1 1 / Rat.divInt 8 1)) (Rat.divInt 2 1 / Rat.divInt 4 1)) (Rat.divInt 2 1 / Rat.divInt 8 1))=⟨#[49,47,56]⟩ by decide +kernel,
  show rs (maxR (maxR (maxR (Rat.divInt 1 1 / Rat.divInt 4 1) (Rat.divInt 1 1 / Rat.divInt 8 1)) (Rat.divInt 2 1 / Rat.divInt 4 1)) (Rat.divInt 2 1 / Rat.divInt 8 1))=⟨#[49,47,50]⟩ by decide +kernel] at h
 exact h
theorem cmp1_aw (w:World)(he:Env w):Calls prog 56 #[.agg #[.string ⟨#[49]⟩,.string ⟨#[50]⟩],.agg #[.string ⟨#[51]⟩,.string ⟨#[52]⟩]] w (NCmpPost w (-1) 0):=
 ncompare_all _ _ _ _ (Rat.divInt 1 1) (Rat.divInt 2 1) (Rat.divInt 3 1) (Rat.divInt 4 1) (by decide +kernel) (by decide +kernel) (by decide +kernel) (by decide +kernel) (by decide) (by decide) (by decide) (by decide) (by rw[Fits.iff];decide +kernel) (by rw[Fits.iff];decide +kernel) (by rw[Fits.iff];decide +kernel) (by rw[Fits.iff];decide +kernel) 0 0 rfl
  (fun W h=>chk_1_2 W h) (fun W h=>chk_3_4 W h) true _ _ _ (by decide +kernel) rfl rfl rfl w he
theorem cmp2_aw (w:World)(he:Env w):Calls prog 56 #[.agg #[.string ⟨#[49]⟩,.string ⟨#[50]⟩],.agg #[.string ⟨#[50]⟩,.string ⟨#[51]⟩]] w (NCmpPost w 0 24):=
 ncompare_all _ _ _ _ (Rat.divInt 1 1) (Rat.divInt 2 1) (Rat.divInt 2 1) (Rat.divInt 3 1) (by decide +kernel) (by decide +kernel) (by decide +kernel) (by decide +kernel) (by decide) (by decide) (by decide) (by decide) (by rw[Fits.iff];decide +kernel) (by rw[Fits.iff];decide +kernel) (by rw[Fits.iff];decide +kernel) (by rw[Fits.iff];decide +kernel) 0 0 rfl
  (fun W h=>chk_1_2 W h) (fun W h=>chk_2_3 W h) false false _ false (by decide +kernel) (by decide +kernel) rfl (by decide +kernel) w he
theorem float1_aw (w:World)(he:Env w):Calls prog 41 #[.string ⟨#[49,47,51]⟩] w (FltPost w 1051372203 0):=by
 have h:=nfloat_calls ⟨#[49,47,51]⟩ (Rat.divInt 1 3) 1051372203 (by decide +kernel) (by rw[Fits.iff];decide +kernel) (by decide) (by decide +kernel) ⟨124,⟨by decide +kernel,by decide +kernel⟩,by decide +kernel⟩ w he;rw[show fltBits (decide ((Rat.divInt 1 3).num < 0)) 1051372203=1051372203 by decide +kernel,show fltErr 1051372203=0 by decide +kernel] at h;exact h
theorem float2_aw (w:World)(he:Env w):Calls prog 41 #[.string ⟨#[49,54,55,55,55,50,49,55]⟩] w (FltPost w 1266679808 0):=by
 have h:=nfloat_calls ⟨#[49,54,55,55,55,50,49,55]⟩ (Rat.divInt 16777217 1) 1266679808 (by decide +kernel) (by rw[Fits.iff];decide +kernel) (by decide) (by decide +kernel) ⟨150,⟨by decide +kernel,by decide +kernel⟩,by decide +kernel⟩ w he;rw[show fltBits (decide ((Rat.divInt 16777217 1).num < 0)) 1266679808=1266679808 by decide +kernel,show fltErr 1266679808=0 by decide +kernel] at h;exact h
theorem float3_aw (w:World)(he:Env w):Calls prog 41 #[.string ⟨#[49,54,55,55,55,50,49,57]⟩] w (FltPost w 1266679810 0):=by
 have h:=nfloat_calls ⟨#[49,54,55,55,55,50,49,57]⟩ (Rat.divInt 16777219 1) 1266679810 (by decide +kernel) (by rw[Fits.iff];decide +kernel) (by decide) (by decide +kernel) ⟨150,⟨by decide +kernel,by decide +kernel⟩,by decide +kernel⟩ w he;rw[show fltBits (decide ((Rat.divInt 16777219 1).num < 0)) 1266679810=1266679810 by decide +kernel,show fltErr 1266679810=0 by decide +kernel] at h;exact h
theorem exact_aw (w:World)(he:Env w):Calls prog 40 #[.float .f32 1051372203] w (TxtPost w ⟨#[49,49,49,56,52,56,49,49,47,51,51,53,53,52,52,51,50]⟩ 0):=by
 have h:=nexact_calls 1051372203 (by decide) (by decide +kernel) w he;rw[show rs (fq 1051372203)=⟨#[49,49,49,56,52,56,49,49,47,51,51,53,53,52,52,51,50]⟩ by decide +kernel] at h;exact h
def awPts:List (ByteArray × ByteArray):=[(⟨#[48]⟩,⟨#[49,48]⟩),(⟨#[53]⟩,⟨#[50,48]⟩)]
def awXs:Nat→Rat:=fun k=>if k=0 then Rat.divInt 0 1 else Rat.divInt 5 1
def awYs:Nat→Rat:=fun k=>if k=0 then Rat.divInt 10 1 else Rat.divInt 20 1
theorem aw_tab:TabOk awPts awXs awYs:=by
 refine ⟨fun k h=>?_,fun k h=>?_,fun k h=>?_⟩
 ·match k,h with
  | 0,_=>show TxtIs (awPts[0]'(by decide)).1 (awXs 0);exact ⟨by decide +kernel,by rw[Fits.iff];decide +kernel,by decide⟩
  | 1,_=>show TxtIs (awPts[1]'(by decide)).1 (awXs 1);exact ⟨by decide +kernel,by rw[Fits.iff];decide +kernel,by decide⟩
 ·match k,h with
  | 0,_=>show TxtIs (awPts[0]'(by decide)).2 (awYs 0);exact ⟨by decide +kernel,by rw[Fits.iff];decide +kernel,by decide⟩
  | 1,_=>show TxtIs (awPts[1]'(by decide)).2 (awYs 1);exact ⟨by decide +kernel,by rw[Fits.iff];decide +kernel,by decide⟩
 ·match k,h with
  | 0,_=>decide +kernel
theorem blend_aw (a:Option Addr)(cap:Nat)(w:World)(he:Env w)(hr:RdP w a awPts):Calls prog 16 #[.slice a 2 cap,.string ⟨#[50]⟩] w (TxtPost w ⟨#[49,52]⟩ 0):=by
 have h:=blend_mid awPts awXs awYs aw_tab (by decide) 0 (by decide) ⟨#[50]⟩ (Rat.divInt 2 1) ⟨by decide +kernel,by rw[Fits.iff];decide +kernel,by decide⟩ (fun j hj=>by
  have:j=0:=by omega
  subst this
  decide +kernel) (by decide +kernel) a cap w he hr
 rw[show resS (blendQ (awYs 0) (awYs (0+1)) (Rat.divInt 2 1) (awXs 0) (awXs (0+1)))=⟨#[49,52]⟩ by decide +kernel,show resE (blendQ (awYs 0) (awYs (0+1)) (Rat.divInt 2 1) (awXs 0) (awXs (0+1)))=0 by decide +kernel] at h;exact h
def awW:Nat→Int:=fun i=>if i=0 then 1 else if i=1 then 2 else 4
theorem shares_aw (a:Option Addr)(cap:Nat)(w:World)(hr:RdL w a (ints [1,2,4])):Calls prog 22 #[.int .i64 50,.slice a 3 cap] w fun e w'=>∃ (b:Option Addr) (c:Nat),e=.returned (.tuple #[.slice b 3 c,.int .i64 0])∧New w w'∧3≤c∧RdL w' b (ints [7,14,29]):=by
 have h:=nshares_calls 50 3 cap awW a w (by decide) (by decide) (by decide) (fun i hi=>by
  match i,hi with
  | 0,_=>decide
  | 1,_=>decide
  | 2,_=>decide) (by decide +kernel) (by decide +kernel) hr
 refine h.mono fun e w' h=>?_;obtain ⟨b,c,h1,h2,h3,h4⟩:=h
 have e:(List.range 3).map (share ((50:Nat):Int) awW 3)=[7,14,29]:=by decide +kernel
 rw[e]at h4;exact ⟨b,c,h1,h2,h3,h4⟩
theorem draw_aw (w:World):Calls prog 27 #[.int .i64 1,.int .i64 3] w fun e w'=>∃ (b:Option Addr) (c:Nat),e=.returned (.tuple #[.slice b 3 c,.int .i64 0])∧New w w'∧3≤c∧RdL w' b (ints [1,2,0]):=by
 have h:=ndraw_calls 1 3 (by decide) (by decide) (by decide) w;refine h.mono fun e w' h=>?_;obtain ⟨b,c,h1,h2,h3,h4⟩:=h
 have e:(List.range 3).map (drawF 1 3)=[1,2,0]:=by decide +kernel
 rw[e]at h4;exact ⟨b,c,h1,h2,h3,h4⟩
theorem span_aw (x y:ByteArray)(w:World):Calls prog 33 #[.string x,.string y] w fun e w'=>e=.returned (.agg #[.string x,.string y])∧New w w':=by
 go_in;go_upto_region 1 with (fail);obtain ⟨BP,HN⟩:=lay1 w 53 #[.string ⟨#[]⟩,.string ⟨#[]⟩];obtain ⟨p0,p1,p2,p3,p4⟩:=BP.out.two;go_wp2_with fail;refine bodyPost_ret (v:=.agg #[.string x,.string y]) (by simp[results,results33,go_sem,p0,p1]) rfl ?_;exact ⟨rfl,(New.refl w).alloc _⟩
end Go.Proofs.YtnjonlnemagomaaGreatDoor
