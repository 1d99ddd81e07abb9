/- Part B47. -/
import Derived.Test.YtnjonlnemagomaaGreatDoorB40
import Derived.Test.YtnjonlnemagomaaGreatDoorB42
import Derived.Test.YtnjonlnemagomaaGreatDoorB45
import Derived.Test.YtnjonlnemagomaaGreatDoorB46
namespace Go.Proofs.YtnjonlnemagomaaGreatDoor
open Go.RowKit Big Go.Lib
set_option maxRecDepth 100000
set_option maxHeartbeats 8000000
theorem of_aw (w:World)(he:Env w):Calls Tryz.prog 69 #[.int .i64 15,.int .i64 (-6)] w (y2e w ⟨#[45,53,47,50]⟩ 0):=by
 have h:=yex 15 (-6) w he (by decide) (by decide) (by decide);rw[show rs (Rat.divInt 15 (-6))=⟨#[45,53,47,50]⟩ by decide +kernel] at h;exact h
theorem ymc (w:World)(he:Env w):Calls Tryz.prog 70 #[.string ⟨#[45,53,47,50]⟩] w (y2e w ⟨#[45,51]⟩ 0):=by
 have h:=ycy ⟨#[45,53,47,50]⟩ (Rat.divInt (-5) 2) (by decide +kernel) (by rw[Fits.iff];decide +kernel) (by decide) w he;rw[show resS (((Rat.divInt (-5) 2).floor:Int):Rat)=⟨#[45,51]⟩ by decide +kernel,show resE (((Rat.divInt (-5) 2).floor:Int):Rat)=0 by decide +kernel] at h;exact h
theorem ykq (n m:Int)(h:0<=m/\m*m<=n/\n < (m+1)*(m+1)):IsRt n m:=⟨h.1,h.2.1,h.2.2⟩
theorem yp4 (w:World)(he:Env w):Calls Tryz.prog 31 #[.string ⟨#[50]⟩] w (y17 w ⟨#[55,48,55,47,53,48,48]⟩ ⟨#[50,56,51,47,50,48,48]⟩ 0):=by
 have h:=yi2 ⟨#[50]⟩ (Rat.divInt 2 1) 1 1 1414 (by decide +kernel) (by rw[Fits.iff];decide +kernel) (FB.divInt (by unfold BdK;decide +kernel) (by unfold BdK;decide +kernel) (by decide)) (by decide) (by decide +kernel) (ykq _ _ (by decide +kernel)) (ykq _ _ (by decide +kernel)) (by decide +kernel) (ykq _ _ (by decide +kernel)) w he;rw[show rs (Rat.divInt 1414 1000)=⟨#[55,48,55,47,53,48,48]⟩ by decide +kernel,show rs (Rat.divInt (1414+1) 1000)=⟨#[50,56,51,47,50,48,48]⟩ by decide +kernel] at h;exact h
theorem ymi (w:World)(he:Env w):Calls Tryz.prog 51 #[.agg #[.string ⟨#[45,49]⟩,.string ⟨#[50]⟩]] w (y1o w 0):=by
 have h:=y2q (Rat.divInt (-1) 1) (Rat.divInt 2 1) ⟨#[45,49]⟩ ⟨#[50]⟩ (by decide +kernel) (by decide +kernel) (by rw[Fits.iff];decide +kernel) (by rw[Fits.iff];decide +kernel) (by decide) (by decide) w he;rw[if_neg (by decide +kernel)] at h;exact h
theorem ylv (w:World)(he:Env w):Calls Tryz.prog 51 #[.agg #[.string ⟨#[45,51]⟩,.string ⟨#[52]⟩]] w (y1o w 0):=by
 have h:=y2q (Rat.divInt (-3) 1) (Rat.divInt 4 1) ⟨#[45,51]⟩ ⟨#[52]⟩ (by decide +kernel) (by decide +kernel) (by rw[Fits.iff];decide +kernel) (by rw[Fits.iff];decide +kernel) (by decide) (by decide) w he;rw[if_neg (by decide +kernel)] at h;exact h
theorem yfd (w:World)(he:Env w):Calls Tryz.prog 51 #[.agg #[.string ⟨#[49]⟩,.string ⟨#[50]⟩]] w (y1o w 0):=by
 have h:=y2q (Rat.divInt 1 1) (Rat.divInt 2 1) ⟨#[49]⟩ ⟨#[50]⟩ (by decide +kernel) (by decide +kernel) (by rw[Fits.iff];decide +kernel) (by rw[Fits.iff];decide +kernel) (by decide) (by decide) w he;rw[if_neg (by decide +kernel)] at h;exact h
theorem yod (w:World)(he:Env w):Calls Tryz.prog 51 #[.agg #[.string ⟨#[52]⟩,.string ⟨#[56]⟩]] w (y1o w 0):=by
 have h:=y2q (Rat.divInt 4 1) (Rat.divInt 8 1) ⟨#[52]⟩ ⟨#[56]⟩ (by decide +kernel) (by decide +kernel) (by rw[Fits.iff];decide +kernel) (by rw[Fits.iff];decide +kernel) (by decide) (by decide) w he;rw[if_neg (by decide +kernel)] at h;exact h
theorem yno (w:World)(he:Env w):Calls Tryz.prog 51 #[.agg #[.string ⟨#[51]⟩,.string ⟨#[52]⟩]] w (y1o w 0):=by
 have h:=y2q (Rat.divInt 3 1) (Rat.divInt 4 1) ⟨#[51]⟩ ⟨#[52]⟩ (by decide +kernel) (by decide +kernel) (by rw[Fits.iff];decide +kernel) (by rw[Fits.iff];decide +kernel) (by decide) (by decide) w he;rw[if_neg (by decide +kernel)] at h;exact h
theorem yoy (w:World)(he:Env w):Calls Tryz.prog 51 #[.agg #[.string ⟨#[50]⟩,.string ⟨#[51]⟩]] w (y1o w 0):=by
 have h:=y2q (Rat.divInt 2 1) (Rat.divInt 3 1) ⟨#[50]⟩ ⟨#[51]⟩ (by decide +kernel) (by decide +kernel) (by rw[Fits.iff];decide +kernel) (by rw[Fits.iff];decide +kernel) (by decide) (by decide) w he;rw[if_neg (by decide +kernel)] at h;exact h
theorem yjj (args:Array Value)(W:World):Sem.run Tryz.prog (callFunc 94 args) W=.ok (.enter 94 args) W:=by kernel_rfl
theorem yki (args:Array Value)(W:World):Sem.run Tryz.prog (callFunc 95 args) W=.ok (.enter 95 args) W:=by kernel_rfl
theorem int1 {z:Int}{q:Rat}(h:q=Rat.divInt z 1)(hz:z.natAbs < 2^40):FB 40 q:=by
 rw[h];exact FB.divInt hz (by unfold BdK;decide +kernel) (by decide)
theorem yls (w:World)(he:Env w):Calls Tryz.prog 54 #[.agg #[.string ⟨#[45,49]⟩,.string ⟨#[50]⟩],.agg #[.string ⟨#[45,51]⟩,.string ⟨#[52]⟩]] w (y17 w ⟨#[45,54]⟩ ⟨#[56]⟩ 0):=by
 refine ycr _ _ _ _ _ _ _ (fun W hW=>yi4 _ _ _ _ _ _ _ 0 0 rfl (fun W h=>ymi W h) (fun W h=>ylv W h) (fun W hW=>?_) W hW) w he
 have fx:∀ x,(x=Rat.divInt (-1) 1\/x=Rat.divInt 2 1)->FB 40 x:=fun x h=>by
  rcases h with h | h
  ·exact int1 h (by decide)
  ·exact int1 h (by decide)
 have fy:∀ x,(x=Rat.divInt (-3) 1\/x=Rat.divInt 4 1)->FB 40 x:=fun x h=>by
  rcases h with h | h
  ·exact int1 h (by decide)
  ·exact int1 h (by decide)
 have h:=y76 ⟨#[45,49]⟩ ⟨#[50]⟩ ⟨#[45,51]⟩ ⟨#[52]⟩ (Rat.divInt (-1) 1) (Rat.divInt 2 1) (Rat.divInt (-3) 1) (Rat.divInt 4 1) (by decide +kernel) (by decide +kernel) (by decide +kernel) (by decide +kernel) (by decide) (by decide) (by decide) (by decide) 94 (fun x y=>x*y) yjj
  (fun x y hx hy W va vb h1 h2=>y3n va vb x y 40 40 W h1 h2 (fx x hx) (fy y hy) (by omega)) (fun x y hx hy=>((fx x hx).mul (fy y hy)).mono (by omega)) W hW
 rw[show rs (minR (minR (minR (Rat.divInt (-1) 1*Rat.divInt (-3) 1) (Rat.divInt (-1) 1*Rat.divInt 4 1)) (Rat.divInt 2 1*Rat.divInt (-3) 1)) (Rat.divInt 2 1*Rat.divInt 4 1))=⟨#[45,54]⟩ by decide +kernel,
  show rs (maxR (maxR (maxR (Rat.divInt (-1) 1*Rat.divInt (-3) 1) (Rat.divInt (-1) 1*Rat.divInt 4 1)) (Rat.divInt 2 1*Rat.divInt (-3) 1)) (Rat.divInt 2 1*Rat.divInt 4 1))=⟨#[56]⟩ by decide +kernel] at h
 exact h
theorem yp3 (w:World)(he:Env w):Calls Tryz.prog 55 #[.agg #[.string ⟨#[49]⟩,.string ⟨#[50]⟩],.agg #[.string ⟨#[52]⟩,.string ⟨#[56]⟩]] w (y17 w ⟨#[49,47,56]⟩ ⟨#[49,47,50]⟩ 0):=by
 refine ymo _ _ _ _ _ _ (Rat.divInt 4 1) (Rat.divInt 8 1) (by decide +kernel) (by decide +kernel) (by decide) (by decide) 0 0 rfl (.inl (by decide +kernel)) (fun W h=>yfd W h) (fun W h=>yod W h) (fun W hW=>?_) w he
 have fx:∀ x,(x=Rat.divInt 1 1\/x=Rat.divInt 2 1)->FB 40 x:=fun x h=>by
  rcases h with h | h
  ·exact int1 h (by decide)
  ·exact int1 h (by decide)
 have fy:∀ x,(x=Rat.divInt 4 1\/x=Rat.divInt 8 1)->FB 40 x/\x≠0:=fun x h=>by
  rcases h with h | h
  ·exact ⟨int1 h (by decide),by rw[h];decide +kernel⟩
  ·exact ⟨int1 h (by decide),by rw[h];decide +kernel⟩
 have h:=y76 ⟨#[49]⟩ ⟨#[50]⟩ ⟨#[52]⟩ ⟨#[56]⟩ (Rat.divInt 1 1) (Rat.divInt 2 1) (Rat.divInt 4 1) (Rat.divInt 8 1) (by decide +kernel) (by decide +kernel) (by decide +kernel) (by decide +kernel) (by decide) (by decide) (by decide) (by decide) 95 (fun x y=>x / y) yki
  (fun x y hx hy W va vb h1 h2=>yav va vb x y 40 40 W h1 h2 (fx x hx) (fy y hy).1 (by omega) (fy y hy).2) (fun x y hx hy=>((fx x hx).div (fy y hy).1 (fy y hy).2).mono (by omega)) W hW
 rw[show rs (minR (minR (minR (Rat.divInt 1 1 / Rat.divInt 4 1) (Rat.divInt 1 1 / Rat.divInt 8 1)) (Rat.divInt 2 1 / Rat.divInt 4 1)) (Rat.divInt 2 1 / Rat.divInt 8 1))=⟨#[49,47,56]⟩ by decide +kernel,
  show rs (maxR (maxR (maxR (Rat.divInt 1 1 / Rat.divInt 4 1) (Rat.divInt 1 1 / Rat.divInt 8 1)) (Rat.divInt 2 1 / Rat.divInt 4 1)) (Rat.divInt 2 1 / Rat.divInt 8 1))=⟨#[49,47,50]⟩ by decide +kernel] at h
 exact h
theorem yny (w:World)(he:Env w):Calls Tryz.prog 56 #[.agg #[.string ⟨#[49]⟩,.string ⟨#[50]⟩],.agg #[.string ⟨#[51]⟩,.string ⟨#[52]⟩]] w (y6c w (-1) 0):=
 ydu _ _ _ _ (Rat.divInt 1 1) (Rat.divInt 2 1) (Rat.divInt 3 1) (Rat.divInt 4 1) (by decide +kernel) (by decide +kernel) (by decide +kernel) (by decide +kernel) (by decide) (by decide) (by decide) (by decide) (by rw[Fits.iff];decide +kernel) (by rw[Fits.iff];decide +kernel) (by rw[Fits.iff];decide +kernel) (by rw[Fits.iff];decide +kernel) 0 0 rfl
  (fun W h=>yfd W h) (fun W h=>yno W h) (by decide +kernel) w he
theorem yp5 (w:World)(he:Env w):Calls Tryz.prog 56 #[.agg #[.string ⟨#[49]⟩,.string ⟨#[50]⟩],.agg #[.string ⟨#[50]⟩,.string ⟨#[51]⟩]] w (y6c w 0 24):=
 ycl _ _ _ _ (Rat.divInt 1 1) (Rat.divInt 2 1) (Rat.divInt 2 1) (Rat.divInt 3 1) (by decide +kernel) (by decide +kernel) (by decide +kernel) (by decide +kernel) (by decide) (by decide) (by decide) (by decide) (by rw[Fits.iff];decide +kernel) (by rw[Fits.iff];decide +kernel) (by rw[Fits.iff];decide +kernel) (by rw[Fits.iff];decide +kernel) 0 0 rfl
  (fun W h=>yfd W h) (fun W h=>yoy W h) (by decide +kernel) (by decide +kernel) (by decide +kernel) w he
theorem yjq (w:World)(he:Env w):Calls Tryz.prog 41 #[.string ⟨#[49,47,51]⟩] w (y9v w 1051372203 0):=by
 have h:=y5x ⟨#[49,47,51]⟩ (Rat.divInt 1 3) 1051372203 (by decide +kernel) (by rw[Fits.iff];decide +kernel) (by decide) (by decide +kernel) ⟨124,⟨by decide +kernel,by decide +kernel⟩,by decide +kernel⟩ w he;rw[show y1u (decide ((Rat.divInt 1 3).num < 0)) 1051372203=1051372203 by decide +kernel,show y3h 1051372203=0 by decide +kernel] at h;exact h
theorem yj4 (w:World)(he:Env w):Calls Tryz.prog 41 #[.string ⟨#[49,54,55,55,55,50,49,55]⟩] w (y9v w 1266679808 0):=by
 have h:=y5x ⟨#[49,54,55,55,55,50,49,55]⟩ (Rat.divInt 16777217 1) 1266679808 (by decide +kernel) (by rw[Fits.iff];decide +kernel) (by decide) (by decide +kernel) ⟨150,⟨by decide +kernel,by decide +kernel⟩,by decide +kernel⟩ w he;rw[show y1u (decide ((Rat.divInt 16777217 1).num < 0)) 1266679808=1266679808 by decide +kernel,show y3h 1266679808=0 by decide +kernel] at h;exact h
theorem ykp (w:World)(he:Env w):Calls Tryz.prog 41 #[.string ⟨#[49,54,55,55,55,50,49,57]⟩] w (y9v w 1266679810 0):=by
 have h:=y5x ⟨#[49,54,55,55,55,50,49,57]⟩ (Rat.divInt 16777219 1) 1266679810 (by decide +kernel) (by rw[Fits.iff];decide +kernel) (by decide) (by decide +kernel) ⟨150,⟨by decide +kernel,by decide +kernel⟩,by decide +kernel⟩ w he;rw[show y1u (decide ((Rat.divInt 16777219 1).num < 0)) 1266679810=1266679810 by decide +kernel,show y3h 1266679810=0 by decide +kernel] at h;exact h
theorem yn4 (w:World)(he:Env w):Calls Tryz.prog 40 #[.float .f32 1051372203] w (y2e w ⟨#[49,49,49,56,52,56,49,49,47,51,51,53,53,52,52,51,50]⟩ 0):=by
 have h:=ycq 1051372203 (by decide) (by decide +kernel) w he;rw[show rs (fq 1051372203)=⟨#[49,49,49,56,52,56,49,49,47,51,51,53,53,52,52,51,50]⟩ by decide +kernel] at h;exact h
def yd3:List (ByteArray × ByteArray):=[(⟨#[48]⟩,⟨#[49,48]⟩),(⟨#[53]⟩,⟨#[50,48]⟩)]
def awXs:Nat->Rat:=fun k=>if k=0 then Rat.divInt 0 1 else Rat.divInt 5 1
def awYs:Nat->Rat:=fun k=>if k=0 then Rat.divInt 10 1 else Rat.divInt 20 1
theorem ypd:yma yd3 awXs awYs:=by
 refine ⟨fun k h=>?_,fun k h=>?_,fun k h=>?_⟩
 ·match k,h with
  | 0,_=>show y4k (yd3[0]'(by decide)).1 (awXs 0);exact ⟨by decide +kernel,by rw[Fits.iff];decide +kernel,by decide⟩
  | 1,_=>show y4k (yd3[1]'(by decide)).1 (awXs 1);exact ⟨by decide +kernel,by rw[Fits.iff];decide +kernel,by decide⟩
 ·match k,h with
  | 0,_=>show y4k (yd3[0]'(by decide)).2 (awYs 0);exact ⟨by decide +kernel,by rw[Fits.iff];decide +kernel,by decide⟩
  | 1,_=>show y4k (yd3[1]'(by decide)).2 (awYs 1);exact ⟨by decide +kernel,by rw[Fits.iff];decide +kernel,by decide⟩
 ·match k,h with
  | 0,_=>decide +kernel
theorem ym8 (a:Option Addr)(cap:Nat)(w:World)(he:Env w)(hr:RdP w a yd3):Calls Tryz.prog 16 #[.slice a 2 cap,.string ⟨#[50]⟩] w (y2e w ⟨#[49,52]⟩ 0):=by
 have h:=ykr yd3 awXs awYs ypd (by decide) 0 (by decide) ⟨#[50]⟩ (Rat.divInt 2 1) ⟨by decide +kernel,by rw[Fits.iff];decide +kernel,by decide⟩ (fun j hj=>by
  have:j=0:=by omega
  subst this
  decide +kernel) (by decide +kernel) a cap w he hr
 rw[show resS (y8u (awYs 0) (awYs (0+1)) (Rat.divInt 2 1) (awXs 0) (awXs (0+1)))=⟨#[49,52]⟩ by decide +kernel,show resE (y8u (awYs 0) (awYs (0+1)) (Rat.divInt 2 1) (awXs 0) (awXs (0+1)))=0 by decide +kernel] at h;exact h
def awW:Nat->Int:=fun i=>if i=0 then 1 else if i=1 then 2 else 4
theorem ykj (a:Option Addr)(cap:Nat)(w:World)(hr:RdL w a (ints [1,2,4])):Calls Tryz.prog 22 #[.int .i64 50,.slice a 3 cap] w fun e w'=>∃ (b:Option Addr) (c:Nat),e=.returned (.tuple #[.slice b 3 c,.int .i64 0])/\New w w'/\3<=c/\RdL w' b (ints [7,14,29]):=by
 have h:=ybh 50 3 cap awW a w (by decide) (by decide) (by decide) (fun i hi=>by
  match i,hi with
  | 0,_=>decide
  | 1,_=>decide
  | 2,_=>decide) (by decide +kernel) (by decide +kernel) hr
 refine h.mono fun e w' h=>?_;obtain ⟨b,c,h1,h2,h3,h4⟩:=h
 have e:(List.range 3).map (share ((50:Nat):Int) awW 3)=[7,14,29]:=by decide +kernel
 rw[e]at h4;exact ⟨b,c,h1,h2,h3,h4⟩
theorem yom (w:World):Calls Tryz.prog 27 #[.int .i64 1,.int .i64 3] w fun e w'=>∃ (b:Option Addr) (c:Nat),e=.returned (.tuple #[.slice b 3 c,.int .i64 0])/\New w w'/\3<=c/\RdL w' b (ints [1,2,0]):=by
 have h:=yg8 1 3 (by decide) (by decide) (by decide) w;refine h.mono fun e w' h=>?_;obtain ⟨b,c,h1,h2,h3,h4⟩:=h
 have e:(List.range 3).map (yov 1 3)=[1,2,0]:=by decide +kernel
 rw[e]at h4;exact ⟨b,c,h1,h2,h3,h4⟩
theorem y3f (x y:ByteArray)(w:World):Calls Tryz.prog 33 #[.string x,.string y] w fun e w'=>e=.returned (.agg #[.string x,.string y])/\New w w':=by
 go_enter Tryz.func33,Tryz.ntmps33;go_upto_region 1 with (fail);obtain ⟨BP,HN⟩:=lay1 w 53 #[.string ⟨#[]⟩,.string ⟨#[]⟩];obtain ⟨p0,p1,p2,p3,p4⟩:=BP.out.two;go_wp2_with fail;refine bodyPost_ret (v:=.agg #[.string x,.string y]) (by simp[results,Tryz.results33,go_sem]) rfl ?_;exact ⟨rfl,(New.refl w).alloc _⟩
end Go.Proofs.YtnjonlnemagomaaGreatDoor
