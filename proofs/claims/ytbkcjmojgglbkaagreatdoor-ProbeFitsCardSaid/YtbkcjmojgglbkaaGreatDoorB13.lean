/- Part B13. -/
import Derived.Laws.FloatArith
import Derived.Test.YtbkcjmojgglbkaaGreatDoorB12
namespace Go.Proofs.YtbkcjmojgglbkaaGreatDoor
open Go.RowKit Big
open Go.Lib (hid)
set_option maxRecDepth 100000
set_option maxHeartbeats 8000000
def isFin (b:Nat):Bool:=match Ieee.single.read b with | .number ..=>true | _=>false
theorem isFin_spec {b:Nat}(h:isFin b=true):∃ s m i,Ieee.single.read b=.number s m i:=by
 unfold isFin at h;split at h
 ·rename_i s m i hr;exact ⟨s,m,i,hr⟩
 ·cases h
theorem sub_self_fin {b:Nat}(h:isFin b=true):floatBits .sub .f32 b b=some 0:=by
 obtain ⟨s,m,i,hr⟩:=isFin_spec h;show Ieee.single.sub b b=some 0;unfold Ieee.Format.sub;rw[hr];simp only[Ieee.Datum.opposite,Ieee.Datum.sum,Option.map_some]
 have e:Ieee.signed s m (i - min i i).toNat+Ieee.signed (!s) m (i - min i i).toNat=0:=by
  unfold Ieee.signed
  cases s <;> simp <;> omega
 rw[e]
 cases s <;> rfl
theorem sub_self_nan {b:Nat}(h:isFin b=false):FloatKind.f32.format.sub b b=none:=by
 show Ieee.single.sub b b=none;unfold Ieee.Format.sub;unfold isFin at h
 cases hr:Ieee.single.read b with
 | number s m i=>rw[hr] at h;cases h
 | infinity s=>cases s <;> rfl
 | nan s f=>rfl
def nanOf (w:World)(b:Nat):Nat:=(Question.nanBits .f32 b b).cut (w.tape w.drawn (.nanBits .f32 b b))
theorem nan_run {P:Program}(t:TypeId)(b:Nat)(h:isFin b=false)(w:World):(binOp .sub t (.float .f32 b) (.float .f32 b)).run P w=.ok (.float .f32 (nanOf w b)) w.drew:=by
 simp[binOp,Op.floatArith,sub_self_nan h];rfl
theorem nan_read (w:World)(b:Nat):∃ s f,Ieee.single.read (nanOf w b)=.nan s f:=by
 unfold nanOf;generalize w.tape w.drawn (.nanBits .f32 b b)=t;show ∃ s f,Ieee.single.read ((t % 2)*2^31+0x7f800000+1+(t / 2) % (2^23 - 1))=.nan s f;obtain ⟨x,hx⟩:∃ x,(t / 2) % (2^23 - 1)=x:=⟨_,rfl⟩
 have hx1:x < 8388607:=by rw[←hx];exact Nat.mod_lt _ (by decide)
 rw[hx];unfold Ieee.Format.read
 have e1:Ieee.single.signWeight=2147483648:=by decide
 have e2:Ieee.single.binade=8388608:=by decide
 have e3:Ieee.single.infRung=2139095040:=by decide
 rw[e1,e2,e3]
 have hm:(t % 2*2^31+0x7f800000+1+x) % 2147483648=2139095041+x:=by omega
 simp only[hm];rw[if_neg (by omega),if_neg (by omega),if_neg (by omega)];exact ⟨_,_,rfl⟩
theorem nan_order (w:World)(b c:Nat):FloatKind.f32.format.order (nanOf w b) c=none:=by
 obtain ⟨s,f,h⟩:=nan_read w b;show (Ieee.single.read (nanOf w b)).order _=none;rw[h];rfl
def FinPost (w:World)(b:Bool)(e:Ending)(w':World):Prop:=e=.returned (.bool b)∧∃ n,w'=w.drewN n
theorem finite_calls (b:Nat)(w:World):Calls Tryz.prog 158 #[.float .f32 b] w (FinPost w (isFin b)):=by
 cases h:isFin b with
 | true=>
  have hrun:=fun W=>run_float_arith (P:=Tryz.prog) W .sub 35 .f32 b b 0 (sub_self_fin h)
  have ho:(FloatKind.f32.format.order 0 0==some .eq)=true:=by decide
  have H:=hid h;clear h;go_enter Tryz.func158,Tryz.ntmps158;go_wp2_with fail;go_ret;exact ⟨rfl,0,rfl⟩
 | false=>
  have hrun:=fun W=>nan_run (P:=Tryz.prog) 35 b h W;have ho:=fun W=>nan_order W b 0;have H:=hid h;clear h;go_enter Tryz.func158,Tryz.ntmps158;go_wp2_with fail;go_ret;exact ⟨rfl,1,rfl⟩
def flts (l:List Nat):List Value:=l.map (Value.float .f32)
theorem RdL.flt {w:World}{a:Option Addr}{l:List Nat}(h:RdL w a (flts l))(i:Nat)(hi:i < l.length):∃ b off,a=some ⟨b,off,none⟩∧w.cell? ⟨b,off+i,none⟩=some (.float .f32 l[i]):=by
 obtain ⟨b,off,e,hc⟩:=h i (by simpa[flts] using hi);exact ⟨b,off,e,by rw[hc];simp[flts]⟩
def ErrPost (w:World)(n:Int)(e:Ending)(w':World):Prop:=e=.returned (.int .i64 n)∧∃ n,w'=w.drewN n
theorem chk_calls (i:Int)(b:Nat)(w:World):Calls Tryz.prog 157 #[.int .i64 i,.float .f32 b] w (ErrPost w (if isFin b then 0 else 1)):=by
 obtain ⟨f,hf⟩:∃ f,isFin b=f:=⟨_,rfl⟩;have h:=fun W=>finite_calls b W;simp only[hf] at h;rw[hf];have H:=hid h;clear h;clear hf
 cases f with
 | true=>
  go_enter Tryz.func157,Tryz.ntmps157;go_wp2_with fail;refine (H.out _).mono ?_;rintro e w' ⟨rfl,n,rfl⟩;go_wp2_with fail;refine (nwhen_calls _ 1 _).mono ?_;rintro e w2 ⟨rfl,rfl⟩;go_wp2_with fail;go_ret;exact ⟨rfl,n,rfl⟩
 | false=>
  go_enter Tryz.func157,Tryz.ntmps157;go_wp2_with fail;refine (H.out _).mono ?_;rintro e w' ⟨rfl,n,rfl⟩;go_wp2_with fail;refine (nwhen_calls _ 1 _).mono ?_;rintro e w2 ⟨rfl,rfl⟩;go_wp2_with fail;go_ret;exact ⟨rfl,n,rfl⟩
theorem all_take_succ {l:List Nat}{k:Nat}(hk:k < l.length)(h:(l.take k).all isFin=true)(h1:isFin l[k]=true):(l.take (k+1)).all isFin=true:=by
 rw[List.take_succ_eq_append_getElem hk,List.all_append,h];simp[h1]
theorem all_false_at {l:List Nat}{k:Nat}(hk:k < l.length)(h1:isFin l[k]=false):l.all isFin=false:=by
 rw[List.all_eq_false];exact ⟨l[k],List.getElem_mem hk,by rw[h1];decide⟩
theorem each_calls (a:Option Addr)(cap:Nat)(l:List Nat)(w:World)(hl:l.length≤9223372036854775807)(hr:RdL w a (flts l)):
  Calls Tryz.prog 156 #[.slice a l.length cap,.func (.func 157) #[] #[]] w (ErrPost w (if l.all isFin then 0 else 1)):=by
 obtain ⟨r,hres⟩:∃ r:Int,(if l.all isFin=true then 0 else 1)=r:=⟨_,rfl⟩;rw[hres]
 have hli:(l.length:Int)≤9223372036854775807:=by omega
 have HR:=hid hr;have HRES:=hid hres;have HL:=hid hl;clear hr hres hl;go_enter Tryz.func156,Tryz.ntmps156;go_wp2_with fail;go_loopw [10] (fun i wr=>∃ k n:Nat,k≤l.length∧i=.int .i64 (k:Int)∧Hid ((l.take k).all isFin=true)∧wr=w.drewN n) (fun i _=>l.length - (intOf i).toNat)
 case atStart=>exact ⟨0,0,Nat.zero_le _,rfl,hid rfl,rfl⟩
 case round=>
  obtain ⟨k,n,hk,rfl,HK,rfl⟩:=hrel;by_cases hlt:k < l.length
  ·obtain ⟨b,off,rfl,hcell⟩:=HR.out.flt k hlt;obtain ⟨x,hx⟩:∃ x,l[k]=x:=⟨_,rfl⟩;rw[hx] at hcell
   cases hfx:isFin x with
   | true=>
    have hd:=all_take_succ hlt HK.out (by rw[hx];exact hfx);have hc:=fun W=>chk_calls k x W;rw[hfx] at hc;have HX:=hid hx;have HFX:=hid hfx;have HD:=hid hd;have HC:=hid hc;clear hx hfx hd hc;go_wp2_with fail;refine (HC.out _).mono ?_;rintro e w' ⟨rfl,m,rfl⟩;go_wp2_with fail;go_roundw
    case rel=>exact ⟨k+1,n+m,by omega,by go_num,HD,rfl⟩
    case measure=>simp[intOf];omega
   | false=>
    have hd:=all_false_at hlt (by rw[hx];exact hfx);have hc:=fun W=>chk_calls k x W;rw[hfx] at hc;have HX:=hid hx;have HFX:=hid hfx;have HD:=hid hd;have HC:=hid hc;clear hx hfx hd hc;go_wp2_with fail;refine (HC.out _).mono ?_;rintro e w' ⟨rfl,m,rfl⟩;go_wp2_with fail;go_ret;exact ⟨ret_i64 (by rw[←HRES.out,HD.out];rfl),n+m,rfl⟩
  ·have hkk:k=l.length:=by omega
   have hz:r=0:=by rw[←HRES.out,if_pos];have:=HK.out;rwa [hkk,List.take_length] at this
   have HKK:=hid hkk;have HZ:=hid hz;clear hkk hz;go_wp2_with fail;go_ret;exact ⟨ret_i64 HZ.out.symm,n,rfl⟩
def samplesErr (l:List Nat):Int:=if 4096 < l.length then 5 else if l.all isFin then 0 else 1
theorem checkSamples_calls (a:Option Addr)(cap:Nat)(l:List Nat)(w:World)(hl:l.length≤9223372036854775807)(hr:RdL w a (flts l)):
  Calls Tryz.prog 95 #[.slice a l.length cap] w (ErrPost w (samplesErr l)):=by
 unfold samplesErr;by_cases h:4096 < l.length
 ·rw[if_pos h]
  have hi:(4096:Int) < (l.length:Int):=by omega
  clear hr;go_enter Tryz.func95,Tryz.ntmps95;go_wp2_with fail;go_ret;exact ⟨rfl,0,rfl⟩
 ·rw[if_neg h]
  have hi:¬(4096:Int) < (l.length:Int):=by omega
  have he:=each_calls a cap l w hl hr;obtain ⟨r,hres⟩:∃ r:Int,(if l.all isFin=true then 0 else 1)=r:=⟨_,rfl⟩;rw[hres] at he⊢;have HE:=hid he;have HRES:=hid hres;clear he hres;clear hr;go_enter Tryz.func95,Tryz.ntmps95;go_wp2_with fail;refine HE.out.mono ?_;rintro e w' ⟨rfl,n,rfl⟩;go_wp2_with fail;go_ret;exact ⟨rfl,n,rfl⟩
theorem Box.five {w:World}{B:Nat}{t:TypeId}{x y x' y' z:Value}(h:Box w B t #[x,y,x',y',z]):
  (w.cell? ⟨B,0,none⟩=some x∧w.cell? ⟨B,1,none⟩=some y∧w.cell? ⟨B,2,none⟩=some x'∧w.cell? ⟨B,3,none⟩=some y'∧w.cell? ⟨B,4,none⟩=some z)∧B < w.heap.size:=
 ⟨⟨h.cell 0,h.cell 1,h.cell 2,h.cell 3,h.cell 4⟩,h.lt⟩
theorem top_calls (b s z:Int)(g o:ByteArray)(w:World)(lo:8≤b)(hi:b≤12):Calls Tryz.prog 66 #[.agg #[.int .i64 b,.int .i64 s,.int .i64 z,.string g,.string o]] w fun e w'=>e=.returned (.int .i64 (2^b.toNat - 1))∧New w w':=by
 obtain rfl | rfl | rfl | rfl | rfl:b=8∨b=9∨b=10∨b=11∨b=12:=by omega
 all_goals
  clear lo hi;go_enter Tryz.func66,Tryz.ntmps66;go_wp2_with fail;go_ret;exact ⟨by first | rfl | decide,(New.refl _).alloc _⟩
theorem wrap_pow {n:Nat}(h:n≤40):IntKind.i64.wrap (2^n)=2^n:=by
 have key:∀ n,n≤40→IntKind.i64.wrap (2^n)=2^n:=by decide +kernel
 exact key n h
def stepQ (s:Int):Rat:=if s < 0 then ((2^(-s).toNat:Int):Rat)⁻¹ else ((2^s.toNat:Int):Rat)
theorem pow_bd {n:Nat}(h:n≤40):BdK 41 (2^n)∧(1:Int)≤2^n∧(2:Int)^n≤1099511627776:=by
 have key:∀ n,n≤40→BdK 41 (2^n)∧(1:Int)≤2^n∧(2:Int)^n≤1099511627776:=by unfold BdK;decide +kernel
 exact key n h
theorem FB.int {k:Nat}{x:Int}(h:BdK k x)(hk:1≤k):FB k (x:Rat):=⟨by rw[Rat.num_intCast];exact h,by
 rw[Rat.den_intCast];unfold BdK
 exact Nat.lt_of_lt_of_le (by decide:(1:Int).natAbs < 2^1) (Nat.pow_le_pow_right (by omega) hk)⟩
theorem powRat_ne {n:Nat}(h:n≤40):((2^n:Int):Rat)≠0:=by
 have:=(pow_bd h).2.1;intro h0
 have:(2:Int)^n=0:=by exact_mod_cast h0
 omega
theorem stepQ_fb {s:Int}(lo: -20≤s)(hi:s≤4):FB 41 (stepQ s):=by
 unfold stepQ;split
 ·exact (FB.int (pow_bd (by omega)).1 (by omega)).inv (powRat_ne (by omega))
 ·exact FB.int (pow_bd (by omega)).1 (by omega)
theorem stepQ_ne {s:Int}(lo: -20≤s)(hi:s≤4):stepQ s≠0:=by
 unfold stepQ;split
 ·intro h;have h1:=powRat_ne (n:=(-s).toNat) (by omega);exact h1 (by rw[←Rat.inv_inv ((2^(-s).toNat:Int):Rat),h,Rat.inv_zero])
 ·exact powRat_ne (by omega)
theorem step_calls (b s z:Int)(g o:ByteArray)(w:World)(lo: -20≤s)(hi:s≤4):Calls Tryz.prog 124 #[.agg #[.int .i64 b,.int .i64 s,.int .i64 z,.string g,.string o]] w (FracPost w (stepQ s)):=by
 obtain ⟨q,hq⟩:∃ q,stepQ s=q:=⟨_,rfl⟩;have hq':=hq;rw[hq];unfold stepQ at hq';by_cases hs:s < 0
 ·rw[if_pos hs] at hq';obtain ⟨n,hn,rfl⟩:∃ n:Nat,n≤20∧s= -(n:Int):=⟨(-s).toNat,by omega,by omega⟩
  have e1:(- -(n:Int)).toNat=n:=by omega
  rw[e1]at hq';obtain ⟨p1,p2,p3⟩:=pow_bd (n:=n) (by omega);have p4:=powRat_ne (n:=n) (by omega);have hw:=wrap_pow (n:=n) (by omega);clear hq lo hi;have HQ:=hid hq';have P1:=hid p1;have P2:=hid p2;have P3:=hid p3;have P4:=hid p4;have E1:=hid e1;clear hq' p1 p2 p3 p4 e1;go_enter Tryz.func124,Tryz.ntmps124;go_wp2_with fail;obtain ⟨BA,BP,HN⟩:=lay2 w 32 #[.int .i64 b,.int .i64 (-(n:Int)),.int .i64 z,.string g,.string o] 122 #[.int .i64 0,.slice none 0 0,.int .i64 0,.slice none 0 0];refine (f_calls (2^n) _ (by have:=P2.out;omega) (by have:=P3.out;omega)).mono ?_;rintro e w1 ⟨v,rfl,hn,hf⟩;have HF1:=hid hf;clear hf;replace BP:=bW BP hn;replace HN:=tW HN hn;clear hn;go_wp2_with fail;refine (inv_calls _ _ 41 _ HF1.out (FB.int P1.out (by omega)) (by omega) P4.out).mono ?_;rintro e w2 ⟨v,rfl,hn,hf⟩;rw[HQ.out] at hf;obtain ⟨s9,a9,l9,k9,t9,b9,m9,n9,rfl⟩:=hf.shape;have HF:=hid hf;clear hf;replace BP:=bW BP hn;replace HN:=tW HN hn;clear hn;obtain ⟨⟨p0,p1,p2,p3⟩,p4,p5,p6,p7,p8⟩:=BP.out.four;go_wp2_with fail;refine bodyPost_ret (v:=.agg #[.int .i64 s9,.slice a9 l9 k9,.int .i64 t9,.slice b9 m9 n9]) (by simp[results,Tryz.results124,go_sem,p0,p1,p2,p3]) rfl ?_;exact frac_ret HN.out BP.out (by omega) HF.out.parts.1 HF.out.parts.2
 ·rw[if_neg hs] at hq';obtain ⟨n,hn,rfl⟩:∃ n:Nat,n≤4∧s=(n:Int):=⟨s.toNat,by omega,by omega⟩
  have e1:(n:Int).toNat=n:=by omega
  rw[e1]at hq';obtain ⟨p1,p2,p3⟩:=pow_bd (n:=n) (by omega);have hw:=wrap_pow (n:=n) (by omega);clear hq lo hi;have HQ:=hid hq';have P1:=hid p1;have P2:=hid p2;have P3:=hid p3;have E1:=hid e1;clear hq' p1 p2 p3 e1;go_enter Tryz.func124,Tryz.ntmps124;go_wp2_with fail;obtain ⟨BA,BP,HN⟩:=lay2 w 32 #[.int .i64 b,.int .i64 (n:Int),.int .i64 z,.string g,.string o] 122 #[.int .i64 0,.slice none 0 0,.int .i64 0,.slice none 0 0];refine (f_calls (2^n) _ (by have:=P2.out;omega) (by have:=P3.out;omega)).mono ?_;rintro e w1 ⟨v,rfl,hn,hf⟩;rw[HQ.out] at hf;obtain ⟨s9,a9,l9,k9,t9,b9,m9,n9,rfl⟩:=hf.shape;have HF:=hid hf;clear hf;replace BP:=bW BP hn;replace HN:=tW HN hn;clear hn;obtain ⟨⟨p0,p1,p2,p3⟩,p4,p5,p6,p7,p8⟩:=BP.out.four;go_wp2_with fail;refine bodyPost_ret (v:=.agg #[.int .i64 s9,.slice a9 l9 k9,.int .i64 t9,.slice b9 m9 n9]) (by simp[results,Tryz.results124,go_sem,p0,p1,p2,p3]) rfl ?_;exact frac_ret HN.out BP.out (by omega) HF.out.parts.1 HF.out.parts.2
theorem New.of_eq {w w':World}(h:w=w'):New w w':=h ▸ New.refl w
theorem pwithin_new (n lo hi:Int)(w:World):Calls Tryz.prog 74 #[.int .i64 n,.int .i64 lo,.int .i64 hi] w fun e w'=>e=.returned (.int .i64 (if outside n lo hi then 3 else 0))∧New w w':=
 (pwithin_calls n lo hi w).mono fun _ _ h=>⟨h.1,.of_eq h.2⟩
theorem pwhen_new (b:Bool)(n:Int)(w:World):Calls Tryz.prog 75 #[.bool b,.int .i64 n] w fun e w'=>e=.returned (.int .i64 (if b then n else 0))∧New w w':=
 (pwhen_calls b n w).mono fun _ _ h=>⟨h.1,.of_eq h.2⟩
theorem pfirst2_new (x y:Int)(b cap:Nat)(t:TypeId)(w:World)(h:Box w b t #[.int .i64 x,.int .i64 y]):
  Calls Tryz.prog 67 #[.slice (some ⟨b,0,none⟩) 2 cap] w fun e w'=>e=.returned (.int .i64 (if x=0 then y else x))∧New w w':=
 (pfirst2 x y b cap t w h).mono fun _ _ h=>⟨h.1,.of_eq h.2⟩
def RetNew (w:World)(r:Int)(e:Ending)(w':World):Prop:=e=.returned (.int .i64 r)∧New w w'
theorem checkAdc_c (b s z:Int) (g o:ByteArray) (w:World) (he:Env w) (hgl:g.size≤100000) (hol:o.size≤100000) (hb:outside b 8 12=false) (hs:outside s (-20) 4=false)
  (hz:outside z 0 (2^b.toNat - 1)=false) (q:Rat) (hf:Fits q) (hg:g.data.toList=ratText q):
  Calls Tryz.prog 15 #[.agg #[.int .i64 b,.int .i64 s,.int .i64 z,.string g,.string o]] w (RetNew w (if q.num.sign≤0 then 3 else ratErr o.data.toList)):=by
 obtain ⟨e1,he1⟩:∃ e1:Int,(if outside b 8 12 then 3 else 0)=e1:=⟨_,rfl⟩;obtain ⟨e2,he2⟩:∃ e2:Int,(if outside s (-20) 4 then 3 else 0)=e2:=⟨_,rfl⟩;obtain ⟨r1,hr1⟩:∃ r,(if e1=0 then e2 else e1)=r:=⟨_,rfl⟩;obtain ⟨tp,htp⟩:∃ tp:Int,2^b.toNat - 1=tp:=⟨_,rfl⟩;rw[htp] at hz;obtain ⟨e3,he3⟩:∃ e3:Int,(if outside z 0 tp then 3 else 0)=e3:=⟨_,rfl⟩;obtain ⟨e4,he4⟩:∃ e4:Int,ratErr g.data.toList=e4:=⟨_,rfl⟩;obtain ⟨r2,hr2⟩:∃ r,(if e3=0 then e4 else e3)=r:=⟨_,rfl⟩
 have ht1:(r1 != 0)=false:=by rw[←hr1,←he1,←he2,hb,hs];rfl
 have hlo:8≤b:=by simp[outside] at hb;omega
 have hhi:b≤12:=by simp[outside] at hb;omega
 clear hb hs
 have ht2:(r2 != 0)=false:=by rw[←hr2,←he3,←he4,hz,hg,ratErr_ratText hf];rfl
 clear hz hf;obtain ⟨sg,hsg⟩:∃ sg,q.num.sign=sg:=⟨_,rfl⟩;obtain ⟨e5,he5⟩:∃ e5:Int,(if decide (sg≤0)=true then 3 else 0)=e5:=⟨_,rfl⟩;obtain ⟨e6,he6⟩:∃ e6:Int,ratErr o.data.toList=e6:=⟨_,rfl⟩;obtain ⟨r,hr⟩:∃ r,(if e5=0 then e6 else e5)=r:=⟨_,rfl⟩
 have hrr:(if q.num.sign≤0 then 3 else ratErr o.data.toList)=r:=by
  rw[←hr,←he5,←he6,hsg];by_cases h:sg≤0
  ·simp[h]
  ·simp[h]
 rw[hrr];clear hrr;have HE1:=hid he1;have HE2:=hid he2;have HR1:=hid hr1;have HTP:=hid htp;have HE3:=hid he3;have HE4:=hid he4;have HR2:=hid hr2;have HLO:=hid hlo;have HHI:=hid hhi;have HE:=hid he;have HGL:=hid hgl;have HOL:=hid hol;have HG:=hid hg;have HSG:=hid hsg;have HE5:=hid he5;have HE6:=hid he6;have HR3:=hid hr;clear he1 he2 hr1 htp he3 he4 hr2 hlo hhi he hgl hol hg hsg he5 he6 hr;go_enter Tryz.func15,Tryz.ntmps15;go_wp2_with fail;obtain ⟨BA,HN⟩:=lay1 w 32 #[.int .i64 b,.int .i64 s,.int .i64 z,.string g,.string o];obtain ⟨⟨pa0,pa1,pa2,pa3,pa4⟩,pa5⟩:=BA.out.five;clear pa0 pa1 pa2 pa3 pa4 pa5;refine wp_region_T 8 (fun W=>W.cell? ⟨w.heap.size,0,none⟩=some (.int .i64 b)∧W.cell? ⟨w.heap.size,1,none⟩=some (.int .i64 s)∧W.cell? ⟨w.heap.size,2,none⟩=some (.int .i64 z)∧W.cell? ⟨w.heap.size,3,none⟩=some (.string g)∧W.cell? ⟨w.heap.size,4,none⟩=some (.string o)) 9 #[false,false,false,false,false,false,false,false,false] rfl (by kernel_rfl) (by kernel_rfl) ?_;refine tk 0 (by exact cW5 BA) ?_
 try simp only[PT]
 refine tk 1 (by exact cW5 BA) ?_
 try simp only[PT]
 refine tk 3 (by exact cW5 BA) ?_
 try simp only[PT]
 refine tk 4 (by exact cW5 BA) ?_
 try simp only[PT]
 refine tk1 2 fun K hK=>?_;go_simp;refine (pwithin_new b 8 12 _).mono ?_;rintro e w1 ⟨rfl,hn⟩;rw[HE1.out];have hn:=hn.undrew;replace BA:=bW BA hn;replace HN:=tW HN hn;clear hn;refine hK.out _ _ (fun _=>cW5 BA) ?_;clear hK K
 try simp only[PT]
 refine tk1 5 fun K hK=>?_;go_simp;refine (pwithin_new s (-20) 4 _).mono ?_;rintro e w2 ⟨rfl,hn⟩;rw[HE2.out];replace BA:=bW BA hn;replace HN:=tW HN hn;clear hn;refine hK.out _ _ (fun _=>cW5 BA) ?_;clear hK K
 try simp only[PT]
 refine tk1 6 fun K hK=>?_;go_simp;have HN0:=HN;clear HN;obtain ⟨BG,HN⟩:=lay1 w2 29 #[.int .i64 e1,.int .i64 e2];replace BA:=hid (BA.out.new HN.out);have HN_:=HN0.out.trans HN.out;clear HN HN0;have HN:=hid HN_;clear HN_;refine hK.out _ _ (fun _=>cW5 BA) ?_;clear hK K
 try simp only[PT]
 refine tk1 7 fun K hK=>?_;go_simp;refine (pfirst2_new e1 e2 _ _ 29 _ BG.out).mono ?_;rintro e w3 ⟨rfl,hn⟩;rw[HR1.out];replace BA:=bW BA hn;replace HN:=tW HN hn;clear hn;refine hK.out _ _ (fun _=>cW5 BA) ?_;clear hK K
 try simp only[PT]
 refine tlW ?_;obtain ⟨⟨pa0,pa1,pa2,pa3,pa4⟩,pa5⟩:=BA.out.five;go_wp2_with fail;clear pa0 pa1 pa2 pa3 pa4 pa5;refine wp_region_T 10 (fun W=>W.cell? ⟨w.heap.size,0,none⟩=some (.int .i64 b)∧W.cell? ⟨w.heap.size,1,none⟩=some (.int .i64 s)∧W.cell? ⟨w.heap.size,2,none⟩=some (.int .i64 z)∧W.cell? ⟨w.heap.size,3,none⟩=some (.string g)∧W.cell? ⟨w.heap.size,4,none⟩=some (.string o)) 11 #[false,false,false,false,false,false,false,false,false,false,false] rfl (by kernel_rfl) (by kernel_rfl) ?_;refine tk 0 (by exact cW5 BA) ?_
 try simp only[PT]
 refine tk 1 (by exact cW5 BA) ?_
 try simp only[PT]
 refine tk 2 (by exact cW5 BA) ?_
 try simp only[PT]
 refine tk 5 (by exact cW5 BA) ?_
 try simp only[PT]
 refine tk 6 (by exact cW5 BA) ?_
 try simp only[PT]
 refine tk1 3 fun K hK=>?_;go_simp;refine (top_calls b s z g o _ HLO.out HHI.out).mono ?_;rintro e w4 ⟨rfl,hn⟩;rw[HTP.out];have hn:=hn.undrew;replace BA:=bW BA hn;replace HN:=tW HN hn;clear hn;refine hK.out _ _ (fun _=>cW5 BA) ?_;clear hK K
 try simp only[PT]
 refine tk1 4 fun K hK=>?_;go_simp;refine (pwithin_new z 0 tp _).mono ?_;rintro e w5 ⟨rfl,hn⟩;rw[HE3.out];replace BA:=bW BA hn;replace HN:=tW HN hn;clear hn;refine hK.out _ _ (fun _=>cW5 BA) ?_;clear hK K
 try simp only[PT]
 refine tk1 7 fun K hK=>?_;go_simp;refine (check_calls g _ (HE.out.new HN.out) HGL.out).mono ?_;rintro e w6 ⟨rfl,hn⟩;rw[HE4.out];replace BA:=bW BA hn;replace HN:=tW HN hn;clear hn;refine hK.out _ _ (fun _=>cW5 BA) ?_;clear hK K
 try simp only[PT]
 refine tk1 8 fun K hK=>?_;go_simp;have HN0:=HN;clear HN;obtain ⟨BH,HN⟩:=lay1 w6 29 #[.int .i64 e3,.int .i64 e4];replace BA:=hid (BA.out.new HN.out);have HN_:=HN0.out.trans HN.out;clear HN HN0;have HN:=hid HN_;clear HN_;refine hK.out _ _ (fun _=>cW5 BA) ?_;clear hK K
 try simp only[PT]
 refine tk1 9 fun K hK=>?_;go_simp;refine (pfirst2_new e3 e4 _ _ 29 _ BH.out).mono ?_;rintro e w7 ⟨rfl,hn⟩;rw[HR2.out];replace BA:=bW BA hn;replace HN:=tW HN hn;clear hn;refine hK.out _ _ (fun _=>cW5 BA) ?_;clear hK K
 try simp only[PT]
 refine tlW ?_;obtain ⟨⟨pa0,pa1,pa2,pa3,pa4⟩,pa5⟩:=BA.out.five;go_wp2_with fail;clear pa0 pa1 pa2 pa3 pa4 pa5;refine wp_region_T 11 (fun W=>W.cell? ⟨w.heap.size,0,none⟩=some (.int .i64 b)∧W.cell? ⟨w.heap.size,1,none⟩=some (.int .i64 s)∧W.cell? ⟨w.heap.size,2,none⟩=some (.int .i64 z)∧W.cell? ⟨w.heap.size,3,none⟩=some (.string g)∧W.cell? ⟨w.heap.size,4,none⟩=some (.string o)) 12 #[false,false,false,false,false,false,false,false,false,false,false,false] rfl (by kernel_rfl) (by kernel_rfl) ?_;refine tk 0 (by exact cW5 BA) ?_
 try simp only[PT]
 refine tk 1 (by exact cW5 BA) ?_
 try simp only[PT]
 refine tk 6 (by exact cW5 BA) ?_
 try simp only[PT]
 refine tk 7 (by exact cW5 BA) ?_
 try simp only[PT]
 refine tk1 2 fun K hK=>?_;go_simp;refine (from_calls g q _ (HE.out.new HN.out.drew) HG.out (by have:=HGL.out;omega)).mono ?_;rintro e w8 ⟨v8,rfl,hn,hf⟩;have hn:=hn.undrew;have HF:=hid hf;clear hf;replace BA:=bW BA hn;replace HN:=tW HN hn;clear hn;refine hK.out _ _ (fun _=>cW5 BA) ?_;clear hK K
 try simp only[PT]
 refine tk1 3 fun K hK=>?_;go_simp;refine (fsign_calls v8 q _ HF.out).mono ?_;rintro e w9 ⟨rfl,hn⟩;rw[HSG.out];clear HF;replace BA:=bW BA hn;replace HN:=tW HN hn;clear hn;refine hK.out _ _ (fun _=>cW5 BA) ?_;clear hK K
 try simp only[PT]
 refine tk 4 (by exact cW5 BA) ?_
 try simp only[PT]
 refine tk1 5 fun K hK=>?_;go_simp;refine (pwhen_new _ 3 _).mono ?_;rintro e w10 ⟨rfl,hn⟩;rw[HE5.out];replace BA:=bW BA hn;replace HN:=tW HN hn;clear hn;refine hK.out _ _ (fun _=>cW5 BA) ?_;clear hK K
 try simp only[PT]
 refine tk1 8 fun K hK=>?_;go_simp;refine (check_calls o _ (HE.out.new HN.out) HOL.out).mono ?_;rintro e w11 ⟨rfl,hn⟩;rw[HE6.out];replace BA:=bW BA hn;replace HN:=tW HN hn;clear hn;refine hK.out _ _ (fun _=>cW5 BA) ?_;clear hK K
 try simp only[PT]
 refine tk1 9 fun K hK=>?_;go_simp;have HN0:=HN;clear HN;obtain ⟨BJ,HN⟩:=lay1 w11 29 #[.int .i64 e5,.int .i64 e6];replace BA:=hid (BA.out.new HN.out);have HN_:=HN0.out.trans HN.out;clear HN HN0;have HN:=hid HN_;clear HN_;refine hK.out _ _ (fun _=>cW5 BA) ?_;clear hK K
 try simp only[PT]
 refine tk1 10 fun K hK=>?_;go_simp;refine (pfirst2_new e5 e6 _ _ 29 _ BJ.out).mono ?_;rintro e w12 ⟨rfl,hn⟩;rw[HR3.out];replace BA:=bW BA hn;replace HN:=tW HN hn;clear hn;refine hK.out _ _ (fun _=>cW5 BA) ?_;clear hK K
 try simp only[PT]
 refine tlW ?_;obtain ⟨⟨pa0,pa1,pa2,pa3,pa4⟩,pa5⟩:=BA.out.five;go_wp2_with fail;go_ret;exact ⟨rfl,HN.out⟩
structure AdcOk (b s z:Int)(g o:ByteArray)(qg qo:Rat):Prop where
 blo:8≤b
 bhi:b≤12
 slo: -20≤s
 shi:s≤4
 zlo:0≤z
 zhi:z≤2^b.toNat - 1
 gt:g.data.toList=ratText qg
 gf:Fits qg
 gpos:0 < qg.num
 gl:g.size≤100000
 ot:o.data.toList=ratText qo
 of:Fits qo
 ol:o.size≤100000
theorem checkAdc_ok {b s z:Int}{g o:ByteArray}{qg qo:Rat}(h:AdcOk b s z g o qg qo)(w:World)(he:Env w):
  Calls Tryz.prog 15 #[.agg #[.int .i64 b,.int .i64 s,.int .i64 z,.string g,.string o]] w (RetNew w 0):=by
 have h1:=h.blo;have h2:=h.bhi;have h3:=h.slo;have h4:=h.shi;have h5:=h.zlo;have h6:=h.zhi
 have:=checkAdc_c b s z g o w he h.gl h.ol (by simp[outside];omega) (by simp[outside];omega) (by simp only[outside,Bool.or_eq_false_iff,decide_eq_false_iff_not];omega) qg h.gf h.gt;rw[if_neg (by have:=Int.sign_pos_iff.2 h.gpos;omega),h.ot,ratErr_ratText h.of] at this;exact this
theorem top_bd {b:Int}(lo:8≤b)(hi:b≤12):(255:Int)≤2^b.toNat - 1∧(2:Int)^b.toNat - 1≤4095:=by
 obtain rfl | rfl | rfl | rfl | rfl:b=8∨b=9∨b=10∨b=11∨b=12:=by omega
 all_goals decide
theorem checkCode_calls {b s z:Int}{g o:ByteArray}{qg qo:Rat}(h:AdcOk b s z g o qg qo)(code:Int)(w:World)(he:Env w):
  Calls Tryz.prog 71 #[.agg #[.int .i64 b,.int .i64 s,.int .i64 z,.string g,.string o],.int .i64 code] w (RetNew w (if outside code 0 (2^b.toNat - 1) then 3 else 0)):=by
 have hc:=fun W hW=>checkAdc_ok h W hW;have hlo:=h.blo;have hhi:=h.bhi;obtain ⟨tp,htp⟩:∃ tp:Int,2^b.toNat - 1=tp:=⟨_,rfl⟩;rw[htp];obtain ⟨r,hr⟩:∃ r:Int,(if outside code 0 tp then 3 else 0)=r:=⟨_,rfl⟩;rw[hr];clear h;have HC:=hid hc;have HLO:=hid hlo;have HHI:=hid hhi;have HTP:=hid htp;have HR:=hid hr;have HE:=hid he;clear hc hlo hhi htp hr he;go_enter Tryz.func71,Tryz.ntmps71;go_wp2_with fail;obtain ⟨BA,HN⟩:=lay1 w 32 #[.int .i64 b,.int .i64 s,.int .i64 z,.string g,.string o];refine (HC.out _ (HE.out.new HN.out)).mono ?_;rintro e w1 ⟨rfl,hn⟩;replace BA:=bW BA hn;replace HN:=tW HN hn;clear hn;obtain ⟨⟨pa0,pa1,pa2,pa3,pa4⟩,pa5⟩:=BA.out.five;go_wp2_with fail;refine (top_calls b s z g o _ HLO.out HHI.out).mono ?_;rintro e w2 ⟨rfl,hn⟩;rw[HTP.out];clear pa0 pa1 pa2 pa3 pa4 pa5;replace BA:=bW BA hn;replace HN:=tW HN hn;clear hn;go_wp2_with fail;refine (pwithin_new code 0 tp _).mono ?_;rintro e w3 ⟨rfl,hn⟩;rw[HR.out];replace BA:=bW BA hn;replace HN:=tW HN hn;clear hn;go_wp2_with fail;go_ret;exact ⟨rfl,HN.out⟩
theorem diff_bd {d:Int}(lo: -1000000≤d)(hi:d≤1000000):FB 20 (d:Rat):=
 FB.int (by unfold BdK;exact Nat.lt_of_le_of_lt (show d.natAbs≤1000000 by omega) (by decide)) (by omega)
theorem nominal_calls {b s z:Int}{g o:ByteArray}{qg qo:Rat}(h:AdcOk b s z g o qg qo)(code:Int)(w:World)(lo:0≤code)(hi:code≤4095):
  Calls Tryz.prog 65 #[.agg #[.int .i64 b,.int .i64 s,.int .i64 z,.string g,.string o],.int .i64 code] w (FracPost w (stepQ s*((code - z:Int):Rat))):=by
 have hst:=fun W=>step_calls b s z g o W h.slo h.shi;have hfb:=stepQ_fb h.slo h.shi;obtain ⟨t,ht⟩:∃ t,stepQ s=t:=⟨_,rfl⟩;rw[ht] at hfb⊢;simp only[ht] at hst;have hz1:=h.zlo;have hz2:=h.zhi;have hz3:=(top_bd h.blo h.bhi).2;obtain ⟨d,hd⟩:∃ d,code - z=d:=⟨_,rfl⟩
 have hd1: -9223372036854775808≤code - z:=by omega
 have hd2:code - z≤9223372036854775807:=by omega
 have hw:IntKind.i64.wrap (code - z)=d:=by rw[IntKind.wrap_i64,←hd];omega
 rw[hd]at hd1 hd2;have hdb:FB 20 (d:Rat):=diff_bd (by omega) (by omega);rw[hd];clear hz1 hz2 hz3 h lo hi;have HST:=hid hst;have HFB:=hid hfb;have HT:=hid ht;have HD:=hid hd;have HDB:=hid hdb;have HW:=hid hw;clear hst hfb ht hd hdb hw;go_enter Tryz.func65,Tryz.ntmps65;go_wp2_with fail;obtain ⟨BA,BP,HN⟩:=lay2 w 32 #[.int .i64 b,.int .i64 s,.int .i64 z,.string g,.string o] 122 #[.int .i64 0,.slice none 0 0,.int .i64 0,.slice none 0 0];obtain ⟨⟨pa0,pa1,pa2,pa3,pa4⟩,pa5⟩:=BA.out.five;clear pa0 pa1 pa2 pa3 pa4 pa5;refine wp_region_T 8 (fun W=>W.cell? ⟨w.heap.size,0,none⟩=some (.int .i64 b)∧W.cell? ⟨w.heap.size,1,none⟩=some (.int .i64 s)∧W.cell? ⟨w.heap.size,2,none⟩=some (.int .i64 z)∧W.cell? ⟨w.heap.size,3,none⟩=some (.string g)∧W.cell? ⟨w.heap.size,4,none⟩=some (.string o)) 9 #[false,false,false,false,false,false,false,false,false] rfl (by kernel_rfl) (by kernel_rfl) ?_;refine tk 0 (by exact cW5 BA) ?_
 try simp only[PT]
 refine tk 2 (by exact cW5 BA) ?_
 try simp only[PT]
 refine tk 3 (by exact cW5 BA) ?_
 try simp only[PT]
 refine tk 4 (by exact cW5 BA) ?_
 try simp only[PT]
 refine tk 5 (by exact cW5 BA) ?_
 try simp only[PT]
 refine tk1 1 fun K hK=>?_;go_simp;refine (HST.out _).mono ?_;rintro e w1 ⟨v1,rfl,hn,hf⟩;have hn:=hn.undrew;have HF1:=hid hf;clear hf;replace BA:=bW BA hn;replace BP:=bW BP hn;replace HN:=tW HN hn;clear hn;refine hK.out _ _ (fun _=>cW5 BA) ?_;clear hK K
 try simp only[PT]
 refine tk1 6 fun K hK=>?_;go_simp;rw[HW.out];refine (f_calls d _ hd1 hd2).mono ?_;rintro e w2 ⟨v2,rfl,hn,hf⟩;have HF2:=hid hf;clear hf;replace BA:=bW BA hn;replace BP:=bW BP hn;replace HF1:=hid (HF1.out.new hn);replace HN:=tW HN hn;clear hn;refine hK.out _ _ (fun _=>cW5 BA) ?_;clear hK K
 try simp only[PT]
 refine tk1 7 fun K hK=>?_;go_simp;refine (fmul_calls _ _ t (d:Rat) 41 20 _ HF1.out HF2.out HFB.out HDB.out (by omega)).mono ?_;rintro e w3 ⟨v3,rfl,hn,hf⟩;obtain ⟨s9,a9,l9,k9,t9,b9,m9,n9,rfl⟩:=hf.shape;have HF:=hid hf;clear hf;replace BA:=bW BA hn;replace BP:=bW BP hn;replace HN:=tW HN hn;clear hn;refine hK.out _ _ (fun _=>cW5 BA) ?_;clear hK K
 try simp only[PT]
 refine tlW ?_;obtain ⟨⟨pa0,pa1,pa2,pa3,pa4⟩,pa5⟩:=BA.out.five;obtain ⟨⟨p0,p1,p2,p3⟩,p4,p5,p6,p7,p8⟩:=BP.out.four;go_wp2_with fail;refine bodyPost_ret (v:=.agg #[.int .i64 s9,.slice a9 l9 k9,.int .i64 t9,.slice b9 m9 n9]) (by simp[results,Tryz.results65,go_sem,p0,p1,p2,p3]) rfl ?_;exact frac_ret HN.out BP.out (by omega) HF.out.parts.1 HF.out.parts.2
theorem two_mono (a b:Nat)(h:a≤b):(2:Nat)^a≤2^b:=Nat.pow_le_pow_right (by decide) h
theorem Sm.bdk {z:Int}(h:Sm z):BdK 1800 z:=by
 obtain ⟨lo,hi⟩:=h;unfold BdK;exact Nat.lt_of_lt_of_le (show z.natAbs < 2^64 by omega) (two_mono 64 1800 (by decide))
theorem SmF.fb {q:Rat}(h:SmF q):FB 1800 q:=⟨h.1.bdk,h.2.bdk⟩
def rtext (q:Rat):ByteArray:=⟨(ratText q).toArray⟩
def spanV (x y:Rat):Value:=.agg #[.string (rtext x),.string (rtext y)]
def SpanPost (w:World)(x y:Rat)(n:Int)(e:Ending)(w':World):Prop:=e=.returned (.tuple #[spanV x y,.int .i64 n])∧New w w'
theorem span_calls (va vb:Value)(x y:Rat)(w:World)(hx:IsFrac w va x)(hy:IsFrac w vb y)(sx:SmF x)(sy:SmF y)(he:Env w):Calls Tryz.prog 64 #[va,vb] w (SpanPost w x y 0):=by
 obtain ⟨sa,aa,la,ca,ta,ba,ma,na,rfl⟩:=hx.shape;obtain ⟨sb,ab,lb,cb,tb,bb,mb,nb,rfl⟩:=hy.shape;unfold SpanPost spanV rtext;have htx:=fun (W:World) v h hW=>text_small v x W h sx hW;have hty:=fun (W:World) v h hW=>text_small v y W h sy hW;obtain ⟨X,hX⟩:∃ X:ByteArray,⟨(ratText x).toArray⟩=X:=⟨_,rfl⟩;obtain ⟨Y,hY⟩:∃ Y:ByteArray,⟨(ratText y).toArray⟩=Y:=⟨_,rfl⟩;simp only[hX] at htx;simp only[hY] at hty;rw[hX,hY];have HX:=hid hx;have HY:=hid hy;have SX:=hid sx;have SY:=hid sy;have HE:=hid he;have HTX:=hid htx;have HTY:=hid hty;have HXX:=hid hX;have HYY:=hid hY;clear hx hy sx sy he htx hty hX hY;go_enter Tryz.func64,Tryz.ntmps64;go_wp2_with fail;obtain ⟨BA,BB,BP,HN⟩:=lay3 w 122 #[.int .i64 sa,.slice aa la ca,.int .i64 ta,.slice ba ma na] 122 #[.int .i64 sb,.slice ab lb cb,.int .i64 tb,.slice bb mb nb] 28 #[.string ⟨#[]⟩,.string ⟨#[]⟩];refine (large_calls _ x _ (HX.out.new HN.out) SX.out.fb).mono ?_;rintro e w1 ⟨rfl,hn⟩;replace BA:=bW BA hn;replace BB:=bW BB hn;replace BP:=bW BP hn;replace HN:=tW HN hn;clear hn;obtain ⟨⟨pa0,pa1,pa2,pa3⟩,pa4,pa5,pa6,pa7,pa8⟩:=BA.out.four;obtain ⟨⟨pb0,pb1,pb2,pb3⟩,pb4,pb5,pb6,pb7,pb8⟩:=BB.out.four;go_wp2_with fail;refine (large_calls _ y _ (HY.out.new HN.out) SY.out.fb).mono ?_;rintro e w2 ⟨rfl,hn⟩;clear pa0 pa1 pa2 pa3 pa4 pa5 pa6 pa7 pa8 pb0 pb1 pb2 pb3 pb4 pb5 pb6 pb7 pb8;replace BA:=bW BA hn;replace BB:=bW BB hn;replace BP:=bW BP hn;replace HN:=tW HN hn;clear hn;obtain ⟨⟨pa0,pa1,pa2,pa3⟩,pa4,pa5,pa6,pa7,pa8⟩:=BA.out.four;obtain ⟨⟨pb0,pb1,pb2,pb3⟩,pb4,pb5,pb6,pb7,pb8⟩:=BB.out.four;go_wp2_with fail;clear pa0 pa1 pa2 pa3 pa4 pa5 pa6 pa7 pa8;clear pb0 pb1 pb2 pb3 pb4 pb5 pb6 pb7 pb8;refine wp_region_T 5 (fun W=>(W.cell? ⟨w.heap.size,0,none⟩=some (.int .i64 sa)∧W.cell? ⟨w.heap.size,1,none⟩=some (.slice aa la ca)∧W.cell? ⟨w.heap.size,2,none⟩=some (.int .i64 ta)∧W.cell? ⟨w.heap.size,3,none⟩=some (.slice ba ma na))∧(W.cell? ⟨w.heap.size+1,0,none⟩=some (.int .i64 sb)∧W.cell? ⟨w.heap.size+1,1,none⟩=some (.slice ab lb cb)∧W.cell? ⟨w.heap.size+1,2,none⟩=some (.int .i64 tb)∧W.cell? ⟨w.heap.size+1,3,none⟩=some (.slice bb mb nb))) 7 #[false,false,false,false,false,false,false] rfl (by kernel_rfl) (by kernel_rfl) ?_;refine tk 0 (by exact ⟨cW4 BA,cW4 BB⟩) ?_
 try simp only[PT]
 refine tk 2 (by exact ⟨cW4 BA,cW4 BB⟩) ?_
 try simp only[PT]
 refine tk1 1 fun K hK=>?_;go_simp;refine (HTX.out _ _ (HX.out.new HN.out.drew) (HE.out.new HN.out.drew)).mono ?_;rintro e w3 ⟨rfl,hn⟩;have hn:=hn.undrew;replace BA:=bW BA hn;replace BB:=bW BB hn;replace BP:=bW BP hn;replace HN:=tW HN hn;clear hn;refine hK.out _ _ (fun _=>⟨cW4 BA,cW4 BB⟩) ?_;clear hK K
 try simp only[PT]
 refine tk1 3 fun K hK=>?_;go_simp;refine (HTY.out _ _ (HY.out.new HN.out) (HE.out.new HN.out)).mono ?_;rintro e w4 ⟨rfl,hn⟩;replace BA:=bW BA hn;replace BB:=bW BB hn;replace BP:=bW BP hn;replace HN:=tW HN hn;clear hn;refine hK.out _ _ (fun _=>⟨cW4 BA,cW4 BB⟩) ?_;clear hK K
 try simp only[PT]
 refine tk 4 (by exact ⟨cW4 BA,cW4 BB⟩) ?_
 try simp only[PT]
 refine tlW ?_;obtain ⟨⟨pa0,pa1,pa2,pa3⟩,pa4,pa5,pa6,pa7,pa8⟩:=BA.out.four;obtain ⟨⟨pb0,pb1,pb2,pb3⟩,pb4,pb5,pb6,pb7,pb8⟩:=BB.out.four;obtain ⟨p0,p1,p2,p3,p4⟩:=BP.out.two;go_wp2_with fail;refine bodyPost_ret (v:=.tuple #[.agg #[.string X,.string Y],.int .i64 0]) (by simp[results,Tryz.results64,go_sem,p0,p1]) rfl ?_;exact ⟨rfl,HN.out.putAt BP.out (by omega) _ _⟩
theorem pow_bd20 {n:Nat}(h:n≤20):BdK 21 (2^n):=by
 have key:∀ n,n≤20→BdK 21 (2^n):=by unfold BdK;decide +kernel
 exact key n h
theorem stepQ_fb21 {s:Int}(lo: -20≤s)(hi:s≤4):FB 21 (stepQ s):=by
 unfold stepQ;split
 ·exact (FB.int (pow_bd20 (by omega)) (by omega)).inv (powRat_ne (by omega))
 ·exact FB.int (pow_bd20 (by omega)) (by omega)
theorem diff_fb {d:Int}(lo: -4095≤d)(hi:d≤4095):FB 12 (d:Rat):=
 FB.int (by unfold BdK;exact Nat.lt_of_le_of_lt (show d.natAbs≤4095 by omega) (by decide)) (by omega)
theorem BdK.sm {z:Int}(h:BdK 62 z):Sm z:=by
 unfold BdK at h
 have:(2:Nat)^62=4611686018427387904:=by decide
 rw[this]at h;constructor <;> omega
theorem FB.sm {q:Rat}(h:FB 62 q):SmF q:=⟨h.num.sm,h.den.sm⟩
def nomQ (s z code:Int):Rat:=stepQ s*((code - z:Int):Rat)
def halfQ (s:Int):Rat:=stepQ s / ((2:Int):Rat)
theorem two_fb:FB 2 ((2:Int):Rat):=FB.int (by unfold BdK;decide) (by omega)
theorem two_ne:((2:Int):Rat)≠0:=by decide
theorem halfQ_fb {s:Int}(lo: -20≤s)(hi:s≤4):FB 23 (halfQ s):=(stepQ_fb21 lo hi).div two_fb two_ne
theorem nomQ_fb {b s z:Int}{g o:ByteArray}{qg qo:Rat}(h:AdcOk b s z g o qg qo){code:Int}(lo:0≤code)(hi:code≤4095):FB 33 (nomQ s z code):=by
 have hz1:=h.zlo;have hz2:=h.zhi;have hz3:=(top_bd h.blo h.bhi).2;exact (stepQ_fb21 h.slo h.shi).mul (diff_fb (by omega) (by omega))
theorem full_calls {b s z:Int}{g o:ByteArray}{qg qo:Rat}(h:AdcOk b s z g o qg qo)(w:World)(he:Env w):
  Calls Tryz.prog 11 #[.agg #[.int .i64 b,.int .i64 s,.int .i64 z,.string g,.string o]] w (SpanPost w (nomQ s z 0) (nomQ s z (2^b.toNat - 1)) 0):=by
 have hc:=fun W hW=>checkAdc_ok h W hW;have hnm:=fun code W lo hi=>nominal_calls h code W lo hi;have hlo:=h.blo;have hhi:=h.bhi;obtain ⟨tp,htp⟩:∃ tp:Int,2^b.toNat - 1=tp:=⟨_,rfl⟩;have htp1:=top_bd hlo hhi;rw[htp] at htp1⊢;have sx:=(nomQ_fb h (code:=0) (by omega) (by omega)).mono (show 33≤62 by omega) |>.sm;have sy:=(nomQ_fb h (code:=tp) (by omega) (by omega)).mono (show 33≤62 by omega) |>.sm;obtain ⟨x,hx⟩:∃ x,nomQ s z 0=x:=⟨_,rfl⟩;obtain ⟨y,hy⟩:∃ y,nomQ s z tp=y:=⟨_,rfl⟩;have hx':stepQ s*((0 - z:Int):Rat)=x:=hx;have hy':stepQ s*((tp - z:Int):Rat)=y:=hy;rw[hx] at sx⊢;rw[hy] at sy⊢;have hsp:=fun (W:World) va vb h1 h2 hW=>span_calls va vb x y W h1 h2 sx sy hW;unfold SpanPost spanV at hsp⊢;obtain ⟨X,hX⟩:∃ X,rtext x=X:=⟨_,rfl⟩;obtain ⟨Y,hY⟩:∃ Y,rtext y=Y:=⟨_,rfl⟩;rw[hX,hY] at hsp⊢;clear h hx hy sx sy hX hY;have HC:=hid hc;have HNM:=hid hnm;have HLO:=hid hlo;have HHI:=hid hhi;have HTP:=hid htp;have HTP1:=hid htp1;have HX:=hid hx';have HY:=hid hy';have HSP:=hid hsp;have HE:=hid he;clear hc hnm hlo hhi htp htp1 hx' hy' hsp he;go_enter Tryz.func11,Tryz.ntmps11;go_wp2_with fail;obtain ⟨BA,BP,HN⟩:=lay2 w 32 #[.int .i64 b,.int .i64 s,.int .i64 z,.string g,.string o] 28 #[.string ⟨#[]⟩,.string ⟨#[]⟩];refine (HC.out _ (HE.out.new HN.out)).mono ?_;rintro e w1 ⟨rfl,hn⟩;replace BA:=bW BA hn;replace BP:=bW BP hn;replace HN:=tW HN hn;clear hn;obtain ⟨⟨pa0,pa1,pa2,pa3,pa4⟩,pa5⟩:=BA.out.five;go_wp2_with fail;clear pa0 pa1 pa2 pa3 pa4 pa5;refine wp_region_T 9 (fun W=>W.cell? ⟨w.heap.size,0,none⟩=some (.int .i64 b)∧W.cell? ⟨w.heap.size,1,none⟩=some (.int .i64 s)∧W.cell? ⟨w.heap.size,2,none⟩=some (.int .i64 z)∧W.cell? ⟨w.heap.size,3,none⟩=some (.string g)∧W.cell? ⟨w.heap.size,4,none⟩=some (.string o)) 11 #[false,false,false,false,false,false,false,false,false,false,false] rfl (by kernel_rfl) (by kernel_rfl) ?_;refine tk 0 (by exact cW5 BA) ?_
 try simp only[PT]
 refine tk 2 (by exact cW5 BA) ?_
 try simp only[PT]
 refine tk 3 (by exact cW5 BA) ?_
 try simp only[PT]
 refine tk1 1 fun K hK=>?_;go_simp;refine (HNM.out 0 _ (by omega) (by omega)).mono ?_;rintro e w2 ⟨v2,rfl,hn,hf⟩;rw[HX.out] at hf;have hn:=hn.undrew;have HF2:=hid hf;clear hf;replace BA:=bW BA hn;replace BP:=bW BP hn;replace HN:=tW HN hn;clear hn;refine hK.out _ _ (fun _=>cW5 BA) ?_;clear hK K
 try simp only[PT]
 refine tk1 4 fun K hK=>?_;go_simp;refine (top_calls b s z g o _ HLO.out HHI.out).mono ?_;rintro e w3 ⟨rfl,hn⟩;rw[HTP.out];have HF2':=hid (HF2.out.new hn);clear HF2;replace BA:=bW BA hn;replace BP:=bW BP hn;replace HN:=tW HN hn;clear hn;refine hK.out _ _ (fun _=>cW5 BA) ?_;clear hK K
 try simp only[PT]
 refine tk1 5 fun K hK=>?_;go_simp;refine (HNM.out tp _ (by have:=HTP1.out;omega) (by have:=HTP1.out;omega)).mono ?_;rintro e w4 ⟨v4,rfl,hn,hf⟩;rw[HY.out] at hf;have HF2:=hid (HF2'.out.new hn);clear HF2';have HF4:=hid hf;clear hf;replace BA:=bW BA hn;replace BP:=bW BP hn;replace HN:=tW HN hn;clear hn;refine hK.out _ _ (fun _=>cW5 BA) ?_;clear hK K
 try simp only[PT]
 refine tk1 6 fun K hK=>?_;go_simp;refine (HSP.out _ _ _ HF2.out HF4.out (HE.out.new HN.out)).mono ?_;rintro e w5 ⟨rfl,hn⟩;clear HF2 HF4;replace BA:=bW BA hn;replace BP:=bW BP hn;replace HN:=tW HN hn;clear hn;refine hK.out _ _ (fun _=>cW5 BA) ?_;clear hK K
 try simp only[PT]
 refine tk 7 (by exact cW5 BA) ?_
 try simp only[PT]
 refine tk 8 (by exact cW5 BA) ?_
 try simp only[PT]
 refine tlW ?_;obtain ⟨⟨pa0,pa1,pa2,pa3,pa4⟩,pa5⟩:=BA.out.five;obtain ⟨p0,p1,p2,p3,p4⟩:=BP.out.two;go_wp2_with fail;refine bodyPost_ret (v:=.tuple #[.agg #[.string X,.string Y],.int .i64 0]) (by simp[results,Tryz.results11,go_sem,p0,p1]) rfl ?_;exact ⟨rfl,HN.out.putAt BP.out (by omega) _ _⟩
end Go.Proofs.YtbkcjmojgglbkaaGreatDoor
