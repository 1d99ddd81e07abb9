/- Part CardIv03. -/
import Derived.Lib.AppendIntMem
import Derived.Shelf.Strings.BuilderK
import Derived.Test.YtbkcjmojgglbkaaGreatDoorCardIv02
namespace Go.Proofs.YtbkcjmojgglbkaaGreatDoor
open Go.RowKit Go.Sort Big
open Go.Lib (hid)
set_option maxRecDepth 100000
set_option maxHeartbeats 8000000
theorem fmtU_in (u:Nat)(w:World)(he:Env w)(hu64:u < 18446744073709551616):
  Calls Tryz.prog 236 #[.int .u64 u,.int .i64 10] w fun e w'=>e=.returned (.string ⟨(Lib.decDigits u).toArray⟩)∧New w w':=by
 have htab:=he.tab;clear he;by_cases hs:u < 100
 ·go_enter Tryz.func236,Tryz.ntmps236;go_wp2_with fail;refine (Tryz.internal_strconv_small u hs _).mono ?_;rintro e w' ⟨rfl,rfl⟩;go_wp2_with fail;go_ret;exact ⟨rfl,New.refl _⟩
 ·have hu1:1≤u:=by omega
  have hnd20:Lib.nDigits u≤20:=by have:=Lib.numDigits_eq u hu1 hu64;split at this <;> omega
  have hal:Tryz.prog.arrayLen 281=24:=by kernel_rfl
  have hel:Tryz.prog.underlying 281=some (.array 24 5):=by kernel_rfl
  have hsl:∀ W,(Instr.sliceAt 281 (.pointer (some ⟨w.heap.size,0,none⟩)) none (some (.int .i64 (Lib.nDigits u:Int))) none).run Tryz.prog W=.ok (.slice (some ⟨w.heap.size,0,none⟩) (Lib.nDigits u) 24) W:=fun W=>by
   rw[run_sliceAt_array_h W 281 ⟨w.heap.size,0,none⟩ (by simp[Program.arrayLen,Program.elem,hel]) .i64 (Lib.nDigits u:Int) (by omega) (by rw[hal];omega)];go_simp
  have hH0:=Lib.holds_zero0 w 281 (Lib.nDigits u) (by omega);have hfmt:=Tryz.internal_strconv_formatBase10 w.heap.size 0 24 u (Array.replicate (Lib.nDigits u) 0) (w.alloc (.cells Lib.zeros24 281)) hH0 (by rw[Array.size_replicate];exact Lib.lt_pow_nDigits u) hu64 (by rw[Array.size_replicate];omega);rw[Array.size_replicate] at hfmt;have HH0:=hid hH0;have HTB:=hid htab
  have iu:¬(u:Int) < 100:=by omega
  clear hH0 hal htab;go_enter Tryz.func236,Tryz.ntmps236;go_wp2_with fail;refine (Tryz.internal_strconv_numDigits u hu1 hu64 _ (Lib.tabIs_alloc HTB.out _)).mono ?_;rintro e w' ⟨rfl,rfl⟩;go_wp2_with fail;refine hfmt.mono ?_;rintro e w' ⟨rfl,k,v',dk,rfl,hF⟩
  have hcv:(convert 237 9 (.slice (some ⟨w.heap.size,0,none⟩) (Lib.nDigits u) 24)).run Tryz.prog ((putRow (fun (b:UInt8)=>Value.int .u8 (b.toNat:Int)) (w.alloc (.cells Lib.zeros24 281)) w.heap.size 0 dk).drewN k)=.ok (.string ⟨(Lib.decDigits u).toArray⟩) ((putRow (fun (b:UInt8)=>Value.int .u8 (b.toNat:Int)) (w.alloc (.cells Lib.zeros24 281)) w.heap.size 0 dk).drewN k):=by
   have h:=run_convert_bytes_back (P:=Tryz.prog) ((putRow (fun (b:UInt8)=>Value.int .u8 (b.toNat:Int)) (w.alloc (.cells Lib.zeros24 281)) w.heap.size 0 dk).drewN k) 237 9 5 ⟨w.heap.size,0,none⟩ 24 (Lib.decDigits u) Tryz.underlying237 Tryz.underlying5 Tryz.underlying9 (fun j hj=>by
    rw[Lib.row_is_numeral hF j hj,Lib.add_plain,World.cell?_drewN]
    exact cell?_putRow (fun (b:UInt8)=>Value.int .u8 (b.toNat:Int)) _ w.heap.size 0 _ dk HH0.out (by rw[hF.size,Array.size_replicate]) j (by rw[hF.size];rw[Lib.decDigits_length] at hj;exact hj))
   rw[Lib.decDigits_length]at h;exact h
  go_wp2_with fail;go_ret;obtain ⟨os,eo⟩:=Lib.fin_at w (.cells Lib.zeros24 281) dk k 0;exact ⟨rfl,by rw[eo];exact new_grow w k os⟩
theorem fmtU_calls (u:Nat)(w:World)(he:Env w)(hu64:u < 18446744073709551616):
  Calls Tryz.prog 203 #[.int .u64 u,.int .i64 10] w fun e w'=>e=.returned (.string (bs (Lib.decDigits u)))∧New w w':=by
 have h:=fmtU_in u w he hu64;clear he;go_enter Tryz.func203,Tryz.ntmps203;go_wp2_with fail;refine h.mono ?_;rintro e w' ⟨rfl,hn⟩;go_wp2_with fail;go_ret;exact ⟨rfl,hn⟩
theorem repeat_one (c:UInt8):∀ n:Nat,Lib.repeatL [c] n=List.replicate n c
 | 0=>rfl
 | n+1=>by rw[List.replicate_succ,←repeat_one c n];rfl
theorem repeat_calls (k:Nat)(w:World)(hk:k≤100):
  Calls Tryz.prog 204 #[.string ⟨#[48]⟩,.int .i64 k] w fun e w'=>e=.returned (.string (bs (List.replicate k 48)))∧New w w':=
 (Tryz.strings_Repeat ⟨#[48]⟩ k w (by omega) (by show 1*k≤_;omega)).mono fun e w' ⟨h1,h2⟩=>⟨by rw[h1];show Ending.returned (.string ⟨(Lib.repeatL [48] k).toArray⟩)=_;rw[repeat_one];rfl,h2⟩
def DivModF (w:World)(A B:Nat)(e:Ending)(w':World):Prop:=∃ (vq vr:Value) (m n:Nat) (f g:Nat→Nat),e=.returned (.tuple #[vq,vr])∧New w w'∧Wds w' vq m f∧Wds w' vr n g∧
 vf W64 f m*B+vf W64 g n=A∧vf W64 g n < B∧∀ (b off:Nat) (p:Option Nat) (n c:Nat),vq=.slice (some ⟨b,off,p⟩) n c→w.heap.size≤b
theorem divide_lessF (va vb:Value)(m n:Nat)(f g:Nat→Nat)(w:World)(ha:Wds w va m f)(hb:Wds w vb n g)(hlt:vf W64 f m < vf W64 g n):
  Calls Tryz.prog 202 #[va,vb] w (DivModF w (vf W64 f m) (vf W64 g n)):=by
 have hc:cmpNat (vf W64 f m) (vf W64 g n)= -1:=by unfold cmpNat;rw[if_pos hlt]
 have HC:=hid hc;have HL:=hid hlt;clear hc hlt;go_enter Tryz.func202,Tryz.ntmps202;go_wp2_with fail;refine (compareWords_calls va vb m n f g w ha hb).mono ?_;rintro e w' ⟨hn,rfl⟩;rw[HC.out];have HN:=hid hn;clear hn;go_wp2_with fail;go_ret2;exact ⟨_,_,0,m,fun _=>0,f,rfl,HN.out,⟨none,0,⟨rfl,Nat.le_refl _,by omega,fun _=>rfl⟩,Rd.zero _ _ _ _,⟨fun i hi=>by omega,fun h=>absurd rfl h⟩⟩,ha.new HN.out,by rw[vf_zero,Nat.zero_mul,Nat.zero_add],HL.out,fun b' off' p' n' c' h=>by cases h⟩
theorem divide_oneF (a b:Option Addr) (m ca cb:Nat) (f g:Nat→Nat) (w:World) (hm:m≤1000000) (hm0:0 < m) (h1a:m≤ca) (h1b:ca≤281474976710656) (h1c:a=none→ca=0) (h2a:1≤cb) (h2b:cb≤281474976710656) (h2c:b=none→cb=0)
  (ha:Rd w a .u64 m f) (hb:Rd w b .u64 1 g) (cf:Canon W64 f m) (cg:Canon W64 g 1) (hge:vf W64 g 1≤vf W64 f m):
  Calls Tryz.prog 202 #[.slice a m ca,.slice b 1 cb] w (DivModF w (vf W64 f m) (vf W64 g 1)):=by
 have hmk:=fun W=>run_make_row' (P:=Tryz.prog) 118 221 (.int .u64 0) 8 Tryz.underlying118 info_u64 rfl .i64 .i64 m (by omega) (by omega) W;obtain ⟨r,hr0,hr⟩:∃ r:Int,0≤r∧cmpNat (vf W64 f m) (vf W64 g 1)=r:=⟨_,by unfold cmpNat;rw[if_neg (by omega)];split <;> omega,rfl⟩;have HMK:=hid hmk;have HRR:=hid hr;have hy0:g 0≠0:=cg.top (by omega);have hyl:g 0 < W64:=cg.lt 0 (by omega)
 have hr0':¬r < 0:=by omega
 have CF:=hid cf;have CG:=hid cg;clear hmk hr hge cf cg hr0;go_enter Tryz.func202,Tryz.ntmps202;go_wp2_with fail;refine (compareWords_calls _ _ m 1 f g w ⟨a,ca,⟨rfl,h1a,h1b,h1c⟩,ha,CF.out⟩ ⟨b,cb,⟨rfl,h2a,h2b,h2c⟩,hb,CG.out⟩).mono ?_;rintro e w1 ⟨hn,rfl⟩;rw[HRR.out];have ha:=ha.new hn;have hb:=hb.new hn;have HN:=hid hn;clear hn;have hmk:=HMK.out;go_wp2_with fail;clear hmk;obtain ⟨B,hB⟩:∃ B,B=w1.heap.size:=⟨_,rfl⟩;have hrow0:=Row.made w1 .u64 m 221;have hnew0:New w1 (w1.alloc (.cells (madeCells #[.int .u64 0] m) 221)):=(New.refl w1).alloc _;rw[←hB] at hrow0⊢;generalize w1.alloc (.cells (madeCells #[.int .u64 0] m) 221)=w2 at hrow0 hnew0⊢;have HB:=hid hB;clear hB
 go_loopw [7,8] (fun sr si wx=>∃ (kk rr:Nat) (q:Nat→Nat),kk≤m∧si=.int .i64 ((kk:Int) - 1)∧sr=.int .u64 rr∧rr < g 0∧New w1 wx∧Row wx B 221 .u64 m q∧(∀ i,q i < W64)∧
  vf W64 (fun i=>q (kk+i)) (m - kk)*g 0+rr=vf W64 (fun i=>f (kk+i)) (m - kk)) (fun _ si _=>(intOf si+1).toNat)
 case atStart=>exact ⟨m,0,fun _=>0,Nat.le_refl _,rfl,rfl,by omega,hnew0,hrow0,fun _=>by simp[W64],by rw[Nat.sub_self,vf_zero,vf_zero,Nat.zero_mul]⟩
 case round=>
  clear hrow0 hnew0;obtain ⟨kk,rr,q,hkk,rfl,rfl,hrr,hnew,hrow,hql,hval⟩:=hrel;have HV:=hid hval;have HQ:=hid hql;clear hval hql;by_cases hk0:kk=0
  ·subst hk0;simp only[Nat.zero_add,Nat.sub_zero] at HV;go_wp2_with fail;refine (trim_val _ m m q _ (Nat.le_refl _) (by omega) (by simp) hrow.rd).mono ?_;rintro e w3 ⟨rfl,rfl⟩;go_wp2_with fail
   have hr2:Row (w3.alloc (.cells #[.int .u64 rr] 221)) w3.heap.size 221 .u64 1 fun _=>rr:=World.rowIs_alloc w3 #[.int .u64 rr] 221 _ (fun i hi=>by
    have:i=0:=by simpa using hi
    subst this;rfl)
   have hn2:=HN.out.trans (hnew.alloc (.cells #[.int .u64 rr] 221));have hrow2:=hrow.alloc (.cells #[.int .u64 rr] 221);refine (trim_val _ 1 1 (fun _=>rr) _ (Nat.le_refl _) (by omega) (by simp) hr2.rd).mono ?_;rintro e w4 ⟨rfl,hw4⟩;have hw:=hid (wds_trim (Nat.le_refl _) (by omega) hrow2.rd (fun i _=>HQ.out i));have hw':=hid (wds_trim (Nat.le_refl _) (by omega) hr2.rd (fun i _=>Nat.lt_trans hrr hyl));have hv:=hid (trimLen_canon (B:=W64) (f:=q) (len:=m) fun i _=>HQ.out i).2;have hv':=hid (trimLen_canon (B:=W64) (f:=fun _=>rr) (len:=1) fun i _=>Nat.lt_trans hrr hyl).2;have hn3:=hid hn2;rw[←hw4] at hw hw' hn3;clear hr2 hrow2 hn2 hw4 hrow hnew;go_wp2_with fail;go_ret2
   have e1:vf W64 (fun _=>rr) 1=rr:=by simp[vf]
   have e2:vf W64 g 1=g 0:=by simp[vf]
   refine ⟨_,_,_,_,q,fun _=>rr,rfl,hn3.out,hw.out,hw'.out,?_,?_,fun b' off' p' n' c' h=>?_⟩
   ·rw[hv.out,hv'.out,e1,e2];exact HV.out
   ·rw[hv'.out,e1,e2];exact hrr
   ·injection h with h1;injection h1 with h1;injection h1 with h2;rw[←h2,HB.out];exact HN.out.size
  ·obtain ⟨b1,o1,rfl,e1⟩:=(ha.new hnew) (kk - 1) (by omega);obtain ⟨b2,o2,rfl,e2⟩:=(hb.new hnew) 0 (by omega);simp only[Nat.add_zero] at e2;have hfl:=CF.out.lt (kk - 1) (by omega);have f1:=hrow.cell (i:=kk - 1) (by omega);have ff:=hrow.frozen (kk - 1);obtain ⟨d,r',hd,hr',hs,hdiv⟩:=div64_calls' rr (f (kk - 1)) (g 0) hfl hyl hrr;have HS:=hid hs;have HDIV:=hid hdiv;have HNEW:=hid hnew;have HROW:=hid hrow;clear hs hdiv hnew hrow ha hb;go_wp2_with fail
   go_region_with (go_at_call 232;refine (HDIV.out _).mono ?_;rintro e w' ⟨rfl,mm,rfl⟩)
   all_goals go_wp2_with fail
   all_goals clear e1 e2 f1 ff
   all_goals
    go_roundw
    case rel=>
     exact ⟨kk - 1,r',upd q (kk - 1) d,by omega,by go_num,rfl,hr',(HNEW.out.drewN _).setCell (by rw[←HB.out];exact Nat.le_refl _) _,(HROW.out.drewN _).set _ _,upd_lt HQ.out hd,div1_digit hk0 hkk HV.out HS.out⟩
    case measure=>simp[intOf];omega
theorem divide_fresh (va vb:Value)(m:Nat)(f g:Nat→Nat)(w:World)(hm:m≤1000000)(ha:Wds w va m f)(hb:Wds w vb 1 g):
  Calls Tryz.prog 202 #[va,vb] w (DivModF w (vf W64 f m) (vf W64 g 1)):=by
 rcases Nat.lt_or_ge (vf W64 f m) (vf W64 g 1) with h | h
 ·exact divide_lessF va vb m 1 f g w ha hb h
 ·obtain ⟨a,ca,⟨rfl,h1a,h1b,h1c⟩,ha,cf⟩:=ha;obtain ⟨b,cb,⟨rfl,h2a,h2b,h2c⟩,hb,cg⟩:=hb
  have hm0:0 < m:=by
   rcases Nat.eq_zero_or_pos m with h3 | h3
   ·exfalso;subst h3;have h4:=cg.ge (by omega);have h5:vf W64 f 0=0:=rfl;have h6:W64^(1 - 1)=1:=rfl;omega
   ·exact h3
  exact divide_oneF a b m ca cb f g w hm hm0 h1a h1b h1c h2a h2b h2c ha hb cf cg h
end Go.Proofs.YtbkcjmojgglbkaaGreatDoor
