/- For every converter, every list of voltages and every list of samples the law ProbeRecords returns true, and its arguments read behind the call as before it; conditions: the package-level variables of the library of Go that the row lists hold what start-up lays. -/
import Derived.Deep.DeepCutAuto
import Derived.Laws.AppendOwnNone
import Derived.Laws.FloatArith
import Derived.Test.YtbkcjmojgglbkaaGreatDoorCardRc06
namespace Go.Proofs.YtbkcjmojgglbkaaGreatDoor
open Go.RowKit Big Go.Lib Go.ChangeShapes Go.WideShapes Go.Deep
set_option maxRecDepth 100000
set_option maxHeartbeats 8000000
theorem rats_of:∀ (l:List ByteArray),rowErr l=0→∃ qs:List Rat,qs.length=l.length∧∀ (k:Nat) (h1:k < l.length) (h2:k < qs.length),(l[k]).data.toList=ratText qs[k]∧Fits qs[k]:=by
 intro l
 induction l with
 | nil=>intro _;exact ⟨[],rfl,fun k h1=>by cases h1⟩
 | cons v l ih=>
  intro h;unfold rowErr at h;by_cases h0:ratErr v.data.toList=0
  ·rw[if_pos h0] at h;obtain ⟨qs,hl,hq⟩:=ih h;obtain ⟨q,hf,hv⟩:=ratText_of_err h0;refine ⟨q::qs,by simp[hl],fun k h1 h2=>?_⟩
   cases k with
   | zero=>exact ⟨hv,hf⟩
   | succ k=>exact hq k (by simpa using h1) (by simpa using h2)
  ·rw[if_neg h0] at h;exact absurd h h0
theorem nominal_self {s z c:Int}(slo: -20≤s)(shi:s≤4)(hd:(c - z).natAbs < 16777216):(FloatKind.f32.format.order (Flo.vol (c - z) s) (Flo.vol (c - z) s) != some Ordering.eq)=false:=by
 have:=Flo.vol_same (d:=c - z) (e:=c - z) (s:=s) hd hd (by omega) (by omega);rw[decide_eq_true rfl] at this;show (!(Ieee.single.order _ _==some Ordering.eq))=false;rw[this];rfl
theorem rec_volts {b s z:Int}{g o:ByteArray}{qg qo:Rat}(K:AdcOk b s z g o qg qo)(av:Option Addr)(cv n:Nat)(vs:List ByteArray)(w:World)(he:Env w)(hn0:vs.length=n)(hl:n≤64∨(4096 < n∧n≤4098))(hrv:RdL w av (strs vs))(hsz:∀ (k:Nat) (h:k < vs.length),k < 64→vs[k].size≤60):
  ∃ (E1:Int) (ys:List Nat),(∀ W a c,New w W→RdL W a (strs vs)→Calls Tryz.prog 27 #[adcV b s z g o,.slice a n c] W (RowPost W 35 (flts ys) E1))∧
   (∀ W,New w W→Calls Tryz.prog 32 #[.slice av n cv] W (RetNew W E1))∧
   (E1=0→∀ W,New w W→Calls Tryz.prog 33 #[adcV b s z g o,.slice av n cv] W (OwnRet W 35 1 (flts ys).length (flts ys)))∧(E1≠0→ys=[])∧
   (∀ y∈ys,(FloatKind.f32.format.order y y != some Ordering.eq)=false)∧ys.length≤1000000:=by
 have hpc:=fun W hW=>checkAdc_ok K W hW;rcases hl with hl | hl
 ·have hsz2:∀ (k:Nat) (h:k < vs.length),(vs[k]).size≤100000:=fun k h=>by have:=hsz k h (by omega);omega
  have hcv:=fun W (hW:New w W)=>rvoltsErr_calls av cv n vs _ W hn0 (by omega) (hrv.new hW) rfl (fun _=>hsz2)
  have hve:voltsErr n vs=rowErr vs:=by unfold voltsErr;rw[if_neg (by omega)]
  rw[hve]at hcv;obtain ⟨E,hE⟩:∃ E,rowErr vs=E:=⟨_,rfl⟩;rw[hE] at hcv;by_cases h0:E=0
  ·subst h0;obtain ⟨qs,hql,hq⟩:=rats_of vs hE;obtain ⟨f,hf⟩:∃ f,sampQ s z (2^b.toNat - 1)=f:=⟨_,rfl⟩;have htb:=top_bd K.blo K.bhi;have h1:=K.blo;have h2:=K.bhi;have h3:=K.slo;have h4:=K.shi;have h5:=K.zlo;have h6:=K.zhi;have hcr:∀ q,0≤(clipC (rawQ s z q) (2^b.toNat - 1)).1∧(clipC (rawQ s z q) (2^b.toNat - 1)).1≤2^b.toNat - 1:=fun q=>clipC_range _ (by omega);refine ⟨0,qs.map (sampQ s z (2^b.toNat - 1)),fun W a c hW hr=>Sampled_all K a c n vs qs 0 W (he.new hW) hn0 (by omega) hr hE hsz2 (fun _=>⟨by omega,hq⟩) (fun h=>absurd rfl h),hcv,fun _ W hW=>?_,fun h=>absurd rfl h,fun y hy=>?_,by rw[List.length_map];omega⟩
   ·refine rsampled_calls b s z g o av cv n vs _ W hn0 (by rw[List.length_map];omega) (by omega) (hrv.new hW) fun k h1 h2=>?_
    have hkq:k < qs.length:=by omega
    obtain ⟨e1,e2⟩:=hq k h1 hkq;refine ⟨(clipC (rawQ s z qs[k]) (2^b.toNat - 1)).1,(clipC (rawQ s z qs[k]) (2^b.toNat - 1)).2,fun W=>?_,fun W=>?_⟩
    ·rw[rs_of e1];exact rcode_calls b s z g o qs[k] W ((RFB.of (Fits.fb e2)).mono (by omega)) (by omega) K.bhi h3 h4 h5 (by omega)
    ·rw[List.getElem_map];exact rvolts_calls b s z _ g o W h3 h4 h5 (by omega) (hcr _).1 (by have:=(hcr qs[k]).2;omega)
   ·obtain ⟨q, -,rfl⟩:=List.mem_map.1 hy;have:=hcr q;exact nominal_self h3 h4 (by omega)
  ·exact ⟨E,[],fun W a c hW hr=>Sampled_all K a c n vs [] E W (he.new hW) hn0 (by omega) hr hE hsz2 (fun h=>absurd h h0) (fun _=>rfl),hcv,fun h=>absurd h h0,fun _=>rfl,fun y hy=>(by cases hy),Nat.zero_le _⟩
 ·have hcv:=fun W (hW:New w W)=>rvoltsErr_calls av cv n vs _ W hn0 (by omega) (hrv.new hW) rfl (fun h=>by omega)
  have hve:voltsErr n vs=5:=by unfold voltsErr;rw[if_pos (by omega)]
  rw[hve]at hcv;exact ⟨5,[],fun W a c hW hr=>Sampled_err b s z g o a c n 0 5 (by omega) (by rw[if_pos rfl,decide_eq_true (by omega),if_pos rfl]) (by decide) W (he.new hW) hpc,hcv,fun h=>absurd h (by decide),fun _=>rfl,fun y hy=>(by cases hy),Nat.zero_le _⟩
theorem rec_codes {b s z:Int}{g o:ByteArray}{qg qo:Rat}(K:AdcOk b s z g o qg qo)(au:Option Addr)(cu m:Nat)(xs:List Nat)(w:World)(he:Env w)(hm0:xs.length=m)(hl:m≤4098)(hru:RdL w au (flts xs))(hxs:∀ x∈xs,x < 4294967296):
  ∃ (E2 E3:Int) (L:List Int) (R:List (Nat × Nat)),(∀ W a c,New w W→RdL W a (flts xs)→Calls Tryz.prog 29 #[adcV b s z g o,.slice a m c] W (RowPost W 3 (ints L) E2))∧
   (∀ W a c,New w W→RdL W a (flts xs)→Calls Tryz.prog 31 #[adcV b s z g o,.slice a m c] W (RowPostS W 95 2 R.length (pairs R) E2))∧
   (∀ W,New w W→Calls Tryz.prog 34 #[.slice au m cu] W (RetNew W E3))∧
   (E3=0→∀ W,New w W→Calls Tryz.prog 35 #[adcV b s z g o,.slice au m cu] W (RowPost W 3 (ints L) E2))∧
   (E3=0→∀ W a c,RdL W a (ints L)→Calls Tryz.prog 36 #[adcV b s z g o,.slice a L.length c] W (OwnRet W 95 2 R.length (pairs R)))∧
   (E3≠0→E2=E3∧L=[]∧R=[])∧L.length≤1000000∧R.length≤1000000:=by
 have hpc:=fun W hW=>checkAdc_ok K W hW;obtain ⟨E3,h3⟩:∃ E,samplesErr xs=E:=⟨_,rfl⟩;have hps:=fun W a c (hr:RdL W a (flts xs))=>samples_new a c xs W (by omega) hr;have hrs:=fun W a c (hr:RdL W a (flts xs))=>rsamples_calls a c xs W (by omega) hr;simp only[h3,hm0] at hps hrs;by_cases h0:E3=0
 ·subst h0
  have hm:m≤4096:=by
   unfold samplesErr at h3;rw[hm0] at h3;by_cases hh:4096 < m
   ·rw[if_pos hh] at h3;omega
   ·omega
  have hfin:∀ x∈xs,isFin x=true:=by
   unfold samplesErr at h3;rw[hm0,if_neg (by omega)] at h3
   cases ha:xs.all isFin with
   | true=>exact fun x hx=>List.all_eq_true.1 ha x hx
   | false=>rw[ha] at h3;exact absurd h3 (by decide)
  have htb:=top_bd K.blo K.bhi;have k1:=K.blo;have k2:=K.bhi;have k3:=K.slo;have k4:=K.shi;have k5:=K.zlo;have k6:=K.zhi;obtain ⟨tp,htp⟩:∃ tp:Int,(2:Int)^b.toNat - 1=tp:=⟨_,rfl⟩;obtain ⟨N,hN⟩:∃ N:Nat,(N:Int)=2^b.toNat:=⟨(2^b.toNat:Int).toNat,by omega⟩
  have hNt:(N:Int)=tp+1:=by omega
  obtain ⟨L,hL⟩:∃ L,(if codesB (volN s z) N xs=true then codesL (volN s z) N xs else [])=L:=⟨_,rfl⟩;obtain ⟨E2,hE2⟩:∃ E:Int,(if codesB (volN s z) N xs=true then 0 else 3)=E:=⟨_,rfl⟩
  have hLl:L.length≤m:=by
   rw[←hL];split
   ·rw[codesL_len,hm0];exact Nat.le_refl _
   ·exact Nat.zero_le _
  have hcod:∀ W a c,New w W→RdL W a (flts xs)→Calls Tryz.prog 29 #[adcV b s z g o,.slice a m c] W (RowPost W 3 (ints L) E2):=fun W a c hW hr=>by
   have:=Codes_all K a c xs W (he.new hW) (by omega) hr h3 N hN L E2 hL hE2;rw[hm0] at this;exact this
  have htop:=fun W=>top_calls b s z g o W k1 k2;have hrtop:=fun W=>rtop_calls b s z g o W (by omega) k2;simp only[htp] at htop hrtop;refine ⟨E2,0,L,clipped L tp,hcod,fun W a c hW hr=>?_,fun W hW=>hrs W au cu (hru.new hW),fun _ W hW=>?_,fun _ W a c hr=>?_,fun h=>absurd rfl h,by omega,?_⟩
  ·cases hb:codesB (volN s z) N xs with
   | true=>
    rw[if_pos hb]at hL hE2;subst hE2
    have hl2:L.length=m:=by rw[←hL,codesL_len,hm0]
    refine (Clipped_ok b s z g o a m c L tp W hl2 hm (fun W' hW'=>?_) htop);exact hcod W' a c (hW.trans hW') (hr.new hW')
   | false=>
    rw[if_neg (by rw[hb];decide)] at hL hE2;subst hE2;subst hL;exact Clipped_err b s z g o a c m 3 (by decide) W fun W' hW'=>hcod W' a c (hW.trans hW') (hr.new hW')
  ·have hcm:=fun (x:Nat) (hx:x∈xs)=>code_match (s:=s) (z:=z) (tp:=tp) (x:=x) (N:=N) (hfin x hx) k3 k4 k5 (by omega) (by omega) (by omega) hNt rfl;have hcr:=fun (q:Rat)=>clipC_range (rawQ s z q) (tp:=tp) (by omega);refine rcodes_calls b s z g o au cu m xs (codesL (volN s z) N xs) (fun x=>(codeOf (volN s z) N x).2) L E2 W hm0 (by rw[codesL_len,hm0]) hm (hru.new hW) (fun k h1 h2=>?_) hL hE2;have hmem:xs[k]∈xs:=List.getElem_mem h1;obtain ⟨c1,c2⟩:=hcm _ hmem
   have hce:∀ (ys:List Nat) (i:Nat) (h:i < ys.length) (h':i < (codesL (volN s z) N ys).length),(codesL (volN s z) N ys)[i]=(codeOf (volN s z) N ys[i]).1:=fun ys=>by
    induction ys with
    | nil=>intro i h;cases h
    | cons y ys ih=>
     intro i h h'
     cases i with
     | zero=>rfl
     | succ i=>exact ih i (by simpa using h) (by simpa[codesL] using h')
   have hq:=fq_rfb' (hxs _ hmem) (hfin _ hmem);have hcc:=fun W=>rcode_calls b s z g o (fq xs[k]) W (hq.mono (by omega)) (by omega) k2 k3 k4 k5 (by omega);simp only[htp] at hcc;refine ⟨(clipC (rawQ s z (fq xs[k])) tp).1,(clipC (rawQ s z (fq xs[k])) tp).2,rs (fq xs[k]),Flo.vol ((clipC (rawQ s z (fq xs[k])) tp).1 - z) s,fun W=>(rexact_calls xs[k] W (hxs _ hmem) (hfin _ hmem)).mono fun e w' h=>RetS.to rfl h,fun W=>hcc W,fun W=>rvolts_calls b s z _ g o W k3 k4 k5 (by omega) (hcr _).1 (by have:=(hcr (fq xs[k])).2;omega),c1,fun h=>?_⟩;rw[hce xs k h1 h2];exact c2 h
  ·exact rclipped_calls b s z tp g o a c L.length L W rfl (by omega) hr hrtop
  ·have key:∀ (p:Nat→Bool) (n f i:Nat),(clipR p n f i).length≤f:=fun p n f=>by
    induction f with
    | zero=>intro i;exact Nat.le_refl _
    | succ f ih=>
     intro i;show (if i < n then _ ++ clipR p n f _ else []).length≤f+1;split
     ·rw[List.length_append];have:=ih (runTo p n n i+1);split <;> simp <;> omega
     ·exact Nat.zero_le _
   have:=key (isEnd L tp) L.length (L.length+2) 0;show (clipR _ _ _ _).length≤_;omega
 ·refine ⟨E3,E3,[],[],fun W a c hW hr=>?_,fun W a c hW hr=>?_,fun W hW=>hrs W au cu (hru.new hW),fun h=>absurd h h0,fun h=>absurd h h0,fun _=>⟨rfl,rfl,rfl⟩,Nat.zero_le _,Nat.zero_le _⟩
  ·exact Codes_err b s z g o a c m 0 E3 E3 (if_pos rfl) h0 W (he.new hW) hpc fun W' hW'=>hps W' a c (hr.new hW')
  ·exact Clipped_err b s z g o a c m E3 h0 W fun W' hW'=>Codes_err b s z g o a c m 0 E3 E3 (if_pos rfl) h0 W' ((he.new hW).new hW') hpc fun W2 hW2=>hps W2 a c ((hr.new hW').new hW2)
theorem records_law (haw:AwakeOk) (b s z:Int) (g o:ByteArray) (av au:Option Addr) (cv cu:Nat) (vs:List ByteArray) (xs:List Nat) (w:World) (he:Env w) (hg:g.size≤9223372036854775807) (ho:o.size≤9223372036854775807)
  (hrv:RdL w av (strs vs)) (hru:RdL w au (flts xs)) (hzv:av=none→cv=0) (hzu:au=none→cu=0) (hnl:(vs.length:Int)≤9223372036854775807) (hml:(xs.length:Int)≤9223372036854775807) (hvs:∀ (k:Nat) (h:k < vs.length),(vs[k].size:Int)≤9223372036854775807) (hxs:∀ x∈xs,x < 4294967296):
  Calls Tryz.prog 5 #[adcV b s z g o,.slice av vs.length cv,.slice au xs.length cu] w fun e w'=>e=.returned (.bool true)∧New w w':=by
 refine records_walk haw b s z g o av au cv cu _ _ vs xs w he rfl rfl _ hrv hru hzv hzu hnl hml hvs (fun W=>rshort_calls b s z g o W hg ho) fun h1 h2 h3 h64=>?_;rw[Bool.and_eq_true,decide_eq_true_eq,decide_eq_true_eq] at h1
 have hl2:vs.length≤64∨(4096 < vs.length∧vs.length≤4098):=by
  unfold lenB at h2;rw[Bool.or_eq_true,Bool.and_eq_true,decide_eq_true_eq,decide_eq_true_eq,decide_eq_true_eq] at h2;omega
 have hl3:=lenB_le h3;obtain ⟨n,hpc,hrc,hok⟩:=adc_err b s z g o (by omega) (by omega);by_cases h0:n=0
 ·subst h0;obtain ⟨qg,qo,K⟩:=hok rfl;obtain ⟨E1,ys,a1,a2,a3,a4,a5,a6⟩:=rec_volts K av cv _ vs w he rfl hl2 hrv h64;obtain ⟨E2,E3,L,R,c1,c2,c3,c4,c5,c6,c7,c8⟩:=rec_codes K au cu _ xs w he rfl hl3 hru hxs;exact ⟨0,E1,E2,E3,ys,L,R,a1,c1,c2,hrc,fun h=>absurd rfl h,fun _=>a2,fun _=>a3,a4,fun _=>c3,fun _=>c4,fun _=>c5,fun _=>c6,a5,a6,c7,c8⟩
 ·have hE:=fun W a c (hW:New w W) (hr:RdL W a (flts xs))=>Codes_err b s z g o a c xs.length n (samplesErr xs) n (if_neg h0) h0 W (he.new hW) hpc fun W' hW'=>samples_new a c xs W' (by omega) (hr.new hW');refine ⟨n,n,n,0,[],[],[],fun W a c hW hr=>Sampled_err b s z g o a c vs.length n n (by omega) (if_neg h0) h0 W (he.new hW) hpc,hE,fun W a c hW hr=>Clipped_err b s z g o a c xs.length n h0 W fun W' hW'=>hE W' a c (hW.trans hW') (hr.new hW'),hrc,fun _=>⟨rfl,rfl,rfl,rfl,rfl⟩,fun h=>absurd h h0,fun h=>absurd h h0,fun _=>rfl,fun h=>absurd h h0,fun h=>absurd h h0,fun h=>absurd h h0,fun h=>absurd h h0,fun y hy=>(by cases hy),Nat.zero_le _,Nat.zero_le _,Nat.zero_le _⟩
section
variable {H:Type} {enc:TypeId × Value→H} {P:Program} {w:World} {base:Nat} {sp:Nat→Bool} {held:Bool}
theorem in_rats {t e:TypeId}{r:Reach}{b0:Nat}{v:Value}{d:DataW H}{p:List MemPlace}(ht:P.underlying t=some (.slice e))(he:P.underlying e=some .string)(hc:P.cellsOf e=1)(hval:Value.okWide P w r b0 t v)(h:DataW.Trod enc P w base sp held t v d p):
  ∃ (a:Option Addr) (cap:Nat) (vs:List ByteArray),v=.slice a vs.length cap∧RdL w a (strs vs)∧(a=none→cap=0)∧vs.length≤cap∧cap≤maxLen∧∀ (k:Nat) (h:k < vs.length),(vs[k].size:Int)≤9223372036854775807:=by
 obtain ⟨fuel,hf⟩:=h;rw[slice_cells ht hval] at hf;obtain ⟨a,cap,us,h1,h2,h3,h4,h5,h6⟩:=in_slice1 ht hc hf
 have h7:∀ u∈us,∃ x:ByteArray,u=.string x∧x.size≤9223372036854775807:=fun u hu=>by
  obtain ⟨n,y,hy⟩:=h6 u hu;exact trod_str' he hy
 obtain ⟨vs,rfl⟩:∃ vs,us=strs vs:=exists_map fun u hu=>by
  obtain ⟨x,hx,_⟩:=h7 u hu;exact ⟨x,hx⟩
 have hl:(strs vs).length=vs.length:=by simp[strs]
 rw[hl]at h1 h4;refine ⟨a,cap,vs,by simpa using h1,h2,h3,h4,h5,fun k hk=>?_⟩;obtain ⟨x',e1,e2⟩:=h7 (.string vs[k]) (by simp only[strs,List.mem_map];exact ⟨_,List.getElem_mem hk,rfl⟩);injection e1 with e1;rw[←e1] at e2;omega
theorem trod_float32 {t:TypeId}{fuel:Nat}{v:Value}{y:DataW H × List MemPlace}(ht:P.underlying t=some (.float .f32))(h:DataW.trod enc P w base sp held fuel t [v]=some y):∃ b,v=.float .f32 b∧b < 4294967296:=by
 cases fuel with
 | zero=>simp[DataW.trod] at h
 | succ n=>
  cases v <;> simp[DataW.trod,ht] at h
  rename_i k' b;obtain ⟨⟨rfl,hw⟩, -⟩:=h;refine ⟨b,rfl,?_⟩;simp[Lit.wf] at hw;omega
theorem in_floats32 {t e:TypeId}{r:Reach}{b0:Nat}{v:Value}{d:DataW H}{p:List MemPlace}(ht:P.underlying t=some (.slice e))(he:P.underlying e=some (.float .f32))(hc:P.cellsOf e=1)(hval:Value.okWide P w r b0 t v)(h:DataW.Trod enc P w base sp held t v d p):
  ∃ (a:Option Addr) (cap:Nat) (xs:List Nat),v=.slice a xs.length cap∧RdL w a (flts xs)∧(a=none→cap=0)∧xs.length≤cap∧cap≤maxLen∧∀ x∈xs,x < 4294967296:=by
 obtain ⟨fuel,hf⟩:=h;rw[slice_cells ht hval] at hf;obtain ⟨a,cap,us,h1,h2,h3,h4,h5,h6⟩:=in_slice1 ht hc hf
 have h7:∀ u∈us,∃ x:Nat,u=.float .f32 x∧x < 4294967296:=fun u hu=>by
  obtain ⟨n,y,hy⟩:=h6 u hu;exact trod_float32 he hy
 obtain ⟨xs,rfl⟩:∃ xs,us=flts xs:=exists_map fun u hu=>by
  obtain ⟨x,hx,_⟩:=h7 u hu;exact ⟨x,hx⟩
 have hl:(flts xs).length=xs.length:=by simp[flts]
 rw[hl]at h1 h4;refine ⟨a,cap,xs,by simpa using h1,h2,h3,h4,h5,fun x hx=>?_⟩;obtain ⟨x',e1,e2⟩:=h7 (.float .f32 x) (by simp only[flts,List.mem_map];exact ⟨x,hx,rfl⟩);injection e1 with _ e1;omega
end
theorem records_lifted (os:Os)(started:os.Started)(H:Type)(enc:TypeId × Value→H):
  ReturnsInHanded {} Tryz.checked os 5 .any (fun w args=>(Rows.probeRecordsSpec.pre enc Tryz.prog Tryz.f5 [] false w args∧laidMetH Tryz.prog Listed w)∧sizedMet enc Tryz.prog Tryz.f5 (OpenSpec.ofChange Rows.probeRecordsSpec) false w args)
   (Rows.probeRecordsSpec.post enc Tryz.prog Tryz.f5 false true false false):=by
 refine returns_and_shaped (C:=Tryz.checked) (X:=fun w _=>laidMetH Tryz.prog Listed w) (fun _ _ _ hh h=>h.of_heap hh) own started (by kernel_rfl) Tryz.func5
  (ChangeSpec.witness_shaped (enc:=enc) (C:=Tryz.checked) (os:=os) (X:=fun w _=>laidMetH Tryz.prog Listed w) false (World.laidAll Tryz.prog os Listed) #[.agg #[.int .i64 0,.int .i64 0,.int .i64 0,.string ⟨#[]⟩,.string ⟨#[]⟩],.slice none 0 0,.slice none 0 0] 8 (World.laidAll_os _ _ _)
   (World.shaped_of_ZipB (by kernel_rfl) (by kernel_rfl)) (by kernel_rfl) (by kernel_rfl) (by kernel_rfl) (witness_laid os _)) ?_
 intro W base args ds gs before hval0 hW hL hsh;have hval:∀ (j:Nat) t v,Tryz.f5.params[j]?=some t→args[j]?=some v→Value.okWide Tryz.prog W .any base t v:=hval0;have hW':=hW;obtain ⟨p,q,hA0,hV,rfl,_,_⟩:=hW;have hA:DataW.TrodAll enc Tryz.prog W 0 (fun _=>true) true Tryz.f5.params.toList args.toList ds p:=hA0;rw[Tryz.params5] at hA hval;obtain ⟨v0,v1,v2,d0,d1,d2,p0,p1,p2,rfl,rfl,rfl,h0,h1,h2⟩:=trodAll_three hA;obtain ⟨rfl,rfl⟩:=trodVars_none hV;have he:=env_of hL hsh
 have hlt:∀ x∈p0 ++ p1 ++ p2,x.block < W.heap.size:=fun x hx=>by simpa using hW'.lt x (by simpa using hx)
 have hv0:=hval 0 _ _ rfl rfl;have hv1:=hval 1 _ _ rfl rfl;have hv2:=hval 2 _ _ rfl rfl;clear hA0 hval0 hval hA
 have up:∀ W',New W W'→DataW.TrodAll enc Tryz.prog W' 0 (fun b=>decide (b < W.heap.size)) true [24,51,52] [v0,v1,v2] [d0,d1,d2] (p0 ++ (p1 ++ p2)):=fun W' hn=>
  trodAll_mk3 (Below.trod laidOut (by kernel_rfl) (of_decide_eq_true (by kernel_rfl)) h0 hn fun x hx=>hlt x (by simp[hx]))
   (Below.trod laidOut (by kernel_rfl) (of_decide_eq_true (by kernel_rfl)) h1 hn fun x hx=>hlt x (by simp[hx]))
   (Below.trod laidOut (by kernel_rfl) (of_decide_eq_true (by kernel_rfl)) h2 hn fun x hx=>hlt x (by simp[hx]))
 obtain ⟨b,s,z,g,o,rfl,hg,ho⟩:=in_adc hv0 h0;obtain ⟨av,cv,vs,rfl,hrv,hzv,hc1,hc2,hvs⟩:=in_rats Tryz.underlying51 Tryz.underlying22 (by kernel_rfl) hv1 h1;obtain ⟨au,cu,xs,rfl,hru,hzu,hd1,hd2,hxs⟩:=in_floats32 Tryz.underlying52 Tryz.underlying35 (by kernel_rfl) hv2 h2;unfold maxLen at hc2 hd2;refine (records_law awake_calls b s z g o av au cv cu vs xs W he hg ho hrv hru hzv hzu (by omega) (by omega) hvs hxs).mono fun e W' hp=>?_;obtain ⟨rfl,hn⟩:=hp;exact ⟨_,rfl,_,_,_,[],p0 ++ (p1 ++ p2),[],hW',trodAll_mk1 (shut_bool Tryz.underlying4 _),up W' hn,rfl,Below.frame hn _,fun h=>by cases h⟩
theorem records_holds:Rows.ProbeRecordsSaid:=
 OpenClaim.holds_of_wide 5 Tryz.f5 rfl rfl rfl rfl rfl rfl rfl ⟨rfl,rfl,rfl,rfl,rfl⟩ rfl rfl rfl rfl rfl (by kernel_rfl) Tryz.func5 (by kernel_rfl)
  (of_decide_eq_true (by kernel_rfl)) (by unfold Func.isWrapper;first | (rw[if_pos (by decide +kernel)];kernel_rfl) | (rw[if_neg (by decide +kernel)];exact ⟨rfl,rfl⟩))
  (fun os started H enc _=>records_lifted os started H enc)
theorem records_card_holds:Rows.ProbeRecordsCardSaid:=
 Claim7.holds_tied_plain_at .later [] [.data, .data, .data, .data, .sentinel, .sentinel, .pinned] true (true, "0317c1efc2cc73041a6463d23eedf5ef37cef014deea2dd9430a94fd6af32783") true
  records_holds (fun _ h=>by cases h) (by kernel_rfl) (fun _ h=>by cases h) probeRecords_row_tie rfl ⟨rfl,rfl⟩ (by kernel_rfl) rfl
  (fun f fn hf hfn=>by
   obtain rfl : f = 5 := Option.some.inj ((show Tryz.prog.funcNamed "strobe/strobelaw02.ProbeRecords" = some 5 by kernel_rfl).symm.trans hf) |>.symm
   obtain rfl:fn=Tryz.f5:=(Option.some.inj (Tryz.func5.symm.trans hfn)).symm
   exact ⟨by kernel_rfl,fun j t ht=>by
    rw[Tryz.params5]at ht
    have hm:t∈[24,51,52]:=by simpa using Array.mem_of_getElem? ht
    have hall:([24,51,52].all fun u=>!Tryz.prog.wantsStandIn u)=true:=by kernel_rfl
    exact (show Tryz.prog.wantsStandIn t=false by simpa using List.all_eq_true.1 hall t hm)⟩)
  (by kernel_rfl)
end Go.Proofs.YtbkcjmojgglbkaaGreatDoor
