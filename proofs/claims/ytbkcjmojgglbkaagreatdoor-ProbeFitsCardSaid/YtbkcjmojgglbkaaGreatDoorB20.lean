/- Part B20. -/
import Derived.Laws.EntriesVeiled
import Derived.Deep.Onto
import Derived.Test.YtbkcjmojgglbkaaGreatDoorB19
namespace Go.Proofs.YtbkcjmojgglbkaaGreatDoor
open Go.RowKit Big
open Go.Lib (hid)
set_option maxRecDepth 100000
set_option maxHeartbeats 8000000
structure CalOk (b s z:Int)(g o:ByteArray)(c1:Int)(t1:ByteArray)(c2:Int)(t2:ByteArray)(q1 q2 l h gain off:Rat):Prop where
 chk:∀ W,Env W→Calls Tryz.prog 15 #[.agg #[.int .i64 b,.int .i64 s,.int .i64 z,.string g,.string o]] W (RetNew W 0)
 cc1:∀ W,Env W→Calls Tryz.prog 71 #[.agg #[.int .i64 b,.int .i64 s,.int .i64 z,.string g,.string o],.int .i64 c1] W (RetNew W 0)
 cc2:∀ W,Env W→Calls Tryz.prog 71 #[.agg #[.int .i64 b,.int .i64 s,.int .i64 z,.string g,.string o],.int .i64 c2] W (RetNew W 0)
 ck1:∀ W,Env W→Calls Tryz.prog 68 #[.string t1] W fun e w'=>e=.returned (.int .i64 0)∧New W w'
 ck2:∀ W,Env W→Calls Tryz.prog 68 #[.string t2] W fun e w'=>e=.returned (.int .i64 0)∧New W w'
 nom1:∀ W,Calls Tryz.prog 65 #[.agg #[.int .i64 b,.int .i64 s,.int .i64 z,.string g,.string o],.int .i64 c1] W (FracPost W l)
 nom2:∀ W,Calls Tryz.prog 65 #[.agg #[.int .i64 b,.int .i64 s,.int .i64 z,.string g,.string o],.int .i64 c2] W (FracPost W h)
 fr1:∀ W,Env W→Calls Tryz.prog 70 #[.string t1] W (FracPost W q1)
 fr2:∀ W,Env W→Calls Tryz.prog 70 #[.string t2] W (FracPost W q2)
 ne:c1≠c2
 bl:FB 33 l
 bh:FB 33 h
 b1:FB 2000 q1
 b2:FB 2000 q2
 hne:h - l≠0
 hg:(q2 - q1) / (h - l)=gain
 ho:q1 - gain*l=off
 gpos:¬gain.num.sign≤0
 gs:SmF gain
 os:SmF off
def CalPost (w:World)(b s z:Int)(gain off:Rat)(e:Ending)(w':World):Prop:=e=.returned (.tuple #[.agg #[.int .i64 b,.int .i64 s,.int .i64 z,.string (rawText gain),.string (rawText off)],.int .i64 0])∧New w w'
theorem Calibrated_walk (b s z:Int)(g o:ByteArray)(c1:Int)(t1:ByteArray)(c2:Int)(t2:ByteArray)(q1 q2 l h gain off:Rat)(K:CalOk b s z g o c1 t1 c2 t2 q1 q2 l h gain off)(w:World)(he:Env w):
  Calls Tryz.prog 40 #[.agg #[.int .i64 b,.int .i64 s,.int .i64 z,.string g,.string o],.agg #[.int .i64 c1,.string t1],.agg #[.int .i64 c2,.string t2]] w (CalPost w b s z gain off):=
 Calibrated_gen b s z g o c1 t1 c2 t2 q1 q2 l h gain off (rawText gain) (rawText off) 0 0 0 0 0 0 0 0 0 false false
  {chk:=K.chk
   cc1:=K.cc1
   cc2:=K.cc2
   ck1:=K.ck1
   ck2:=K.ck2
   f1:=rfl
   f2:=rfl
   f3:=rfl
   f9:=rfl
   hc:=beq_eq_false_iff_ne.2 K.ne
   em:=eq_mark c1 c2 t1 t2 K.ne} w he _ 0 (fun h=>absurd rfl h) (fun _=>
  ⟨{nom1:=K.nom1
    nom2:=K.nom2
    fr1:=K.fr1
    fr2:=K.fr2
    bl:=K.bl
    bh:=K.bh
    b1:=K.b1
    b2:=K.b2
    hne:=K.hne
    hg:=K.hg
    ho:=K.ho
    gs:=K.gs.fb
    os:=K.os.fb
    tx:=fun va W hx hW=>text_raw va gain W hx K.gs hW
    ty:=fun va W hx hW=>text_raw va off W hx K.os hW},fun h=>absurd h K.gpos,fun _=>⟨rfl,rfl⟩⟩)
theorem info_f32:(Tryz.prog.info? 35).map (fun i=>(i.zero,i.size,i.bytes))=some (some (.float .f32 0),1,4):=by kernel_rfl
theorem info_u16:(Tryz.prog.info? 112).map (fun i=>(i.zero,i.size,i.bytes))=some (some (.int .u16 0),1,2):=by kernel_rfl
def RowRet (w:World)(e:TypeId)(xs:List Value)(en:Ending)(w':World):Prop:=∃ v,en=.returned v∧New w w'∧w'.ownsRow w.heap.size e 1 v xs.length xs
theorem mapped_align (a:Option Addr) (cap:Nat) (vs:List Value) (ys:List Nat)  (w:World) (hy:ys.length=vs.length) (hl:vs.length≤4096) (hr:RdL w a vs)
  (hc:∀ (k:Nat) (h:k < vs.length) (h':k < ys.length) (W:World),New w W→Calls Tryz.prog 123 #[vs[k]] W fun e W'=>e=.returned ((Value.float .f32) ys[k])∧New W W'):
  Calls Tryz.prog 122 #[.slice a vs.length cap,.func (.func 123) #[] #[]] w (RowRet w 35 (ys.map (Value.float .f32))):=by
 obtain ⟨i0,hi,hz0,hz1,hz2⟩:=info_parts info_f32
 have hli:(vs.length:Int)≤4096:=by omega
 have HR:=hid hr;have HC:=hid hc;have HY:=hid hy;clear hr hc hy;go_enter Tryz.func122,Tryz.ntmps122;go_wp2_with fail;go_loopw [5,10] (fun v i wr=>∃ (k:Nat),k≤vs.length∧i=.int .i64 (k:Int)∧Hid (wr.ownsRow w.heap.size 35 1 v ((ys.take k).map (Value.float .f32)).length ((ys.take k).map (Value.float .f32)))∧Hid (New w wr)) (fun _ i _=>vs.length - (intOf i).toNat)
 case atStart=>exact ⟨0,Nat.zero_le _,rfl,hid (World.ownsRow_nil _ _ _ _),hid (New.refl _)⟩
 case round=>
  obtain ⟨k,hk,rfl,HO,HN⟩:=hrel;by_cases hlt:k < vs.length
  ·obtain ⟨b,off,rfl,hcell⟩:=HR.out k hlt;have hcell:=HN.out.cell hcell
   have hly:k < ys.length:=by have:=HY.out;omega
   have hcall:=HC.out k hlt hly;obtain ⟨x,hx⟩:∃ x,vs[k]=x:=⟨_,rfl⟩;obtain ⟨y,hyy⟩:∃ y,ys[k]=y:=⟨_,rfl⟩
   have h1:∀ u∈[(Value.float .f32) y],u.oneCell'=true:=by intro u hu;simp at hu;rw[hu];rfl
   have ht:(ys.take (k+1)).map (Value.float .f32)=(ys.take k).map (Value.float .f32) ++ [(Value.float .f32) y]:=by rw[List.take_succ_eq_append_getElem hly,hyy];simp
   have hle:((ys.take k).map (Value.float .f32)).length=k:=by rw[List.length_map,List.length_take];omega
   simp only[hx,hyy]at hcall;rw[hx] at hcell;have HCALL:=hid hcall;have HX:=hid hx;have HYY:=hid hyy;have H1:=hid h1;have HT:=hid ht;have HLE:=hid hle;clear hcall hx hyy h1 ht hle;go_wp2_with fail;refine (HCALL.out _ HN.out).mono ?_;rintro e w1 ⟨rfl,hn⟩;have hO:=own_new HO.out hn;have hN:=HN.out.trans hn;clear HO HN hcell;have HO:=hid hO;have HN:=hid hN;have HN0:=hid hn;clear hO hN hn;go_wp2_with (at_builtin;refine wpList_append_own _ rfl _ _ 52 rfl w.heap.size 35 i0 (.float .f32 0) 1 4 Tryz.underlying52 hi hz0 hz1 hz2 rfl (by decide) _ _ _ rfl (HO.out.alloc _) ⟨w1.heap.size,0,none⟩ 1 1 [(Value.float .f32) y] rfl rfl (one_c1 _ _ _) H1.out (by have:=HLE.out;unfold maxLen;omega) (by have:=HLE.out;omega) (by have:=HN.out.size;rw[←size_alloc];omega) ?_);intro v' w2 hown' hgrow _;have hN1:=grown_new HN.out HO.out hgrow
   have hO1:w2.ownsRow w.heap.size 35 1 v' ((ys.take (k+1)).map (Value.float .f32)).length ((ys.take (k+1)).map (Value.float .f32)):=by
    rw[HT.out];simpa using hown'
   clear hown' hgrow;have HN1:=hid hN1;have HO1:=hid hO1;clear hN1 hO1;go_wp2_with fail;go_roundw
   case rel=>exact ⟨k+1,by omega,by go_num,HO1,HN1⟩
   case measure=>simp[intOf];omega
  ·have hkk:k=vs.length:=by omega
   have hO:=HO.out;rw[hkk,←HY.out,List.take_length] at hO;have HKK:=hid hkk;have HOO:=hid hO;clear hkk hO;go_wp2_with fail;go_ret;exact ⟨_,rfl,HN.out,HOO.out⟩
def sampQ (s z tp:Int)(q:Rat):Nat:=Flo.vol ((clipC (rawQ s z q) tp).1 - z) s
theorem clipC_range (n:Int){tp:Int}(h:0≤tp):0≤(clipC n tp).1∧(clipC n tp).1≤tp:=by
 unfold clipC;split
 ·exact ⟨by omega,h⟩
 ·split
  ·exact ⟨h,by omega⟩
  ·exact ⟨by omega,by omega⟩
theorem sampled1_calls {b s z:Int} {g o:ByteArray} {qg qo:Rat} (h:AdcOk b s z g o qg qo) (v:ByteArray) (q:Rat) (p p':Nat) (t t':TypeId) (w:World) (he:Env w) (hv:v.data.toList=ratText q) (hf:Fits q) (hl:v.size≤100000)
  (hb:Box w p t #[.int .i64 b,.int .i64 s,.int .i64 z,.string g,.string o]) (hb':Box w p' t' #[.func (.func 72) #[.agg #[.int .i64 b,.int .i64 s,.int .i64 z,.string g,.string o]] #[]]):
  Calls Tryz.prog 94 #[.string v,.pointer (some ⟨p,0,none⟩),.pointer (some ⟨p',0,none⟩)] w fun e w'=>e=.returned (.float .f32 (sampQ s z (2^b.toNat - 1) q))∧New w w':=by
 have hcc:=fun (vv:Value) W h1=>code_calls h vv q W h1 ((Fits.fb hf).mono (show 2000≤6000 by omega));unfold CodePost at hcc;have htp:=top_bd h.blo h.bhi;have hr:=clipC_range (rawQ s z q) (tp:=2^b.toNat - 1) (by omega);have hvv:=fun W=>volts_calls h (clipC (rawQ s z q) (2^b.toNat - 1)).1 W hr.1 (by omega);obtain ⟨r,hrr⟩:∃ r,sampQ s z (2^b.toNat - 1) q=r:=⟨_,rfl⟩;have hr2:Flo.vol ((clipC (rawQ s z q) (2^b.toNat - 1)).1 - z) s=r:=hrr;simp only[hr2] at hvv;rw[hrr];obtain ⟨c1,hc1⟩:∃ c,(clipC (rawQ s z q) (2^b.toNat - 1)).1=c:=⟨_,rfl⟩;obtain ⟨c2,hc2⟩:∃ c,(clipC (rawQ s z q) (2^b.toNat - 1)).2=c:=⟨_,rfl⟩;simp only[hc1,hc2] at hcc hvv;clear h hc1 hc2 hf htp hr hrr hr2;have HN:=hid (New.refl w);have HCC:=hid hcc;have HVV:=hid hvv;have HE:=hid he;have HV:=hid hv;have HL:=hid hl;have BA:=hid hb;have BB:=hid hb';clear hcc hvv he hv hl hb hb';obtain ⟨⟨pa0,pa1,pa2,pa3,pa4⟩,pa5⟩:=BA.out.five;obtain ⟨pb0,pb1,pb2⟩:=BB.out.one;go_enter Tryz.func94,Tryz.ntmps94;go_wp2_with fail;refine wp_region_T 8 (fun W=>W.cell? ⟨p,0,none⟩=some (.int .i64 b)∧W.cell? ⟨p,1,none⟩=some (.int .i64 s)∧W.cell? ⟨p,2,none⟩=some (.int .i64 z)∧W.cell? ⟨p,3,none⟩=some (.string g)∧W.cell? ⟨p,4,none⟩=some (.string o)) 9 #[false,false,false,false,false,false,false,false,false] rfl (by kernel_rfl) (by kernel_rfl) ?_;refine tk 0 (by exact ⟨pa0,pa1,pa2,pa3,pa4⟩) ?_
 try simp only[PT]
 refine tk 1 (by exact ⟨pa0,pa1,pa2,pa3,pa4⟩) ?_
 try simp only[PT]
 refine tk1 2 fun K hK=>?_;go_simp;refine (from_calls v q _ (HE.out.new HN.out.drew) HV.out (by have:=HL.out;omega)).mono ?_;rintro e w4 ⟨v4,rfl,hn,hf⟩;have hn:=hn.undrew;have HF4:=hid hf;clear hf;clear pa0 pa1 pa2 pa3 pa4 pa5;clear pb0 pb1 pb2;replace BA:=bW BA hn;replace BB:=bW BB hn;replace HN:=tW HN hn;clear hn;obtain ⟨⟨pa0,pa1,pa2,pa3,pa4⟩,pa5⟩:=BA.out.five;obtain ⟨pb0,pb1,pb2⟩:=BB.out.one;refine hK.out _ _ (fun _=>⟨pa0,pa1,pa2,pa3,pa4⟩) ?_;clear hK K
 try simp only[PT]
 refine tk1 3 fun K hK=>?_;go_simp;refine (HCC.out _ _ HF4.out).mono ?_;rintro e w5 ⟨rfl,hn⟩;clear pa0 pa1 pa2 pa3 pa4 pa5;clear pb0 pb1 pb2;replace BA:=bW BA hn;replace BB:=bW BB hn;replace HN:=tW HN hn;clear hn;obtain ⟨⟨pa0,pa1,pa2,pa3,pa4⟩,pa5⟩:=BA.out.five;obtain ⟨pb0,pb1,pb2⟩:=BB.out.one;refine hK.out _ _ (fun _=>⟨pa0,pa1,pa2,pa3,pa4⟩) ?_;clear hK K
 try simp only[PT]
 refine tk 4 (by exact ⟨pa0,pa1,pa2,pa3,pa4⟩) ?_
 try simp only[PT]
 refine tk 5 (by exact ⟨pa0,pa1,pa2,pa3,pa4⟩) ?_
 try simp only[PT]
 refine tk 6 (by exact ⟨pa0,pa1,pa2,pa3,pa4⟩) ?_
 try simp only[PT]
 refine tk 7 (by exact ⟨pa0,pa1,pa2,pa3,pa4⟩) ?_
 try simp only[PT]
 refine tlW ?_;go_wp2_with fail;refine (HVV.out _).mono ?_;rintro e w6 ⟨rfl,hn⟩;clear pa0 pa1 pa2 pa3 pa4 pa5;clear pb0 pb1 pb2;replace BA:=bW BA hn;replace BB:=bW BB hn;replace HN:=tW HN hn;clear hn;go_wp2_with fail;go_ret;exact ⟨rfl,HN.out⟩
theorem mapped_samp (a:Option Addr) (cap:Nat) (vs:List Value) (ys:List Nat) (p p':Addr) (w:World) (hy:ys.length=vs.length) (hl:vs.length≤4096) (hr:RdL w a vs)
  (hc:∀ (k:Nat) (h:k < vs.length) (h':k < ys.length) (W:World),New w W→Calls Tryz.prog 94 #[vs[k],.pointer (some p),.pointer (some p')] W fun e W'=>e=.returned ((Value.float .f32) ys[k])∧New W W'):
  Calls Tryz.prog 93 #[.slice a vs.length cap,.func (.func 94) #[] #[.pointer (some p),.pointer (some p')]] w (RowRet w 35 (ys.map (Value.float .f32))):=by
 obtain ⟨i0,hi,hz0,hz1,hz2⟩:=info_parts info_f32
 have hli:(vs.length:Int)≤4096:=by omega
 have HR:=hid hr;have HC:=hid hc;have HY:=hid hy;clear hr hc hy;go_enter Tryz.func93,Tryz.ntmps93;go_wp2_with fail;go_loopw [5,10] (fun v i wr=>∃ (k:Nat),k≤vs.length∧i=.int .i64 (k:Int)∧Hid (wr.ownsRow w.heap.size 35 1 v ((ys.take k).map (Value.float .f32)).length ((ys.take k).map (Value.float .f32)))∧Hid (New w wr)) (fun _ i _=>vs.length - (intOf i).toNat)
 case atStart=>exact ⟨0,Nat.zero_le _,rfl,hid (World.ownsRow_nil _ _ _ _),hid (New.refl _)⟩
 case round=>
  obtain ⟨k,hk,rfl,HO,HN⟩:=hrel;by_cases hlt:k < vs.length
  ·obtain ⟨b,off,rfl,hcell⟩:=HR.out k hlt;have hcell:=HN.out.cell hcell
   have hly:k < ys.length:=by have:=HY.out;omega
   have hcall:=HC.out k hlt hly;obtain ⟨x,hx⟩:∃ x,vs[k]=x:=⟨_,rfl⟩;obtain ⟨y,hyy⟩:∃ y,ys[k]=y:=⟨_,rfl⟩
   have h1:∀ u∈[(Value.float .f32) y],u.oneCell'=true:=by intro u hu;simp at hu;rw[hu];rfl
   have ht:(ys.take (k+1)).map (Value.float .f32)=(ys.take k).map (Value.float .f32) ++ [(Value.float .f32) y]:=by rw[List.take_succ_eq_append_getElem hly,hyy];simp
   have hle:((ys.take k).map (Value.float .f32)).length=k:=by rw[List.length_map,List.length_take];omega
   simp only[hx,hyy]at hcall;rw[hx] at hcell;have HCALL:=hid hcall;have HX:=hid hx;have HYY:=hid hyy;have H1:=hid h1;have HT:=hid ht;have HLE:=hid hle;clear hcall hx hyy h1 ht hle;go_wp2_with fail;refine (HCALL.out _ HN.out).mono ?_;rintro e w1 ⟨rfl,hn⟩;have hO:=own_new HO.out hn;have hN:=HN.out.trans hn;clear HO HN hcell;have HO:=hid hO;have HN:=hid hN;have HN0:=hid hn;clear hO hN hn;go_wp2_with (at_builtin;refine wpList_append_own _ rfl _ _ 52 rfl w.heap.size 35 i0 (.float .f32 0) 1 4 Tryz.underlying52 hi hz0 hz1 hz2 rfl (by decide) _ _ _ rfl (HO.out.alloc _) ⟨w1.heap.size,0,none⟩ 1 1 [(Value.float .f32) y] rfl rfl (one_c1 _ _ _) H1.out (by have:=HLE.out;unfold maxLen;omega) (by have:=HLE.out;omega) (by have:=HN.out.size;rw[←size_alloc];omega) ?_);intro v' w2 hown' hgrow _;have hN1:=grown_new HN.out HO.out hgrow
   have hO1:w2.ownsRow w.heap.size 35 1 v' ((ys.take (k+1)).map (Value.float .f32)).length ((ys.take (k+1)).map (Value.float .f32)):=by
    rw[HT.out];simpa using hown'
   clear hown' hgrow;have HN1:=hid hN1;have HO1:=hid hO1;clear hN1 hO1;go_wp2_with fail;go_roundw
   case rel=>exact ⟨k+1,by omega,by go_num,HO1,HN1⟩
   case measure=>simp[intOf];omega
  ·have hkk:k=vs.length:=by omega
   have hO:=HO.out;rw[hkk,←HY.out,List.take_length] at hO;have HKK:=hid hkk;have HOO:=hid hO;clear hkk hO;go_wp2_with fail;go_ret;exact ⟨_,rfl,HN.out,HOO.out⟩
def strs (l:List ByteArray):List Value:=l.map Value.string
theorem RdL.str {w:World}{a:Option Addr}{l:List ByteArray}(h:RdL w a (strs l))(i:Nat)(hi:i < l.length):∃ b off,a=some ⟨b,off,none⟩∧w.cell? ⟨b,off+i,none⟩=some (.string l[i]):=by
 obtain ⟨b,off,e,hc⟩:=h i (by simpa[strs] using hi);exact ⟨b,off,e,by rw[hc];simp[strs]⟩
def rowErr:List ByteArray→Int
 | []=>0
 | v::l=>if ratErr v.data.toList=0 then rowErr l else ratErr v.data.toList
theorem rowErr_drop (l:List ByteArray)(k:Nat)(hk:k < l.length):rowErr (l.drop k)=if ratErr l[k].data.toList=0 then rowErr (l.drop (k+1)) else ratErr l[k].data.toList:=by
 rw[List.drop_eq_getElem_cons hk];rfl
theorem Sampled_gen (b s z:Int) (g o:ByteArray) (a:Option Addr) (cap n:Nat) (vs:List ByteArray) (ys:List Value) (E:Int) (w:World) (he:Env w) (hn0:vs.length=n) (hl:n≤4096) (hr:RdL w a (strs vs)) (hE:rowErr vs=E)
  (hc:∀ W,Env W→Calls Tryz.prog 15 #[.agg #[.int .i64 b,.int .i64 s,.int .i64 z,.string g,.string o]] W (RetNew W 0))
  (hck:∀ (k:Nat) (h1:k < vs.length) (W:World),Env W→Calls Tryz.prog 68 #[.string vs[k]] W fun e W'=>e=.returned (.int .i64 (ratErr vs[k].data.toList))∧New W W')
  (hm:E=0→∀ (W:World) (p p':Nat) (t t':TypeId),New w W→Box W p t #[.int .i64 b,.int .i64 s,.int .i64 z,.string g,.string o]→Box W p' t' #[.func (.func 72) #[.agg #[.int .i64 b,.int .i64 s,.int .i64 z,.string g,.string o]] #[]]→
   Calls Tryz.prog 93 #[.slice a n cap,.func (.func 94) #[] #[.pointer (some ⟨p,0,none⟩),.pointer (some ⟨p',0,none⟩)]] W fun e w'=>∃ v,e=.returned v∧New W w'∧w'.ownsRow W.heap.size 35 1 v ys.length ys) (hy0:E≠0→ys=[]):
  Calls Tryz.prog 27 #[.agg #[.int .i64 b,.int .i64 s,.int .i64 z,.string g,.string o],.slice a n cap] w (RowPost w 35 ys E):=by
 have hli:(n:Int)≤4096:=by omega
 have hlt:¬(4096:Int) < (n:Int):=by omega
 have hd:decide ((4096:Int) < (n:Int))=false:=decide_eq_false hlt;clear hl;have HC:=hid hc;have HCK:=hid hck;have HM:=hid hm;have HE:=hid he;have HR:=hid hr;have HEE:=hid hE;have HY0:=hid hy0;have HNN:=hid hn0;clear hc hck hm he hr hE hy0 hn0;go_enter Tryz.func27,Tryz.ntmps27;go_wp2_with fail;obtain ⟨BA,HN⟩:=lay1 w 32 #[.int .i64 b,.int .i64 s,.int .i64 z,.string g,.string o];refine (HC.out _ (HE.out.new HN.out)).mono ?_;rintro e w1 ⟨rfl,hn⟩;replace BA:=bW BA hn;replace HN:=tW HN hn;clear hn;go_wp2_with fail;refine (pwhen_new false 5 _).mono ?_;rintro e w2 ⟨rfl,hn⟩;replace BA:=bW BA hn;replace HN:=tW HN hn;clear hn;go_wp2_with fail;have HN0:=HN;clear HN;obtain ⟨BG,HN⟩:=lay1 w2 29 #[.int .i64 0,.int .i64 0];replace BA:=hid (BA.out.new HN.out);have HN_:=HN0.out.trans HN.out;clear HN HN0;have HN:=hid HN_;clear HN_;refine (pfirst2_new 0 0 _ _ 29 _ BG.out).mono ?_;rintro e w3 ⟨rfl,hn⟩;replace BA:=bW BA hn;replace HN:=tW HN hn;clear hn;go_wp2_with fail;clear BG;go_loopw [24] (fun i wr=>∃ (k:Nat),k≤n∧i=.int .i64 (k:Int)∧Hid (rowErr (vs.drop k)=E)∧Hid (New w wr)∧Hid (Box wr w.heap.size 32 #[.int .i64 b,.int .i64 s,.int .i64 z,.string g,.string o])) (fun i _=>n - (intOf i).toNat)
 case atStart=>exact ⟨0,Nat.zero_le _,rfl,HEE,HN,BA⟩
 case round=>
  clear HN BA;obtain ⟨k,hk,rfl,HP,HN,BA⟩:=hrel;by_cases hlt2:k < n
  ·have hlt3:k < vs.length:=by rw[HNN.out];exact hlt2
   obtain ⟨b1,off,rfl,hcell⟩:=HR.out.str k hlt3;have hcell:=HN.out.cell hcell;have hcall:=HCK.out k hlt3;have hrd:=rowErr_drop vs k hlt3;rw[HP.out] at hrd;obtain ⟨x,hx⟩:∃ x,vs[k]=x:=⟨_,rfl⟩;rw[hx] at hcell hrd;simp only[hx] at hcall;obtain ⟨r,hr⟩:∃ r,ratErr x.data.toList=r:=⟨_,rfl⟩;rw[hr] at hrd;simp only[hr] at hcall;by_cases hr0:r=0
   ·subst hr0;rw[if_pos rfl] at hrd;have HCALL:=hid hcall;have HX:=hid hx;have HRD:=hid hrd;have HRR:=hid hr;clear hcall hx hrd hr;go_wp2_with fail;refine (HCALL.out _ (HE.out.new HN.out)).mono ?_;rintro e w4 ⟨rfl,hn⟩;clear hcell;replace BA:=bW BA hn;replace HN:=tW HN hn;clear hn;go_wp2_with fail;go_roundw
    case rel=>exact ⟨k+1,by omega,by go_num,hid HRD.out.symm,HN,BA⟩
    case measure=>simp[intOf];omega
   ·rw[if_neg hr0] at hrd
    have ht:(r != 0)=true:=by simpa using hr0
    have hE0:E≠0:=by rw[hrd];exact hr0
    have HCALL:=hid hcall;have HX:=hid hx;have HRD:=hid hrd;have HRR:=hid hr;have HE0:=hid hE0;clear hcall hx hrd hr hE0;clear hr0;go_wp2_with fail;refine (HCALL.out _ (HE.out.new HN.out)).mono ?_;rintro e w4 ⟨rfl,hn⟩;clear hcell;replace BA:=bW BA hn;replace HN:=tW HN hn;clear hn;go_wp2_with fail;go_ret2;exact ⟨_,by rw[←HRD.out];rfl,HN.out,by rw[HY0.out HE0.out];exact World.ownsRow_nil _ _ _ _⟩
  ·have hkk:k=n:=by omega
   have hE1:E=0:=by
    rw[←HP.out,hkk,←HNN.out,List.drop_length];rfl
   have hmm:=HM.out hE1;obtain ⟨⟨pa0,pa1,pa2,pa3,pa4⟩,pa5⟩:=BA.out.five;have HKK:=hid hkk;have HE1:=hid hE1;have HMM:=hid hmm;clear hkk hE1 hmm;go_wp2_with fail;clear pa0 pa1 pa2 pa3 pa4 pa5;have HN0:=HN;clear HN;obtain ⟨BB,HN⟩:=lay1 wr 130 #[.func (.func 72) #[.agg #[.int .i64 b,.int .i64 s,.int .i64 z,.string g,.string o]] #[]];replace BA:=hid (BA.out.new HN.out);have HN_:=HN0.out.trans HN.out;clear HN HN0;have HN:=hid HN_;clear HN_;refine (HMM.out _ _ _ _ _ HN.out BA.out BB.out).mono ?_;rintro e w5 ⟨v,rfl,hn,ho⟩;have ho':=World.ownsRow.mono ho HN.out.size;clear ho;have HO:=hid ho';clear ho';replace BA:=bW BA hn;replace HN:=tW HN hn;clear hn;go_wp2_with fail;go_ret2;exact ⟨_,by rw[HE1.out];rfl,HN.out,HO.out⟩
theorem Sampled_all {b s z:Int} {g o:ByteArray} {qg qo:Rat} (h:AdcOk b s z g o qg qo) (a:Option Addr) (cap n:Nat) (vs:List ByteArray) (qs:List Rat) (E:Int) (w:World) (he:Env w) (hn0:vs.length=n) (hl:n≤4096) (hr:RdL w a (strs vs)) (hE:rowErr vs=E) (hsz:∀ (k:Nat) (h1:k < vs.length),(vs[k]).size≤100000)
  (hq:E=0→qs.length=n∧∀ (k:Nat) (h1:k < vs.length) (h2:k < qs.length),(vs[k]).data.toList=ratText qs[k]∧Fits qs[k]) (hq0:E≠0→qs=[]):
  Calls Tryz.prog 27 #[.agg #[.int .i64 b,.int .i64 s,.int .i64 z,.string g,.string o],.slice a n cap] w (RowPost w 35 (flts (qs.map (sampQ s z (2^b.toNat - 1)))) E):=by
 refine Sampled_gen b s z g o a cap n vs _ E w he hn0 hl hr hE (fun W hW=>checkAdc_ok h W hW) (fun k h1 W hW=>check_calls vs[k] W hW (hsz k h1)) (fun h0 W p p' t t' hW h1 h2=>?_) (fun h0=>by rw[hq0 h0];rfl);obtain ⟨hql,hv⟩:=hq h0
 have hm:=mapped_samp a cap (strs vs) (qs.map (sampQ s z (2^b.toNat - 1))) ⟨p,0,none⟩ ⟨p',0,none⟩ W (by simp[strs,hql,hn0]) (by simp[strs];omega) (hr.new hW) (fun k h3 h4 W' hn=>by
   have hk:k < vs.length:=by simpa[strs] using h3
   obtain ⟨e1,e2⟩:=hv k hk (by omega)
   have ea:(strs vs)[k]=.string vs[k]:=by simp[strs]
   have eb:(qs.map (sampQ s z (2^b.toNat - 1)))[k]=sampQ s z (2^b.toNat - 1) qs[k]:=by simp
   rw[ea,eb]
   exact sampled1_calls h vs[k] qs[k] p p' t t' W' ((he.new hW).new hn) e1 e2 (hsz k hk) (h1.new hn) (h2.new hn))
 have el:(strs vs).length=n:=by simp[strs,hn0]
 rw[el]at hm;exact hm
theorem Sampled_ok {b s z:Int} {g o:ByteArray} {qg qo:Rat} (h:AdcOk b s z g o qg qo) (a:Option Addr) (cap:Nat) (vs:List ByteArray) (qs:List Rat) (w:World) (he:Env w) (hl:vs.length≤4096) (hr:RdL w a (strs vs)) (hq:qs.length=vs.length)
  (hv:∀ (k:Nat) (h1:k < vs.length) (h2:k < qs.length),(vs[k]).data.toList=ratText qs[k]∧Fits qs[k]∧(vs[k]).size≤100000):
  Calls Tryz.prog 27 #[.agg #[.int .i64 b,.int .i64 s,.int .i64 z,.string g,.string o],.slice a vs.length cap] w (RowPost w 35 (flts (qs.map (sampQ s z (2^b.toNat - 1)))) 0):=by
 refine Sampled_all h a cap _ vs qs 0 w he rfl hl hr ?_ (fun k h1=>(hv k h1 (by omega)).2.2) (fun _=>⟨hq,fun k h1 h2=>⟨(hv k h1 h2).1,(hv k h1 h2).2.1⟩⟩) (fun h0=>absurd rfl h0)
 have key:∀ l:List ByteArray,(∀ v∈l,ratErr v.data.toList=0)→rowErr l=0:=fun l=>by
  induction l with
  | nil=>intro _;rfl
  | cons v l ih=>
   intro hl;show (if ratErr v.data.toList=0 then rowErr l else _)=0;rw[if_pos (hl v (by simp))];exact ih fun x hx=>hl x (by simp[hx])
 refine key vs fun v hv'=>?_;obtain ⟨k,h1,rfl⟩:=List.mem_iff_getElem.1 hv';obtain ⟨e1,e2, -⟩:=hv k h1 (by omega);rw[e1,ratErr_ratText e2]
def words (l:List Nat):List Value:=l.map fun (x:Nat)=>Value.int .u16 (x:Int)
theorem samples_new (a:Option Addr)(cap:Nat)(l:List Nat)(w:World)(hl:l.length≤9223372036854775807)(hr:RdL w a (flts l)):
  Calls Tryz.prog 95 #[.slice a l.length cap] w (RetNew w (samplesErr l)):=
 (checkSamples_calls a cap l w hl hr).mono fun _ _ h=>⟨h.1,by obtain ⟨n,hn⟩:=h.2;rw[hn];exact (New.refl _).drewN n⟩
theorem Box.rd2 {w:World}{B:Nat}{t:TypeId}{x y:Nat}(h:Box w B t #[.float .f32 x,.float .f32 y]):RdL w (some ⟨B,0,none⟩) (flts [x,y]):=fun i hi=>by
 refine ⟨B,0,rfl,?_⟩
 have:i=0∨i=1:=by simp[flts] at hi;omega
 rcases this with rfl | rfl
 ·exact h.cell 0
 ·exact h.cell 1
def geqF (x y:Nat):Bool:=FloatKind.f32.format.order x y==some Ordering.gt || FloatKind.f32.format.order x y==some Ordering.eq
theorem levels_calls (lo hi:Nat)(w:World):Calls Tryz.prog 113 #[.agg #[.float .f32 lo,.float .f32 hi]] w (RetNew w (if samplesErr [lo,hi]=0 then (if geqF lo hi then 11 else 0) else samplesErr [lo,hi])):=by
 obtain ⟨e1,he1⟩:∃ e1,samplesErr [lo,hi]=e1:=⟨_,rfl⟩;obtain ⟨e2,he2⟩:∃ e2:Int,(if geqF lo hi=true then 11 else 0)=e2:=⟨_,rfl⟩;rw[he1,he2];obtain ⟨r,hr⟩:∃ r,(if e1=0 then e2 else e1)=r:=⟨_,rfl⟩;rw[hr];have HE1:=hid he1;have HE2:=hid he2;have HR:=hid hr;clear he1 he2 hr;go_enter Tryz.func113,Tryz.ntmps113;go_wp2_with fail;obtain ⟨BA,HN⟩:=lay1 w 100 #[.float .f32 lo,.float .f32 hi];obtain ⟨pa0,pa1,pa2,pa3,pa4⟩:=BA.out.two;clear pa0 pa1 pa2 pa3 pa4;refine wp_region_T 14 (fun W=>W.cell? ⟨w.heap.size,0,none⟩=some (.float .f32 lo)∧W.cell? ⟨w.heap.size,1,none⟩=some (.float .f32 hi)) 15 #[false,false,false,false,false,false,false,false,false,false,false,false,false,false,false] rfl (by kernel_rfl) (by kernel_rfl) ?_;refine tk 0 (by exact cW2 BA) ?_
 try simp only[PT]
 refine tk 1 (by exact cW2 BA) ?_
 try simp only[PT]
 refine tk 2 (by exact cW2 BA) ?_
 try simp only[PT]
 refine tk 3 (by exact cW2 BA) ?_
 try simp only[PT]
 refine tk 6 (by exact cW2 BA) ?_
 try simp only[PT]
 refine tk 7 (by exact cW2 BA) ?_
 try simp only[PT]
 refine tk 8 (by exact cW2 BA) ?_
 try simp only[PT]
 refine tk 9 (by exact cW2 BA) ?_
 try simp only[PT]
 refine tk 10 (by exact cW2 BA) ?_
 try simp only[PT]
 refine tk1 4 fun K hK=>?_;go_simp;clear BA HN;obtain ⟨BA,BG,HN⟩:=lay2 w 100 #[.float .f32 lo,.float .f32 hi] 35 #[.float .f32 lo,.float .f32 hi];refine hK.out _ _ (fun _=>cW2 BA) ?_;clear hK K
 try simp only[PT]
 refine tk1 5 fun K hK=>?_;go_simp;refine (samples_new _ _ [lo,hi] _ (by show (2:Nat)≤_;omega) BG.out.drew.rd2).mono ?_;rintro e w1 ⟨rfl,hn⟩;rw[HE1.out];have hn:=hn.undrew;replace BA:=bW BA hn;replace HN:=tW HN hn;clear hn;refine hK.out _ _ (fun _=>cW2 BA) ?_;clear hK K
 try simp only[PT]
 refine tk1 11 fun K hK=>?_;go_simp;refine (pwhen_new (geqF lo hi) 11 _).mono ?_;rintro e w2 ⟨rfl,hn⟩;rw[HE2.out];replace BA:=bW BA hn;replace HN:=tW HN hn;clear hn;refine hK.out _ _ (fun _=>cW2 BA) ?_;clear hK K
 try simp only[PT]
 refine tk1 12 fun K hK=>?_;go_simp;have HN0:=HN;clear HN;obtain ⟨BH,HN⟩:=lay1 w2 29 #[.int .i64 e1,.int .i64 e2];replace BA:=hid (BA.out.new HN.out);have HN_:=HN0.out.trans HN.out;clear HN HN0;have HN:=hid HN_;clear HN_;refine hK.out _ _ (fun _=>cW2 BA) ?_;clear hK K
 try simp only[PT]
 refine tk1 13 fun K hK=>?_;go_simp;refine (pfirst2_new e1 e2 _ _ 29 _ BH.out).mono ?_;rintro e w3 ⟨rfl,hn⟩;rw[HR.out];replace BA:=bW BA hn;replace HN:=tW HN hn;clear hn;refine hK.out _ _ (fun _=>cW2 BA) ?_;clear hK K
 try simp only[PT]
 refine tlW ?_;obtain ⟨pa0,pa1,pa2,pa3,pa4⟩:=BA.out.two;go_wp2_with fail;go_ret;exact ⟨rfl,HN.out⟩
def leqF (x y:Nat):Bool:=FloatKind.f32.format.order x y==some Ordering.lt || FloatKind.f32.format.order x y==some Ordering.eq
def keepF (lo hi:Nat)(v:Bool)(x:Nat):Bool:=if geqF x hi then true else if leqF x lo then false else v
theorem keep1_calls (x lo hi:Nat)(v:Bool)(A B:Nat)(W:World)(h0:W.cell? ⟨A,0,none⟩=some (.float .f32 lo))(h1:W.cell? ⟨A,1,none⟩=some (.float .f32 hi))(hv:W.cell? ⟨B,0,none⟩=some (.bool v))(hf:W.frozen? ⟨B,0,none⟩=false):
  Calls Tryz.prog 172 #[.float .f32 x,.pointer (some ⟨A,0,none⟩),.pointer (some ⟨B,0,none⟩)] W fun e W'=>e=.returned (.bool (keepF lo hi v x))∧(W'=W∨W'=W.setCell ⟨B,0,none⟩ (.bool (keepF lo hi v x)))∧W'.cell? ⟨B,0,none⟩=some (.bool (keepF lo hi v x)):=by
 obtain ⟨r,hr⟩:∃ r,keepF lo hi v x=r:=⟨_,rfl⟩;rw[hr];unfold keepF at hr
 cases hg:geqF x hi with
 | true=>
  rw[hg,if_pos rfl]at hr;subst hr;unfold geqF at hg;go_enter Tryz.func172,Tryz.ntmps172;go_wp2_with fail;go_ret;exact ⟨rfl,.inr rfl,World.cell?_setCell_same' W _ _ (by rw[hv];rfl)⟩
 | false=>
  rw[hg,if_neg (by decide)]at hr;unfold geqF at hg
  cases hl:leqF x lo with
  | true=>
   rw[hl,if_pos rfl]at hr;subst hr;unfold leqF at hl;go_enter Tryz.func172,Tryz.ntmps172;go_wp2_with fail;go_ret;exact ⟨rfl,.inr rfl,World.cell?_setCell_same' W _ _ (by rw[hv];rfl)⟩
  | false=>
   rw[hl,if_neg (by decide)]at hr;subst hr;unfold leqF at hl;go_enter Tryz.func172,Tryz.ntmps172;go_wp2_with fail;go_ret;exact ⟨rfl,.inl rfl,hv⟩
structure NewX (B:Nat)(w w':World):Prop where
 a:w'.os=w.os
 b:w'.tape=w.tape
 c:w'.output=w.output
 size:w.heap.size≤w'.heap.size
 block:∀ j,j < w.heap.size→j≠B→w'.heap[j]?=w.heap[j]?
theorem NewX.refl (B:Nat)(w:World):NewX B w w:=⟨rfl,rfl,rfl,Nat.le_refl _,fun _ _ _=>rfl⟩
theorem NewX.trans {B:Nat}{w w' w'':World}(h:NewX B w w')(h':NewX B w' w''):NewX B w w'':=
 ⟨h'.a.trans h.a,h'.b.trans h.b,h'.c.trans h.c,Nat.le_trans h.size h'.size,fun j hj hB=>(h'.block j (Nat.lt_of_lt_of_le hj h.size) hB).trans (h.block j hj hB)⟩
theorem NewX.set (B:Nat)(w:World)(i:Nat)(u:Value):NewX B w (w.setCell ⟨B,i,none⟩ u):=by
 refine ⟨rfl,rfl,rfl,by simp,fun j _ hj=>?_⟩;show (w.heap.modify B _)[j]?=_;rw[Array.getElem?_modify,if_neg (by exact fun h=>hj h.symm)]
theorem NewX.alloc (B:Nat)(w:World)(o:Obj):NewX B w (w.alloc o):=by
 have h:New w (w.alloc o):=(New.refl w).alloc o;exact ⟨h.1,h.2,h.3,h.4,fun j hj _=>h.5 j hj⟩
theorem Box.newX {w w':World}{A B:Nat}{t:TypeId}{cs:Array Value}(h:Box w A t cs)(hn:NewX B w w')(hAB:A≠B):Box w' A t cs:=by
 have:=hn.block A h.lt hAB;unfold Box at h⊢;rw[this,h]
theorem own_newX {w w':World}{base B:Nat}{e:TypeId}{v:Value}{n:Nat}{xs:List Value}(h:w.ownsRow base e 1 v n xs)(hn:NewX B w w')(hB:B < base):w'.ownsRow base e 1 v n xs:=by
 refine ⟨h.1,?_⟩;rcases h.2 with h2 | ⟨g,cap,cur,h1,h2,h3,h4⟩
 ·exact .inl h2
 ·refine .inr ⟨g,cap,cur,h1,h2,?_,h4⟩
  have hlt:g < w.heap.size:=by
   rcases Nat.lt_or_ge g w.heap.size with h | h
   ·exact h
   ·rw[Array.getElem?_eq_none h] at h3;cases h3
  rw[hn.block g hlt (by omega),h3]
theorem keep1_box (x lo hi:Nat)(v:Bool)(A B:Nat)(t t':TypeId)(W:World)(hA:Box W A t #[.float .f32 lo,.float .f32 hi])(hB:Box W B t' #[.bool v]):
  Calls Tryz.prog 172 #[.float .f32 x,.pointer (some ⟨A,0,none⟩),.pointer (some ⟨B,0,none⟩)] W fun e W'=>e=.returned (.bool (keepF lo hi v x))∧NewX B W W'∧Box W' B t' #[.bool (keepF lo hi v x)]:=by
 refine (keep1_calls x lo hi v A B W (hA.cell 0) (hA.cell 1) (hB.cell 0) (hB.frozen 0)).mono fun e W' h=>⟨h.1,?_⟩;obtain ⟨-,h2,h3⟩:=h;rcases h2 with rfl | rfl
 ·refine ⟨NewX.refl _ _,?_⟩;rw[hB.cell 0] at h3
  have h4:(Value.bool v)=.bool (keepF lo hi v x):=by simpa using h3
  rw[←h4];exact hB
 ·exact ⟨NewX.set _ _ _ _,hB.set 0 _⟩
def keepL (lo hi:Nat)(v:Bool):List Nat→List Bool
 | []=>[]
 | x::l=>keepF lo hi v x::keepL lo hi (keepF lo hi v x) l
theorem keepL_snoc (lo hi:Nat)(l:List Nat):∀ (v:Bool) (x:Nat),keepL lo hi v (l ++ [x])=keepL lo hi v l ++ [keepF lo hi (lastB v (keepL lo hi v l)) x]:=by
 induction l with
 | nil=>intro v x;rfl
 | cons y l ih=>
  intro v x;show keepF lo hi v y::keepL lo hi (keepF lo hi v y) (l ++ [x])=keepF lo hi v y::keepL lo hi (keepF lo hi v y) l ++ _;rw[ih];rfl
theorem keepL_len (lo hi:Nat)(l:List Nat):∀ (v:Bool),(keepL lo hi v l).length=l.length:=by
 induction l with
 | nil=>intro v;rfl
 | cons y l ih=>intro v;show (keepL lo hi _ l).length+1=l.length+1;rw[ih]
theorem own_ne {w:World}{base j:Nat}{e:TypeId}{v:Value}{n:Nat}{xs:List Value}(h:w.ownsRow base e 1 v n xs)(hj:j < base):some j≠v.ownBlock:=by
 rcases h.2 with ⟨rfl,_⟩ | ⟨g,cap,cur,rfl,hb,_⟩
 ·intro h;cases h
 ·intro h;injection h with h;simp only at h;omega
theorem grown_newX {w wr w1:World}{B:Nat}{o:Obj}{v:Value}{e:TypeId}{n:Nat}{xs:List Value}(hn:NewX B w wr)(h:wr.ownsRow w.heap.size e 1 v n xs)(hg:(wr.alloc o).grownBy w1 v.ownBlock):NewX B w w1:=by
 have h2:=hn.trans (NewX.alloc B wr o);exact ⟨hg.os.trans h2.a,hg.tape.trans h2.b,hg.output.trans h2.c,Nat.le_trans h2.size hg.size,fun j hj hB=>(hg.block j (Nat.lt_of_lt_of_le hj h2.size) (own_ne h hj)).trans (h2.block j hj hB)⟩
theorem Box.grown {w wr w1:World}{B:Nat}{t:TypeId}{cs:Array Value}{o:Obj}{v:Value}{e:TypeId}{n:Nat}{xs:List Value}(hb:Box wr B t cs)(hB:B < w.heap.size)(h:wr.ownsRow w.heap.size e 1 v n xs)(hg:(wr.alloc o).grownBy w1 v.ownBlock):Box w1 B t cs:=by
 have h1:=hb.new ((New.refl wr).alloc o);have:=hg.block B h1.lt (own_ne h hB);unfold Box at h1⊢;rw[this,h1]
theorem NewX.cell {B:Nat}{w w':World}(h:NewX B w w'){b o:Nat}{v:Value}(hc:w.cell? ⟨b,o,none⟩=some v)(hb:b≠B):w'.cell? ⟨b,o,none⟩=some v:=by
 rw[World.cell?_of_block (a:=⟨b,o,none⟩) (h.block b (lt_of_cell hc) hb)];exact hc
theorem keep_next {lo hi:Nat}{v:Bool}{xs:List Nat}{k:Nat}(hk:k < xs.length){y:Bool}{x:Nat}(hy:lastB v (keepL lo hi v (xs.take k))=y)(hx:xs[k]=x):
  keepL lo hi v (xs.take (k+1))=keepL lo hi v (xs.take k) ++ [keepF lo hi y x]∧lastB v (keepL lo hi v (xs.take (k+1)))=keepF lo hi y x:=by
 have h1:keepL lo hi v (xs.take (k+1))=keepL lo hi v (xs.take k) ++ [keepF lo hi y x]:=by
  rw[List.take_succ_eq_append_getElem hk,keepL_snoc,hy,hx]
 exact ⟨h1,by rw[h1,lastB_snoc]⟩
def RowX (B:Nat)(w:World)(e:TypeId)(xs:List Value)(en:Ending)(w':World):Prop:=∃ v,en=.returned v∧NewX B w w'∧w'.ownsRow w.heap.size e 1 v xs.length xs
theorem mapped_keep (a:Option Addr) (cap:Nat) (xs:List Nat) (lo hi:Nat) (v0:Bool) (A B:Nat) (t t':TypeId) (w:World) (hl:xs.length≤4096) (hr:RdL w a (flts xs)) (hA:Box w A t #[.float .f32 lo,.float .f32 hi]) (hB:Box w B t' #[.bool v0])
  (hAB:A≠B) (hab:xs.length≠0→∀ b off,a=some ⟨b,off,none⟩→b≠B):
  Calls Tryz.prog 114 #[.slice a xs.length cap,.func (.func 172) #[] #[.pointer (some ⟨A,0,none⟩),.pointer (some ⟨B,0,none⟩)]] w (RowX B w 4 (bools (keepL lo hi v0 xs))):=by
 obtain ⟨i0,hi0,hz0,hz1,hz2⟩:=info_parts info_bool
 have hli:(xs.length:Int)≤4096:=by omega
 have hBl:=hB.lt;have HR:=hid hr;have HA:=hid hA;have HAB:=hid hAB;have HAB2:=hid hab;have HBL:=hid hBl;have HB:=hid hB;clear hr hA hAB hab hBl hB;go_enter Tryz.func114,Tryz.ntmps114;go_wp2_with fail;go_loopw [5,10] (fun v i wr=>∃ (k:Nat) (y:Bool),k≤xs.length∧i=.int .i64 (k:Int)∧Hid (lastB v0 (keepL lo hi v0 (xs.take k))=y)∧Hid (wr.ownsRow w.heap.size 4 1 v (bools (keepL lo hi v0 (xs.take k))).length (bools (keepL lo hi v0 (xs.take k))))∧Hid (NewX B w wr)∧Hid (Box wr B t' #[.bool y])) (fun _ i _=>xs.length - (intOf i).toNat)
 case atStart=>exact ⟨0,v0,Nat.zero_le _,rfl,hid rfl,hid (World.ownsRow_nil _ _ _ _),hid (NewX.refl _ _),HB⟩
 case round=>
  obtain ⟨k,y,hk,rfl,HY,HO,HN,HBX⟩:=hrel;by_cases hlt:k < xs.length
  ·obtain ⟨b,off,rfl,hcell⟩:=HR.out.flt k hlt;have hcell:=HN.out.cell hcell (HAB2.out (by omega) _ _ rfl);obtain ⟨x,hx⟩:∃ x,xs[k]=x:=⟨_,rfl⟩;have hnx:=keep_next hlt HY.out hx;have hnx1:=hnx.1;have hnx2:=hnx.2;rw[hx] at hcell;have hcall:=fun W h1 h2=>keep1_box x lo hi y A B t t' W h1 h2;obtain ⟨r,hrr⟩:∃ r,keepF lo hi y x=r:=⟨_,rfl⟩;rw[hrr] at hnx1 hnx2;simp only[hrr] at hcall
   have hle:(bools (keepL lo hi v0 (xs.take k))).length=k:=by simp[bools,keepL_len];omega
   have h1:∀ u∈[Value.bool r],u.oneCell'=true:=by intro u hu;simp at hu;rw[hu];rfl
   clear hnx;have HCALL:=hid hcall;have HXX:=hid hx;have HRR:=hid hrr;have HNX1:=hid hnx1;have HNX2:=hid hnx2;have HLE:=hid hle;have H1:=hid h1;clear hcall hx hrr hnx1 hnx2 hle h1;go_wp2_with fail;refine (HCALL.out _ (HA.out.newX HN.out HAB.out) HBX.out).mono ?_;rintro e w1 ⟨rfl,hn,hbx⟩;have hO:=own_newX HO.out hn HBL.out;have hN:=HN.out.trans hn;clear HO HN hcell HBX;have HO:=hid hO;have HN:=hid hN;have HN0:=hid hn;have HBX:=hid hbx;clear hO hN hn hbx;go_wp2_with (at_builtin;refine wpList_append_own _ rfl _ _ 96 rfl w.heap.size 4 i0 (.bool false) 1 1 Tryz.underlying96 hi0 hz0 hz1 hz2 rfl (by decide) _ _ _ rfl (HO.out.alloc _) ⟨w1.heap.size,0,none⟩ 1 1 [Value.bool r] rfl rfl (one_c1 _ _ _) H1.out (by have:=HLE.out;unfold maxLen;omega) (by have:=HLE.out;omega) (by have:=HN.out.size;rw[←size_alloc];omega) ?_);intro v' w2 hown' hgrow _;have hN1:=grown_newX HN.out HO.out hgrow;have hB1:=HBX.out.grown HBL.out HO.out hgrow
   have hO1:w2.ownsRow w.heap.size 4 1 v' (bools (keepL lo hi v0 (xs.take (k+1)))).length (bools (keepL lo hi v0 (xs.take (k+1)))):=by
    rw[HNX1.out]
    have:bools (keepL lo hi v0 (xs.take k) ++ [r])=bools (keepL lo hi v0 (xs.take k)) ++ [.bool r]:=by simp[bools]
    rw[this];simpa using hown'
   clear hown' hgrow;have HN1:=hid hN1;have HO1:=hid hO1;have HB1:=hid hB1;clear hN1 hO1 hB1;go_wp2_with fail;go_roundw
   case rel=>exact ⟨k+1,r,by omega,by go_num,HNX2,HO1,HN1,HB1⟩
   case measure=>simp[intOf];omega
  ·have hkk:k=xs.length:=by omega
   have hO:=HO.out;rw[hkk,List.take_length] at hO;have HKK:=hid hkk;have HOO:=hid hO;clear hkk hO;go_wp2_with fail;go_ret;exact ⟨_,rfl,HN.out,HOO.out⟩
theorem keeper_calls (lo hi:Nat)(v:Bool)(w:World):Calls Tryz.prog 115 #[.agg #[.float .f32 lo,.float .f32 hi],.bool v] w fun e w'=>∃ A B:Nat,e=.returned (.func (.func 172) #[] #[.pointer (some ⟨A,0,none⟩),.pointer (some ⟨B,0,none⟩)])∧New w w'∧w.heap.size≤A∧w.heap.size≤B∧A≠B∧Box w' A 100 #[.float .f32 lo,.float .f32 hi]∧Box w' B 4 #[.bool v]:=by
 go_enter Tryz.func115,Tryz.ntmps115;go_wp2_with fail;obtain ⟨BA,BB,HN⟩:=lay2 w 100 #[.float .f32 lo,.float .f32 hi] 4 #[.bool v];go_ret;exact ⟨_,_,rfl,HN.out,Nat.le_refl _,Nat.le_add_right _ _,by omega,BA.out,BB.out⟩
def levelsErr (lo hi:Nat):Int:=if samplesErr [lo,hi]=0 then (if geqF lo hi then 11 else 0) else samplesErr [lo,hi]
def digitalErr (xs:List Nat)(lo hi:Nat):Int:=if samplesErr xs=0 then levelsErr lo hi else samplesErr xs
theorem digital_ok (a:Option Addr)(cap:Nat)(xs:List Nat)(lo hi:Nat)(v:Bool)(w:World)(hl4:xs.length≤4096)(hr:RdL w a (flts xs))(h0:digitalErr xs lo hi=0):
  Calls Tryz.prog 57 #[.slice a xs.length cap,.agg #[.float .f32 lo,.float .f32 hi],.bool v] w (RowPost w 4 (bools (keepL lo hi v xs)) 0):=by
 have hl:xs.length≤9223372036854775807:=by omega
 obtain ⟨e1,he1⟩:∃ e1,samplesErr xs=e1:=⟨_,rfl⟩;obtain ⟨e2,he2⟩:∃ e2,levelsErr lo hi=e2:=⟨_,rfl⟩;have hs:=fun W (h:New w W)=>samples_new a cap xs W hl (hr.new h);have hv:=fun W=>levels_calls lo hi W;change ∀ W,Calls Tryz.prog 113 #[.agg #[.float .f32 lo,.float .f32 hi]] W (RetNew W (levelsErr lo hi)) at hv;simp only[he1] at hs;simp only[he2] at hv;obtain ⟨r,hr1⟩:∃ r,(if e1=0 then e2 else e1)=r:=⟨_,rfl⟩
 have hrr:r=digitalErr xs lo hi:=by
  rw[←hr1,←he1,←he2];rfl
 rw[←hrr]at h0
 have ht:(r != 0)=false:=by rw[h0];rfl
 have hab:∀ B,w.heap.size≤B→xs.length≠0→∀ b off,a=some ⟨b,off,none⟩→b≠B:=by
  intro B hB hx b off hab;obtain ⟨b',off',h1,h2⟩:=hr.flt 0 (by omega);rw[hab] at h1;injection h1 with h1;injection h1 with h1 h3;have:=lt_of_cell h2;simp only at this;omega
 clear hl;have HE1:=hid he1;have HE2:=hid he2;have HR1:=hid hr1;have HS:=hid hs;have HV:=hid hv;have HRR:=hid hrr;have H0:=hid h0;have HAB:=hid hab;have HR:=hid hr;clear he1 he2 hr1 hs hv hrr h0 hab hr;go_enter Tryz.func57,Tryz.ntmps57;go_wp2_with fail;obtain ⟨BA,HN⟩:=lay1 w 100 #[.float .f32 lo,.float .f32 hi];obtain ⟨p0,p1,p2,p3,p4⟩:=BA.out.two;clear p0 p1 p2 p3 p4;refine wp_region_T 6 (fun W=>W.cell? ⟨w.heap.size,0,none⟩=some (.float .f32 lo)∧W.cell? ⟨w.heap.size,1,none⟩=some (.float .f32 hi)) 7 #[false,false,false,false,false,false,false] rfl (by kernel_rfl) (by kernel_rfl) ?_;refine tk 0 (by exact cW2 BA) ?_
 try simp only[PT]
 refine tk 2 (by exact cW2 BA) ?_
 try simp only[PT]
 refine tk1 1 fun K hK=>?_;go_simp;refine (HS.out _ HN.out.drew).mono ?_;rintro e w1 ⟨rfl,hn⟩;have hn:=hn.undrew;replace BA:=bW BA hn;replace HN:=tW HN hn;clear hn;refine hK.out _ _ (fun _=>cW2 BA) ?_;clear hK K
 try simp only[PT]
 refine tk1 3 fun K hK=>?_;go_simp;refine (HV.out _).mono ?_;rintro e w2 ⟨rfl,hn⟩;replace BA:=bW BA hn;replace HN:=tW HN hn;clear hn;refine hK.out _ _ (fun _=>cW2 BA) ?_;clear hK K
 try simp only[PT]
 refine tk1 4 fun K hK=>?_;go_simp;have HN0:=HN;clear HN;obtain ⟨BG,HN⟩:=lay1 w2 29 #[.int .i64 e1,.int .i64 e2];replace BA:=hid (BA.out.new HN.out);have HN_:=HN0.out.trans HN.out;clear HN HN0;have HN:=hid HN_;clear HN_;refine hK.out _ _ (fun _=>cW2 BA) ?_;clear hK K
 try simp only[PT]
 refine tk1 5 fun K hK=>?_;go_simp;refine (pfirst2_new e1 e2 _ _ 29 _ BG.out).mono ?_;rintro e w3 ⟨rfl,hn⟩;rw[HR1.out];replace BA:=bW BA hn;replace HN:=tW HN hn;clear hn;refine hK.out _ _ (fun _=>cW2 BA) ?_;clear hK K
 try simp only[PT]
 refine tlW ?_;obtain ⟨p0,p1,p2,p3,p4⟩:=BA.out.two;go_wp2_with fail;refine (keeper_calls lo hi v _).mono ?_;rintro e w4 ⟨A,B,rfl,hn,hA,hB,hne,bA,bB⟩;have hsz:=HN.out.size
 have hA':w.heap.size≤A:=by omega
 have hB':w.heap.size≤B:=by omega
 clear hA hB hsz;clear p0 p1 p2 p3 p4;have BBA:=hid bA;have BBB:=hid bB;have HA:=hid hA';have HB:=hid hB';have HNE:=hid hne;clear bA bB hA' hB' hne;replace BA:=bW BA hn;replace HN:=tW HN hn;clear hn;go_wp2_with fail;refine (mapped_keep a cap xs lo hi v A B _ _ _ hl4 (HR.out.new HN.out) BBA.out BBB.out HNE.out (HAB.out B HB.out)).mono ?_;rintro e w5 ⟨u,rfl,hn,ho⟩;have ho':=World.ownsRow.mono ho HN.out.size
 have hN:New w w5:=by
  obtain ⟨a1,a2,a3,a4,a5⟩:=HN.out;exact ⟨hn.a.trans a1,hn.b.trans a2,hn.c.trans a3,Nat.le_trans a4 hn.size,fun j hj=>(hn.block j (Nat.lt_of_lt_of_le hj a4) (by have:=HB.out;omega)).trans (a5 j hj)⟩
 clear ho hn;have HO:=hid ho';have HN5:=hid hN;clear ho' hN;go_wp2_with fail;go_ret2;exact ⟨_,rfl,HN5.out,HO.out⟩
def blockErr (n:Nat):Int:=if 4096 < n then 5 else if n=16 then 0 else 2
theorem block_bad (a:Option Addr)(n cap:Nat)(w:World)(hn:n≤1000000)(h0:blockErr n≠0):
  Calls Tryz.prog 62 #[.slice a n cap] w fun e w'=>e=.returned (.tuple #[.agg (Array.replicate 16 (.int .u16 0)),.int .i64 (blockErr n)])∧New w w':=by
 obtain ⟨e1,he1⟩:∃ e1,fewErr n=e1:=⟨_,rfl⟩;have hfew:=fun W=>few_u16 a n cap W (by omega);rw[he1] at hfew
 have hne:n≠16:=by intro h;subst h;exact h0 rfl
 have hni:((n:Int) != 16)=true:=by rw[bne_iff_ne];omega
 obtain ⟨r,hr1⟩:∃ r:Int,(if e1=0 then 2 else e1)=r:=⟨_,rfl⟩
 have hrr:r=blockErr n:=by
  rw[←hr1,←he1];unfold fewErr blockErr;by_cases h:4096 < n
  ·rw[if_pos h,if_pos h];rfl
  ·rw[if_neg h,if_neg h,if_neg hne];rfl
 rw[←hrr]at h0⊢
 have ht:(r != 0)=true:=by simpa using h0
 have hz:(Array.replicate 16 (.int .u16 0):Array Value)=#[.int .u16 0,.int .u16 0,.int .u16 0,.int .u16 0,.int .u16 0,.int .u16 0,.int .u16 0,.int .u16 0,.int .u16 0,.int .u16 0,.int .u16 0,.int .u16 0,.int .u16 0,.int .u16 0,.int .u16 0,.int .u16 0]:=by rfl
 rw[hz];clear hz;have HE1:=hid he1;have HR1:=hid hr1;have HFEW:=hid hfew;have HRR:=hid hrr;have H0:=hid h0;have HNE:=hid hne;clear he1 hr1 hfew hrr h0 hne;go_enter Tryz.func62,Tryz.ntmps62;go_wp2_with fail;obtain ⟨BP,HN⟩:=lay1 w 113 #[.int .u16 0,.int .u16 0,.int .u16 0,.int .u16 0,.int .u16 0,.int .u16 0,.int .u16 0,.int .u16 0,.int .u16 0,.int .u16 0,.int .u16 0,.int .u16 0,.int .u16 0,.int .u16 0,.int .u16 0,.int .u16 0];refine (HFEW.out _).mono ?_;rintro e w1 ⟨rfl,hn⟩;replace BP:=bW BP hn;replace HN:=tW HN hn;clear hn;go_wp2_with fail;refine (pwhen_new true 2 _).mono ?_;rintro e w2 ⟨rfl,hn⟩;replace BP:=bW BP hn;replace HN:=tW HN hn;clear hn;go_wp2_with fail;have HN0:=HN;clear HN;obtain ⟨BG,HN⟩:=lay1 w2 29 #[.int .i64 e1,.int .i64 2];replace BP:=hid (BP.out.new HN.out);have HN_:=HN0.out.trans HN.out;clear HN HN0;have HN:=hid HN_;clear HN_;refine (pfirst2_new e1 2 _ _ 29 _ BG.out).mono ?_;rintro e w3 ⟨rfl,hn⟩;rw[HR1.out];replace BP:=bW BP hn;replace HN:=tW HN hn;clear hn;have p0:w3.cell? ⟨w.heap.size,0,none⟩=some (.int .u16 0):=BP.out.cell 0;have p1:w3.cell? ⟨w.heap.size,1,none⟩=some (.int .u16 0):=BP.out.cell 1;have p2:w3.cell? ⟨w.heap.size,2,none⟩=some (.int .u16 0):=BP.out.cell 2;have p3:w3.cell? ⟨w.heap.size,3,none⟩=some (.int .u16 0):=BP.out.cell 3;have p4:w3.cell? ⟨w.heap.size,4,none⟩=some (.int .u16 0):=BP.out.cell 4;have p5:w3.cell? ⟨w.heap.size,5,none⟩=some (.int .u16 0):=BP.out.cell 5;have p6:w3.cell? ⟨w.heap.size,6,none⟩=some (.int .u16 0):=BP.out.cell 6;have p7:w3.cell? ⟨w.heap.size,7,none⟩=some (.int .u16 0):=BP.out.cell 7;have p8:w3.cell? ⟨w.heap.size,8,none⟩=some (.int .u16 0):=BP.out.cell 8;have p9:w3.cell? ⟨w.heap.size,9,none⟩=some (.int .u16 0):=BP.out.cell 9;have p10:w3.cell? ⟨w.heap.size,10,none⟩=some (.int .u16 0):=BP.out.cell 10;have p11:w3.cell? ⟨w.heap.size,11,none⟩=some (.int .u16 0):=BP.out.cell 11;have p12:w3.cell? ⟨w.heap.size,12,none⟩=some (.int .u16 0):=BP.out.cell 12;have p13:w3.cell? ⟨w.heap.size,13,none⟩=some (.int .u16 0):=BP.out.cell 13;have p14:w3.cell? ⟨w.heap.size,14,none⟩=some (.int .u16 0):=BP.out.cell 14;have p15:w3.cell? ⟨w.heap.size,15,none⟩=some (.int .u16 0):=BP.out.cell 15;have q0:w3.frozen? ⟨w.heap.size,0,none⟩=false:=BP.out.frozen 0;have q1:w3.frozen? ⟨w.heap.size,1,none⟩=false:=BP.out.frozen 1;have q2:w3.frozen? ⟨w.heap.size,2,none⟩=false:=BP.out.frozen 2;have q3:w3.frozen? ⟨w.heap.size,3,none⟩=false:=BP.out.frozen 3;have q4:w3.frozen? ⟨w.heap.size,4,none⟩=false:=BP.out.frozen 4;have q5:w3.frozen? ⟨w.heap.size,5,none⟩=false:=BP.out.frozen 5;have q6:w3.frozen? ⟨w.heap.size,6,none⟩=false:=BP.out.frozen 6;have q7:w3.frozen? ⟨w.heap.size,7,none⟩=false:=BP.out.frozen 7;have q8:w3.frozen? ⟨w.heap.size,8,none⟩=false:=BP.out.frozen 8;have q9:w3.frozen? ⟨w.heap.size,9,none⟩=false:=BP.out.frozen 9;have q10:w3.frozen? ⟨w.heap.size,10,none⟩=false:=BP.out.frozen 10;have q11:w3.frozen? ⟨w.heap.size,11,none⟩=false:=BP.out.frozen 11;have q12:w3.frozen? ⟨w.heap.size,12,none⟩=false:=BP.out.frozen 12;have q13:w3.frozen? ⟨w.heap.size,13,none⟩=false:=BP.out.frozen 13;have q14:w3.frozen? ⟨w.heap.size,14,none⟩=false:=BP.out.frozen 14;have q15:w3.frozen? ⟨w.heap.size,15,none⟩=false:=BP.out.frozen 15;have l0:=BP.out.lt;go_wp2_with fail;refine bodyPost_ret (v:=.tuple #[.agg #[.int .u16 0,.int .u16 0,.int .u16 0,.int .u16 0,.int .u16 0,.int .u16 0,.int .u16 0,.int .u16 0,.int .u16 0,.int .u16 0,.int .u16 0,.int .u16 0,.int .u16 0,.int .u16 0,.int .u16 0,.int .u16 0],.int .i64 r]) (by simp[results,Tryz.results62,go_sem,p0,p1,p2,p3,p4,p5,p6,p7,p8,p9,p10,p11,p12,p13,p14,p15]) rfl ?_;refine ⟨rfl,?_⟩;have hN:=HN.out
 repeat (with_reducible refine New.setCell ?_ (Nat.le_refl _) _)
 exact hN
theorem aligned1_calls (x y:Nat)(w:World)(h:floatBits .add .f32 x 0=some y):Calls Tryz.prog 123 #[.float .f32 x] w fun e w'=>e=.returned (.float .f32 y)∧New w w':=by
 have hrun:=fun W=>run_float_arith (P:=Tryz.prog) W .add 35 .f32 x 0 y h;go_enter Tryz.func123,Tryz.ntmps123;go_wp2_with fail;go_ret;exact ⟨by first | rfl | trace_state,New.refl _⟩
theorem words1_calls (a a0:Option Addr)(n n0 c c0 m mc L B:Nat)(w:World)(hm:0 < m)(h1:w.cell? ⟨B,0,none⟩=some (.slice (some ⟨L,0,none⟩) m mc))(h2:w.cell? ⟨L,0,none⟩=some (.slice a0 n0 c0)):
  Calls Tryz.prog 118 #[.slice a n c,.pointer (some ⟨B,0,none⟩)] w fun e w'=>e=.returned (.bool (decide (n≠n0)))∧New w w':=by
 have hmi:(0:Int) < (m:Int):=by omega
 by_cases h:n=n0
 ·subst h
  have hb:((n:Int) != (n:Int))=false:=by simp
  go_enter Tryz.func118,Tryz.ntmps118;go_wp2_with fail;go_ret;exact ⟨ret_bool (by simp),New.refl _⟩
 ·have hb:((n:Int) != (n0:Int))=true:=by rw[bne_iff_ne];omega
  go_enter Tryz.func118,Tryz.ntmps118;go_wp2_with fail;go_ret;exact ⟨ret_bool (by simp[h]),New.refl _⟩
end Go.Proofs.YtbkcjmojgglbkaaGreatDoor
