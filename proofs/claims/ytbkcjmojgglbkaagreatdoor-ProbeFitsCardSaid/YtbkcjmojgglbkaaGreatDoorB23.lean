/- Part B23. -/
import Derived.Maps.AppendAt
import Derived.ChangeKeysEq
import Derived.Laws.StructEq
import Derived.Test.YtbkcjmojgglbkaaGreatDoorB22
namespace Go.Proofs.YtbkcjmojgglbkaaGreatDoor
open Go.RowKit Big Go.Shelf Go
open Go.Lib (hid)
set_option maxRecDepth 100000
set_option maxHeartbeats 8000000
attribute [local go_sem] Oper.semAt_some
theorem columns_calls (a:Option Addr)(n cap:Nat)(w:World):Calls Tryz.prog 119 #[.slice a n cap] w fun e w'=>e=.returned (.func (.func 174) #[] #[.pointer (some ⟨w.heap.size,0,none⟩)])∧w'=w.alloc (.cells #[.slice a n cap] 105):=by
 go_enter Tryz.func119,Tryz.ntmps119;go_wp2_with fail;go_ret;exact ⟨rfl,rfl⟩
def otherAt (m:Nat):Nat→List (List Bool)→Int
 | _,[]=> -1
 | k,x::l=>if x.length=m then otherAt m (k+1) l else (k:Int)
theorem otherAt_ok {m:Nat}:∀ (l:List (List Bool)) (k:Nat),(∀ x∈l,x.length=m)→otherAt m k l= -1:=by
 intro l
 induction l with
 | nil=>intro k _;rfl
 | cons x l ih=>
  intro k h;show (if x.length=m then otherAt m (k+1) l else (k:Int))= -1;rw[if_pos (h x (by simp))];exact ih _ fun y hy=>h y (by simp[hy])
theorem otherAt_drop {m:Nat}(ls:List (List Bool))(k:Nat)(h:k < ls.length):otherAt m k (ls.drop k)=if ls[k].length=m then otherAt m (k+1) (ls.drop (k+1)) else (k:Int):=by
 rw[List.drop_eq_getElem_cons h];rfl
theorem index_lines (L cap m:Nat) (rv:List Value) (ls:List (List Bool)) (B:Nat) (w:World) (hr:RdLL w (some ⟨L,0,none⟩) rv (ls.map bools)) (hl:ls.length≤1000000) (h0:0 < ls.length) (hm:ls[0].length=m)
  (hb:w.cell? ⟨B,0,none⟩=some (.slice (some ⟨L,0,none⟩) ls.length cap)):
  Calls Tryz.prog 173 #[.slice (some ⟨L,0,none⟩) ls.length cap,.func (.func 118) #[] #[.pointer (some ⟨B,0,none⟩)]] w fun e w'=>e=.returned (.int .i64 (otherAt m 0 ls))∧New w w':=by
 obtain ⟨N,hN⟩:∃ N,ls.length=N:=⟨_,rfl⟩;obtain ⟨b0,off0,a0,c0,hab0,hcell0, -, -⟩:=hr.at 0 (by simpa using h0);injection hab0 with hab0;injection hab0 with hab0 hab0';subst hab0 hab0'
 have hl0:((ls.map bools)[0]'(by simpa using h0)).length=m:=by simp[bools,hm]
 rw[hl0,Nat.add_zero]at hcell0;clear hl0;have hcl:=fun (W:World) (hn:New w W) (a:Option Addr) (n c:Nat)=>words1_calls a a0 n m c c0 ls.length cap L B W h0 (hn.cell hb) (hn.cell hcell0);rw[hN] at hl hb⊢
 have hNi:(N:Int)≤1000000:=by omega
 clear hm h0 hcell0 hb;have HR:=hid hr;have HCL:=hid hcl;have HN:=hid hN;clear hr hcl hN;go_enter Tryz.func173,Tryz.ntmps173;go_wp2_with fail;go_loopw [8] (fun i wr=>∃ (k:Nat),k≤N∧i=.int .i64 (k:Int)∧Hid (otherAt m k (ls.drop k)=otherAt m 0 ls)∧Hid (New w wr)) (fun i _=>N - (intOf i).toNat)
 case atStart=>exact ⟨0,Nat.zero_le _,rfl,hid rfl,hid (New.refl _)⟩
 case round=>
  obtain ⟨k,hk,rfl,HO,HNW⟩:=hrel;by_cases hlt:k < N
  ·have hkl:k < ls.length:=by rw[HN.out];exact hlt
   obtain ⟨b1,off1,a1,c1,hab1,hcell, -, -⟩:=HR.out.at k (by simpa using hkl);injection hab1 with hab1;injection hab1 with hab1 hab1';subst hab1 hab1';obtain ⟨x,hx⟩:∃ x,ls[k].length=x:=⟨_,rfl⟩
   have hxl:((ls.map bools)[k]'(by simpa using hkl)).length=x:=by simp[bools,hx]
   rw[hxl,Nat.zero_add]at hcell;replace hcell:=HNW.out.cell hcell;have hd:=otherAt_drop (m:=m) ls k hkl;rw[hx,HO.out] at hd;have hcall:=HCL.out wr HNW.out a1 x c1;clear hxl;by_cases he:x=m
   ·rw[if_pos he] at hd
    have hdec:decide (x≠m)=false:=by simpa using he
    rw[hdec]at hcall;have HD:=hid hd;have HX:=hid hx;have HCALL:=hid hcall;have HEQ:=hid he;have HDEC:=hid hdec;clear hd hx hcall he hdec;go_wp2_with fail;refine HCALL.out.mono ?_;rintro e w1 ⟨rfl,hn⟩;have hN2:=HNW.out.trans hn;clear hcell HNW hn;have HNW:=hid hN2;clear hN2;go_wp2_with fail;go_roundw
    case rel=>exact ⟨k+1,by omega,by go_num,hid HD.out.symm,HNW⟩
    case measure=>simp[intOf];omega
   ·rw[if_neg he] at hd
    have hdec:decide (x≠m)=true:=by simpa using he
    rw[hdec]at hcall;have HD:=hid hd;have HX:=hid hx;have HCALL:=hid hcall;have HEQ:=hid he;have HDEC:=hid hdec;clear hd hx hcall he hdec;go_wp2_with fail;refine HCALL.out.mono ?_;rintro e w1 ⟨rfl,hn⟩;have hN2:=HNW.out.trans hn;clear hcell HNW hn;have HNW:=hid hN2;clear hN2;go_wp2_with fail;go_ret;exact ⟨by rw[HD.out];rfl,HNW.out⟩
  ·have hkk:k=N:=by omega
   have ho:=HO.out;rw[List.drop_eq_nil_of_le (by rw[HN.out];omega)] at ho;have HO2:=hid ho;have HKK:=hid hkk;clear ho hkk;go_wp2_with fail;go_ret;exact ⟨by rw[←HO2.out];rfl,HNW.out⟩
theorem contains_lines (L cap m:Nat) (rv:List Value) (ls:List (List Bool)) (B:Nat) (w:World) (hr:RdLL w (some ⟨L,0,none⟩) rv (ls.map bools)) (hl:ls.length≤1000000) (h0:0 < ls.length) (hm:ls[0].length=m)
  (hb:w.cell? ⟨B,0,none⟩=some (.slice (some ⟨L,0,none⟩) ls.length cap)):
  Calls Tryz.prog 117 #[.slice (some ⟨L,0,none⟩) ls.length cap,.func (.func 118) #[] #[.pointer (some ⟨B,0,none⟩)]] w fun e w'=>e=.returned (.bool (decide (0≤otherAt m 0 ls)))∧New w w':=by
 have hi:=index_lines L cap m rv ls B w hr hl h0 hm hb;obtain ⟨r,hr2⟩:∃ r,otherAt m 0 ls=r:=⟨_,rfl⟩;rw[hr2] at hi⊢;clear hr hm hb hr2;have HI:=hid hi;have H0:=hid h0;clear hi h0;go_enter Tryz.func117,Tryz.ntmps117;go_wp2_with fail;refine HI.out.mono ?_;rintro e w1 ⟨rfl,hn⟩;go_wp2_with fail;go_ret;exact ⟨rfl,hn⟩
theorem words_snoc (l:List Nat)(x:Nat):words (l ++ [x])=words l ++ [.int .u16 (x:Int)]:=by simp[words]
theorem words_len (l:List Nat):(words l).length=l.length:=by simp[words]
def bodyNP (F:Fence)(n:Nat)(P:Program)(fn:Func)(R:Ending→World→Prop):Exit→Act→World→Prop
 | .normal,a,w | .ret,a,w=>LeavesInM F n P fn a.tmps R a.defers .returning w
 | _,_,_=>False
theorem bodyNP_M {F:Fence}{n:Nat}{P:Program}{fn:Func}{R:Ending→World→Prop}(e:Exit)(a:Act)(w:World)(h:bodyNP F n P fn R e a w):bodyPostM F n P fn R e a w:=by
 cases e <;> first | exact h | exact h.elim
theorem Words_ok (L cap m:Nat)(rv:List Value)(ls:List (List Bool))(w:World)(hr:RdLL w (some ⟨L,0,none⟩) rv (ls.map bools))(h1:1≤ls.length)(h16:ls.length≤16)(hm:∀ x∈ls,x.length=m)(hm4:m≤4096):
  Calls Tryz.prog 59 #[.slice (some ⟨L,0,none⟩) ls.length cap] w (RowPost w 112 (words (wordsOf ls m)) 0):=by
 have h0:ls[0].length=m:=hm _ (List.getElem_mem _);have hcont:=fun (W:World) (B:Nat) (hn:New w W) hb=>contains_lines L cap m rv ls B W (hr.new hn) (by omega) (by omega) h0 hb;rw[otherAt_ok ls 0 hm] at hcont;obtain ⟨b0,off0,a0,c0,hab0,hcell0, -, -⟩:=hr.at 0 (by simp;omega);injection hab0 with hab0;injection hab0 with hab0 hab0';subst hab0 hab0'
 have hl0:((ls.map bools)[0]'(by simp;omega)).length=m:=by simp[bools,h0]
 rw[hl0,Nat.add_zero]at hcell0;clear hl0;have hit:=fun (l Bn:Nat) (J Jx:List Nat→World→Prop) hY (W:World) (hn:New w W) hb h0=>columns1_in Fence.wide 8 trivial rfl (by omega) l Bn (some ⟨L,0,none⟩) cap m rv ls w hr hm h1 h16 hm4 J Jx hY W hn hb h0;obtain ⟨N,hN⟩:∃ N,ls.length=N:=⟨_,rfl⟩;rw[hN] at h1 h16;simp only[hN] at hcont hit;rw[hN]
 have hN1:(1:Int)≤(N:Int):=by omega
 have hN16:(N:Int)≤16:=by omega
 have hd1:((N:Int)==0)=false:=by rw[beq_eq_false_iff_ne];omega
 have hd2:decide ((16:Int) < (N:Int))=false:=by rw[decide_eq_false_iff_not];omega
 have hd3:decide ((4096:Int) < (m:Int))=false:=by rw[decide_eq_false_iff_not];omega
 have hdd:decide ((0:Int)≤ -1)=false:=by decide
 rw[hdd]at hcont;obtain ⟨i0,hi,hz0,hz1,hz2⟩:=info_parts info_u16;clear hr hm;have HCONT:=hid hcont;have HIT:=hid hit;have HC0:=hid hcell0;have HN0:=hid hN;have H0:=hid h0;clear hcont hit hcell0 hN h0;refine callsIn_wide.1 (callsIn_of_wp_marks (n:=9) Tryz.func59 rfl trivial ?_ rfl);rw[wpIn_wide];refine wp_mono (Q:=bodyNP Fence.wide 9 Tryz.prog Tryz.f59 (RowPost w 112 (words (wordsOf ls m)) 0)) ?_ bodyNP_M;simp only[Tryz.ntmps59,List.size_toArray,List.length_cons,List.length_nil,Nat.reduceAdd,Nat.reduceSub,Array.replicate_succ,Array.replicate_zero,List.push_toArray,List.append_toArray,List.nil_append,List.cons_append];go_wp2_with fail;obtain ⟨BA,HN⟩:=lay1 w 105 #[.slice (some ⟨L,0,none⟩) N cap];obtain ⟨p0,p1,p2⟩:=BA.out.one;clear p0 p1 p2;refine wp_region_T 10 (fun W=>W.cell? ⟨w.heap.size,0,none⟩=some (.slice (some ⟨L,0,none⟩) N cap)) 11 #[false,false,false,false,false,false,false,false,false,false,false] rfl (by kernel_rfl) (by kernel_rfl) ?_;refine tk 0 (by exact cW1 BA) ?_
 try simp only[PT]
 refine tk 1 (by exact cW1 BA) ?_
 try simp only[PT]
 refine tk 2 (by exact cW1 BA) ?_
 try simp only[PT]
 refine tk 4 (by exact cW1 BA) ?_
 try simp only[PT]
 refine tk 5 (by exact cW1 BA) ?_
 try simp only[PT]
 refine tk 6 (by exact cW1 BA) ?_
 try simp only[PT]
 refine tk1 3 fun K hK=>?_;go_simp;refine (pwhen_new false 12 _).mono ?_;rintro e w1 ⟨rfl,hn⟩;have hn:=hn.undrew;replace BA:=bW BA hn;replace HN:=tW HN hn;clear hn;refine hK.out _ _ (fun _=>cW1 BA) ?_;clear hK K
 try simp only[PT]
 refine tk1 7 fun K hK=>?_;go_simp;refine (pwhen_new false 5 _).mono ?_;rintro e w2 ⟨rfl,hn⟩;replace BA:=bW BA hn;replace HN:=tW HN hn;clear hn;refine hK.out _ _ (fun _=>cW1 BA) ?_;clear hK K
 try simp only[PT]
 refine tk1 8 fun K hK=>?_;go_simp;have HN0:=HN;clear HN;obtain ⟨BG,HN⟩:=lay1 w2 29 #[.int .i64 0,.int .i64 0];replace BA:=hid (BA.out.new HN.out);have HN_:=HN0.out.trans HN.out;clear HN HN0;have HN:=hid HN_;clear HN_;refine hK.out _ _ (fun _=>cW1 BA) ?_;clear hK K
 try simp only[PT]
 refine tk1 9 fun K hK=>?_;go_simp;refine (pfirst2_new 0 0 _ _ 29 _ BG.out).mono ?_;rintro e w3 ⟨rfl,hn⟩;replace BA:=bW BA hn;replace HN:=tW HN hn;clear hn;refine hK.out _ _ (fun _=>cW1 BA) ?_;clear hK K
 try simp only[]
 refine tlW ?_;obtain ⟨p0,p1,p2⟩:=BA.out.one;clear BG;go_wp2_with fail;refine (HCONT.out _ w.heap.size HN.out p0).mono ?_;rintro e w4 ⟨rfl,hn⟩;clear p0 p1 p2;replace BA:=bW BA hn;replace HN:=tW HN hn;clear hn;obtain ⟨p0,p1,p2⟩:=BA.out.one;have hc0:=HN.out.cell HC0.out;go_wp2_with fail;refine (pwhen_new false 5 _).mono ?_;rintro e w5 ⟨rfl,hn⟩;clear hc0;clear p0 p1 p2;replace BA:=bW BA hn;replace HN:=tW HN hn;clear hn;go_wp2_with fail;refine (pwhen_new false 2 _).mono ?_;rintro e w6 ⟨rfl,hn⟩;replace BA:=bW BA hn;replace HN:=tW HN hn;clear hn;go_wp2_with fail;have HN0:=HN;clear HN;obtain ⟨BG,HN⟩:=lay1 w6 29 #[.int .i64 0,.int .i64 0];replace BA:=hid (BA.out.new HN.out);have HN_:=HN0.out.trans HN.out;clear HN HN0;have HN:=hid HN_;clear HN_;refine (pfirst2_new 0 0 _ _ 29 _ BG.out).mono ?_;rintro e w7 ⟨rfl,hn⟩;replace BA:=bW BA hn;replace HN:=tW HN hn;clear hn;clear BG;obtain ⟨p0,p1,p2⟩:=BA.out.one;go_wp2_with fail;clear p0 p1 p2;have hN7:=HN.out;have hB7:Below w.heap.size w (w7.alloc (.cells #[.slice none 0 0] 102)):=hN7.alloc _;refine (columns_calls _ _ _ _).mono ?_;rintro e w8 ⟨rfl,rfl⟩;go_wp2_with fail;have bO:=(Boxed.new w7 102 (.slice none 0 0)).alloc (.cells #[.slice (some ⟨L,0,none⟩) N cap] 105);have bN:=Boxed.new (w7.alloc (.cells #[.slice none 0 0] 102)) 105 (.slice (some ⟨L,0,none⟩) N cap);rw[World.size_alloc] at bN;have hB8:Below w.heap.size w ((w7.alloc (.cells #[.slice none 0 0] 102)).alloc (.cells #[.slice (some ⟨L,0,none⟩) N cap] 105)):=(hN7.alloc _).alloc _
 have hsz:((w7.alloc (.cells #[.slice none 0 0] 102)).alloc (.cells #[.slice (some ⟨L,0,none⟩) N cap] 105)).heap.size=w7.heap.size+1+1:=by simp
 obtain ⟨w8,hw8⟩:∃ x,(w7.alloc (.cells #[.slice none 0 0] 102)).alloc (.cells #[.slice (some ⟨L,0,none⟩) N cap] 105)=x:=⟨_,rfl⟩;rw[hw8] at bO bN hB8 hsz⊢;obtain ⟨Bo,hBo⟩:∃ x,w7.heap.size=x:=⟨_,rfl⟩;have hws:w.heap.size≤w7.heap.size:=hN7.size;rw[hBo] at bO bN hsz hws⊢;clear hw8
 have hmi:(m:Int)≤4096:=by omega
 refine (wpIn_wide (n:=9)).1 ?_
 refine wpIn_rangeFunc_ownG (F:=Fence.wide) (n:=9) (P:=Tryz.prog) (w:=w8) (a:=?fr) (g:=.tmp 39) (ps:=#[40]) rfl (by omega) (gf:=174) (lb:=#[.pointer (some ⟨Bo+1,0,none⟩)]) ?hg trivial (enters_of Tryz.func174 (by kernel_rfl) rfl)
  (encs:=fun x:Nat=>#[.int .u16 (x:Int)]) (Kp:=KeepW w.heap.size (Bo+1)) (S:=fun ys=>ys=wordsOf ls m) (Sp:=fun pre=>pre <+:wordsOf ls m) (N:=m) (w0:=w8)
  (fun l J Jx W hW _ _ hY h0=>HIT.out l (Bo+1) J Jx hY W (New.trans hB8 hW) ((hW.cell (p:=⟨Bo+1,0,none⟩) (by show Bo+1 < _;omega)).trans bN.cell) h0)
  KeepW.t (KeepW.b (by omega) (by omega)) (Below.refl _ _) (fun _=>rfl)
  (fun pre W=>(∃ v,Boxed W Bo 102 v∧W.ownsRow w.heap.size 112 1 v pre.length (words pre)∧True)∧Boxed W (Bo+1) 105 (.slice (some ⟨L,0,none⟩) N cap)∧Below w.heap.size w W)
  (fun _ _ _=>False)
  ?hI
  (fun _ _ _ _ _ hs _ _=>hs)
  ⟨⟨_,bO,World.ownsRow_nil _ _ _ _,trivial⟩,bN,hB8⟩
  (fun x=>{tmps:=((?fr:Act).tmps.setIfInBounds 40 (.int .u16 (x:Int))).setIfInBounds 8 (.int .u16 (x:Int)),defers:=[]}) ?assign ?body ?done ?stop
 case hg=>rfl
 case hI=>exact OwnFrom.and (Own.from (holdsRow_own w.heap.size Bo 102 112 1 (fun pre=>pre.length) (fun pre=>words pre) (fun _ _=>True)) _) (OwnFrom.and (Own.from (boxed_own (Bo+1) 105 fun _=>.slice (some ⟨L,0,none⟩) N cap) _) (ownFrom_below (Nat.le_refl _) (by omega)))
 case assign=>
  intro l x W K hK
  gi_wp2
  exact hK
 case body=>
  rintro l pre x W ⟨⟨v,hv,hrow, -⟩,hBn,hB⟩ hlt;have hc:=hv.cell;have hf:=hv.frozen
  have hli:(pre.length:Int)≤4096:=by omega
  simp only[List.setIfInBounds_toArray,List.set_cons_zero,List.set_cons_succ]
  gi_wp2_with (gi_at_builtin;refine wpListIn_append_own _ rfl _ _ 102 rfl w.heap.size 112 i0 (.int .u16 0) 1 2 Tryz.underlying102 hi hz0 hz1 hz2 rfl (by decide) _ _ _ rfl (hrow.alloc _) ⟨W.heap.size,0,none⟩ 1 1 [.int .u16 (x:Int)] rfl rfl (cell_one_new _ _ _) (by simp[Value.oneCell']) (by unfold maxLen;omega) (by omega) (by have:=hB.size;simp;omega) ?_;intro v' w1 hown' hgrow _;obtain ⟨g',cap',rfl⟩:=ownsRow_succ hown';obtain ⟨hv1,hv2,hr2,hk2,hb2⟩:=hv.appended (by decide) hrow hB.size hws hown' hgrow;have hc1:=hv1.cell;have hf1:=hv1.frozen)
  have hBn1:=((hBn.alloc _).kept hgrow (hBn.not_row (by decide) hrow)).other (B':=Bo) (by omega) (.slice (some ⟨g',0,none⟩) (pre.length+1) cap');refine ⟨hk2.from _,⟨hb2,(show _=_ from hBn1).trans (show W.heap[Bo+1]?=_ from hBn).symm⟩,⟨_,hv2,?_,trivial⟩,hBn1,hB.trans hb2⟩;rw[words_snoc,List.length_append];exact hr2
 case done=>
  rintro D ys W hD rfl ⟨⟨v,hv,hrow, -⟩, -,hB⟩ hK;have hc:=hv.cell;have hwl:(wordsOf ls m).length=(words (wordsOf ls m)).length:=(words_len _).symm;go_wp2_with fail;refine ⟨by simp,.inl ⟨_,_,rfl,run_takeDeferred hK,?_⟩⟩;refine ⟨_,results_tmp2 rfl _ _ _,_,rfl,hB.trans (belowK_b (w:=w) (Nat.le_refl _) W D _ _ (by omega) hK rfl rfl),?_⟩;rw[←hwl];exact ownsRow_putObj hrow _ hK rfl
 case stop=>
  rintro D c pre W _ _ h _;exact h.elim
theorem RdL.u16 {w:World}{a:Option Addr}{l:List Nat}(h:RdL w a (words l))(i:Nat)(hi:i < l.length):∃ b off,a=some ⟨b,off,none⟩∧w.cell? ⟨b,off+i,none⟩=some (.int .u16 (l[i]:Nat)):=by
 obtain ⟨b,off,e,hc⟩:=h i (by simpa[words] using hi);exact ⟨b,off,e,by rw[hc];simp[words]⟩
theorem same_ints (a b:Option Addr)(cap cap':Nat)(xs ys:List Int)(w:World)(hl:xs.length≤1000000)(hlen:ys.length=xs.length)(hr1:RdL w a (ints xs))(hr2:RdL w b (ints ys))(hs:∀ (k:Nat) (h:k < xs.length) (h':k < ys.length),(fun x y:Int=>x != y) xs[k] ys[k]=false):
  Calls Tryz.prog 38 #[.slice a xs.length cap,.slice b ys.length cap'] w fun e w'=>e=.returned (.bool true)∧New w w':=by
 obtain ⟨n,hn⟩:∃ n,xs.length=n:=⟨_,rfl⟩;rw[hlen];rw[hn] at hl hlen⊢
 have hni:(n:Int)≤1000000:=by omega
 have hnn:((n:Int) != (n:Int))=false:=by simp
 have HR1:=hid hr1;have HR2:=hid hr2;have HS:=hid hs;have HN0:=hid hn;have HLEN:=hid hlen;clear hr1 hr2 hs hn hlen;go_enter Tryz.func38,Tryz.ntmps38;go_wp2_with fail;go_loopw [5] (fun i wr=>∃ (k:Nat),k≤n∧i=.int .i64 (k:Int)∧Hid (New w wr)) (fun i _=>n - (intOf i).toNat)
 case atStart=>exact ⟨0,Nat.zero_le _,rfl,hid (New.refl _)⟩
 case round=>
  obtain ⟨k,hk,rfl,HN⟩:=hrel;by_cases hlt:k < n
  ·have h1:k < xs.length:=by rw[HN0.out];exact hlt
   have h2:k < ys.length:=by rw[HLEN.out];exact hlt
   obtain ⟨b1,off1,rfl,hc1⟩:=HR1.out.int k h1;obtain ⟨b2,off2,rfl,hc2⟩:=HR2.out.int k h2;have hsame:=HS.out k h1 h2;obtain ⟨x,hx⟩:∃ x,xs[k]=x:=⟨_,rfl⟩;obtain ⟨y,hy⟩:∃ y,ys[k]=y:=⟨_,rfl⟩;rw[hx] at hc1;rw[hy] at hc2;rw[hx,hy] at hsame;replace hc1:=HN.out.cell hc1;replace hc2:=HN.out.cell hc2;have HX:=hid hx;have HY:=hid hy;clear hx hy;go_wp2_with fail
   go_quiet (fail)
   go_wp2_with fail;go_roundw
   case rel=>exact ⟨k+1,by omega,by go_num,hid (HN.out.drewN nq)⟩
   case measure=>simp[intOf];omega
  ·have hkk:k=n:=by omega
   have HKK:=hid hkk;clear hkk;go_wp2_with fail;go_ret;exact ⟨rfl,HN.out⟩
theorem same_words (a b:Option Addr)(cap cap':Nat)(xs ys:List Nat)(w:World)(hl:xs.length≤1000000)(hlen:ys.length=xs.length)(hr1:RdL w a (words xs))(hr2:RdL w b (words ys))(hs:∀ (k:Nat) (h:k < xs.length) (h':k < ys.length),(fun x y:Nat=>(x:Int) != (y:Int)) xs[k] ys[k]=false):
  Calls Tryz.prog 63 #[.slice a xs.length cap,.slice b ys.length cap'] w fun e w'=>e=.returned (.bool true)∧New w w':=by
 obtain ⟨n,hn⟩:∃ n,xs.length=n:=⟨_,rfl⟩;rw[hlen];rw[hn] at hl hlen⊢
 have hni:(n:Int)≤1000000:=by omega
 have hnn:((n:Int) != (n:Int))=false:=by simp
 have HR1:=hid hr1;have HR2:=hid hr2;have HS:=hid hs;have HN0:=hid hn;have HLEN:=hid hlen;clear hr1 hr2 hs hn hlen;go_enter Tryz.func63,Tryz.ntmps63;go_wp2_with fail;go_loopw [5] (fun i wr=>∃ (k:Nat),k≤n∧i=.int .i64 (k:Int)∧Hid (New w wr)) (fun i _=>n - (intOf i).toNat)
 case atStart=>exact ⟨0,Nat.zero_le _,rfl,hid (New.refl _)⟩
 case round=>
  obtain ⟨k,hk,rfl,HN⟩:=hrel;by_cases hlt:k < n
  ·have h1:k < xs.length:=by rw[HN0.out];exact hlt
   have h2:k < ys.length:=by rw[HLEN.out];exact hlt
   obtain ⟨b1,off1,rfl,hc1⟩:=HR1.out.u16 k h1;obtain ⟨b2,off2,rfl,hc2⟩:=HR2.out.u16 k h2;have hsame:=HS.out k h1 h2;obtain ⟨x,hx⟩:∃ x,xs[k]=x:=⟨_,rfl⟩;obtain ⟨y,hy⟩:∃ y,ys[k]=y:=⟨_,rfl⟩;rw[hx] at hc1;rw[hy] at hc2;rw[hx,hy] at hsame;replace hc1:=HN.out.cell hc1;replace hc2:=HN.out.cell hc2;have HX:=hid hx;have HY:=hid hy;clear hx hy;go_wp2_with fail
   go_quiet (fail)
   go_wp2_with fail;go_roundw
   case rel=>exact ⟨k+1,by omega,by go_num,hid (HN.out.drewN nq)⟩
   case measure=>simp[intOf];omega
  ·have hkk:k=n:=by omega
   have HKK:=hid hkk;clear hkk;go_wp2_with fail;go_ret;exact ⟨rfl,HN.out⟩
theorem same_floats (a b:Option Addr)(cap cap':Nat)(xs ys:List Nat)(w:World)(hl:xs.length≤1000000)(hlen:ys.length=xs.length)(hr1:RdL w a (flts xs))(hr2:RdL w b (flts ys))(hs:∀ (k:Nat) (h:k < xs.length) (h':k < ys.length),(fun x y:Nat=>FloatKind.f32.format.order x y != some Ordering.eq) xs[k] ys[k]=false):
  Calls Tryz.prog 37 #[.slice a xs.length cap,.slice b ys.length cap'] w fun e w'=>e=.returned (.bool true)∧New w w':=by
 obtain ⟨n,hn⟩:∃ n,xs.length=n:=⟨_,rfl⟩;rw[hlen];rw[hn] at hl hlen⊢
 have hni:(n:Int)≤1000000:=by omega
 have hnn:((n:Int) != (n:Int))=false:=by simp
 have HR1:=hid hr1;have HR2:=hid hr2;have HS:=hid hs;have HN0:=hid hn;have HLEN:=hid hlen;clear hr1 hr2 hs hn hlen;go_enter Tryz.func37,Tryz.ntmps37;go_wp2_with fail;go_loopw [5] (fun i wr=>∃ (k:Nat),k≤n∧i=.int .i64 (k:Int)∧Hid (New w wr)) (fun i _=>n - (intOf i).toNat)
 case atStart=>exact ⟨0,Nat.zero_le _,rfl,hid (New.refl _)⟩
 case round=>
  obtain ⟨k,hk,rfl,HN⟩:=hrel;by_cases hlt:k < n
  ·have h1:k < xs.length:=by rw[HN0.out];exact hlt
   have h2:k < ys.length:=by rw[HLEN.out];exact hlt
   obtain ⟨b1,off1,rfl,hc1⟩:=HR1.out.flt k h1;obtain ⟨b2,off2,rfl,hc2⟩:=HR2.out.flt k h2;have hsame:=HS.out k h1 h2;obtain ⟨x,hx⟩:∃ x,xs[k]=x:=⟨_,rfl⟩;obtain ⟨y,hy⟩:∃ y,ys[k]=y:=⟨_,rfl⟩;rw[hx] at hc1;rw[hy] at hc2;rw[hx,hy] at hsame;replace hc1:=HN.out.cell hc1;replace hc2:=HN.out.cell hc2;have HX:=hid hx;have HY:=hid hy;clear hx hy;go_wp2_with fail
   go_quiet (fail)
   go_wp2_with fail;go_roundw
   case rel=>exact ⟨k+1,by omega,by go_num,hid (HN.out.drewN nq)⟩
   case measure=>simp[intOf];omega
  ·have hkk:k=n:=by omega
   have HKK:=hid hkk;clear hkk;go_wp2_with fail;go_ret;exact ⟨rfl,HN.out⟩
section
variable {P:Program}
theorem run_items_ints (w:World)(d:Nat){e:TypeId}{q q':IntKind}(he:P.underlying e=some (.int q'))(hp:P.plainKey e=true)(xs ys:List Int):∀ is:List Nat,(∀ i∈is,i < xs.length∧i < ys.length)→
  (Op.eqItems (d+1) e 1 (xs.map (.int q)).toArray (ys.map (.int q)).toArray is).run P w=.ok (is.all fun i=>xs[i]?==ys[i]?) w
 | [],_=>by simp[Op.eqItems]
 | i::is,h=>by
  obtain ⟨h1,h2⟩:=h i (by simp);have p1:(part e (xs.map (Value.int q)).toArray (i*1)).run P w=.ok (.int q xs[i]) w:=run_part_plain w hp (by simp[h1]);have p2:(part e (ys.map (Value.int q)).toArray (i*1)).run P w=.ok (.int q ys[i]) w:=run_part_plain w hp (by simp[h2]);have ih:=run_items_ints (q:=q) w d he hp xs ys is (fun j hj=>h j (by simp[hj]))
  have hxy:(xs[i]?==ys[i]?)=(xs[i]==ys[i]):=by simp[h1,h2]
  simp only[Op.eqItems,Sem.run_bind,p1,p2,Result.andThen_ok,run_equalIn_int w d e q q' _ _ he,List.all_cons,hxy];by_cases hb:(xs[i]==ys[i])=true
  ·simp[hb,ih]
  ·simp at hb;simp[hb]
theorem run_equal_ints (w:World)(d:Nat){t e:TypeId}{n:Nat}{i:TypeInfo}{q q':IntKind}(xs ys:List Int)(hu:P.underlying t=some (.array n e))(hi:P.info? e=some i)(he:P.underlying e=some (.int q'))(hp:P.plainKey e=true)(hc:P.cellsOf e=1)(hx:xs.length=n)(hy:ys.length=n):
  (Op.equalIn (d+2) t (.agg (xs.map (.int q)).toArray) (.agg (ys.map (.int q)).toArray)).run P w=.ok ((List.range n).all fun i=>xs[i]?==ys[i]?) w:=by
 rw[run_equalIn_array w (d+1) _ _ hu hi,hc];exact run_items_ints w d he hp xs ys _ (fun j hj=>by simp at hj;omega)
end
theorem int_info:∃ i,Tryz.prog.info? 3=some i:=by
 obtain ⟨ii,hi,_⟩:=info_parts info_int;exact ⟨ii,hi⟩
theorem neq_pair (W:World)(a b c d:Int):(binOp .neq 95 (.agg #[.int .i64 a,.int .i64 b]) (.agg #[.int .i64 c,.int .i64 d])).run Tryz.prog W=.ok (.bool (!(a==c && b==d))) W:=by
 obtain ⟨ii,hi⟩:=int_info;have h:=run_equal_ints (P:=Tryz.prog) W 9998 (q:=.i64) [a,b] [c,d] Tryz.underlying95 hi Tryz.underlying3 (by kernel_rfl) (by kernel_rfl) rfl rfl;rw[run_neq_struct];have e1:(Value.agg ([a,b].map (Value.int .i64)).toArray)=.agg #[.int .i64 a,.int .i64 b]:=rfl;have e2:(Value.agg ([c,d].map (Value.int .i64)).toArray)=.agg #[.int .i64 c,.int .i64 d]:=rfl;rw[e1,e2] at h;rw[h];simp[List.range_succ]
theorem pairs_len (l:List (Nat × Nat)):(pairs l).length=2*l.length:=by
 induction l with
 | nil=>rfl
 | cons x l ih=>simp[pairs] at ih⊢;omega
theorem pairs_get:∀ (l:List (Nat × Nat)) (k:Nat) (h:k < l.length),(pairs l)[2*k]?=some (.int .i64 (l[k].1:Int))∧(pairs l)[2*k+1]?=some (.int .i64 (l[k].2:Int))
 | x::l,0,_=>by simp[pairs]
 | x::l,k+1,h=>by
  have:=pairs_get l k (by simpa using h)
  have e:pairs (x::l)=.int .i64 (x.1:Int)::.int .i64 (x.2:Int)::pairs l:=by simp[pairs]
  rw[e];simpa[Nat.mul_add] using this
theorem RdL.pair {w:World}{a:Option Addr}{l:List (Nat × Nat)}(h:RdL w a (pairs l))(k:Nat)(hk:k < l.length):∃ b off,a=some ⟨b,off,none⟩∧w.cell? ⟨b,off+k*2,none⟩=some (.int .i64 (l[k].1:Int))∧w.cell? ⟨b,off+k*2+1,none⟩=some (.int .i64 (l[k].2:Int)):=by
 have hl:=pairs_len l;obtain ⟨g1,g2⟩:=pairs_get l k hk
 have h1:2*k < (pairs l).length:=by omega
 have h2:2*k+1 < (pairs l).length:=by omega
 obtain ⟨b,off,e,hc⟩:=h (2*k) h1;obtain ⟨b',off',e',hc'⟩:=h (2*k+1) h2;rw[e] at e';simp at e';obtain ⟨rfl,rfl⟩:=e';rw[List.getElem?_eq_getElem h1] at g1;rw[List.getElem?_eq_getElem h2] at g2;refine ⟨b,off,e,?_,?_⟩
 ·rw[Nat.mul_comm k 2,hc,Option.some.inj g1]
 ·rw[Nat.mul_comm k 2,Nat.add_assoc,hc',Option.some.inj g2]
theorem same_pairs (a b:Option Addr)(cap cap':Nat)(xs:List (Nat × Nat))(w:World)(hl:xs.length≤1000000)(hr1:RdL w a (pairs xs))(hr2:RdL w b (pairs xs)):
  Calls Tryz.prog 39 #[.slice a xs.length cap,.slice b xs.length cap'] w fun e w'=>e=.returned (.bool true)∧New w w':=by
 obtain ⟨n,hn⟩:∃ n,xs.length=n:=⟨_,rfl⟩;rw[hn] at hl⊢
 have hni:(n:Int)≤1000000:=by omega
 have hnn:((n:Int) != (n:Int))=false:=by simp
 have HR1:=hid hr1;have HR2:=hid hr2;have HN0:=hid hn;clear hr1 hr2 hn;go_enter Tryz.func39,Tryz.ntmps39;go_wp2_with fail;go_loopw [5] (fun i wr=>∃ (k:Nat),k≤n∧i=.int .i64 (k:Int)∧Hid (New w wr)) (fun i _=>n - (intOf i).toNat)
 case atStart=>exact ⟨0,Nat.zero_le _,rfl,hid (New.refl _)⟩
 case round=>
  obtain ⟨k,hk,rfl,HN⟩:=hrel;by_cases hlt:k < n
  ·have h1:k < xs.length:=by rw[HN0.out];exact hlt
   obtain ⟨b1,off1,rfl,hc1,hd1⟩:=HR1.out.pair k h1;obtain ⟨b2,off2,rfl,hc2,hd2⟩:=HR2.out.pair k h1;obtain ⟨x,hx⟩:∃ x,(xs[k].1:Int)=x:=⟨_,rfl⟩;obtain ⟨y,hy⟩:∃ y,(xs[k].2:Int)=y:=⟨_,rfl⟩;rw[hx] at hc1 hc2;rw[hy] at hd1 hd2;have hsame:=fun W=>neq_pair W x y x y;rw[show (!(x==x && y==y))=false by simp] at hsame;replace hc1:=HN.out.cell hc1;replace hc2:=HN.out.cell hc2;replace hd1:=HN.out.cell hd1;replace hd2:=HN.out.cell hd2;have HX:=hid hx;have HY:=hid hy;clear hx hy;go_wp2_with fail
   go_quiet (fail)
   go_wp2_with fail;go_roundw
   case rel=>exact ⟨k+1,by omega,by go_num,hid (HN.out.drewN nq)⟩
   case measure=>simp[intOf];omega
  ·have hkk:k=n:=by omega
   have HKK:=hid hkk;clear hkk;go_wp2_with fail;go_ret;exact ⟨rfl,HN.out⟩
theorem sample_calls (w:World):Calls Tryz.prog 56 #[] w fun e w'=>e=.returned (.agg #[.int .i64 8,.int .i64 (-3),.int .i64 128,.string {data:=#[49]},.string {data:=#[48]}])∧New w w':=by
 go_enter Tryz.func56,Tryz.ntmps56;go_wp2_with fail;refine bodyPost_ret (v:=.agg #[.int .i64 8,.int .i64 (-3),.int .i64 128,.string {data:=#[49]},.string {data:=#[48]}]) (by simp[results,Tryz.results56,go_sem]) rfl ⟨rfl,?_⟩;exact (New.refl _).alloc _
abbrev tx (l:List UInt8):ByteArray:=⟨l.toArray⟩
theorem adc_one:AdcOk 8 (-3) 128 ⟨#[49]⟩ ⟨#[48]⟩ 1 0:=by
 refine ⟨by decide,by decide,by decide,by decide,by decide,by decide,by decide +kernel,by rw[Fits.iff];decide +kernel,by decide,by decide,by decide +kernel,by rw[Fits.iff];decide +kernel,by decide⟩
theorem adc_two:AdcOk 8 (-3) 128 ⟨#[50]⟩ ⟨#[49]⟩ 2 1:=by
 refine ⟨by decide,by decide,by decide,by decide,by decide,by decide,by decide +kernel,by rw[Fits.iff];decide +kernel,by decide,by decide,by decide +kernel,by rw[Fits.iff];decide +kernel,by decide⟩
theorem full_val:spanV (nomQ (-3) 128 0) (nomQ (-3) 128 (2^(8:Int).toNat - 1))=.agg #[.string ⟨#[45,49,54]⟩,.string ⟨#[49,50,55,47,56]⟩]:=by kernel_rfl
theorem vol_val130:Flo.vol (130 - 128) (-3)=1048576000:=by decide +kernel
theorem code_val:clipC (rawQ (-3) 128 (-17)) (2^(8:Int).toNat - 1)=(0, -1):=by decide +kernel
def awQs:List Rat:=[-20,0,(1:Rat) / 10,20,30]
def awXs:List Nat:=[3246391296,0,1040187392,1098776576,1098776576]
theorem samp_val:awQs.map (sampQ (-3) 128 (2^(8:Int).toNat - 1))=awXs:=by decide +kernel
theorem codes_ok_val:codesOk (volN (-3) 128) 256 awXs:=by unfold codesOk;decide +kernel
theorem codes_val:codesL (volN (-3) 128) 256 awXs=[0,128,129,255,255]:=by decide +kernel
theorem clipped_val:clipped [0,128,129,255,255] 255=[(0,1),(3,5)]:=by decide +kernel
theorem samples_val:samplesErr awXs=0:=by decide +kernel
theorem true_val:spanV ((nomQ (-3) 128 129 - halfQ (-3))*2+1) ((nomQ (-3) 128 129+halfQ (-3))*2+1)=.agg #[.string ⟨#[57,47,56]⟩,.string ⟨#[49,49,47,56]⟩]:=by kernel_rfl
def awDs:List Nat:=[0,1065353216,1056964608,0,1056964608,1065353216]
theorem dig_err:digitalErr awDs 0 1065353216=0:=by decide +kernel
theorem dig_val:keepL 0 1065353216 false awDs=[false,true,true,false,false,true]:=by decide +kernel
theorem chg_val:chg false 0 [false,true,true,false,false,true]=[1,3,5]:=by decide +kernel
theorem words_val:wordsOf [[true,false,true],[true,true,false]] 3=[3,2,1]:=by decide +kernel
theorem blocks_val:nBlocks 3=1∧padW [3,2,1] 16=[3,2,1,0,0,0,0,0,0,0,0,0,0,0,0,0]:=by decide +kernel
def awRs:List (List Nat):=[[1065353216,1073741824,1077936128,1082130432],[1073741824,1077936128,1082130432]]
theorem al_val:alF [1,0] < alT awRs [1,0]∧alPieces (alF [1,0]) (alT awRs [1,0]) awRs [1,0]=[[1073741824,1077936128,1082130432],[1073741824,1077936128,1082130432]]:=by decide +kernel
theorem al_ok:∀ (k:Nat) (h:k < awRs.length),samplesErr awRs[k]=0∧awRs[k].length≤4096:=by
 intro k h
 match k,h with
 | 0,_=>show samplesErr (awRs[0]'(by decide))=0∧(awRs[0]'(by decide)).length≤4096;decide +kernel
 | 1,_=>show samplesErr (awRs[1]'(by decide))=0∧(awRs[1]'(by decide)).length≤4096;decide +kernel
theorem full_aw (W:World)(he:Env W):Calls Tryz.prog 11 #[.agg #[.int .i64 8,.int .i64 (-3),.int .i64 128,.string ⟨#[49]⟩,.string ⟨#[48]⟩]] W fun e w'=>e=.returned (.tuple #[.agg #[.string ⟨#[45,49,54]⟩,.string ⟨#[49,50,55,47,56]⟩],.int .i64 0])∧New W w':=
 (full_calls adc_one W he).mono fun e w' h=>by unfold SpanPost at h;rw[full_val] at h;exact h
theorem code_aw (W:World)(he:Env W):Calls Tryz.prog 12 #[.agg #[.int .i64 8,.int .i64 (-3),.int .i64 128,.string ⟨#[49]⟩,.string ⟨#[48]⟩],.string ⟨#[45,49,55]⟩] W fun e w'=>e=.returned (.tuple #[.int .i64 0,.int .i64 (-1),.int .i64 0])∧New W w':=
 (Code_ok adc_one ⟨#[45,49,55]⟩ (-17) W he (by decide +kernel) (by rw[Fits.iff];decide +kernel) (by decide)).mono fun e w' h=>by rw[code_val] at h;exact h
theorem volts_aw (W:World)(he:Env W):Calls Tryz.prog 13 #[.agg #[.int .i64 8,.int .i64 (-3),.int .i64 128,.string ⟨#[49]⟩,.string ⟨#[48]⟩],.int .i64 130] W fun e w'=>e=.returned (.tuple #[.float .f32 1048576000,.int .i64 0])∧New W w':=
 (Volts_ok adc_one 130 W he (by decide) (by decide)).mono fun e w' h=>by rw[vol_val130] at h;exact h
def awVs:List ByteArray:=[⟨#[45,50,48]⟩,⟨#[48]⟩,⟨#[49,47,49,48]⟩,⟨#[50,48]⟩,⟨#[51,48]⟩]
theorem sampled_aw (W:World)(he:Env W)(a:Option Addr)(cap:Nat)(hr:RdL W a (strs awVs)):Calls Tryz.prog 27 #[.agg #[.int .i64 8,.int .i64 (-3),.int .i64 128,.string ⟨#[49]⟩,.string ⟨#[48]⟩],.slice a 5 cap] W (RowPost W 35 (flts awXs) 0):=by
 have h:=Sampled_ok adc_one a cap awVs awQs W he (by decide) hr rfl (by
  intro k h1 h2
  match k,h1 with
  | 0,_=>show (awVs[0]'(by decide)).data.toList=ratText (awQs[0]'(by decide))∧Fits (awQs[0]'(by decide))∧(awVs[0]'(by decide)).size≤100000;rw[Fits.iff];decide +kernel
  | 1,_=>show (awVs[1]'(by decide)).data.toList=ratText (awQs[1]'(by decide))∧Fits (awQs[1]'(by decide))∧(awVs[1]'(by decide)).size≤100000;rw[Fits.iff];decide +kernel
  | 2,_=>show (awVs[2]'(by decide)).data.toList=ratText (awQs[2]'(by decide))∧Fits (awQs[2]'(by decide))∧(awVs[2]'(by decide)).size≤100000;rw[Fits.iff];decide +kernel
  | 3,_=>show (awVs[3]'(by decide)).data.toList=ratText (awQs[3]'(by decide))∧Fits (awQs[3]'(by decide))∧(awVs[3]'(by decide)).size≤100000;rw[Fits.iff];decide +kernel
  | 4,_=>show (awVs[4]'(by decide)).data.toList=ratText (awQs[4]'(by decide))∧Fits (awQs[4]'(by decide))∧(awVs[4]'(by decide)).size≤100000;rw[Fits.iff];decide +kernel)
 rw[samp_val]at h;exact h
theorem codes_aw (W:World)(he:Env W)(a:Option Addr)(cap:Nat)(hr:RdL W a (flts awXs)):Calls Tryz.prog 29 #[.agg #[.int .i64 8,.int .i64 (-3),.int .i64 128,.string ⟨#[49]⟩,.string ⟨#[48]⟩],.slice a 5 cap] W (RowPost W 3 (ints [0,128,129,255,255]) 0):=by
 have h:=Codes_ok adc_one a cap awXs W he (by decide) hr samples_val 256 (by decide) codes_ok_val;rw[codes_val] at h;exact h
theorem clipped_aw (W:World)(he:Env W)(a:Option Addr)(cap:Nat)(hr:RdL W a (flts awXs)):Calls Tryz.prog 31 #[.agg #[.int .i64 8,.int .i64 (-3),.int .i64 128,.string ⟨#[49]⟩,.string ⟨#[48]⟩],.slice a 5 cap] W (RowPostS W 95 2 2 (pairs [(0,1),(3,5)]) 0):=by
 have h:=Clipped_ok 8 (-3) 128 ⟨#[49]⟩ ⟨#[48]⟩ a 5 cap [0,128,129,255,255] 255 W rfl (by decide) (fun W' hn=>codes_aw W' (he.new hn) a cap (hr.new hn)) (fun W'=>top_calls 8 (-3) 128 _ _ W' (by decide) (by decide));rw[clipped_val] at h;exact h
theorem cal_ok:CalOk 8 (-3) 128 ⟨#[49]⟩ ⟨#[48]⟩ 128 ⟨#[49,47,50]⟩ 136 ⟨#[53,47,50]⟩ ((1:Rat) / 2) ((5:Rat) / 2) 0 1 2 ((1:Rat) / 2) where
 chk:=fun W hW=>checkAdc_ok adc_one W hW
 cc1:=fun W hW=>checkCode_calls adc_one 128 W hW
 cc2:=fun W hW=>checkCode_calls adc_one 136 W hW
 ck1:=fun W hW=>(check_calls ⟨#[49,47,50]⟩ W hW (by decide)).mono fun e w' h=>by rw[show ratErr [49,47,50]=0 from by decide +kernel] at h;exact h
 ck2:=fun W hW=>(check_calls ⟨#[53,47,50]⟩ W hW (by decide)).mono fun e w' h=>by rw[show ratErr [53,47,50]=0 from by decide +kernel] at h;exact h
 nom1:=fun W=>(nominal_calls adc_one 128 W (by decide) (by decide)).mono fun e w' h=>by rw[show stepQ (-3)*((128 - 128:Int):Rat)=0 from by decide +kernel] at h;exact h
 nom2:=fun W=>(nominal_calls adc_one 136 W (by decide) (by decide)).mono fun e w' h=>by rw[show stepQ (-3)*((136 - 128:Int):Rat)=1 from by decide +kernel] at h;exact h
 fr1:=fun W hW=>from_calls _ _ W hW (by decide +kernel) (by decide)
 fr2:=fun W hW=>from_calls _ _ W hW (by decide +kernel) (by decide)
 ne:=by decide
 bl:=⟨by unfold BdK;decide +kernel,by unfold BdK;decide +kernel⟩
 bh:=⟨by unfold BdK;decide +kernel,by unfold BdK;decide +kernel⟩
 b1:=⟨by unfold BdK;decide +kernel,by unfold BdK;decide +kernel⟩
 b2:=⟨by unfold BdK;decide +kernel,by unfold BdK;decide +kernel⟩
 hne:=by decide +kernel
 hg:=by decide +kernel
 ho:=by decide +kernel
 gpos:=by decide +kernel
 gs:=by unfold SmF Sm;decide +kernel
 os:=by unfold SmF Sm;decide +kernel
theorem cal_text:rawText 2=⟨#[50]⟩∧rawText ((1:Rat) / 2)=⟨#[49,47,50]⟩:=by constructor <;> kernel_rfl
theorem cal_aw (W:World)(he:Env W):Calls Tryz.prog 40 #[.agg #[.int .i64 8,.int .i64 (-3),.int .i64 128,.string ⟨#[49]⟩,.string ⟨#[48]⟩],.agg #[.int .i64 128,.string ⟨#[49,47,50]⟩],.agg #[.int .i64 136,.string ⟨#[53,47,50]⟩]] W fun e w'=>e=.returned (.tuple #[.agg #[.int .i64 8,.int .i64 (-3),.int .i64 128,.string ⟨#[50]⟩,.string ⟨#[49,47,50]⟩],.int .i64 0])∧New W w':=
 (Calibrated_walk _ _ _ _ _ _ _ _ _ _ _ _ _ _ _ cal_ok W he).mono fun e w' h=>by unfold CalPost at h;rw[cal_text.1,cal_text.2] at h;exact h
theorem true_aw (W:World)(he:Env W):Calls Tryz.prog 22 #[.agg #[.int .i64 8,.int .i64 (-3),.int .i64 128,.string ⟨#[50]⟩,.string ⟨#[49]⟩],.int .i64 129] W fun e w'=>e=.returned (.tuple #[.agg #[.string ⟨#[57,47,56]⟩,.string ⟨#[49,49,47,56]⟩],.int .i64 0])∧New W w':=
 (true_mid _ 8 (-3) 128 ⟨#[50]⟩ ⟨#[49]⟩ 129 (nomQ (-3) 128 129 - halfQ (-3)) (nomQ (-3) 128 129+halfQ (-3)) 2 1 ⟨by unfold BdK;decide +kernel,by unfold BdK;decide +kernel⟩ ⟨by unfold BdK;decide +kernel,by unfold BdK;decide +kernel⟩ (by unfold SmF Sm;decide +kernel) (by unfold SmF Sm;decide +kernel) W he rfl
  (by decide +kernel) ⟨by unfold BdK;decide +kernel,by unfold BdK;decide +kernel⟩ (by decide) (by decide +kernel) ⟨by unfold BdK;decide +kernel,by unfold BdK;decide +kernel⟩ (by decide) (fun W' he'=>ends_mid adc_two 129 (by decide) (by decide) (by decide) (by decide) W' he')).mono fun e w' h=>by unfold SpanPost at h;rw[true_val] at h;exact h
theorem interval_aw (W:World)(he:Env W):Calls Tryz.prog 21 #[.agg #[.int .i64 8,.int .i64 (-3),.int .i64 128,.string ⟨#[50]⟩,.string ⟨#[49]⟩],.int .i64 0] W fun e w'=>e=.returned (.tuple #[.agg #[.string ⟨#[]⟩,.string ⟨#[]⟩],.int .i64 15])∧New W w':=
 interval_clip _ 8 (-3) 128 ⟨#[50]⟩ ⟨#[49]⟩ 0 (nomQ (-3) 128 0 - halfQ (-3)) (nomQ (-3) 128 0+halfQ (-3)) 15 (by decide) W he rfl (fun W' he'=>ends_zero adc_two W' he')
theorem dig_aw (W:World)(a:Option Addr)(cap:Nat)(hr:RdL W a (flts awDs)):Calls Tryz.prog 57 #[.slice a 6 cap,.agg #[.float .f32 0,.float .f32 1065353216],.bool false] W (RowPost W 4 (bools [false,true,true,false,false,true]) 0):=by
 have h:=digital_ok a cap awDs 0 1065353216 false W (by decide) hr dig_err;rw[dig_val] at h;exact h
theorem chg_aw (W:World)(a:Option Addr)(cap:Nat)(hr:RdL W a (bools [false,true,true,false,false,true])):Calls Tryz.prog 58 #[.slice a 6 cap,.bool false] W (RowPost W 3 (ints [1,3,5]) 0):=by
 have h:=changes_ok a cap [false,true,true,false,false,true] false W (by decide) hr;rw[chg_val] at h;exact h
theorem words_aw (W:World)(L cap:Nat)(rv:List Value)(hr:RdLL W (some ⟨L,0,none⟩) rv [bools [true,false,true],bools [true,true,false]]):Calls Tryz.prog 59 #[.slice (some ⟨L,0,none⟩) 2 cap] W (RowPost W 112 (words [3,2,1]) 0):=by
 have h:=Words_ok L cap 3 rv [[true,false,true],[true,true,false]] W hr (by decide) (by decide) (by decide) (by decide);rw[words_val] at h;exact h
theorem blocks_aw (W:World)(a:Option Addr)(cap:Nat)(hr:RdL W a (words [3,2,1])):Calls Tryz.prog 60 #[.slice a 3 cap] W (RowPostS W 113 16 1 (words [3,2,1,0,0,0,0,0,0,0,0,0,0,0,0,0]) 0):=by
 have h:=Blocks_ok a cap [3,2,1] W (by decide) hr;rw[show [3,2,1].length=3 from rfl,blocks_val.1,Nat.mul_one,blocks_val.2] at h;exact h
theorem al_aw (W:World)(a b:Option Addr)(cap cap':Nat)(rv:List Value)(hr:RdLL W a rv (awRs.map flts))(hs:RdL W b (ints [1,0])):Calls Tryz.prog 61 #[.slice a 2 cap,.slice b 2 cap'] W fun e w'=>∃ v,e=.returned (.tuple #[v,.int .i64 0])∧New W w'∧RowsOf w' W.heap.size 52 35 v ([[1073741824,1077936128,1082130432],[1073741824,1077936128,1082130432]].map flts):=by
 have h:=Aligned_ok a b cap cap' rv awRs [1,0] W hr hs (by decide) (by decide) rfl al_ok (by
  intro k h
  match k,h with
  | 0,_=>show -1000≤([1,0]:List Int)[0]'(by decide)∧([1,0]:List Int)[0]'(by decide)≤1000;decide
  | 1,_=>show -1000≤([1,0]:List Int)[1]'(by decide)∧([1,0]:List Int)[1]'(by decide)≤1000;decide) al_val.1
 rw[al_val.2]at h;exact h
theorem block_aw (W:World)(a:Option Addr)(cap:Nat):Calls Tryz.prog 62 #[.slice a 3 cap] W fun e w'=>e=.returned (.tuple #[.agg (Array.replicate 16 (.int .u16 0)),.int .i64 2])∧New W w':=
 block_bad a 3 cap W (by decide) (by decide)
theorem RowPost.rd {w w':World}{e:TypeId}{xs:List Value}{n:Int}{en:Ending}(h:RowPost w e xs n en w')(m:Nat)(hm:xs.length=m):∃ (a:Option Addr) (cap:Nat),en=.returned (.tuple #[.slice a m cap,.int .i64 n])∧New w w'∧RdL w' a xs:=by
 obtain ⟨v,rfl,hn,ho⟩:=h;obtain ⟨a,cap,rfl,hr, -⟩:=own_rd ho;rw[hm];exact ⟨a,cap,rfl,hn,hr⟩
theorem RowPostS.rd {w w':World}{e:TypeId}{S m:Nat}{xs:List Value}{n:Int}{en:Ending}(h:RowPostS w e S m xs n en w'):∃ (a:Option Addr) (cap:Nat),en=.returned (.tuple #[.slice a m cap,.int .i64 n])∧New w w'∧RdL w' a xs:=by
 obtain ⟨v,rfl,hn,ho⟩:=h;obtain ⟨a,cap,rfl,hr, -⟩:=own_rdS ho;exact ⟨a,cap,rfl,hn,hr⟩
theorem Box.rdl {w:World}{B:Nat}{t:TypeId}{cs:Array Value}(h:Box w B t cs):RdL w (some ⟨B,0,none⟩) cs.toList:=fun i hi=>⟨B,0,rfl,by rw[Nat.zero_add,h.cell];simp at hi;simp[hi]⟩
theorem eq_span_run (a b c d:ByteArray)(W:World):(Op.equalIn 10000 28 (.agg #[.string a,.string b]) (.agg #[.string c,.string d])).run Tryz.prog W=.ok (a.toList==c.toList && b.toList==d.toList) W:=by
 have hf:(Tryz.prog.fieldsOf 28).toList.length=2:=by kernel_rfl
 rw[run_equalIn_struct (P:=Tryz.prog) W 9999 28 #[.string a,.string b] #[.string c,.string d] (by kernel_rfl) (by kernel_rfl)]
 obtain ⟨f1,f2,hl⟩:∃ f1 f2,(Tryz.prog.fieldsOf 28).toList=[f1,f2]:=by
  match h:(Tryz.prog.fieldsOf 28).toList,hf with
  | [a,b],_=>exact ⟨a,b,rfl⟩
 have e1 : (f1.name == "_") = false ∧ f1.type = 22 ∧ f1.offset = 0 := by
  have:(Tryz.prog.fieldsOf 28).toList[0]?=some f1:=by rw[hl];rfl
  have h2 : (Tryz.prog.fieldsOf 28).toList[0]?.map (fun f => (f.name == "_", f.type, f.offset)) = some (false, 22, 0) := by kernel_rfl
  rw[this]at h2;simpa using h2
 have e2 : (f2.name == "_") = false ∧ f2.type = 22 ∧ f2.offset = 1 := by
  have:(Tryz.prog.fieldsOf 28).toList[1]?=some f2:=by rw[hl];rfl
  have h2 : (Tryz.prog.fieldsOf 28).toList[1]?.map (fun f => (f.name == "_", f.type, f.offset)) = some (false, 22, 1) := by kernel_rfl
  rw[this]at h2;simpa using h2
 rw[hl];have hu:Tryz.prog.underlying 22=some .string:=Tryz.underlying22
 have hpk:Tryz.prog.plainKey 22=true:=by kernel_rfl
 have hp1:∀ (x y:ByteArray),(part 22 #[.string x,.string y] 0).run Tryz.prog W=.ok (.string x) W:=fun x y=>run_part_plain W hpk rfl;have hp2:∀ (x y:ByteArray),(part 22 #[.string x,.string y] 1).run Tryz.prog W=.ok (.string y) W:=fun x y=>run_part_plain W hpk rfl
 have n1 : f1.name ≠ "_" := by simpa using e1.1
 have n2 : f2.name ≠ "_" := by simpa using e2.1
 unfold Op.eqFields;rw[if_pos n1,e1.2.1,e1.2.2];simp only[Sem.run_bind,hp1,Result.andThen_ok,run_equalIn_string W 9998 22 a c hu];unfold Op.eqFields;rw[if_pos n2,e2.2.1,e2.2.2]
 cases hac:(a.toList==c.toList)
 ·simp
 ·simp only[Bool.not_true,Bool.false_eq_true,if_false,Bool.true_and,Sem.run_bind,hp2,Result.andThen_ok,run_equalIn_string W 9998 22 b d hu];unfold Op.eqFields
  cases hbd:(b.toList==d.toList) <;> simp
theorem neq_span (a b:ByteArray)(W:World):(binOp .neq 28 (.agg #[.string a,.string b]) (.agg #[.string a,.string b])).run Tryz.prog W=.ok (.bool false) W:=by
 rw[run_neq_struct,eq_span_run];simp
theorem eql_span (a b:ByteArray)(W:World):(binOp .eql 28 (.agg #[.string a,.string b]) (.agg #[.string a,.string b])).run Tryz.prog W=.ok (.bool true) W:=by
 rw[run_eql_struct,eq_span_run];simp
def HasL (T:Array Value):List (Nat × Value)→Prop
 | []=>True
 | p::l=>T[p.1]?=some p.2∧HasL T l
def Has (N:Nat)(a:Act)(l:List (Nat × Value)):Prop:=a.tmps.size=N∧a.defers=[]∧HasL a.tmps l
theorem HasL.put {T:Array Value}{d:Nat}{v:Value}:∀ {l:List (Nat × Value)},HasL T l→(l.all fun p=>d != p.1)=true→HasL (T.setIfInBounds d v) l
 | [],_,_=>trivial
 | p::l,h,hf=>by
  simp only[List.all_cons,Bool.and_eq_true,bne_iff_ne,ne_eq]at hf;refine ⟨?_,HasL.put h.2 hf.2⟩;rw[Array.getElem?_setIfInBounds_ne hf.1];exact h.1
theorem Has.put {N:Nat}{a:Act}{l:List (Nat × Value)}{d:Nat}{v:Value}(h:Has N a l)(hd:d < N)(hf:(l.all fun p=>d != p.1)=true):Has N (a.put (some d) v) ((d,v)::l):=by
 refine ⟨by show (a.tmps.setIfInBounds d v).size=N;rw[Array.size_setIfInBounds];exact h.1,h.2.1,?_,HasL.put h.2.2 hf⟩;show (a.tmps.setIfInBounds d v)[d]?=some v;rw[Array.getElem?_setIfInBounds_self_of_lt (by rw[h.1];exact hd)]
theorem HasL.get {T:Array Value}:∀ {l:List (Nat × Value)} {k s:Nat} {v:Value},HasL T l→l[k]?=some (s,v)→T[s]?=some v
 | [],_,_,_,_,h=>by simp at h
 | p::l,0,_,_,h,e=>by simp at e;subst e;exact h.1
 | p::l,k+1,_,_,h,e=>HasL.get h.2 (by simpa using e)
theorem Has.get {N:Nat}{a:Act}{l:List (Nat × Value)}(h:Has N a l)(k:Nat){s:Nat}{v:Value}(e:l[k]?=some (s,v)):a.tmps[s]?=some v:=HasL.get h.2.2 e
theorem getD_of {T:Array Value}{s:Nat}{v:Value}(h:T[s]?=some v):T.getD s undef=v:=by
 rw[Array.getD_eq_getD_getElem?,h];rfl
section
variable {P:Program} {ops:Array Oper} {Q:Exit→Act→World→Prop} {md:Region.Mode} {S:World→Prop}
theorem wanted_plain {o:Oper}{f:Nat→Option Bool}(h:o.guard=none):Region.wanted o f=true:=by
 unfold Region.wanted;rw[h]
theorem wanted_by {o:Oper}{T:Array Value}{j dj:Nat}{b:Bool}(h:o.guard=some (j,b))(hj:(ops[j]?).bind (·.dst)=some dj)(e:T[dj]?=some (.bool b)):Region.wanted o (yielded ops T)=true:=by
 unfold Region.wanted yielded;rw[h];simp[hj,e]
theorem stepT {N d n:Nat} (i:Nat) {oi:Oper} {v:Value} {fuel:Nat} {listed:Array Bool} {a:Act} {w:World} {l:List (Nat × Value)} (hi:ops[i]?=some oi) (hB:takeB md ops n listed i=true)
  (hQ:∀ c a w,Q (.panic c) (a.put oi.dst v) w→Q (.panic c) a w) (hS:S w) (HA:Has N a l) (hd:oi.dst=some d) (hN:d < N) (hf:(l.all fun p=>d != p.1)=true)
  (hw:Region.wanted oi (yielded ops a.tmps)=true) (hy:∀ W,S W→(execOp a.eval oi).run P W=.ok (.value v) W)
  (h:∀ A,Has N A ((d,v)::l)→wpT P md ops Q S n fuel (listed.setIfInBounds i true) A w):wpT P md ops Q S n (fuel+1) listed a w:=
 wpT_take i hi hB hQ hS (Or.inl ⟨hw,hy⟩) (h _ (by rw[hd];exact HA.put hN hf))
theorem loudT {n:Nat} (i:Nat) {oi:Oper} {fuel:Nat} {listed:Array Bool} {a:Act} {w:World} (hi:ops[i]?=some oi) (hr:Region.ready md ops listed=[i]) (hw:Region.wanted oi (yielded ops a.tmps)=true)
  (h:∀ K':Act→World→Prop,Shut (∀ a w,(i < n→S w)→wpT P md ops Q S n fuel (listed.setIfInBounds i true) a w→K' a w)→Oper.wp P oi a w K' Q):
  wpT P md ops Q S n (fuel+1) listed a w:=
 wpT_one i hi hr fun K' hK=>by rw[if_pos hw];exact h K' hK
theorem putT {N d n fuel:Nat} {v:Value} {listed:Array Bool} {a:Act} {w:World} {l:List (Nat × Value)} (HA:Has N a l) (hN:d < N) (hf:(l.all fun p=>d != p.1)=true)
  (h:∀ A,Has N A ((d,v)::l)→wpT P md ops Q S n fuel listed A w):wpT P md ops Q S n fuel listed (a.put (some d) v) w:=h _ (HA.put hN hf)
end
end Go.Proofs.YtbkcjmojgglbkaaGreatDoor
