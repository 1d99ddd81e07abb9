/- Part CardRc03. -/
import Derived.Laws.FloatArith
import Derived.Test.YtbkcjmojgglbkaaGreatDoorCardRc02
namespace Go.Proofs.YtbkcjmojgglbkaaGreatDoor
open Go.RowKit Big Go.Lib
set_option maxRecDepth 100000
set_option maxHeartbeats 8000000
theorem rrow_calls (a:Option Addr)(cap n:Nat)(vs:List ByteArray)(E:Int)(w:World)(hn0:vs.length=n)(hl:n≤4096)(hr:RdL w a (strs vs))(hE:rowErr vs=E)(hsz:∀ (k:Nat) (h1:k < vs.length),(vs[k]).size≤100000):
  Calls Tryz.prog 96 #[.slice a n cap] w (RetNew w E):=by
 have hck:∀ (k:Nat) (h1:k < vs.length) (W:World),Calls Tryz.prog 17 #[.string vs[k]] W fun e w'=>e=.returned (.int .i64 (ratErr vs[k].data.toList))∧New W w':=fun k h1 W=>rcheck_calls vs[k] W (by have:=hsz k h1;omega)
 have hli:(n:Int)≤4096:=by omega
 clear hsz hl;have HCK:=hid hck;have HR:=hid hr;have HEE:=hid hE;have HNN:=hid hn0;clear hck hr hE hn0;go_enter Tryz.func96,Tryz.ntmps96;go_wp2_with fail;go_loopw [3] (fun i wr=>∃ (k:Nat),k≤n∧i=.int .i64 (k:Int)∧Hid (rowErr (vs.drop k)=E)∧Hid (New w wr)) (fun i _=>n - (RowKit.intOf i).toNat)
 case atStart=>exact ⟨0,Nat.zero_le _,rfl,HEE,hid (New.refl _)⟩
 case round=>
  obtain ⟨k,hk,rfl,HP,HN⟩:=hrel;by_cases hlt:k < n
  ·have hlt3:k < vs.length:=by rw[HNN.out];exact hlt
   obtain ⟨b1,off,rfl,hcell⟩:=HR.out.str k hlt3;have hcell:=HN.out.cell hcell;have hcall:=HCK.out k hlt3;have hrd:=rowErr_drop vs k hlt3;rw[HP.out] at hrd;obtain ⟨x,hx⟩:∃ x,vs[k]=x:=⟨_,rfl⟩;rw[hx] at hcell hrd;simp only[hx] at hcall;obtain ⟨r,hr⟩:∃ r,ratErr x.data.toList=r:=⟨_,rfl⟩;rw[hr] at hrd;simp only[hr] at hcall;by_cases hr0:r=0
   ·subst hr0;rw[if_pos rfl] at hrd;have HCALL:=hid hcall;have HX:=hid hx;have HRD:=hid hrd;have HRR:=hid hr;clear hcall hx hrd hr;go_wp2_with fail;refine (HCALL.out _).mono ?_;rintro e w4 ⟨rfl,hn⟩;clear hcell;replace HN:=tW HN hn;clear hn;go_wp2_with fail;go_roundw
    case rel=>exact ⟨k+1,by omega,by go_num,hid HRD.out.symm,HN⟩
    case measure=>simp[RowKit.intOf];omega
   ·rw[if_neg hr0] at hrd
    have ht:(r != 0)=true:=by simpa using hr0
    have HCALL:=hid hcall;have HX:=hid hx;have HRD:=hid hrd;have HRR:=hid hr;clear hcall hx hrd hr;clear hr0;go_wp2_with fail;refine (HCALL.out _).mono ?_;rintro e w4 ⟨rfl,hn⟩;clear hcell;replace HN:=tW HN hn;clear hn;go_wp2_with fail;go_ret;exact ⟨by rw[←HRD.out];rfl,HN.out⟩
  ·have hkk:k=n:=by omega
   have hE1:E=0:=by
    rw[←HP.out,hkk,←HNN.out,List.drop_length];rfl
   have HKK:=hid hkk;have HE1:=hid hE1;clear hkk hE1;go_wp2_with fail;go_ret;exact ⟨by rw[HE1.out];rfl,HN.out⟩
def voltsErr (n:Nat)(vs:List ByteArray):Int:=if 4096 < n then 5 else rowErr vs
theorem rvoltsErr_calls (a:Option Addr)(cap n:Nat)(vs:List ByteArray)(E:Int)(w:World)(hn0:vs.length=n)(hl:n≤1000000)(hr:RdL w a (strs vs))(hE:voltsErr n vs=E)(hsz:n≤4096→∀ (k:Nat) (h1:k < vs.length),(vs[k]).size≤100000):
  Calls Tryz.prog 32 #[.slice a n cap] w (RetNew w E):=by
 unfold voltsErr at hE
 have hli:(n:Int)≤1000000:=by omega
 by_cases h:4096 < n
 ·rw[if_pos h] at hE
  have hi:(4096:Int) < (n:Int):=by omega
  have hd:decide ((4096:Int) < (n:Int))=true:=decide_eq_true hi;rw[←hE];clear hE hr hsz hn0 h;go_enter Tryz.func32,Tryz.ntmps32;go_wp2_with fail;go_ret;exact ⟨rfl,New.refl _⟩
 ·rw[if_neg h] at hE
  have hi:¬(4096:Int) < (n:Int):=by omega
  have hd:decide ((4096:Int) < (n:Int))=false:=decide_eq_false hi;have hrow:=fun W (hW:New w W)=>rrow_calls a cap n vs E W hn0 (by omega) (hr.new hW) hE (hsz (by omega));clear hE hr hsz hn0 h;have HROW:=hid hrow;clear hrow;go_enter Tryz.func32,Tryz.ntmps32;go_wp2_with fail;refine (HROW.out _ (New.refl _)).mono ?_;rintro e w1 ⟨rfl,hn⟩;go_wp2_with fail;go_ret;exact ⟨rfl,hn⟩
theorem take_flts (ys:List Nat)(k:Nat)(h:k < ys.length):flts (ys.take (k+1))=flts (ys.take k) ++ [.float .f32 ys[k]]:=by
 rw[List.take_succ_eq_append_getElem h];unfold flts;rw[List.map_append];rfl
theorem rsampled_calls (b s z:Int) (g o:ByteArray) (a:Option Addr) (cap n:Nat) (vs:List ByteArray) (ys:List Nat) (w:World) (hn0:vs.length=n) (hn1:ys.length=n) (hl:n≤4096) (hr:RdL w a (strs vs))
  (hcd:∀ (k:Nat) (h1:k < vs.length) (h2:k < ys.length),∃ c cl:Int,(∀ W,Calls Tryz.prog 18 #[adcV b s z g o,.string vs[k]] W fun e w'=>e=.returned (.tuple #[.int .i64 c,.int .i64 cl])∧New W w')∧(∀ W,Calls Tryz.prog 20 #[adcV b s z g o,.int .i64 c] W fun e w'=>e=.returned (.float .f32 ys[k])∧New W w')):
  Calls Tryz.prog 33 #[adcV b s z g o,.slice a n cap] w fun e w'=>∃ v,e=.returned v∧New w w'∧w'.ownsRow w.heap.size 35 1 v (flts ys).length (flts ys):=by
 obtain ⟨i0,hi,hz0,hz1,hz2⟩:=info_parts info_f32
 have hli:(n:Int)≤4096:=by omega
 unfold adcV at *;clear hl;have HCD:=hid hcd;have HR:=hid hr;have HNN:=hid hn0;have HNY:=hid hn1;clear hcd hr hn0 hn1;go_enter Tryz.func33,Tryz.ntmps33;go_wp2_with fail;obtain ⟨BA,HN⟩:=lay1 w 24 #[.int .i64 b,.int .i64 s,.int .i64 z,.string g,.string o];obtain ⟨w8,hw8⟩:∃ x,w.alloc (.cells #[.int .i64 b,.int .i64 s,.int .i64 z,.string g,.string o] 24)=x:=⟨_,rfl⟩;rw[hw8] at BA HN⊢;clear hw8;have HW:=HN;clear HN;go_loopw [5,6] (fun v i wr=>∃ (k:Nat),k≤n∧i=.int .i64 (k:Int)∧Hid (wr.ownsRow w8.heap.size 35 1 v (flts (ys.take k)).length (flts (ys.take k)))∧Hid (New w8 wr)) (fun _ i _=>n - (RowKit.intOf i).toNat)
 case atStart=>exact ⟨0,Nat.zero_le _,rfl,hid (World.ownsRow_nil _ _ _ _),hid (New.refl _)⟩
 case round=>
  obtain ⟨k,hk,rfl,HO,HN⟩:=hrel;by_cases hlt:k < n
  ·have hlt3:k < vs.length:=by rw[HNN.out];exact hlt
   have hlt4:k < ys.length:=by rw[HNY.out];exact hlt
   obtain ⟨b1,off,rfl,hcell⟩:=HR.out.str k hlt3;have hcell:=(HW.out.trans HN.out).cell hcell;obtain ⟨c,cl,hcode,hvol⟩:=HCD.out k hlt3 hlt4;have hty:=take_flts ys k hlt4;obtain ⟨x,hx⟩:∃ x,vs[k]=x:=⟨_,rfl⟩;obtain ⟨y,hy⟩:∃ x,ys[k]=x:=⟨_,rfl⟩;rw[hx] at hcell;rw[hy] at hty;simp only[hx] at hcode;simp only[hy] at hvol;clear hx hy
   have hle:(flts (ys.take k)).length=k:=by simp[flts];omega
   have h1:∀ u∈[Value.float .f32 y],u.oneCell'=true:=by intro u hu;simp at hu;subst hu;rfl
   have BB:=hid (BA.out.new HN.out);have HCO:=hid hcode;have HVO:=hid hvol;have HTY:=hid hty;have HLE:=hid hle;have H1:=hid h1;clear hcode hvol hty hle h1;obtain ⟨⟨pa0,pa1,pa2,pa3,pa4⟩,pa5⟩:=BB.out.five;go_wp2_with fail;clear pa0 pa1 pa2 pa3 pa4 pa5;refine wp_region_T 10 (fun W=>(W.cell? ⟨w.heap.size,0,none⟩=some (.int .i64 b)∧W.cell? ⟨w.heap.size,1,none⟩=some (.int .i64 s)∧W.cell? ⟨w.heap.size,2,none⟩=some (.int .i64 z)∧W.cell? ⟨w.heap.size,3,none⟩=some (.string g)∧W.cell? ⟨w.heap.size,4,none⟩=some (.string o))∧W.cell? ⟨b1,off+k,none⟩=some (.string x)) 11 #[false,false,false,false,false,false,false,false,false,false,false] rfl (by kernel_rfl) (by kernel_rfl) ?_;refine tk 0 (by exact ⟨cW5 BB,hcell⟩) ?_
   try simp only[PT]
   refine tk 1 (by exact ⟨cW5 BB,hcell⟩) ?_
   try simp only[PT]
   refine tk 2 (by exact ⟨cW5 BB,hcell⟩) ?_
   try simp only[PT]
   refine tk 3 (by exact ⟨cW5 BB,hcell⟩) ?_
   try simp only[PT]
   refine tk 4 (by exact ⟨cW5 BB,hcell⟩) ?_
   try simp only[PT]
   refine tk1 5 fun K hK=>?_;go_simp;refine (HCO.out _).mono ?_;rintro e w2 ⟨rfl,hn⟩;have hn:=hn.undr;have hcell:=hn.cell hcell;have hO:=own_new HO.out hn;clear HO;have HO:=hid hO;clear hO;replace BB:=bW BB hn;replace HN:=tW HN hn;clear hn;refine hK.out _ _ (fun _=>⟨cW5 BB,hcell⟩) ?_;clear hK K
   try simp only[PT]
   refine tk 6 (by exact ⟨cW5 BB,hcell⟩) ?_
   try simp only[PT]
   refine tk 7 (by exact ⟨cW5 BB,hcell⟩) ?_
   try simp only[PT]
   refine tk 8 (by exact ⟨cW5 BB,hcell⟩) ?_
   try simp only[PT]
   refine tk 9 (by exact ⟨cW5 BB,hcell⟩) ?_
   try simp only[PT]
   refine tlW ?_;obtain ⟨⟨pa0,pa1,pa2,pa3,pa4⟩,pa5⟩:=BB.out.five;clear hcell;go_wp2_with fail;refine (HVO.out _).mono ?_;rintro e w3 ⟨rfl,hn⟩;have hO:=own_new HO.out hn;clear HO;have HO:=hid hO;clear hO;clear pa0 pa1 pa2 pa3 pa4 pa5;replace BB:=bW BB hn;replace HN:=tW HN hn;clear hn;go_wp2_with (at_builtin;refine wpList_append_own _ rfl _ _ 52 rfl w8.heap.size 35 i0 (.float .f32 0) 1 4 Tryz.underlying52 hi hz0 hz1 hz2 rfl (by decide) _ _ _ rfl (HO.out.alloc _) ⟨w3.heap.size,0,none⟩ 1 1 [.float .f32 y] rfl rfl (one_c1 _ _ _) H1.out (by have:=HLE.out;unfold maxLen;omega) (by have:=HLE.out;omega) (by have:=HN.out.size;rw[←size_alloc];omega) ?_);intro v' w4 hown' hgrow _;have hN1:=grown_new HN.out HO.out hgrow
   have hO1:w4.ownsRow w8.heap.size 35 1 v' (flts (ys.take (k+1))).length (flts (ys.take (k+1))):=by
    rw[HTY.out];simpa using hown'
   clear hown' hgrow;have HN1:=hid hN1;have HO1:=hid hO1;clear hN1 hO1;go_wp2_with fail;go_roundw
   case rel=>exact ⟨k+1,by omega,by go_num,HO1,HN1⟩
   case measure=>simp[RowKit.intOf];omega
  ·have hkk:ys.take k=ys:=by rw[show k=ys.length by rw[HNY.out];omega,List.take_length]
   have HKK:=hid hkk;clear hkk;go_wp2_with fail;go_ret;exact ⟨_,rfl,HW.out.trans HN.out,by rw[HKK.out] at HO;exact World.ownsRow.mono HO.out HW.out.size⟩
theorem take_ints (cs:List Int)(k:Nat)(h:k < cs.length):ints (cs.take (k+1))=ints (cs.take k) ++ [.int .i64 cs[k]]:=by
 rw[List.take_succ_eq_append_getElem h];unfold ints;rw[List.map_append];rfl
theorem rcodes_calls (b s z:Int) (g o:ByteArray) (a:Option Addr) (cap n:Nat) (xs:List Nat) (cs:List Int) (fs:Nat→Bool) (L:List Int) (m0:Int) (w:World) (hn0:xs.length=n) (hn1:cs.length=n) (hl:n≤4096) (hr:RdL w a (flts xs))
  (hcd:∀ (k:Nat) (h1:k < xs.length) (h2:k < cs.length),∃ (c cl:Int) (E:ByteArray) (y:Nat),(∀ W,Calls Tryz.prog 48 #[.float .f32 xs[k]] W fun e w'=>e=.returned (.string E)∧New W w')∧(∀ W,Calls Tryz.prog 18 #[adcV b s z g o,.string E] W fun e w'=>e=.returned (.tuple #[.int .i64 c,.int .i64 cl])∧New W w')∧
   (∀ W,Calls Tryz.prog 20 #[adcV b s z g o,.int .i64 c] W fun e w'=>e=.returned (.float .f32 y)∧New W w')∧(FloatKind.f32.format.order y xs[k]==some .eq)=fs xs[k]∧(fs xs[k]=true→cs[k]=c))
  (hL:(if xs.all fs=true then cs else [])=L) (hm0:(if xs.all fs=true then 0 else 3)=m0):
  Calls Tryz.prog 35 #[adcV b s z g o,.slice a n cap] w (RowPost w 3 (ints L) m0):=by
 obtain ⟨i0,hi,hz0,hz1,hz2⟩:=info_parts info_int
 have hli:(n:Int)≤4096:=by omega
 unfold adcV at *;clear hl;have HCD:=hid hcd;have HR:=hid hr;have HNN:=hid hn0;have HNY:=hid hn1;have HLL:=hid hL;have HMM:=hid hm0;clear hcd hr hn0 hn1 hL hm0;go_enter Tryz.func35,Tryz.ntmps35;go_wp2_with fail;obtain ⟨BA,HN⟩:=lay1 w 24 #[.int .i64 b,.int .i64 s,.int .i64 z,.string g,.string o];obtain ⟨w8,hw8⟩:∃ x,w.alloc (.cells #[.int .i64 b,.int .i64 s,.int .i64 z,.string g,.string o] 24)=x:=⟨_,rfl⟩;rw[hw8] at BA HN⊢;clear hw8;have HW:=HN;clear HN;go_loopw [6,7] (fun v i wr=>∃ (k:Nat),k≤n∧i=.int .i64 (k:Int)∧Hid (∀ x∈xs.take k,fs x=true)∧Hid (wr.ownsRow w8.heap.size 3 1 v (ints (cs.take k)).length (ints (cs.take k)))∧Hid (New w8 wr)) (fun _ i _=>n - (RowKit.intOf i).toNat)
 case atStart=>exact ⟨0,Nat.zero_le _,rfl,hid (by simp),hid (World.ownsRow_nil _ _ _ _),hid (New.refl _)⟩
 case round=>
  obtain ⟨k,hk,rfl,HP,HO,HN⟩:=hrel;by_cases hlt:k < n
  ·have hlt3:k < xs.length:=by rw[HNN.out];exact hlt
   have hlt4:k < cs.length:=by rw[HNY.out];exact hlt
   obtain ⟨b1,off,rfl,hcell⟩:=HR.out.flt k hlt3;have hcell:=(HW.out.trans HN.out).cell hcell;obtain ⟨c,cl,E,y,hex,hcode,hvol,hord,hfc⟩:=HCD.out k hlt3 hlt4;have hty:=take_ints cs k hlt4;have hmem:xs[k]∈xs:=List.getElem_mem hlt3
   have hpr:fs xs[k]=true→∀ x∈xs.take (k+1),fs x=true:=fun h x hx=>by
    rw[List.take_succ_eq_append_getElem hlt3]at hx;rcases List.mem_append.1 hx with hx | hx
    ·exact HP.out x hx
    ·rw[List.mem_singleton.1 hx];exact h
   obtain ⟨x,hx⟩:∃ x,xs[k]=x:=⟨_,rfl⟩;obtain ⟨d,hd⟩:∃ x,cs[k]=x:=⟨_,rfl⟩;rw[hx] at hcell hord hfc hmem hpr;rw[hd] at hty hfc;simp only[hx] at hex;clear hx hd
   have hle:(ints (cs.take k)).length=k:=by simp[ints];omega
   have BB:=hid (BA.out.new HN.out);have HEX:=hid hex;have HCO:=hid hcode;have HVO:=hid hvol;have HTY:=hid hty;have HLE:=hid hle;have HORD:=hid hord;have HFC:=hid hfc;have HMEM:=hid hmem;have HPR:=hid hpr;clear hex hcode hvol hty hle hord hfc hmem hpr;obtain ⟨⟨pa0,pa1,pa2,pa3,pa4⟩,pa5⟩:=BB.out.five;go_wp2_with fail;clear pa0 pa1 pa2 pa3 pa4 pa5;refine wp_region_T 11 (fun W=>(W.cell? ⟨w.heap.size,0,none⟩=some (.int .i64 b)∧W.cell? ⟨w.heap.size,1,none⟩=some (.int .i64 s)∧W.cell? ⟨w.heap.size,2,none⟩=some (.int .i64 z)∧W.cell? ⟨w.heap.size,3,none⟩=some (.string g)∧W.cell? ⟨w.heap.size,4,none⟩=some (.string o))∧W.cell? ⟨b1,off+k,none⟩=some (.float .f32 x)) 12 #[false,false,false,false,false,false,false,false,false,false,false,false] rfl (by kernel_rfl) (by kernel_rfl) ?_;refine tk 0 (by exact ⟨cW5 BB,hcell⟩) ?_
   try simp only[PT]
   refine tk 1 (by exact ⟨cW5 BB,hcell⟩) ?_
   try simp only[PT]
   refine tk 2 (by exact ⟨cW5 BB,hcell⟩) ?_
   try simp only[PT]
   refine tk 3 (by exact ⟨cW5 BB,hcell⟩) ?_
   try simp only[PT]
   refine tk 4 (by exact ⟨cW5 BB,hcell⟩) ?_
   try simp only[PT]
   refine tk1 5 fun K hK=>?_;go_simp;refine (HEX.out _).mono ?_;rintro e w2 ⟨rfl,hn⟩;have hn:=hn.undr;have hcell:=hn.cell hcell;have hO:=own_new HO.out hn;clear HO;have HO:=hid hO;clear hO;replace BB:=bW BB hn;replace HN:=tW HN hn;clear hn;refine hK.out _ _ (fun _=>⟨cW5 BB,hcell⟩) ?_;clear hK K
   try simp only[PT]
   refine tk1 6 fun K hK=>?_;go_simp;refine (HCO.out _).mono ?_;rintro e w3 ⟨rfl,hn⟩;have hcell:=hn.cell hcell;have hO:=own_new HO.out hn;clear HO;have HO:=hid hO;clear hO;replace BB:=bW BB hn;replace HN:=tW HN hn;clear hn;refine hK.out _ _ (fun _=>⟨cW5 BB,hcell⟩) ?_;clear hK K
   try simp only[PT]
   refine tk 7 (by exact ⟨cW5 BB,hcell⟩) ?_
   try simp only[PT]
   refine tk 8 (by exact ⟨cW5 BB,hcell⟩) ?_
   try simp only[PT]
   refine tk 9 (by exact ⟨cW5 BB,hcell⟩) ?_
   try simp only[PT]
   refine tk 10 (by exact ⟨cW5 BB,hcell⟩) ?_
   try simp only[PT]
   refine tlW ?_;obtain ⟨⟨pa0,pa1,pa2,pa3,pa4⟩,pa5⟩:=BB.out.five;have hord:=HORD.out
   cases hf:fs x with
   | true=>
    rw[hf]at hord
    replace hord:(FloatKind.f32.format.order y x != some .eq)=false:=by unfold bne;rw[hord];rfl
    obtain rfl:=HFC.out hf;have hpr:=HPR.out hf;have h1:∀ u∈[Value.int .i64 d],u.oneCell'=true:=one_c2 d;clear hf;have HPR2:=hid hpr;have H1:=hid h1;clear hpr h1;go_wp2_with fail;clear pa0 pa1 pa2 pa3 pa4 pa5;refine wp_region_T 7 (fun W=>(W.cell? ⟨w.heap.size,0,none⟩=some (.int .i64 b)∧W.cell? ⟨w.heap.size,1,none⟩=some (.int .i64 s)∧W.cell? ⟨w.heap.size,2,none⟩=some (.int .i64 z)∧W.cell? ⟨w.heap.size,3,none⟩=some (.string g)∧W.cell? ⟨w.heap.size,4,none⟩=some (.string o))∧W.cell? ⟨b1,off+k,none⟩=some (.float .f32 x)) 8 #[false,false,false,false,false,false,false,false] rfl (by kernel_rfl) (by kernel_rfl) ?_;refine tk 0 (by exact ⟨cW5 BB,hcell⟩) ?_
    try simp only[PT]
    refine tk 1 (by exact ⟨cW5 BB,hcell⟩) ?_
    try simp only[PT]
    refine tk 3 (by exact ⟨cW5 BB,hcell⟩) ?_
    try simp only[PT]
    refine tk 4 (by exact ⟨cW5 BB,hcell⟩) ?_
    try simp only[PT]
    refine tk 5 (by exact ⟨cW5 BB,hcell⟩) ?_
    try simp only[PT]
    refine tk 6 (by exact ⟨cW5 BB,hcell⟩) ?_
    try simp only[PT]
    refine tk1 2 fun K hK=>?_;go_simp;refine (HVO.out _).mono ?_;rintro e w4 ⟨rfl,hn⟩;have hn:=hn.undr;have hcell:=hn.cell hcell;have hO:=own_new HO.out hn;clear HO;have HO:=hid hO;clear hO;replace BB:=bW BB hn;replace HN:=tW HN hn;clear hn;refine hK.out _ _ (fun _=>⟨cW5 BB,hcell⟩) ?_;clear hK K
    try simp only[PT]
    refine tlW ?_;obtain ⟨⟨pa0,pa1,pa2,pa3,pa4⟩,pa5⟩:=BB.out.five;clear hcell;clear pa0 pa1 pa2 pa3 pa4 pa5;go_wp2_with (at_builtin;refine wpList_append_own _ rfl _ _ 57 rfl w8.heap.size 3 i0 (.int .i64 0) 1 8 Tryz.underlying57 hi hz0 hz1 hz2 rfl (by decide) _ _ _ rfl (HO.out.alloc _) ⟨w4.heap.size,0,none⟩ 1 1 [.int .i64 d] rfl rfl (one_c1 _ _ _) H1.out (by have:=HLE.out;unfold maxLen;omega) (by have:=HLE.out;omega) (by have:=HN.out.size;rw[←size_alloc];omega) ?_);intro v' w5 hown' hgrow _;have hN1:=grown_new HN.out HO.out hgrow
    have hO1:w5.ownsRow w8.heap.size 3 1 v' (ints (cs.take (k+1))).length (ints (cs.take (k+1))):=by
     rw[HTY.out];simpa using hown'
    clear hown' hgrow;have HN1:=hid hN1;have HO1:=hid hO1;clear hN1 hO1;go_wp2_with fail;go_roundw
    case rel=>exact ⟨k+1,by omega,by go_num,HPR2,HO1,HN1⟩
    case measure=>simp[RowKit.intOf];omega
   | false=>
    rw[hf]at hord
    replace hord:(FloatKind.f32.format.order y x != some .eq)=true:=by unfold bne;rw[hord];rfl
    have hall:xs.all fs=false:=by
     cases hb:xs.all fs with
     | false=>rfl
     | true=>
      have:=List.all_eq_true.1 hb x HMEM.out;rw[hf] at this
      cases this
    have e1:=HLL.out;have e2:=HMM.out;rw[hall,if_neg (by decide)] at e1 e2;clear hf hall;have E1:=hid e1;have E2:=hid e2;clear e1 e2;go_wp2_with fail;clear pa0 pa1 pa2 pa3 pa4 pa5;refine wp_region_T 7 (fun W=>(W.cell? ⟨w.heap.size,0,none⟩=some (.int .i64 b)∧W.cell? ⟨w.heap.size,1,none⟩=some (.int .i64 s)∧W.cell? ⟨w.heap.size,2,none⟩=some (.int .i64 z)∧W.cell? ⟨w.heap.size,3,none⟩=some (.string g)∧W.cell? ⟨w.heap.size,4,none⟩=some (.string o))∧W.cell? ⟨b1,off+k,none⟩=some (.float .f32 x)) 8 #[false,false,false,false,false,false,false,false] rfl (by kernel_rfl) (by kernel_rfl) ?_;refine tk 0 (by exact ⟨cW5 BB,hcell⟩) ?_
    try simp only[PT]
    refine tk 1 (by exact ⟨cW5 BB,hcell⟩) ?_
    try simp only[PT]
    refine tk 3 (by exact ⟨cW5 BB,hcell⟩) ?_
    try simp only[PT]
    refine tk 4 (by exact ⟨cW5 BB,hcell⟩) ?_
    try simp only[PT]
    refine tk 5 (by exact ⟨cW5 BB,hcell⟩) ?_
    try simp only[PT]
    refine tk 6 (by exact ⟨cW5 BB,hcell⟩) ?_
    try simp only[PT]
    refine tk1 2 fun K hK=>?_;go_simp;refine (HVO.out _).mono ?_;rintro e w4 ⟨rfl,hn⟩;have hn:=hn.undr;have hcell:=hn.cell hcell;have hO:=own_new HO.out hn;clear HO;have HO:=hid hO;clear hO;replace BB:=bW BB hn;replace HN:=tW HN hn;clear hn;refine hK.out _ _ (fun _=>⟨cW5 BB,hcell⟩) ?_;clear hK K
    try simp only[PT]
    refine tlW ?_;obtain ⟨⟨pa0,pa1,pa2,pa3,pa4⟩,pa5⟩:=BB.out.five;clear hcell;go_wp2_with fail;go_ret2;exact ⟨_,by rw[←E2.out];rfl,HW.out.trans HN.out,by rw[←E1.out];exact World.ownsRow_nil _ _ _ _⟩
  ·have hkk:cs.take k=cs:=by rw[show k=cs.length by rw[HNY.out];omega,List.take_length]
   have hall:xs.all fs=true:=List.all_eq_true.2 fun x hx=>HP.out x (by rw[show k=xs.length by rw[HNN.out];omega,List.take_length];exact hx);have e1:=HLL.out;have e2:=HMM.out;rw[hall,if_pos rfl] at e1 e2;clear hall;have HKK:=hid hkk;have E1:=hid e1;have E2:=hid e2;clear hkk e1 e2;go_wp2_with fail;go_ret2;exact ⟨_,by rw[←E2.out];rfl,HW.out.trans HN.out,by rw[←E1.out];rw[HKK.out] at HO;exact World.ownsRow.mono HO.out HW.out.size⟩
end Go.Proofs.YtbkcjmojgglbkaaGreatDoor
