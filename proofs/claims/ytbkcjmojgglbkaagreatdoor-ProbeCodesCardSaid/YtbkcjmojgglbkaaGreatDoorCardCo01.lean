/- Part CardCo01. -/
import Derived.Test.YtbkcjmojgglbkaaGreatDoorA32
namespace Go.Proofs.YtbkcjmojgglbkaaGreatDoor
open Go.RowKit Big Go.Lib
set_option maxRecDepth 100000
set_option maxHeartbeats 8000000
theorem full_err (b s z:Int)(g o:ByteArray)(n:Int)(h0:n≠0)(hc:∀ W,Env W→Calls Tryz.prog 15 #[adcV b s z g o] W (RetNew W n))(w:World)(he:Env w):
  Calls Tryz.prog 11 #[adcV b s z g o] w (NoSpan w n):=by
 have ht:(n != 0)=true:=by simpa using h0
 unfold adcV at *;have HC:=hid hc;have HE:=hid he;have H0:=hid h0;clear hc he h0;go_enter Tryz.func11,Tryz.ntmps11;go_wp2_with fail;obtain ⟨BA,BP,HN⟩:=lay2 w 32 #[.int .i64 b,.int .i64 s,.int .i64 z,.string g,.string o] 28 #[.string ⟨#[]⟩,.string ⟨#[]⟩];refine (HC.out _ (HE.out.new HN.out)).mono ?_;rintro e w1 ⟨rfl,hn⟩;replace BP:=bW BP hn;replace HN:=tW HN hn;clear hn;obtain ⟨p0,p1,p2,p3,p4⟩:=BP.out.two;have p5:=Nat.lt_add_right 1 p4;have p6:=Nat.lt_add_right 1 p5;go_wp2_with fail;refine bodyPost_ret (v:=.tuple #[.agg #[.string ⟨#[]⟩,.string ⟨#[]⟩],.int .i64 n]) (by simp[results,Tryz.results11,go_sem,p0,p1]) rfl ?_;refine ⟨rfl,?_⟩;have hN:=HN.out
 repeat first
  | with_reducible exact New.refl _
  | with_reducible refine New.drewN ?_ _
  | with_reducible refine New.drew ?_
  | with_reducible refine New.alloc ?_ _
  | (with_reducible refine New.setCell ?_ ?_ _;rotate_left;(show _≤_+_);omega)
  | with_reducible assumption
theorem Code_err (b s z:Int) (g o v:ByteArray) (n n2 m:Int) (hm:(if n=0 then n2 else n)=m) (h0:m≠0) (hc:∀ W,Env W→Calls Tryz.prog 15 #[adcV b s z g o] W (RetNew W n))
  (hk:∀ W,Env W→Calls Tryz.prog 68 #[.string v] W (RetNew W n2)) (w:World) (he:Env w):
  Calls Tryz.prog 12 #[adcV b s z g o,.string v] w fun e w'=>e=.returned (.tuple #[.int .i64 0,.int .i64 0,.int .i64 m])∧New w w':=by
 have ht:(m != 0)=true:=by simpa using h0
 unfold adcV at *;have HC:=hid hc;have HK:=hid hk;have HE:=hid he;have H0:=hid h0;have HM:=hid hm;clear hc hk he h0 hm;go_enter Tryz.func12,Tryz.ntmps12;go_wp2_with fail;obtain ⟨BA,HN⟩:=lay1 w 32 #[.int .i64 b,.int .i64 s,.int .i64 z,.string g,.string o];refine (HC.out _ (HE.out.new HN.out)).mono ?_;rintro e w1 ⟨rfl,hn⟩;replace BA:=bW BA hn;replace HN:=tW HN hn;clear hn;go_wp2_with fail;refine (HK.out _ (HE.out.new HN.out)).mono ?_;rintro e w2 ⟨rfl,hn⟩;replace BA:=bW BA hn;replace HN:=tW HN hn;clear hn;go_wp2_with fail;have HN0:=HN;clear HN;obtain ⟨BG,HN⟩:=lay1 w2 29 #[.int .i64 n,.int .i64 n2];replace BA:=hid (BA.out.new HN.out);have HN_:=HN0.out.trans HN.out;clear HN HN0;have HN:=hid HN_;clear HN_;refine (pfirst2_new n n2 _ _ 29 _ BG.out).mono ?_;rintro e w3 ⟨rfl,hn⟩;rw[HM.out];replace BA:=bW BA hn;replace HN:=tW HN hn;clear hn;go_wp2_with fail;go_ret3;exact ⟨rfl,HN.out⟩
theorem checkCode_err (b s z:Int)(g o:ByteArray)(code n:Int)(h0:n≠0)(hc:∀ W,Env W→Calls Tryz.prog 15 #[adcV b s z g o] W (RetNew W n))(w:World)(he:Env w):
  Calls Tryz.prog 71 #[adcV b s z g o,.int .i64 code] w (RetNew w n):=by
 have ht:(n != 0)=true:=by simpa using h0
 unfold adcV at *;have HC:=hid hc;have HE:=hid he;have H0:=hid h0;clear hc he h0;go_enter Tryz.func71,Tryz.ntmps71;go_wp2_with fail;obtain ⟨BA,HN⟩:=lay1 w 32 #[.int .i64 b,.int .i64 s,.int .i64 z,.string g,.string o];refine (HC.out _ (HE.out.new HN.out)).mono ?_;rintro e w1 ⟨rfl,hn⟩;replace BA:=bW BA hn;replace HN:=tW HN hn;clear hn;go_wp2_with fail;go_ret;exact ⟨rfl,HN.out⟩
theorem Volts_err (b s z:Int)(g o:ByteArray)(code n:Int)(h0:n≠0)(hc:∀ W,Env W→Calls Tryz.prog 71 #[adcV b s z g o,.int .i64 code] W (RetNew W n))(w:World)(he:Env w):
  Calls Tryz.prog 13 #[adcV b s z g o,.int .i64 code] w fun e w'=>e=.returned (.tuple #[.float .f32 0,.int .i64 n])∧New w w':=by
 have ht:(n != 0)=true:=by simpa using h0
 unfold adcV at *;have HC:=hid hc;have HE:=hid he;have H0:=hid h0;clear hc he h0;go_enter Tryz.func13,Tryz.ntmps13;go_wp2_with fail;obtain ⟨BA,HN⟩:=lay1 w 32 #[.int .i64 b,.int .i64 s,.int .i64 z,.string g,.string o];refine (HC.out _ (HE.out.new HN.out)).mono ?_;rintro e w1 ⟨rfl,hn⟩;replace BA:=bW BA hn;replace HN:=tW HN hn;clear hn;go_wp2_with fail;go_ret2;exact ⟨rfl,HN.out⟩
theorem rs_span (x y:Rat):Value.agg #[.string (rs x),.string (rs y)]=spanV x y:=rfl
theorem rfull_calls (b s z:Int)(g o:ByteArray)(w:World)(bl:0≤b)(bh:b≤12)(lo: -20≤s)(hi:s≤4)(zl:0≤z)(zh:z≤4095):
  Calls Tryz.prog 16 #[.agg #[.int .i64 b,.int .i64 s,.int .i64 z,.string g,.string o]] w fun e w'=>e=.returned (spanV (nomQ s z 0) (nomQ s z (2^b.toNat - 1)))∧New w w':=by
 have htp:=fun W=>rtop_calls b s z g o W bl bh;obtain ⟨t,ht⟩:∃ t,(2:Int)^b.toNat - 1=t:=⟨_,rfl⟩
 have ht0:0≤t∧t≤4095:=by
  obtain ⟨n,rfl⟩:∃ n:Nat,b=(n:Int):=⟨b.toNat,by omega⟩;have h1:(2:Nat)^n≤2^12:=Nat.pow_le_pow_right (by decide) (by omega);have h2:0 < (2:Nat)^n:=Nat.pow_pos (by decide)
  have h3:(2:Int)^((n:Int)).toNat=((2^n:Nat):Int):=by rw[Int.toNat_natCast];simp
  omega
 rw[ht]at htp⊢;have hn0:=fun W=>(rnominal_calls b s z 0 g o W lo hi zl zh (by omega) (by omega)).mono fun e w' h=>RetS.to rfl h;have hnt:=fun W=>(rnominal_calls b s z t g o W lo hi zl zh (by omega) (by omega)).mono fun e w' h=>RetS.to rfl h;rw[←rs_span];obtain ⟨X,hX⟩:∃ X,rs (nomQ s z 0)=X:=⟨_,rfl⟩;obtain ⟨Y,hY⟩:∃ Y,rs (nomQ s z t)=Y:=⟨_,rfl⟩;simp only[hX] at hn0;simp only[hY] at hnt;rw[hX,hY];clear hX hY ht ht0 bl bh lo hi zl zh;have HTP:=hid htp;have HN0:=hid hn0;have HNT:=hid hnt;clear htp hn0 hnt;go_enter Tryz.func16,Tryz.ntmps16;go_upto_region 1 with (fail);obtain ⟨BA,BP,HN⟩:=lay2 w 24 #[.int .i64 b,.int .i64 s,.int .i64 z,.string g,.string o] 28 #[.string ⟨#[]⟩,.string ⟨#[]⟩];obtain ⟨⟨pa0,pa1,pa2,pa3,pa4⟩,pa5⟩:=BA.out.five;clear pa0 pa1 pa2 pa3 pa4 pa5;refine wp_region_T 7 (fun W=>W.cell? ⟨w.heap.size,0,none⟩=some (.int .i64 b)∧W.cell? ⟨w.heap.size,1,none⟩=some (.int .i64 s)∧W.cell? ⟨w.heap.size,2,none⟩=some (.int .i64 z)∧W.cell? ⟨w.heap.size,3,none⟩=some (.string g)∧W.cell? ⟨w.heap.size,4,none⟩=some (.string o)) 8 #[false,false,false,false,false,false,false,false] rfl (by kernel_rfl) (by kernel_rfl) ?_;refine tk 0 (by exact cW5 BA) ?_
 try simp only[PT]
 refine tk 2 (by exact cW5 BA) ?_
 try simp only[PT]
 refine tk 3 (by exact cW5 BA) ?_
 try simp only[PT]
 refine tk1 1 fun K hK=>?_;go_simp;refine (HN0.out _).mono ?_;rintro e w1 ⟨rfl,hn⟩;have hn:=hn.undr;replace BA:=bW BA hn;replace BP:=bW BP hn;replace HN:=tW HN hn;clear hn;refine hK.out _ _ (fun _=>cW5 BA) ?_;clear hK K
 try simp only[PT]
 refine tk1 4 fun K hK=>?_;go_simp;refine (HTP.out _).mono ?_;rintro e w2 ⟨rfl,hn⟩;replace BA:=bW BA hn;replace BP:=bW BP hn;replace HN:=tW HN hn;clear hn;refine hK.out _ _ (fun _=>cW5 BA) ?_;clear hK K
 try simp only[PT]
 refine tk1 5 fun K hK=>?_;go_simp;refine (HNT.out _).mono ?_;rintro e w3 ⟨rfl,hn⟩;replace BA:=bW BA hn;replace BP:=bW BP hn;replace HN:=tW HN hn;clear hn;refine hK.out _ _ (fun _=>cW5 BA) ?_;clear hK K
 try simp only[PT]
 refine tk 6 (by exact cW5 BA) ?_
 try simp only[PT]
 refine tlW ?_;obtain ⟨⟨pa0,pa1,pa2,pa3,pa4⟩,pa5⟩:=BA.out.five;clear pa0 pa1 pa2 pa3 pa4 pa5;obtain ⟨p0,p1,p2,p3,p4⟩:=BP.out.two;go_wp2_with fail;refine bodyPost_ret (v:=.agg #[.string X,.string Y]) (by simp[results,Tryz.results16,go_sem,p0,p1]) rfl ?_;exact ⟨rfl,(HN.out.setCell (p:=⟨w.heap.size+1,0,none⟩) (by show w.heap.size≤w.heap.size+1;omega) _).setCell (p:=⟨w.heap.size+1,1,none⟩) (by show w.heap.size≤w.heap.size+1;omega) _⟩
end Go.Proofs.YtbkcjmojgglbkaaGreatDoor
