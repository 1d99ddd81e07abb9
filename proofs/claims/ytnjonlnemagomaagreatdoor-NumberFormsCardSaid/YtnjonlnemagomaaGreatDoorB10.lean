/- Part B10. -/
import Derived.Lib.ItoaMem
import Derived.Lib.LaidTab
import Derived.Lib.Atoi
import Derived.Lib.IndexMore
import Derived.Shelf.Strings.SlTrimAscii
import Derived.Deep.DeepCutAuto
import Derived.Laws.FloatArith
import Derived.Test.YtnjonlnemagomaaGreatDoorB09
namespace Go.Proofs.YtnjonlnemagomaaGreatDoor
open Go.RowKit Big
open Go.Lib (hid)
set_option maxRecDepth 100000
set_option maxHeartbeats 8000000
structure Env (w:World):Prop where
 maxLen:∃ m:Int,w.cell? ⟨1,0,none⟩=some (.int .i64 m)
 tab : Lib.TabIs Tryz.prog w "internal/strconv.uint64pow10" .u64 Lib.pow10Tab
theorem Env.new {w w':World}(h:Env w)(hn:New w w'):Env w':=by
 obtain ⟨⟨m,hm⟩,ht⟩:=h;refine ⟨⟨m,hn.cell hm⟩,?_⟩;unfold Lib.TabIs World.var? at *
 cases hg : Tryz.prog.globalNamed "internal/strconv.uint64pow10" with
 | none=>rw[hg] at ht;cases ht
 | some g=>
  rw[hg]at ht;simp only[Option.bind_some] at ht⊢
  have hlt:g < w.heap.size:=by
   rcases Nat.lt_or_ge g w.heap.size with h | h
   ·exact h
   ·rw[Array.getElem?_eq_none h] at ht;cases ht
  rw[Below.block hn g hlt];exact ht
theorem ygl (w:World)(k:Nat)(os:Array Obj):New w (Sort.grow (w.drewN k) os):=by
 refine ⟨rfl,rfl,rfl,?_,fun j hj=>?_⟩
 ·show w.heap.size<=(w.heap ++ os).size;rw[Array.size_append];omega
 ·show (w.heap ++ os)[j]?=w.heap[j]?;rw[Array.getElem?_append_left hj]
theorem yie (z:Int)(w:World)(he:Env w)(lo: -9223372036854775808<=z)(hi:z<=9223372036854775807):Calls Tryz.prog 228 #[.int .i64 z] w fun e w'=>e=.returned (.string ⟨(Lib.itoa z).toArray⟩)/\New w w':=
 (Tryz.strconv_Itoa z lo hi w he.tab).mono fun e w' ⟨h1,k,os,h2⟩=>⟨h1,by rw[h2];exact ygl w k os⟩
def Sm (z:Int):Prop:= -9223372036854775807<=z/\z<=9223372036854775807
theorem y06.sm {w:World}{s:Int}{a:Option Addr}{l c:Nat}{z:Int}(h:y06 w (.agg #[.int .i64 s,.slice a l c]) z)(hs:Sm z):s=z/\a=none/\l=0/\c=0:=by
 obtain ⟨lo',hi'⟩:=hs;rcases h with ⟨h,lo,hi⟩ | ⟨b,off,n,cap,f,s,h,hs,hw,h0,hv,hz⟩
 ·injection h with h;simp at h;obtain ⟨rfl,rfl,rfl,rfl⟩:=h;exact ⟨rfl,rfl,rfl,rfl⟩
 ·exfalso;rcases hs with rfl | rfl <;> omega
theorem yhw {a b:ByteArray}(h:a=b):Ending.returned (.string a)=.returned (.string b):=by rw[h]
theorem join3 (A B:List UInt8)(c:UInt8):(⟨A.toArray⟩ ++ ⟨#[c]⟩ ++ ⟨B.toArray⟩:ByteArray)=⟨(A ++ c::B).toArray⟩:=by
 apply ByteArray.ext;simp[ByteArray.data_append]
def y0v (x y:Rat):Int:=x.num*(y.den:Int) - y.num*(x.den:Int)
theorem y1x {x y:Rat}:(y0v x y).sign < 0 ↔ x < y:=by
 rw[Int.sign_neg_iff,Rat.lt_iff];unfold y0v;omega
theorem y2o {x y:Rat}:0 < (y0v x y).sign ↔ y < x:=by
 rw[Int.sign_pos_iff,Rat.lt_iff];unfold y0v;omega
theorem y16 (va vb:Value)(x y:Rat)(j k:Nat)(w:World)(hx:y07 w va x)(hy:y07 w vb y)(bx:FB j x)(by':FB k y)(hk:j+k<=60000000):Calls Tryz.prog 90 #[va,vb] w (y1t w (y0v x y)):=by
 obtain ⟨sa,aa,la,ca,ta,ba,ma,na,rfl,hx1,hx2⟩:=hx;obtain ⟨sb,ab,lb,cb,tb,bb,mb,nb,rfl,hy1,hy2⟩:=hy;obtain ⟨r,hr⟩:∃ r,y0v x y=r:=⟨_,rfl⟩;have hr':x.num*(y.den:Int) - y.num*(x.den:Int)=r:=hr;rw[hr];clear hr;have b1:=(bx.num.mul by'.den).bd hk;have b2:=(by'.num.mul bx.den).bd (show k+j<=60000000 by omega);have bx1:=bx.num.bd (show j<=60000000 by omega);have bx2:=bx.den.bd (show j<=60000000 by omega);have by1:=by'.num.bd (show k<=60000000 by omega);have by2:=by'.den.bd (show k<=60000000 by omega);clear bx by';have X1:=hid hx1;have X2:=hid hx2;have Y1:=hid hy1;have Y2:=hid hy2;have HR:=hid hr';have BX1:=hid bx1;have BX2:=hid bx2;have BY1:=hid by1;have BY2:=hid by2;have B1:=hid b1;have B2:=hid b2;clear hx1 hx2 hy1 hy2 hr' bx1 bx2 by1 by2 b1 b2;go_enter Tryz.func90,Tryz.ntmps90;go_wp2_with fail;obtain ⟨BA,BB,HN⟩:=lay2 w 115 #[.int .i64 sa,.slice aa la ca,.int .i64 ta,.slice ba ma na] 115 #[.int .i64 sb,.slice ab lb cb,.int .i64 tb,.slice bb mb nb];obtain ⟨⟨pa0,pa1,pa2,pa3⟩,pa4,pa5,pa6,pa7,pa8⟩:=BA.out.four;obtain ⟨⟨pb0,pb1,pb2,pb3⟩,pb4,pb5,pb6,pb7,pb8⟩:=BB.out.four;clear pa0 pa1 pa2 pa3 pa4 pa5 pa6 pa7 pa8;clear pb0 pb1 pb2 pb3 pb4 pb5 pb6 pb7 pb8;refine y00 11 (fun W=>(W.cell? ⟨w.heap.size,0,none⟩=some (.int .i64 sa)/\W.cell? ⟨w.heap.size,1,none⟩=some (.slice aa la ca)/\W.cell? ⟨w.heap.size,2,none⟩=some (.int .i64 ta)/\W.cell? ⟨w.heap.size,3,none⟩=some (.slice ba ma na))/\(W.cell? ⟨w.heap.size+1,0,none⟩=some (.int .i64 sb)/\W.cell? ⟨w.heap.size+1,1,none⟩=some (.slice ab lb cb)/\W.cell? ⟨w.heap.size+1,2,none⟩=some (.int .i64 tb)/\W.cell? ⟨w.heap.size+1,3,none⟩=some (.slice bb mb nb))) 12 #[false,false,false,false,false,false,false,false,false,false,false,false] rfl (by kernel_rfl) (by kernel_rfl) ?_;refine tk 0 (by exact ⟨cW4 BA,cW4 BB⟩) ?_
 try simp only[PT]
 refine tk 1 (by exact ⟨cW4 BA,cW4 BB⟩) ?_
 try simp only[PT]
 refine tk 2 (by exact ⟨cW4 BA,cW4 BB⟩) ?_
 try simp only[PT]
 refine tk 3 (by exact ⟨cW4 BA,cW4 BB⟩) ?_
 try simp only[PT]
 refine tk 5 (by exact ⟨cW4 BA,cW4 BB⟩) ?_
 try simp only[PT]
 refine tk 6 (by exact ⟨cW4 BA,cW4 BB⟩) ?_
 try simp only[PT]
 refine tk 7 (by exact ⟨cW4 BA,cW4 BB⟩) ?_
 try simp only[PT]
 refine tk 8 (by exact ⟨cW4 BA,cW4 BB⟩) ?_
 try simp only[PT]
 refine tk1 4 fun K hK=>?_;go_simp;refine (y0u _ _ x.num (y.den:Int) _ (X1.out.new HN.out.drew) (Y2.out.new HN.out.drew) BX1.out BY2.out).mono ?_;rintro e w1 ⟨v1,rfl,hn,hi⟩;have hn:=hn.undrew;have HI1:=hid hi;clear hi;replace BA:=bW BA hn;replace BB:=bW BB hn;replace HN:=tW HN hn;clear hn;refine hK.out _ _ (fun _=>⟨cW4 BA,cW4 BB⟩) ?_;clear hK K
 try simp only[PT]
 refine tk1 9 fun K hK=>?_;go_simp;refine (y0u _ _ y.num (x.den:Int) _ (Y1.out.new HN.out) (X2.out.new HN.out) BY1.out BX2.out).mono ?_;rintro e w2 ⟨v2,rfl,hn,hi⟩;have HI1':=hid (HI1.out.new hn);clear HI1;have HI2:=hid hi;clear hi;replace BA:=bW BA hn;replace BB:=bW BB hn;replace HN:=tW HN hn;clear hn;refine hK.out _ _ (fun _=>⟨cW4 BA,cW4 BB⟩) ?_;clear hK K
 try simp only[PT]
 refine tk1 10 fun K hK=>?_;go_simp;refine (y3x _ _ _ _ _ HI1'.out HI2.out B1.out B2.out).mono ?_;rintro e w3 ⟨rfl,hn⟩;rw[HR.out];replace BA:=bW BA hn;replace BB:=bW BB hn;replace HN:=tW HN hn;clear hn;refine hK.out _ _ (fun _=>⟨cW4 BA,cW4 BB⟩) ?_;clear hK K
 try simp only[PT]
 refine tlW ?_;obtain ⟨⟨pa0,pa1,pa2,pa3⟩,pa4,pa5,pa6,pa7,pa8⟩:=BA.out.four;obtain ⟨⟨pb0,pb1,pb2,pb3⟩,pb4,pb5,pb6,pb7,pb8⟩:=BB.out.four;go_wp2_with fail;go_ret;exact ⟨rfl,HN.out⟩
theorem yg0 (va:Value)(z:Int)(w:World)(hx:y06 w va z)(hs:Sm z):Calls Tryz.prog 193 #[va] w fun e w'=>e=.returned (.tuple #[.int .i64 z,.bool true])/\New w w':=by
 have q1:=y4d;obtain ⟨s,a,l,c,rfl⟩:=hx.shape;obtain ⟨rfl,rfl,rfl,rfl⟩:=hx.sm hs;have HX:=hid hx;have HS:=hid hs;clear hx hs;go_enter Tryz.func193,Tryz.ntmps193;go_wp2_with fail;obtain ⟨BA,HN⟩:=lay1 w 113 #[.int .i64 s,.slice none 0 0];obtain ⟨pa0,pa1,pa2,pa3,pa4⟩:=BA.out.two
 go_region
 all_goals
  go_wp2_with fail;go_ret2;exact ⟨rfl,HN.out.drewN _⟩
theorem yac (w:World)(e:TypeId)(s:ByteArray):New w (Lib.bytesWorld w e s):=by
 have h1:New w (w.drew.alloc (.cells (Lib.bytesCells w e s) e)):=(New.refl w).drew.alloc _;unfold Lib.bytesWorld World.freeze;split
 ·exact h1
 ·refine ⟨h1.os,h1.tape,h1.output,?_,fun j hj=>?_⟩
  ·show w.heap.size<=((w.drew.alloc _).heap.modify _ _).size;rw[Array.size_modify];exact h1.size
  ·show ((w.drew.alloc _).heap.modify _ _)[j]?=w.heap[j]?;rw[Array.getElem?_modify,if_neg (by show ¬w.heap.size=j;omega)];exact Below.block h1 j hj
theorem y8d:∀ (l:List UInt8) (acc:Nat),(∀ c∈l,y0z c=true)->Lib.decFrom acc l=some (dval acc l)
 | [],acc,_=>by rw[y3d];rfl
 | c::l,acc,h=>by
  have hc:=y2h.1 (h c (by simp));rw[y2w,Lib.decFrom,Lib.digitVal,if_pos hc];rw[Nat.mul_comm 10 acc];exact y8d l _ fun x hx=>h x (by simp[hx])
theorem ylb {l:List UInt8}(h:∀ c∈l,y0z c=true)(hne:l≠[]):Lib.atoi l=some ((dval 0 l:Nat):Int):=by
 cases l with
 | nil=>exact absurd rfl hne
 | cons c l=>
  have hc:=y2h.1 (h c (by simp))
  have h1:(c==45)=false:=by
   rw[beq_eq_false_iff_ne];rintro rfl;simp at hc
  have h2:(c==43)=false:=by
   rw[beq_eq_false_iff_ne];rintro rfl;simp at hc
  rw[Lib.atoi];simp only[h1,h2,Bool.false_eq_true,if_false];rw[Lib.decNat,if_neg (by simp),y8d _ _ h];rfl
theorem yhr (s:ByteArray)(l:List UInt8)(w:World)(hs:s.data.toList=l)(hd:∀ c∈l,y0z c=true)(hne:l≠[])(hl:l.length<=18):
  Calls Tryz.prog 210 #[.string s] w fun e w'=>e=.returned (.tuple #[.int .i64 (dval 0 l:Nat),.nilIface])/\New w w':=
 (Tryz.strconv_Atoi s _ (by rw[<-hs] at hl;simpa using hl) (by rw[hs];exact ylb hd hne) w).mono fun e w' ⟨h1,t,h2⟩=>⟨h1,by rw[h2];exact yac _ _ _⟩
theorem ybw {l:List UInt8}(h:∀ c∈l,y0z c=true):BdK (4*l.length) (dval 0 l:Nat):=by
 have h1:=y4g h;have h2:10^l.length<=16^l.length:=Nat.pow_le_pow_left (by omega) _
 have h3:16^l.length=2^(4*l.length):=by rw[show 16=2^4 from rfl,<-Nat.pow_mul]
 unfold BdK;rw[Int.natAbs_natCast];omega
def yk0 (w:World)(B:Nat)(d:List UInt8)(g:Nat)(u:Value)(wr:World):Prop:=∃ (c t:List UInt8) (tb:ByteArray) (s2:Int) (o2:Option Addr) (l2 k2:Nat),
 u=.string tb/\tb.data.toList=t/\c ++ t=d/\tb.size=g/\New w wr/\Box wr w.heap.size 113 #[.int .i64 0,.slice none 0 0]/\Box wr B 113 #[.int .i64 s2,.slice o2 l2 k2]/\
 y06 wr (.agg #[.int .i64 s2,.slice o2 l2 k2]) (dval 0 c:Nat)
theorem y4y (sb:ByteArray)(neg:Bool)(d:List UInt8)(w:World)(hsb:sb.data.toList=if neg then 45::d else d)(hd:∀ c∈d,y0z c=true)(hl:d.length<=1000000):
  Calls Tryz.prog 159 #[.string sb] w (y0l w (signed neg (dval 0 d))):=by
 obtain ⟨z,hz⟩:∃ z,signed neg (dval 0 d)=z:=⟨_,rfl⟩;rw[hz]
 have hp1:Lib.hasPrefix sb.data.toList (⟨#[45]⟩:ByteArray).data.toList=neg:=by
  rw[hsb];show [45].isPrefixOf _=neg
  cases neg with
  | true=>simp
  | false=>
   cases d with
   | nil=>rfl
   | cons c d=>
    have hc:=y2h.1 (hd c (by simp))
    have h1:(45==c)=false:=by
     rw[beq_eq_false_iff_ne];rintro rfl;simp at hc
    show ((45==c) && _)=false;rw[h1];rfl
 have hp2:Lib.trimPrefix sb.data.toList (⟨#[45]⟩:ByteArray).data.toList=d:=by
  unfold Lib.trimPrefix;rw[hp1,hsb]
  cases neg <;> rfl
 have hend:∀ w' v,New w w'->y06 w' v z->y0l w z (.returned v) w':=fun w' v h1 h2=>⟨v,rfl,h1,h2⟩;have HZ:=hid hz;have HSB:=hid hsb;have HD:=hid hd;have HP1:=hid hp1;have HP2:=hid hp2;have HEND:=hid hend;clear hz hsb hd hp1 hp2 hend;go_enter Tryz.func159,Tryz.ntmps159;go_wp2_with fail;obtain ⟨BP,HN⟩:=lay1 w 113 #[.int .i64 0,.slice none 0 0];refine (Tryz.strings_HasPrefix sb _ _).mono ?_;rintro e w' ⟨rfl,hw⟩;subst hw;rw[HP1.out];go_wp2_with fail;refine (Tryz.strings_TrimPrefix sb _ _).mono ?_;rintro e w' ⟨rfl,hw⟩;subst hw;rw[HP2.out];go_wp2_with fail;clear BP HN;obtain ⟨BP,BO,HN⟩:=lay2 w 113 #[.int .i64 0,.slice none 0 0] 113 #[.int .i64 0,.slice none 0 0];have hstart:yk0 w (w.heap.size+1) d d.length (.string ⟨d.toArray⟩) _:=⟨[],d,⟨d.toArray⟩,_,_,_,_,rfl,rfl,rfl,by simp[ByteArray.size],HN.out,BP.out,BO.out,.small rfl (by simp[y3d]) (by simp[y3d])⟩;clear HN BP BO;have HS:=hid hstart;clear hstart
 go_loopg [0] d.length (fun g u wr=>yk0 w (w.heap.size+1) d g u wr)
 case atStart=>exact HS.out
 case round=>
  clear HS;obtain ⟨c,t,tb,s2,o2,l2,k2,rfl,htb,hct,hg,hN,hP,hO,hi⟩:=hrel;have hB:w.heap.size+1 < wr.heap.size:=hO.lt;have HT:=hid htb;have HCT:=hid hct;have HG:=hid hg;have HN:=hid hN;have BP:=hid hP;have BO:=hid hO;have HI:=hid hi;clear htb hct hg hN hP hO hi;by_cases h0:tb.size=0
  ·have hz0:¬(0:Int) < (tb.size:Int):=by omega
   have hdv:dval 0 d=dval 0 c:=by
    have h1:t=[]:=by
     rw[<-HT.out]
     have:tb.data.toList.length=0:=by simpa using h0
     exact List.length_eq_zero_iff.1 this
    rw[<-HCT.out,h1,List.append_nil]
   have HDV:=hid hdv;have H0:=hid h0;clear hdv h0
   cases neg with
   | true=>
    obtain ⟨b0,b1,b2,b3,b4⟩:=BO.out.two;go_wp2_with fail;refine (y3g _ (dval 0 c:Nat) _ HI.out).mono ?_;rintro e w2 ⟨v,rfl,hn,hi⟩;obtain ⟨s5,a5,l5,k5,rfl⟩:=hi.shape;have HI5:=hid hi;clear hi;replace BP:=bW BP hn;replace HN:=tW HN hn;clear hn;obtain ⟨p0,p1,p2,p3,p4⟩:=BP.out.two;go_wp2_with fail;refine bodyPost_ret (v:=.agg #[.int .i64 s5,.slice a5 l5 k5]) (by simp[results,Tryz.results159,go_sem,p0,p1]) rfl ?_;refine HEND.out _ _ (HN.out.putAt BP.out (by omega) _ _) ?_;rw[<-HZ.out,HDV.out];exact HI5.out.put2 BP.out _ _ _ _
   | false=>
    obtain ⟨b0,b1,b2,b3,b4⟩:=BO.out.two;obtain ⟨p0,p1,p2,p3,p4⟩:=BP.out.two;go_wp2_with fail;refine bodyPost_ret (v:=.agg #[.int .i64 s2,.slice o2 l2 k2]) (by simp[results,Tryz.results159,go_sem,p0,p1]) rfl ?_;refine HEND.out _ _ (HN.out.putAt BP.out (by omega) _ _) ?_;rw[<-HZ.out,HDV.out];exact HI.out.put2 BP.out _ _ _ _
  ·have hz0:(0:Int) < (tb.size:Int):=by omega
   obtain ⟨n,hmin,hn1,hn18,hns⟩:∃ n:Nat,min (18:Int) (tb.size:Int)=(n:Int)/\1<=n/\n<=18/\n<=tb.size:=⟨min 18 tb.size,by omega,by omega,by omega,by omega⟩
   have hlt:tb.size=t.length:=by rw[<-HT.out];simp
   have hlen:=congrArg List.length HCT.out;rw[List.length_append] at hlen;have hdc:∀ x∈c,y0z x=true:=fun x hx=>HD.out x (by rw[<-HCT.out];simp[hx]);have hdt:∀ x∈t.take n,y0z x=true:=fun x hx=>HD.out x (by rw[<-HCT.out];simp[List.mem_of_mem_take hx])
   have hx1:(tb.extract 0 n).data.toList=t.take n:=by rw[Lib.extract_data,HT.out];rfl
   have hx2:(tb.extract n tb.size).data.toList=t.drop n:=by rw[Lib.extract_to_end,HT.out]
   have hat:=fun W=>yhr (tb.extract 0 n) (t.take n) W hx1 hdt (by rw[<-List.length_pos_iff,List.length_take];omega) (by rw[List.length_take];omega);have hb1:Bd (dval 0 c:Nat):=(ybw hdc).bd (by omega)
   have hp10:BdK 4 10:=by unfold BdK;decide
   have hb2:Bd ((10:Int)^n):=(hp10.pow n).bd (by omega);have hb3:Bd ((dval 0 c:Nat)*(10:Int)^n):=((ybw hdc).mul (hp10.pow n)).bd (by omega);have hv:dval 0 (t.take n) < 10^18:=Nat.lt_of_lt_of_le (y4g hdt) (Nat.pow_le_pow_right (by omega) (by rw[List.length_take];omega))
   have hvl: -9223372036854775808<=((dval 0 (t.take n):Nat):Int):=by omega
   have hvh:((dval 0 (t.take n):Nat):Int)<=9223372036854775807:=by omega
   obtain ⟨V,hV⟩:∃ V:Int,((dval 0 (t.take n):Nat):Int)=V:=⟨_,rfl⟩;rw[hV] at hvl hvh;simp only[hV] at hat
   have hnew:((dval 0 c:Nat):Int)*10^n+V=(dval 0 (c ++ t.take n):Nat):=by
    rw[<-hV,y4f,ygg (dval 0 c),List.length_take,show min n t.length=n by omega];simp
   have hdrop:(c ++ t.take n) ++ t.drop n=d:=by rw[List.append_assoc,List.take_append_drop];exact HCT.out
   have hn0:(n:Int)<=(tb.size:Int):=by omega
   have hnp:(0:Int)<=(n:Int):=by omega
   have hsv:∀ W,y06 W (.agg #[.int .i64 V,.slice none 0 0]) V:=fun W=>.small rfl hvl hvh;have hbv:Bd V:=.small hvl hvh
   have hsz:(tb.extract n tb.size).size < tb.size:=by simp;omega
   have HLT:=hid hlt;have HLEN:=hid hlen;have HDC:=hid hdc;have HDT:=hid hdt;have HX1:=hid hx1;have HX2:=hid hx2;have HAT:=hid hat;have HB1:=hid hb1;have HP10:=hid hp10;have HB2:=hid hb2;have HB3:=hid hb3;have HV:=hid hv;have HVV:=hid hV;have HNEW:=hid hnew;have HDROP:=hid hdrop;have HSV:=hid hsv;have HBV:=hid hbv;have HSZ:=hid hsz;have HVL:=hid hvl;have HVH:=hid hvh;have H0:=hid h0;have HN18:=hid hn18;have HN1:=hid hn1;have HNS:=hid hns;clear hlt hlen hdc hdt hx1 hx2 hat hb1 hp10 hb2 hb3 hv hV hnew hdrop hsv hbv hsz hvl hvh h0 hn18 hn1 hns;go_wp2_with fail;refine (HAT.out _).mono ?_;rintro e w1 ⟨rfl,hn⟩;replace BP:=bW BP hn;replace BO:=bW BO hn;replace HI:=hid (HI.out.new hn);replace HN:=tW HN hn;clear hn;obtain ⟨b0,b1,b2,b3,b4⟩:=BO.out.two;go_wp2_with fail;clear b0 b1 b2 b3 b4;refine y00 8 (fun W=>W.cell? ⟨w.heap.size+1,0,none⟩=some (.int .i64 s2)/\W.cell? ⟨w.heap.size+1,1,none⟩=some (.slice o2 l2 k2)) 9 #[false,false,false,false,false,false,false,false,false] rfl (by kernel_rfl) (by kernel_rfl) ?_;refine tk 0 (by exact cW2 BO) ?_
   try simp only[PT]
   refine tk 2 (by exact cW2 BO) ?_
   try simp only[PT]
   refine tk 5 (by exact cW2 BO) ?_
   try simp only[PT]
   refine tk1 1 fun K hK=>?_;go_simp;refine (y09 10 _).mono ?_;rintro e w3 ⟨rfl,hn⟩;have hn:=hn.undrew;replace BP:=bW BP hn;replace BO:=bW BO hn;replace HI:=hid (HI.out.new hn);replace HN:=tW HN hn;clear hn;refine hK.out _ _ (fun _=>cW2 BO) ?_;clear hK K
   try simp only[PT]
   refine tk1 3 fun K hK=>?_;go_simp;refine (y5z _ 10 n 4 _ (.small rfl (by omega) (by omega)) HP10.out (by have:=HN18.out;omega) (by have:=HN18.out;omega)).mono ?_;rintro e w4 ⟨v,rfl,hn,hi⟩;obtain ⟨s5,a5,l5,k5,rfl⟩:=hi.shape;have HI5:=hid hi;clear hi;replace BP:=bW BP hn;replace BO:=bW BO hn;replace HI:=hid (HI.out.new hn);replace HN:=tW HN hn;clear hn;refine hK.out _ _ (fun _=>cW2 BO) ?_;clear hK K
   try simp only[PT]
   refine tk1 4 fun K hK=>?_;go_simp;refine (y0u _ _ (dval 0 c:Nat) (10^n) _ HI.out HI5.out HB1.out HB2.out).mono ?_;rintro e w5 ⟨v,rfl,hn,hi⟩;obtain ⟨s6,a6,l6,k6,rfl⟩:=hi.shape;have HI6:=hid hi;clear hi;replace BP:=bW BP hn;replace BO:=bW BO hn;replace HN:=tW HN hn;clear hn;refine hK.out _ _ (fun _=>cW2 BO) ?_;clear hK K
   try simp only[PT]
   refine tk1 6 fun K hK=>?_;go_simp;refine (y09 V _).mono ?_;rintro e w6 ⟨rfl,hn⟩;replace BP:=bW BP hn;replace BO:=bW BO hn;replace HI6:=hid (HI6.out.new hn);replace HN:=tW HN hn;clear hn;refine hK.out _ _ (fun _=>cW2 BO) ?_;clear hK K
   try simp only[PT]
   refine tk1 7 fun K hK=>?_;go_simp;refine (y1r _ _ ((dval 0 c:Nat)*10^n) V _ HI6.out (HSV.out _) HB3.out HBV.out).mono ?_;rintro e w7 ⟨v,rfl,hn,hi⟩;rw[HNEW.out] at hi;obtain ⟨s7,a7,l7,k7,rfl⟩:=hi.shape;have HI7:=hid hi;clear hi;replace BP:=bW BP hn;replace BO:=bW BO hn;replace HN:=tW HN hn;clear hn;refine hK.out _ _ (fun _=>cW2 BO) ?_;clear hK K
   try simp only[PT]
   refine tlW ?_;obtain ⟨b0,b1,b2,b3,b4⟩:=BO.out.two;go_wp2_with fail;clear b0 b1 b2 b3 b4;have BP_:=BP.out.away BO.out (by omega) (.int .i64 s7) (.slice a7 l7 k7);have HI7_:=HI7.out.put2 BO.out s7 a7 l7 k7;have HN_:=HN.out.putAt BO.out (by omega) (.int .i64 s7) (.slice a7 l7 k7);have BO_:=BO.out.put2 (.int .i64 s7) (.slice a7 l7 k7);clear BP HI7 HN BO;have BP:=hid BP_;have HI7:=hid HI7_;have HN:=hid HN_;have BO:=hid BO_;clear BP_ HI7_ HN_ BO_
   go_roundg (tb.extract n tb.size).size
   case measure=>rw[<-HG.out];exact HSZ.out
   case rel=>exact ⟨c ++ t.take n,t.drop n,tb.extract n tb.size,_,_,_,_,rfl,HX2.out,HDROP.out,rfl,HN.out,BP.out,BO.out,HI7.out⟩
theorem ylc:∀ l:List UInt8,Lib.index l [47]=if y0e l then ((upTo l).length:Int) else -1
 | []=>rfl
 | b::l=>by
  have ih:=ylc l;rw[Lib.index];by_cases hb:b=47
  ·subst hb;rw[if_pos (by simp)];rw[if_pos (by simp[y0e])];simp[upTo]
  ·have h1:(47==b)=false:=by rw[beq_eq_false_iff_ne];exact fun h=>hb h.symm
   have h2:(b==47)=false:=by rw[beq_eq_false_iff_ne];exact hb
   rw[if_neg (by simp;exact fun h=>hb h.symm)]
   have h3:y0e (b::l)=y0e l:=by simp[y0e,h2]
   have h4:upTo (b::l)=b::upTo l:=by simp[upTo,hb]
   rw[h3,h4,ih];by_cases hs:y0e l=true
   ·rw[if_pos hs,if_pos hs]
    have:((((upTo l).length:Int))== -1)=false:=by rw[beq_eq_false_iff_ne];omega
    rw[if_neg (by rw[this];decide)];simp
   ·rw[if_neg hs,if_neg hs];rfl
theorem cut47 (l:List UInt8):Lib.cut l [47]=(upTo l,behind l,y0e l):=by
 unfold Lib.cut;rw[ylc];by_cases hs:y0e l=true
 ·rw[if_pos hs,if_pos (by omega),hs];have h:=y1y hs;obtain ⟨A,hA⟩:∃ A,upTo l=A:=⟨_,rfl⟩;obtain ⟨B,hB⟩:∃ B,behind l=B:=⟨_,rfl⟩;rw[hA,hB] at h⊢
  have e1:(A.length:Int).toNat=A.length:=by omega
  rw[e1,h];simp
 ·rw[if_neg hs,if_neg (by omega)]
  have hs':y0e l=false:=by simpa using hs
  obtain ⟨h1,h2⟩:=y0x hs';rw[h1,h2,hs']
theorem yf1 (z:Int):y0e (Lib.itoa z)=false:=by
 rcases Int.lt_or_le z 0 with hz | hz
 ·obtain ⟨n,rfl⟩:∃ n:Nat,z= -(n:Int):=⟨z.natAbs,by omega⟩;rw[Big.itoa_neg (by omega)];have:=y2t n;simpa[y0e] using this
 ·obtain ⟨n,rfl⟩:∃ n:Nat,z=(n:Int):=⟨z.toNat,by omega⟩;rw[Big.itoa_nonneg];exact y2t n
theorem ybf (z:Int)(r:List UInt8):upTo (Lib.itoa z ++ 47::r)=Lib.itoa z/\behind (Lib.itoa z ++ 47::r)=r:=by
 rcases Int.lt_or_le z 0 with hz | hz
 ·obtain ⟨n,rfl⟩:∃ n:Nat,z= -(n:Int):=⟨z.natAbs,by omega⟩;rw[Big.itoa_neg (by omega)];have h1:=y2r n r;have h2:=y1w n r;unfold upTo at *;unfold behind at *;rw[List.cons_append,List.takeWhile_cons,List.dropWhile_cons];rw[if_pos (by decide),if_pos (by decide),h1,h2];exact ⟨rfl,rfl⟩
 ·obtain ⟨n,rfl⟩:∃ n:Nat,z=(n:Int):=⟨z.toNat,by omega⟩;rw[Big.itoa_nonneg];exact ⟨y2r n r,y1w n r⟩
theorem ydj (s:ByteArray)(w:World)(he:Env w)(hl:s.size<=1000000):
  Calls Tryz.prog 156 #[.string s,.string ⟨#[47]⟩] w fun e w'=>e=.returned (.tuple #[.string ⟨(upTo s.data.toList).toArray⟩,.string ⟨(behind s.data.toList).toArray⟩,.bool (y0e s.data.toList)])/\New w w':=by
 obtain ⟨m,hm⟩:=he.maxLen;refine (Tryz.strings_Cut s ⟨#[47]⟩ m w (by omega) hm).mono fun e w' ⟨h1,n,h2⟩=>⟨?_,by rw[h2];exact (New.refl w).drewN n⟩;rw[h1];have:(⟨#[47]⟩:ByteArray).data.toList=[47]:=rfl;rw[this,cut47]
theorem ya0 (sb:ByteArray)(z:Int)(w:World)(hsb:sb.data.toList=Lib.itoa z)(hl:sb.size<=1000000):Calls Tryz.prog 159 #[.string sb] w (y0l w z):=by
 have hl':(Lib.itoa z).length<=1000000:=by rw[<-hsb];simpa using hl
 rcases Int.lt_or_le z 0 with hz | hz
 ·obtain ⟨n,rfl⟩:∃ n:Nat,z= -(n:Int):=⟨z.natAbs,by omega⟩;rw[Big.itoa_neg (by omega)] at hsb hl';have:=y4y sb true (Lib.decDigits n) w (by rw[hsb];rfl) (y19 n) (by simp at hl';omega);rw[y0p] at this;exact this
 ·obtain ⟨n,rfl⟩:∃ n:Nat,z=(n:Int):=⟨z.toNat,by omega⟩;rw[Big.itoa_nonneg] at hsb hl';have:=y4y sb false (Lib.decDigits n) w (by rw[hsb];rfl) (y19 n) hl';rw[y0p] at this;exact this
theorem y0c (sb:ByteArray)(q:Rat)(w:World)(he:Env w)(hsb:sb.data.toList=y02 q)(hl:sb.size<=1000000):Calls Tryz.prog 87 #[.string sb] w (y1h w q):=by
 obtain ⟨A,hA⟩:∃ A,upTo sb.data.toList=A:=⟨_,rfl⟩;obtain ⟨B,hB⟩:∃ B,behind sb.data.toList=B:=⟨_,rfl⟩;have hcut:=fun W (h:New w W)=>ydj sb W (he.new h) hl;rw[hA,hB] at hcut
 have hlen:sb.data.toList.length<=1000000:=by simpa using hl
 by_cases hd:q.den=1
 ·have ht:y02 q=Lib.itoa q.num:=by unfold y02;rw[if_pos hd]
  have hs:y0e sb.data.toList=false:=by rw[hsb,ht];exact yf1 _
  have hq:((q.num:Int):Rat)=q:=by
   apply Rat.ext
   ·rw[Rat.num_intCast]
   ·rw[Rat.den_intCast,hd]
  have hA':A=Lib.itoa q.num:=by rw[<-hA,(y0x hs).1,hsb,ht]
  have hAl:(⟨A.toArray⟩:ByteArray).size<=1000000:=by
   have:A.length<=1000000:=by rw[hA',<-ht,<-hsb];exact hlen
   simpa[ByteArray.size] using this
  rw[hs]at hcut;have HCUT:=hid hcut;have HA:=hid hA';have HAL:=hid hAl;have HQ:=hid hq;clear hcut hA' hAl hq;clear he hsb hA hB hs ht hd hlen;go_enter Tryz.func87,Tryz.ntmps87;go_wp2_with fail;obtain ⟨BP,HN⟩:=lay1 w 115 #[.int .i64 0,.slice none 0 0,.int .i64 0,.slice none 0 0];refine (HCUT.out _ HN.out).mono ?_;rintro e w1 ⟨rfl,hn⟩;replace BP:=bW BP hn;replace HN:=tW HN hn;clear hn;go_wp2_with fail;refine (ya0 _ q.num _ HA.out HAL.out).mono ?_;rintro e w2 ⟨v,rfl,hn,hi⟩;obtain ⟨s7,a7,l7,k7,rfl⟩:=hi.shape;have HI:=hid hi;clear hi;replace BP:=bW BP hn;replace HN:=tW HN hn;clear hn;go_wp2_with fail;refine (y26 _ q.num _ HI.out).mono ?_;rintro e w3 ⟨v,rfl,hn,hf⟩;rw[HQ.out] at hf;obtain ⟨s9,a9,l9,k9,t9,b9,m9,n9,rfl⟩:=hf.shape;have HF:=hid hf;clear hf;replace BP:=bW BP hn;replace HN:=tW HN hn;clear hn;obtain ⟨⟨p0,p1,p2,p3⟩,p4,p5,p6,p7,p8⟩:=BP.out.four;go_wp2_with fail;refine bodyPost_ret (v:=.agg #[.int .i64 s9,.slice a9 l9 k9,.int .i64 t9,.slice b9 m9 n9]) (by simp[results,Tryz.results87,go_sem,p0,p1,p2,p3]) rfl ?_;exact y10 HN.out BP.out (by omega) HF.out.parts.1 HF.out.parts.2
 ·have ht:y02 q=Lib.itoa q.num ++ 47::Lib.decDigits q.den:=by unfold y02;rw[if_neg hd]
  have hs:y0e sb.data.toList=true:=by rw[hsb,ht];simp[y0e]
  have hA':A=Lib.itoa q.num:=by rw[<-hA,hsb,ht];exact (ybf _ _).1
  have hB':B=Lib.itoa (q.den:Int):=by rw[<-hB,hsb,ht,Big.itoa_nonneg];exact (ybf _ _).2
  have hAB:sb.data.toList=A ++ 47::B:=by rw[<-hA,<-hB];exact y1y hs
  have hAl:(⟨A.toArray⟩:ByteArray).size<=1000000:=by
   rw[hAB,List.length_append,List.length_cons]at hlen
   have:A.length<=1000000:=by omega
   simpa[ByteArray.size] using this
  have hBl:(⟨B.toArray⟩:ByteArray).size<=1000000:=by
   rw[hAB,List.length_append,List.length_cons]at hlen
   have:B.length<=1000000:=by omega
   simpa[ByteArray.size] using this
  rw[hs]at hcut;have HCUT:=hid hcut;have HA:=hid hA';have HAL:=hid hAl;have HB:=hid hB';have HBL:=hid hBl;clear hcut hA' hAl hB' hBl;clear he hsb hA hB hs ht hd hlen hAB;go_enter Tryz.func87,Tryz.ntmps87;go_wp2_with fail;obtain ⟨BP,HN⟩:=lay1 w 115 #[.int .i64 0,.slice none 0 0,.int .i64 0,.slice none 0 0];refine (HCUT.out _ HN.out).mono ?_;rintro e w1 ⟨rfl,hn⟩;replace BP:=bW BP hn;replace HN:=tW HN hn;clear hn;go_wp2_with fail;refine (ya0 _ q.num _ HA.out HAL.out).mono ?_;rintro e w2 ⟨v,rfl,hn,hi⟩;obtain ⟨s7,a7,l7,k7,rfl⟩:=hi.shape;have HI:=hid hi;clear hi;replace BP:=bW BP hn;replace HN:=tW HN hn;clear hn;go_wp2_with fail;refine (ya0 _ (q.den:Int) _ HB.out HBL.out).mono ?_;rintro e w3 ⟨v,rfl,hn,hi⟩;obtain ⟨s8,a8,l8,k8,rfl⟩:=hi.shape;have HI8:=hid hi;clear hi;replace BP:=bW BP hn;replace HI:=hid (HI.out.new hn);replace HN:=tW HN hn;clear hn;obtain ⟨⟨p0,p1,p2,p3⟩,p4,p5,p6,p7,p8⟩:=BP.out.four;go_wp2_with fail;refine bodyPost_ret (v:=.agg #[.int .i64 s7,.slice a7 l7 k7,.int .i64 s8,.slice a8 l8 k8]) (by simp[results,Tryz.results87,go_sem,p0,p1,p2,p3]) rfl ?_;exact y10 HN.out BP.out (by omega) HI.out HI8.out
theorem y3k {a b:Int}(h:a=b):Ending.returned (.int .i64 a)=.returned (.int .i64 b):=by rw[h]
theorem y04 (b:Bool)(n:Int)(w:World):Calls Tryz.prog 100 #[.bool b,.int .i64 n] w fun e w'=>e=.returned (.int .i64 (if b then n else 0))/\w=w':=by
 cases b <;> (go_enter Tryz.func100,Tryz.ntmps100;go_wp2_with fail;go_ret;exact ⟨rfl,rfl⟩)
def y2k:List Int->Int
 | []=>0
 | x::l=>if x=0 then y2k l else x
theorem yed {l:List Int}{k:Nat}(hk:k < l.length)(h:y2k (l.drop k)=y2k l)(h0:l[k]=0):y2k (l.drop (k+1))=y2k l:=by
 rw[<-h,List.drop_eq_getElem_cons hk,y2k,if_pos h0]
theorem yik {l:List Int}{k:Nat}(hk:k < l.length)(h:y2k (l.drop k)=y2k l)(h0:l[k]≠0):y2k l=l[k]:=by
 rw[<-h,List.drop_eq_getElem_cons hk,y2k,if_neg h0]
theorem yel (l:List Int)(b cap:Nat)(w:World)(hl:l.length<=1000)(hc:∀ i (h:i < l.length),w.cell? ⟨b,i,none⟩=some (.int .i64 l[i])):
  Calls Tryz.prog 86 #[.slice (some ⟨b,0,none⟩) l.length cap] w fun e w'=>e=.returned (.int .i64 (y2k l))/\w=w':=by
 obtain ⟨r,hr⟩:∃ r,y2k l=r:=⟨_,rfl⟩;rw[hr]
 have hlen:(l.length:Int)<=1000:=by omega
 have HC:=hid hc;have HR:=hid hr;clear hc hr;go_enter Tryz.func86,Tryz.ntmps86;go_wp2_with fail
 go_loop [7] (fun i=>∃ k:Nat,k<=l.length/\i=.int .i64 (k:Int)/\Hid (y2k (l.drop k)=y2k l)) (fun i=>l.length - (intOf i).toNat)
 case atStart=>exact ⟨0,Nat.zero_le _,rfl,hid rfl⟩
 case round=>
  obtain ⟨k,hk,rfl,HK⟩:=hrel;by_cases hlt:k < l.length
  ·have hcell:=HC.out k hlt;obtain ⟨x,hx⟩:∃ x,l[k]=x:=⟨_,rfl⟩;rw[hx] at hcell;by_cases h0:x=0
   ·have hx0:(x != 0)=false:=by simp[h0]
    have hd:=yed hlt HK.out (hx.trans h0);have HX:=hid hx;have H0:=hid h0;have HD:=hid hd;clear hx h0 hd;go_wp2_with fail;go_round
    case rel=>exact ⟨k+1,by omega,by go_num,HD⟩
    case measure=>simp[intOf];omega
   ·have hx0:(x != 0)=true:=by simp[h0]
    have hd:=yik hlt HK.out (by rw[hx];exact h0);have HX:=hid hx;have H0:=hid h0;have HD:=hid hd;clear hx h0 hd;go_wp2_with fail;go_ret;exact ⟨y3k (by rw[<-HR.out,HD.out,HX.out]),rfl⟩
  ·have hkk:k=l.length:=by omega
   have hz:r=0:=by rw[<-HR.out,<-HK.out,hkk,List.drop_length];rfl
   have HKK:=hid hkk;have HZ:=hid hz;clear hkk hz;go_wp2_with fail;go_ret;exact ⟨y3k HZ.out.symm,rfl⟩
def outside (n lo hi:Int):Bool:=decide (n < lo) || decide (hi < n)
theorem yn3 (x y:Int):y2k [x,y]=if x=0 then y else x:=by
 unfold y2k;split
 ·unfold y2k;split
  ·rename_i h;rw[h];rfl
  ·rfl
 ·rfl
theorem y57 (x y:Int)(b cap:Nat)(t:TypeId)(w:World)(h:Box w b t #[.int .i64 x,.int .i64 y]):
  Calls Tryz.prog 86 #[.slice (some ⟨b,0,none⟩) 2 cap] w fun e w'=>e=.returned (.int .i64 (if x=0 then y else x))/\w=w':=by
 have:=yel [x,y] b cap w (by simp) (fun i hi=>by
  have:i=0\/i=1:=by simp at hi;omega
  rcases this with rfl | rfl
  ·exact h.two.1
  ·exact h.two.2.1)
 rw[yn3]at this;exact this
theorem ycp (s:ByteArray)(w:World)(hs:s.size<=1000000):Calls Tryz.prog 207 #[.string s,.string ⟨#[48,49,50,51,52,53,54,55,56,57]⟩] w fun e w'=>e=.returned (.string ⟨(Lib.trimS s.data.toList [48,49,50,51,52,53,54,55,56,57]).toArray⟩)/\New w w':=
 Any.strings_Trim_laid Tryz.lays160 (by kernel_rfl) s ⟨#[48,49,50,51,52,53,54,55,56,57]⟩ w (by omega) (by decide) (ascii_of_all (by decide))
theorem ycn (w:World):Calls Tryz.prog 157 #[.string ⟨#[]⟩] w fun e w'=>e=.returned (.bool false)/\New w w':=by
 go_enter Tryz.func157,Tryz.ntmps157;go_wp2_with fail;go_ret;exact ⟨rfl,New.refl _⟩
theorem ycd (c:UInt8):([48,49,50,51,52,53,54,55,56,57]:List UInt8).contains c=y0z c:=by
 have key:∀ n,n < 256->([48,49,50,51,52,53,54,55,56,57]:List UInt8).contains (UInt8.ofNat n)=y0z (UInt8.ofNat n):=by decide +kernel
 have:=key c.toNat (UInt8.toNat_lt c)
 rwa [UInt8.ofNat_toNat] at this
theorem y3p {p:UInt8->Bool}:∀ {l:List UInt8},l.dropWhile p=[] ↔ ∀ c∈l,p c=true:=by
 intro l;exact ⟨fun h=>y40 h,fun h=>y59 h⟩
theorem y6m {p:UInt8->Bool}:∀ {l:List UInt8} {c:UInt8} {r:List UInt8},l.dropWhile p=c::r->p c=false
 | [],c,r,h=>by cases h
 | x::l,c,r,h=>by
  rw[List.dropWhile_cons]at h;split at h
  ·exact y6m h
  ·rename_i hx
   cases h
   simpa using hx
theorem ydq {l:List UInt8}:Lib.trimS l [48,49,50,51,52,53,54,55,56,57]=[] ↔ l.all y0z=true:=by
 unfold Lib.trimS Lib.trimLeftS Lib.trimRightS;simp only[ycd];rw[y3p,List.all_eq_true];constructor
 ·intro h
  cases hd:l.reverse.dropWhile y0z with
  | nil=>
   intro c hc;exact y3p.1 hd c (by simpa using hc)
  | cons c r=>
   have h1:=y6m hd;have h2:=h c (by rw[hd];simp);rw[h1] at h2
   cases h2
 ·intro h c hc;have:l.reverse.dropWhile y0z=[]:=y3p.2 fun x hx=>h x (by simpa using hx);rw[this] at hc;simp at hc
theorem ycb {a b:Bool}(h:a=b):Ending.returned (.bool a)=.returned (.bool b):=by rw[h]
theorem ydo (c:UInt8)(l:List UInt8)(w:World)(hl:(c::l).length<=1000000):Calls Tryz.prog 157 #[.string ⟨(c::l).toArray⟩] w fun e w'=>e=.returned (.bool (y2f (c::l)))/\New w w':=by
 obtain ⟨r,hr⟩:∃ r,y2f (c::l)=r:=⟨_,rfl⟩;rw[hr];have ht:=fun W=>ycp ⟨(c::l).toArray⟩ W (by simpa[ByteArray.size] using hl);have HT:=hid ht;have HR:=hid hr;have HL:=hid hl;clear ht hr hl;go_enter Tryz.func157,Tryz.ntmps157;go_wp2_with fail;refine (HT.out _).mono ?_;rintro e w1 ⟨rfl,hn⟩;obtain ⟨X,hX⟩:∃ X,Lib.trimS (⟨(c::l).toArray⟩:ByteArray).data.toList [48,49,50,51,52,53,54,55,56,57]=X:=⟨_,rfl⟩;rw[hX];have hX:Lib.trimS (c::l) [48,49,50,51,52,53,54,55,56,57]=X:=hX;have HN:=hid hn;have HX:=hid hX;clear hn hX
 cases X with
 | nil=>
  have hall:=ydq.1 HX.out;by_cases hc:c.toNat=48
  ·have hc8:c=48:=UInt8.toNat_inj.1 hc
   have hr2:r=l.isEmpty:=by
    rw[<-HR.out];unfold y2f;rw[hall,hc8]
    cases l <;> simp
   have HALL:=hid hall;have HC:=hid hc;have HR2:=hid hr2;clear hall hc hr2;subst hc8;go_wp2_with fail
   all_goals go_ret
   all_goals exact ⟨ycb (by rw[HR2.out];try rfl),HN.out⟩
  ·have hc8:c≠48:=fun h=>hc (by rw[h];rfl)
   have hr2:r=true:=by
    rw[<-HR.out];unfold y2f;rw[hall];simp[hc8]
   have hci:¬((c.toNat:Int)=48):=by omega
   have hci2:((c.toNat:Int)==48)=false:=beq_eq_false_iff_ne.2 hci;have hg:(⟨(c::l).toArray⟩:ByteArray)[0]'(by simp[ByteArray.size])=c:=rfl;have HALL:=hid hall;have HC:=hid hc;have HR2:=hid hr2;have HC8:=hid hc8;clear hall hc hr2 hc8;go_wp2_with fail
   all_goals go_ret
   all_goals exact ⟨ycb HR2.out.symm,HN.out⟩
 | cons x X=>
  have hr2:r=false:=by
   rw[<-HR.out]
   have hall:(c::l).all y0z=false:=by
    cases h:(c::l).all y0z with
    | false=>rfl
    | true=>
     have:=ydq.2 h;rw[HX.out] at this
     cases this
   unfold y2f;rw[hall];simp
  have HR2:=hid hr2;clear hr2;go_wp2_with fail;go_ret;exact ⟨ycb HR2.out.symm,HN.out⟩
theorem y7h (s:ByteArray)(w:World)(hl:s.size<=1000000):Calls Tryz.prog 157 #[.string s] w fun e w'=>e=.returned (.bool (y2f s.data.toList))/\New w w':=by
 obtain ⟨⟨l⟩⟩:=s
 cases l with
 | nil=>exact ycn w
 | cons c l=>exact ydo c l w (by simpa[ByteArray.size] using hl)
theorem y8t (s:ByteArray)(w:World):Calls Tryz.prog 155 #[.string s,.string ⟨#[45]⟩] w fun e w'=>e=.returned (.tuple #[.string ⟨(unsigned s.data.toList).toArray⟩,.bool (s.data.toList.head?==some 45)])/\w=w':=by
 refine (Tryz.strings_CutPrefix s ⟨#[45]⟩ w).mono fun e w' ⟨h1,h2⟩=>⟨?_,h2.symm⟩;rw[h1];have e1:(⟨#[45]⟩:ByteArray).data.toList=[45]:=rfl;rw[e1]
 have e2:Lib.hasPrefix s.data.toList [45]=(s.data.toList.head?==some 45):=by
  cases s.data.toList with
  | nil=>rfl
  | cons c l=>
   show ((45==c) && true)=(some c==some 45);rw[Bool.and_true];by_cases h:c=45
   ·subst h;rfl
   ·rw[beq_eq_false_iff_ne.2 (fun x=>h x.symm),beq_eq_false_iff_ne.2 (fun x=>h (Option.some.inj x))]
 have e3:Lib.trimPrefix s.data.toList [45]=unsigned s.data.toList:=by
  unfold Lib.trimPrefix unsigned;rw[e2];by_cases h:s.data.toList.head?=some 45
  ·rw[if_pos (by rw[h];rfl),if_pos h];simp
  ·rw[if_neg (by simpa using h),if_neg h]
 rw[e2,e3]
def y3y (neg:Bool)(A:List UInt8):Bool:=y2f A && (!neg || A != [48])
def y4u (F br:Bool)(B:List UInt8):Bool:=if br then F && y2f B && B != [48] && B != [49] else F
theorem yke (br dA neg zA dB zB oB:Bool):(if br then (dA && (!neg || !zA)) && dB && !zB && !oB else (dA && (!neg || !zA)))=(dA && !(neg && zA) && (!br || (dB && !zB && !oB))):=by
 revert br dA neg zA dB zB oB
 decide
theorem y47 {l:List UInt8}(h:y2f l=true):∀ c∈l,y0z c=true:=by
 unfold y2f at h;simp only[Bool.and_eq_true] at h;exact List.all_eq_true.1 h.1.2
theorem ymn {A B:List UInt8}{neg F1:Bool}(h1:y3y neg A=F1)(h2:y4u F1 true B=true):(∀ c∈A,y0z c=true)/\(∀ c∈B,y0z c=true):=by
 unfold y4u at h2;rw[if_pos rfl] at h2;simp only[Bool.and_eq_true] at h2;obtain ⟨⟨⟨h3,h4⟩,_⟩,_⟩:=h2;rw[h3] at h1;unfold y3y at h1;rw[Bool.and_eq_true] at h1;exact ⟨y47 h1.1,y47 h4⟩
theorem yot {x y:Nat}(hx:Bd (x:Int))(hy:Bd (y:Int)):Bd ((Int.gcd (x:Int) (y:Int):Nat):Int):=by
 rcases Nat.eq_zero_or_pos y with rfl | h
 ·simpa using hx
 ·exact y7n (by omega) hy
theorem ykf {l U A B:List UInt8}{neg br:Bool}(hU:unsigned l=U)(hn:(l.head?==some 45)=neg)(hA:upTo U=A)(hB:behind U=B)(hb:y0e U=br):y4u (y3y neg A) br B=y5u l:=by
 unfold y5u y4u y3y;rw[hU,hn,hA,hB,hb];exact yke br (y2f A) neg (A==[48]) (y2f B) (B==[48]) (B==[49])
theorem y33 (s:ByteArray)(w:World)(he:Env w)(hl:s.size<=100000):Calls Tryz.prog 75 #[.string s] w fun e w'=>e=.returned (.int .i64 (y1j s.data.toList))/\New w w':=by
 obtain ⟨r,hr⟩:∃ r,y1j s.data.toList=r:=⟨_,rfl⟩;rw[hr];obtain ⟨U,hU⟩:∃ U,unsigned s.data.toList=U:=⟨_,rfl⟩;obtain ⟨neg,hneg⟩:∃ b,(s.data.toList.head?==some 45)=b:=⟨_,rfl⟩;have hcp:=fun W=>y8t s W;rw[hU,hneg] at hcp;obtain ⟨A,hA⟩:∃ A,upTo U=A:=⟨_,rfl⟩;obtain ⟨B,hB⟩:∃ B,behind U=B:=⟨_,rfl⟩;obtain ⟨br,hbr⟩:∃ b,y0e U=b:=⟨_,rfl⟩
 have hlu:U.length<=100000:=by
  have:s.data.toList.length<=100000:=by simpa using hl
  rw[<-hU];unfold unsigned;split
  ·rw[List.length_tail];omega
  ·exact this
 have hsz:(⟨U.toArray⟩:ByteArray).size<=1000000:=by simp[ByteArray.size];omega
 have hcut:=fun W (h:New w W)=>ydj ⟨U.toArray⟩ W (he.new h) hsz;simp only[hA,hB,hbr] at hcut
 have hAl:A.length<=100000:=by
  rw[<-hA];unfold upTo;exact Nat.le_trans (List.takeWhile_sublist _).length_le hlu
 have hBl:B.length<=100000:=by
  rw[<-hB];unfold behind;have h1:=(List.dropWhile_sublist (l:=U) (· != 47)).length_le;rw[List.length_tail];omega
 have hdA:∀ W,Calls Tryz.prog 157 #[.string ⟨A.toArray⟩] W fun e w'=>e=.returned (.bool (y2f A))/\New W w':=fun W=>y7h ⟨A.toArray⟩ W (by simp[ByteArray.size];omega);have hdB:∀ W,Calls Tryz.prog 157 #[.string ⟨B.toArray⟩] W fun e w'=>e=.returned (.bool (y2f B))/\New W w':=fun W=>y7h ⟨B.toArray⟩ W (by simp[ByteArray.size];omega);obtain ⟨F1,hF1⟩:∃ F,y3y neg A=F:=⟨_,rfl⟩;obtain ⟨F2,hF2⟩:∃ F,y4u F1 br B=F:=⟨_,rfl⟩;have HR:=hid hr;have HU:=hid hU;have HNEG:=hid hneg;have HCP:=hid hcp;have HA:=hid hA;have HB:=hid hB;have HBR:=hid hbr;have HLU:=hid hlu;have HSZ:=hid hsz;have HCUT:=hid hcut;have HAL:=hid hAl;have HBL:=hid hBl;have HDA:=hid hdA;have HDB:=hid hdB;have HF1:=hid hF1;have HF2:=hid hF2;have HE:=hid he;have HL:=hid hl;clear hr hU hneg hcp hA hB hbr hlu hsz hcut hAl hBl hdA hdB hF1 hF2 he hl;go_enter Tryz.func75,Tryz.ntmps75;go_wp2_with fail;refine (HCP.out _).mono ?_;rintro e w' ⟨rfl,rfl⟩;go_wp2_with fail;refine (HCUT.out _ (New.refl _)).mono ?_;rintro e w1 ⟨rfl,hn⟩;have HN:=hid hn;clear hn;go_upto_region 3 with (fail)
 go_cut [8] (fun f wx=>f=.bool F1/\New w wx)
 case first=>
  go_wp2_with fail;refine (HDA.out _).mono ?_;rintro e w2 ⟨rfl,hn⟩;replace HN:=tW HN hn;clear hn
  cases hda:y2f A with
  | false=>
   have hf:F1=false:=by rw[<-HF1.out];unfold y3y;rw[hda];rfl
   have HD:=hid hda;have HF:=hid hf;clear hda hf;go_wp2_with fail
   go_meet
   exact ⟨by rw[HF.out],HN.out⟩
  | true=>
   cases neg with
   | false=>
    have hf:F1=true:=by rw[<-HF1.out];unfold y3y;rw[hda];rfl
    have HD:=hid hda;have HF:=hid hf;clear hda hf;go_wp2_with fail
    go_meet
    exact ⟨by rw[HF.out],HN.out⟩
   | true=>
    by_cases hz:A=[48]
    ·have hf:F1=false:=by rw[<-HF1.out];unfold y3y;rw[hda,hz];rfl
     have HD:=hid hda;have HF:=hid hf;clear hda hf;subst hz;go_wp2_with fail
     go_meet
     exact ⟨by rw[HF.out],HN.out⟩
    ·have hz1:(A==[48])=false:=beq_eq_false_iff_ne.2 hz
     have hz2:(A != [48])=true:=by rw[bne,hz1];rfl
     have hf:F1=true:=by rw[<-HF1.out];unfold y3y;rw[hda,hz2];rfl
     have HD:=hid hda;have HF:=hid hf;have HZ:=hid hz;clear hda hf hz;go_wp2_with fail
     go_meet
     exact ⟨by rw[HF.out],HN.out⟩
 case rest=>
  obtain ⟨rfl,hn⟩:=hcut;clear HN;have HN:=hid hn;clear hn
  go_step
  go_upto_if 32 with (fail)
  go_cut [8] (fun f wx=>f=.bool F2/\New w wx)
  case first=>
   cases br with
   | false=>
    have hf:F2=F1:=by rw[<-HF2.out];rfl
    have HF:=hid hf;clear hf;go_wp2_with fail
    go_meet
    exact ⟨by rw[HF.out],HN.out⟩
   | true=>
    cases F1 with
    | false=>
     have hf:F2=false:=by rw[<-HF2.out];rfl
     have HF:=hid hf;clear hf;go_wp2_with fail
     go_meet
     exact ⟨by rw[HF.out],HN.out⟩
    | true=>
     go_wp2_with fail;refine (HDB.out _).mono ?_;rintro e w2 ⟨rfl,hn⟩;replace HN:=tW HN hn;clear hn
     cases hda:y2f B with
     | false=>
      have hf:F2=false:=by rw[<-HF2.out];unfold y4u;rw[hda];rfl
      have HD:=hid hda;have HF:=hid hf;clear hda hf;go_wp2_with fail
      go_meet
      exact ⟨by rw[HF.out],HN.out⟩
     | true=>
      by_cases hz:B=[48]
      ·have hf:F2=false:=by rw[<-HF2.out];unfold y4u;rw[hda,hz];rfl
       have HD:=hid hda;have HF:=hid hf;clear hda hf;subst hz;go_wp2_with fail
       go_meet
       exact ⟨by rw[HF.out],HN.out⟩
      ·by_cases hy:B=[49]
       ·have hf:F2=false:=by rw[<-HF2.out];unfold y4u;rw[hda,hy];rfl
        have HD:=hid hda;have HF:=hid hf;clear hda hf;clear hz;subst hy;go_wp2_with fail
        go_meet
        exact ⟨by rw[HF.out],HN.out⟩
       ·have hz1:(B==[48])=false:=beq_eq_false_iff_ne.2 hz
        have hz2:(B != [48])=true:=by rw[bne,hz1];rfl
        have hy1:(B==[49])=false:=beq_eq_false_iff_ne.2 hy
        have hy2:(B != [49])=true:=by rw[bne,hy1];rfl
        have hf:F2=true:=by rw[<-HF2.out];unfold y4u;rw[hda,hz2,hy2];rfl
        have HD:=hid hda;have HF:=hid hf;have HZ:=hid hz;have HY:=hid hy;clear hda hf hz hy;go_wp2_with fail
        go_meet
        exact ⟨by rw[HF.out],HN.out⟩
  case rest=>
   obtain ⟨rfl,hn⟩:=hcut;clear HN;have HN:=hid hn;clear hn
   have hform:F2=y5u s.data.toList:=by
    rw[<-HF2.out,<-HF1.out];exact ykf HU.out HNEG.out HA.out HB.out HBR.out
   have hres:=HR.out;unfold y1j at hres;rw[<-hform] at hres;have HFORM:=hid hform;clear hform
   go_step
   cases F2 with
   | false=>
    rw[if_pos rfl]at hres;have HRES:=hid hres;clear hres;by_cases h6:600 < A.length
    ·have h6i:(600:Int) < (A.length:Int):=by omega
     go_wp2_with fail;refine (y04 _ 1 _).mono ?_;rintro e w2 ⟨rfl,rfl⟩;go_wp2_with fail;refine (y04 _ 4 _).mono ?_;rintro e w2 ⟨rfl,rfl⟩;go_wp2_with fail;refine (y57 1 4 _ _ 32 _ (Box.alloc _ _ _ _ rfl)).mono ?_;rintro e w2 ⟨rfl,rfl⟩;go_wp2_with fail;go_ret;exact ⟨y3k HRES.out,HN.out.alloc _⟩
    ·have h6i:¬(600:Int) < (A.length:Int):=by omega
     by_cases h7:600 < B.length
     ·have h7i:(600:Int) < (B.length:Int):=by omega
      go_wp2_with fail;refine (y04 _ 1 _).mono ?_;rintro e w2 ⟨rfl,rfl⟩;go_wp2_with fail;refine (y04 _ 4 _).mono ?_;rintro e w2 ⟨rfl,rfl⟩;go_wp2_with fail;refine (y57 1 4 _ _ 32 _ (Box.alloc _ _ _ _ rfl)).mono ?_;rintro e w2 ⟨rfl,rfl⟩;go_wp2_with fail;go_ret;exact ⟨y3k HRES.out,HN.out.alloc _⟩
     ·have h7i:¬(600:Int) < (B.length:Int):=by omega
      go_wp2_with fail;refine (y04 _ 1 _).mono ?_;rintro e w2 ⟨rfl,rfl⟩;go_wp2_with fail;refine (y04 _ 4 _).mono ?_;rintro e w2 ⟨rfl,rfl⟩;go_wp2_with fail;refine (y57 1 0 _ _ 32 _ (Box.alloc _ _ _ _ rfl)).mono ?_;rintro e w2 ⟨rfl,rfl⟩;go_wp2_with fail;go_ret;exact ⟨y3k HRES.out,HN.out.alloc _⟩
   | true=>
    rw[if_neg (by decide)]at hres
    have hlar:y68 s.data.toList=(decide (600 < A.length) || decide (600 < B.length)):=by unfold y68;rw[HU.out,HA.out,HB.out]
    rw[hlar]at hres;by_cases h6:600 < A.length
    ·have h6i:(600:Int) < (A.length:Int):=by omega
     rw[decide_eq_true h6,Bool.true_or,if_pos rfl]at hres;have HLAR:=hid hlar;have HRES:=hid hres;clear hlar hres;go_wp2_with fail;refine (y04 _ 1 _).mono ?_;rintro e w2 ⟨rfl,rfl⟩;go_wp2_with fail;refine (y04 _ 4 _).mono ?_;rintro e w2 ⟨rfl,rfl⟩;go_wp2_with fail;refine (y57 0 4 _ _ 32 _ (Box.alloc _ _ _ _ rfl)).mono ?_;rintro e w2 ⟨rfl,rfl⟩;go_wp2_with fail;go_ret;exact ⟨y3k HRES.out,HN.out.alloc _⟩
    ·have h6i:¬(600:Int) < (A.length:Int):=by omega
     rw[decide_eq_false h6,Bool.false_or]at hres;by_cases h7:600 < B.length
     ·have h7i:(600:Int) < (B.length:Int):=by omega
      rw[decide_eq_true h7,if_pos rfl]at hres;have HLAR:=hid hlar;have HRES:=hid hres;clear hlar hres;go_wp2_with fail;refine (y04 _ 1 _).mono ?_;rintro e w2 ⟨rfl,rfl⟩;go_wp2_with fail;refine (y04 _ 4 _).mono ?_;rintro e w2 ⟨rfl,rfl⟩;go_wp2_with fail;refine (y57 0 4 _ _ 32 _ (Box.alloc _ _ _ _ rfl)).mono ?_;rintro e w2 ⟨rfl,rfl⟩;go_wp2_with fail;go_ret;exact ⟨y3k HRES.out,HN.out.alloc _⟩
     ·have h7i:¬(600:Int) < (B.length:Int):=by omega
      rw[decide_eq_false h7,if_neg (by decide)]at hres;have HLAR:=hid hlar;have HRES:=hid hres;clear hlar hres
      cases br with
      | false=>
       have hr0:r=0:=by
        rw[<-HRES.out];unfold y3w;rw[HU.out,HBR.out];rfl
       have HR0:=hid hr0;clear hr0;go_wp2_with fail;refine (y04 _ 1 _).mono ?_;rintro e w2 ⟨rfl,rfl⟩;go_wp2_with fail;refine (y04 _ 4 _).mono ?_;rintro e w2 ⟨rfl,rfl⟩;go_wp2_with fail;refine (y57 0 0 _ _ 32 _ (Box.alloc _ _ _ _ rfl)).mono ?_;rintro e w2 ⟨rfl,rfl⟩;go_wp2_with fail;refine (y04 _ 1 _).mono ?_;rintro e w2 ⟨rfl,rfl⟩;go_wp2_with fail;go_ret;exact ⟨y3k HR0.out.symm,HN.out.alloc _⟩
      | true=>
       obtain ⟨hA1,hB1⟩:=ymn (HF1.out) (HF2.out);have hbA:=(ybw hA1).bd (by have:=HAL.out;omega);have hbB:=(ybw hB1).bd (by have:=HBL.out;omega)
       have hAL1:A.length<=1000000:=by have:=HAL.out;omega
       have hBL1:B.length<=1000000:=by have:=HBL.out;omega
       obtain ⟨g,hg⟩:∃ g,Int.gcd ((dval 0 A:Nat):Int) ((dval 0 B:Nat):Int)=g:=⟨_,rfl⟩
       have hbg:Bd (g:Int):=by
        rw[<-hg];exact yot hbA hbB
       have hcm:r=if (g != 1)=true then 1 else 0:=by
        rw[<-HRES.out];unfold y3w;rw[HU.out,HBR.out,HA.out,HB.out,<-hg,Bool.true_and];rfl
       have HA1:=hid hA1;have HB1:=hid hB1;have HBA:=hid hbA;have HBB:=hid hbB;have HG:=hid hg;have HBG:=hid hbg;have HCM:=hid hcm;have HAL1:=hid hAL1;have HBL1:=hid hBL1;clear hA1 hB1 hbA hbB hg hbg hcm hAL1 hBL1;go_wp2_with fail;refine (y04 _ 1 _).mono ?_;rintro e w2 ⟨rfl,rfl⟩;go_wp2_with fail;refine (y04 _ 4 _).mono ?_;rintro e w2 ⟨rfl,rfl⟩;go_wp2_with fail;refine (y57 0 0 _ _ 32 _ (Box.alloc _ _ _ _ rfl)).mono ?_;rintro e w2 ⟨rfl,rfl⟩;go_wp2_with fail;replace HN:=hid (HN.out.alloc (.cells #[.int .i64 0,.int .i64 0] 32));refine (y4y ⟨A.toArray⟩ false A _ rfl HA1.out HAL1.out).mono ?_;rintro e w3 ⟨v3,rfl,hn,hi⟩;have HI3:=hid hi;clear hi;replace HN:=tW HN hn;clear hn;go_wp2_with fail;refine (y4y ⟨B.toArray⟩ false B _ rfl HB1.out HBL1.out).mono ?_;rintro e w4 ⟨v4,rfl,hn,hi⟩;have HI4:=hid hi;clear hi;replace HI3:=hid (HI3.out.new hn);replace HN:=tW HN hn;clear hn;go_wp2_with fail;refine (y5l _ _ _ _ _ HI3.out HI4.out HBA.out HBB.out).mono ?_;rintro e w5 ⟨v5,rfl,hn,hi⟩
       have hi:y06 w5 v5 (g:Int):=by rw[<-HG.out];exact hi
       have HI5:=hid hi;clear hi;replace HN:=tW HN hn;clear hn;go_wp2_with fail;refine (y09 1 _).mono ?_;rintro e w6 ⟨rfl,hn⟩;replace HI5:=hid (HI5.out.new hn);replace HN:=tW HN hn;clear hn;go_wp2_with fail;refine (y3x _ _ (g:Int) 1 _ HI5.out (.small rfl (by omega) (by omega)) HBG.out (.small (by omega) (by omega))).mono ?_;rintro e w7 ⟨rfl,hn⟩;replace HN:=tW HN hn;clear hn;by_cases hg1:g=1
       ·have hs:Int.sign ((g:Int) - 1)=0:=by rw[hg1];rfl
        have hr0:r=0:=by rw[HCM.out,hg1];rfl
        rw[hs];have HS:=hid hs;have HR0:=hid hr0;have HG1:=hid hg1;clear hs hr0 hg1;go_wp2_with fail;refine (y04 _ 1 _).mono ?_;rintro e w2 ⟨rfl,rfl⟩;go_wp2_with fail;go_ret;exact ⟨y3k HR0.out.symm,HN.out⟩
       ·obtain ⟨t,ht,ht0⟩:∃ t,Int.sign ((g:Int) - 1)=t/\(t != 0)=true:=⟨_,rfl,by
         rw[bne_iff_ne];intro h;have:=Int.sign_eq_zero_iff_zero.1 h
         omega⟩
        have hr0:r=1:=by
         rw[HCM.out,if_pos (by rw[bne_iff_ne];exact hg1)]
        rw[ht];have HTT:=hid ht;have HR0:=hid hr0;have HG1:=hid hg1;clear ht hr0 hg1;go_wp2_with fail;refine (y04 _ 1 _).mono ?_;rintro e w2 ⟨rfl,rfl⟩;go_wp2_with fail;go_ret;exact ⟨y3k HR0.out.symm,HN.out⟩
def isFin (b:Nat):Bool:=match Ieee.single.read b with | .number ..=>true | _=>false
theorem yi5 {b:Nat}(h:isFin b=true):∃ s m i,Ieee.single.read b=.number s m i:=by
 unfold isFin at h;split at h
 ·rename_i s m i hr;exact ⟨s,m,i,hr⟩
 ·cases h
theorem ye0 {b:Nat}(h:isFin b=true):floatBits .sub .f32 b b=some 0:=by
 obtain ⟨s,m,i,hr⟩:=yi5 h;show Ieee.single.sub b b=some 0;unfold Ieee.Format.sub;rw[hr];simp only[Ieee.Datum.opposite,Ieee.Datum.sum,Option.map_some]
 have e:Ieee.signed s m (i - min i i).toNat+Ieee.signed (!s) m (i - min i i).toNat=0:=by
  unfold Ieee.signed
  cases s <;> simp <;> omega
 rw[e]
 cases s <;> rfl
theorem yeb {b:Nat}(h:isFin b=false):FloatKind.f32.format.sub b b=none:=by
 show Ieee.single.sub b b=none;unfold Ieee.Format.sub;unfold isFin at h
 cases hr:Ieee.single.read b with
 | number s m i=>rw[hr] at h;cases h
 | infinity s=>cases s <;> rfl
 | nan s f=>rfl
def yiu (w:World)(b:Nat):Nat:=(Question.nanBits .f32 b b).cut (w.tape w.drawn (.nanBits .f32 b b))
theorem ynw {P:Program}(t:TypeId)(b:Nat)(h:isFin b=false)(w:World):(binOp .sub t (.float .f32 b) (.float .f32 b)).run P w=.ok (.float .f32 (yiu w b)) w.drew:=by
 simp[binOp,Op.floatArith,yeb h];rfl
theorem ylh (w:World)(b:Nat):∃ s f,Ieee.single.read (yiu w b)=.nan s f:=by
 unfold yiu;generalize w.tape w.drawn (.nanBits .f32 b b)=t;show ∃ s f,Ieee.single.read ((t % 2)*2^31+0x7f800000+1+(t / 2) % (2^23 - 1))=.nan s f;obtain ⟨x,hx⟩:∃ x,(t / 2) % (2^23 - 1)=x:=⟨_,rfl⟩
 have hx1:x < 8388607:=by rw[<-hx];exact Nat.mod_lt _ (by decide)
 rw[hx];unfold Ieee.Format.read
 have e1:Ieee.single.signWeight=2147483648:=by decide
 have e2:Ieee.single.binade=8388608:=by decide
 have e3:Ieee.single.infRung=2139095040:=by decide
 rw[e1,e2,e3]
 have hm:(t % 2*2^31+0x7f800000+1+x) % 2147483648=2139095041+x:=by omega
 simp only[hm];rw[if_neg (by omega),if_neg (by omega),if_neg (by omega)];exact ⟨_,_,rfl⟩
theorem yjp (w:World)(b c:Nat):FloatKind.f32.format.order (yiu w b) c=none:=by
 obtain ⟨s,f,h⟩:=ylh w b;show (Ieee.single.read (yiu w b)).order _=none;rw[h];rfl
def yoc (w:World)(b:Bool)(e:Ending)(w':World):Prop:=e=.returned (.bool b)/\∃ n,w'=w.drewN n
theorem ydd (b:Nat)(w:World):Calls Tryz.prog 124 #[.float .f32 b] w (yoc w (isFin b)):=by
 cases h:isFin b with
 | true=>
  have hrun:=fun W=>run_float_arith (P:=Tryz.prog) W .sub 62 .f32 b b 0 (ye0 h)
  have ho:(FloatKind.f32.format.order 0 0==some .eq)=true:=by decide
  have H:=hid h;clear h;go_enter Tryz.func124,Tryz.ntmps124;go_wp2_with fail;go_ret;exact ⟨rfl,0,rfl⟩
 | false=>
  have hrun:=fun W=>ynw (P:=Tryz.prog) 62 b h W;have ho:=fun W=>yjp W b 0;have H:=hid h;clear h;go_enter Tryz.func124,Tryz.ntmps124;go_wp2_with fail;go_ret;exact ⟨rfl,1,rfl⟩
def yjs (s:Int):Rat:=if s < 0 then ((2^(-s).toNat:Int):Rat)⁻¹ else ((2^s.toNat:Int):Rat)
theorem FB.int {k:Nat}{x:Int}(h:BdK k x)(hk:1<=k):FB k (x:Rat):=⟨by rw[Rat.num_intCast];exact h,by
 rw[Rat.den_intCast];unfold BdK
 exact Nat.lt_of_lt_of_le (by decide:(1:Int).natAbs < 2^1) (Nat.pow_le_pow_right (by omega) hk)⟩
theorem New.of_eq {w w':World}(h:w=w'):New w w':=h ▸ New.refl w
def y1o (w:World)(r:Int)(e:Ending)(w':World):Prop:=e=.returned (.int .i64 r)/\New w w'
end Go.Proofs.YtnjonlnemagomaaGreatDoor
