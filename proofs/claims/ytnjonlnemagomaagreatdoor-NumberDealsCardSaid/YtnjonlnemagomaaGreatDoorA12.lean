/- Part A12. -/
import Derived.Lib.Atoi
import Derived.Lib.IndexMore
import Derived.Shelf.Strings.SlTrimAscii
import Derived.Test.YtnjonlnemagomaaGreatDoorA11
namespace Go.Proofs.YtnjonlnemagomaaGreatDoor
open Go.RowKit Big
open Go.Lib (hid)
set_option maxRecDepth 100000
set_option maxHeartbeats 8000000
def crossed (x y:Rat):Int:=x.num*(y.den:Int) - y.num*(x.den:Int)
theorem crossed_neg {x y:Rat}:(crossed x y).sign < 0 ↔ x < y:=by
 rw[Int.sign_neg_iff,Rat.lt_iff];unfold crossed;omega
theorem crossed_pos {x y:Rat}:0 < (crossed x y).sign ↔ y < x:=by
 rw[Int.sign_pos_iff,Rat.lt_iff];unfold crossed;omega
theorem fcmp_calls (va vb:Value)(x y:Rat)(j k:Nat)(w:World)(hx:IsFrac w va x)(hy:IsFrac w vb y)(bx:FB j x)(by':FB k y)(hk:j+k≤60000000):Calls Tryz.prog 90 #[va,vb] w (SignPost w (crossed x y)):=by
 obtain ⟨sa,aa,la,ca,ta,ba,ma,na,rfl,hx1,hx2⟩:=hx;obtain ⟨sb,ab,lb,cb,tb,bb,mb,nb,rfl,hy1,hy2⟩:=hy;obtain ⟨r,hr⟩:∃ r,crossed x y=r:=⟨_,rfl⟩;have hr':x.num*(y.den:Int) - y.num*(x.den:Int)=r:=hr;rw[hr];clear hr;have b1:=(bx.num.mul by'.den).bd hk;have b2:=(by'.num.mul bx.den).bd (show k+j≤60000000 by omega);have bx1:=bx.num.bd (show j≤60000000 by omega);have bx2:=bx.den.bd (show j≤60000000 by omega);have by1:=by'.num.bd (show k≤60000000 by omega);have by2:=by'.den.bd (show k≤60000000 by omega);clear bx by';have X1:=hid hx1;have X2:=hid hx2;have Y1:=hid hy1;have Y2:=hid hy2;have HR:=hid hr';have BX1:=hid bx1;have BX2:=hid bx2;have BY1:=hid by1;have BY2:=hid by2;have B1:=hid b1;have B2:=hid b2;clear hx1 hx2 hy1 hy2 hr' bx1 bx2 by1 by2 b1 b2;go_enter Tryz.func90,Tryz.ntmps90;go_wp2_with fail;obtain ⟨BA,BB,HN⟩:=lay2 w 115 #[.int .i64 sa,.slice aa la ca,.int .i64 ta,.slice ba ma na] 115 #[.int .i64 sb,.slice ab lb cb,.int .i64 tb,.slice bb mb nb];obtain ⟨⟨pa0,pa1,pa2,pa3⟩,pa4,pa5,pa6,pa7,pa8⟩:=BA.out.four;obtain ⟨⟨pb0,pb1,pb2,pb3⟩,pb4,pb5,pb6,pb7,pb8⟩:=BB.out.four;refine wp_region_T 11 (fun W=>W.cell? ⟨w.heap.size,0,none⟩=some (.int .i64 sa)∧W.cell? ⟨w.heap.size,1,none⟩=some (.slice aa la ca)∧W.cell? ⟨w.heap.size,2,none⟩=some (.int .i64 ta)∧W.cell? ⟨w.heap.size,3,none⟩=some (.slice ba ma na)∧W.cell? ⟨w.heap.size+1,0,none⟩=some (.int .i64 sb)∧W.cell? ⟨w.heap.size+1,1,none⟩=some (.slice ab lb cb)∧W.cell? ⟨w.heap.size+1,2,none⟩=some (.int .i64 tb)∧W.cell? ⟨w.heap.size+1,3,none⟩=some (.slice bb mb nb)) 12 #[false,false,false,false,false,false,false,false,false,false,false,false] rfl (by kernel_rfl) (by kernel_rfl) ?_;refine tk 0 (by exact ⟨pa0,pa1,pa2,pa3,pb0,pb1,pb2,pb3⟩) ?_
 try simp only[PT]
 refine tk 1 (by exact ⟨pa0,pa1,pa2,pa3,pb0,pb1,pb2,pb3⟩) ?_
 try simp only[PT]
 refine tk 2 (by exact ⟨pa0,pa1,pa2,pa3,pb0,pb1,pb2,pb3⟩) ?_
 try simp only[PT]
 refine tk 3 (by exact ⟨pa0,pa1,pa2,pa3,pb0,pb1,pb2,pb3⟩) ?_
 try simp only[PT]
 refine tk 5 (by exact ⟨pa0,pa1,pa2,pa3,pb0,pb1,pb2,pb3⟩) ?_
 try simp only[PT]
 refine tk 6 (by exact ⟨pa0,pa1,pa2,pa3,pb0,pb1,pb2,pb3⟩) ?_
 try simp only[PT]
 refine tk 7 (by exact ⟨pa0,pa1,pa2,pa3,pb0,pb1,pb2,pb3⟩) ?_
 try simp only[PT]
 refine tk 8 (by exact ⟨pa0,pa1,pa2,pa3,pb0,pb1,pb2,pb3⟩) ?_
 try simp only[PT]
 refine wpT_one 4 rfl (by kernel_rfl) (fun K hK=>?_);go_simp;refine (mul_calls _ _ x.num (y.den:Int) _ (X1.out.new HN.out.drew) (Y2.out.new HN.out.drew) BX1.out BY2.out).mono ?_;rintro e w1 ⟨v1,rfl,hn,hi⟩;have hn:=hn.undrew;have HI1:=hid hi;clear hi;clear pa0 pa1 pa2 pa3 pa4 pa5 pa6 pa7 pa8 pb0 pb1 pb2 pb3 pb4 pb5 pb6 pb7 pb8;replace BA:=hid (BA.out.new hn);replace BB:=hid (BB.out.new hn);replace HN:=hid (HN.out.trans hn);clear hn;obtain ⟨⟨pa0,pa1,pa2,pa3⟩,pa4,pa5,pa6,pa7,pa8⟩:=BA.out.four;obtain ⟨⟨pb0,pb1,pb2,pb3⟩,pb4,pb5,pb6,pb7,pb8⟩:=BB.out.four;refine hK.out _ _ (fun _=>?_) ?_
 ·exact ⟨pa0,pa1,pa2,pa3,pb0,pb1,pb2,pb3⟩
 clear hK K
 try simp only[PT]
 refine wpT_one 9 rfl (by kernel_rfl) (fun K hK=>?_);go_simp;refine (mul_calls _ _ y.num (x.den:Int) _ (Y1.out.new HN.out) (X2.out.new HN.out) BY1.out BX2.out).mono ?_;rintro e w2 ⟨v2,rfl,hn,hi⟩;have HI1':=hid (HI1.out.new hn);clear HI1;have HI2:=hid hi;clear hi;clear pa0 pa1 pa2 pa3 pa4 pa5 pa6 pa7 pa8 pb0 pb1 pb2 pb3 pb4 pb5 pb6 pb7 pb8;replace BA:=hid (BA.out.new hn);replace BB:=hid (BB.out.new hn);replace HN:=hid (HN.out.trans hn);clear hn;obtain ⟨⟨pa0,pa1,pa2,pa3⟩,pa4,pa5,pa6,pa7,pa8⟩:=BA.out.four;obtain ⟨⟨pb0,pb1,pb2,pb3⟩,pb4,pb5,pb6,pb7,pb8⟩:=BB.out.four;refine hK.out _ _ (fun _=>?_) ?_
 ·exact ⟨pa0,pa1,pa2,pa3,pb0,pb1,pb2,pb3⟩
 clear hK K
 try simp only[PT]
 refine wpT_one 10 rfl (by kernel_rfl) (fun K hK=>?_);go_simp;refine (cmp_calls _ _ _ _ _ HI1'.out HI2.out B1.out B2.out).mono ?_;rintro e w3 ⟨rfl,hn⟩;rw[HR.out];clear pa0 pa1 pa2 pa3 pa4 pa5 pa6 pa7 pa8 pb0 pb1 pb2 pb3 pb4 pb5 pb6 pb7 pb8;replace BA:=hid (BA.out.new hn);replace BB:=hid (BB.out.new hn);replace HN:=hid (HN.out.trans hn);clear hn;obtain ⟨⟨pa0,pa1,pa2,pa3⟩,pa4,pa5,pa6,pa7,pa8⟩:=BA.out.four;obtain ⟨⟨pb0,pb1,pb2,pb3⟩,pb4,pb5,pb6,pb7,pb8⟩:=BB.out.four;refine hK.out _ _ (fun _=>?_) ?_
 ·exact ⟨pa0,pa1,pa2,pa3,pb0,pb1,pb2,pb3⟩
 clear hK K
 try simp only[PT]
 refine wpT_tail rfl (by kernel_rfl) ?_;simp only[List.drop_succ_cons,List.drop_zero];go_wp2_with fail;go_ret;exact ⟨rfl,HN.out⟩
theorem small_calls (va:Value)(z:Int)(w:World)(hx:IsInt w va z)(hs:Sm z):Calls Tryz.prog 193 #[va] w fun e w'=>e=.returned (.tuple #[.int .i64 z,.bool true])∧New w w':=by
 have q1:=eql_nil;obtain ⟨s,a,l,c,rfl⟩:=hx.shape;obtain ⟨rfl,rfl,rfl,rfl⟩:=hx.sm hs;have HX:=hid hx;have HS:=hid hs;clear hx hs;go_enter Tryz.func193,Tryz.ntmps193;go_wp2_with fail;obtain ⟨BA,HN⟩:=lay1 w 113 #[.int .i64 s,.slice none 0 0];obtain ⟨pa0,pa1,pa2,pa3,pa4⟩:=BA.out.two
 go_region
 all_goals
  go_wp2_with fail;go_ret2;exact ⟨rfl,HN.out.drewN _⟩
theorem new_bytesWorld (w:World)(e:TypeId)(s:ByteArray):New w (Lib.bytesWorld w e s):=by
 have h1:New w (w.drew.alloc (.cells (Lib.bytesCells w e s) e)):=(New.refl w).drew.alloc _;unfold Lib.bytesWorld World.freeze;split
 ·exact h1
 ·refine ⟨h1.os,h1.tape,h1.output,?_,fun j hj=>?_⟩
  ·show w.heap.size≤((w.drew.alloc _).heap.modify _ _).size;rw[Array.size_modify];exact h1.size
  ·show ((w.drew.alloc _).heap.modify _ _)[j]?=w.heap[j]?;rw[Array.getElem?_modify,if_neg (by show ¬w.heap.size=j;omega)];exact Below.block h1 j hj
theorem decFrom_dval:∀ (l:List UInt8) (acc:Nat),(∀ c∈l,isDig c=true)→Lib.decFrom acc l=some (dval acc l)
 | [],acc,_=>by rw[dval_nil];rfl
 | c::l,acc,h=>by
  have hc:=isDig_iff.1 (h c (by simp));rw[dval_cons,Lib.decFrom,Lib.digitVal,if_pos hc];rw[Nat.mul_comm 10 acc];exact decFrom_dval l _ fun x hx=>h x (by simp[hx])
theorem atoi_dval {l:List UInt8}(h:∀ c∈l,isDig c=true)(hne:l≠[]):Lib.atoi l=some ((dval 0 l:Nat):Int):=by
 cases l with
 | nil=>exact absurd rfl hne
 | cons c l=>
  have hc:=isDig_iff.1 (h c (by simp))
  have h1:(c==45)=false:=by
   rw[beq_eq_false_iff_ne];rintro rfl;simp at hc
  have h2:(c==43)=false:=by
   rw[beq_eq_false_iff_ne];rintro rfl;simp at hc
  rw[Lib.atoi];simp only[h1,h2,Bool.false_eq_true,if_false];rw[Lib.decNat,if_neg (by simp),decFrom_dval _ _ h];rfl
theorem atoi_calls (s:ByteArray)(l:List UInt8)(w:World)(hs:s.data.toList=l)(hd:∀ c∈l,isDig c=true)(hne:l≠[])(hl:l.length≤18):
  Calls Tryz.prog 210 #[.string s] w fun e w'=>e=.returned (.tuple #[.int .i64 (dval 0 l:Nat),.nilIface])∧New w w':=
 (Tryz.strconv_Atoi s _ (by rw[←hs] at hl;simpa using hl) (by rw[hs];exact atoi_dval hd hne) w).mono fun e w' ⟨h1,t,h2⟩=>⟨h1,by rw[h2];exact new_bytesWorld _ _ _⟩
theorem dval_bd {l:List UInt8}(h:∀ c∈l,isDig c=true):BdK (4*l.length) (dval 0 l:Nat):=by
 have h1:=dval_lt h;have h2:10^l.length≤16^l.length:=Nat.pow_le_pow_left (by omega) _
 have h3:16^l.length=2^(4*l.length):=by rw[show 16=2^4 from rfl,←Nat.pow_mul]
 unfold BdK;rw[Int.natAbs_natCast];omega
def ReadRel (w:World)(B:Nat)(d:List UInt8)(g:Nat)(u:Value)(wr:World):Prop:=∃ (c t:List UInt8) (tb:ByteArray) (s2:Int) (o2:Option Addr) (l2 k2:Nat),
 u=.string tb∧tb.data.toList=t∧c ++ t=d∧tb.size=g∧New w wr∧Box wr w.heap.size 113 #[.int .i64 0,.slice none 0 0]∧Box wr B 113 #[.int .i64 s2,.slice o2 l2 k2]∧
 IsInt wr (.agg #[.int .i64 s2,.slice o2 l2 k2]) (dval 0 c:Nat)
theorem read_calls (sb:ByteArray)(neg:Bool)(d:List UInt8)(w:World)(hsb:sb.data.toList=if neg then 45::d else d)(hd:∀ c∈d,isDig c=true)(hl:d.length≤1000000):
  Calls Tryz.prog 159 #[.string sb] w (IntPost w (signed neg (dval 0 d))):=by
 obtain ⟨z,hz⟩:∃ z,signed neg (dval 0 d)=z:=⟨_,rfl⟩;rw[hz]
 have hp1:Lib.hasPrefix sb.data.toList (⟨#[45]⟩:ByteArray).data.toList=neg:=by
  rw[hsb];show [45].isPrefixOf _=neg
  cases neg with
  | true=>simp
  | false=>
   cases d with
   | nil=>rfl
   | cons c d=>
    have hc:=isDig_iff.1 (hd c (by simp))
    have h1:(45==c)=false:=by
     rw[beq_eq_false_iff_ne];rintro rfl;simp at hc
    show ((45==c) && _)=false;rw[h1];rfl
 have hp2:Lib.trimPrefix sb.data.toList (⟨#[45]⟩:ByteArray).data.toList=d:=by
  unfold Lib.trimPrefix;rw[hp1,hsb]
  cases neg <;> rfl
 have hend:∀ w' v,New w w'→IsInt w' v z→IntPost w z (.returned v) w':=fun w' v h1 h2=>⟨v,rfl,h1,h2⟩;have HZ:=hid hz;have HSB:=hid hsb;have HD:=hid hd;have HP1:=hid hp1;have HP2:=hid hp2;have HEND:=hid hend;clear hz hsb hd hp1 hp2 hend;go_enter Tryz.func159,Tryz.ntmps159;go_wp2_with fail;obtain ⟨BP,HN⟩:=lay1 w 113 #[.int .i64 0,.slice none 0 0];refine (Tryz.strings_HasPrefix sb _ _).mono ?_;rintro e w' ⟨rfl,hw⟩;subst hw;rw[HP1.out];go_wp2_with fail;refine (Tryz.strings_TrimPrefix sb _ _).mono ?_;rintro e w' ⟨rfl,hw⟩;subst hw;rw[HP2.out];go_wp2_with fail;clear BP HN;obtain ⟨BP,BO,HN⟩:=lay2 w 113 #[.int .i64 0,.slice none 0 0] 113 #[.int .i64 0,.slice none 0 0];have hstart:ReadRel w (w.heap.size+1) d d.length (.string ⟨d.toArray⟩) _:=⟨[],d,⟨d.toArray⟩,_,_,_,_,rfl,rfl,rfl,by simp[ByteArray.size],HN.out,BP.out,BO.out,.small rfl (by simp[dval_nil]) (by simp[dval_nil])⟩;clear HN BP BO;have HS:=hid hstart;clear hstart
 go_loopg [0] d.length (fun g u wr=>ReadRel w (w.heap.size+1) d g u wr)
 case atStart=>exact HS.out
 case round=>
  clear HS;obtain ⟨c,t,tb,s2,o2,l2,k2,rfl,htb,hct,hg,hN,hP,hO,hi⟩:=hrel;have hB:w.heap.size+1 < wr.heap.size:=hO.lt;have HT:=hid htb;have HCT:=hid hct;have HG:=hid hg;have HN:=hid hN;have BP:=hid hP;have BO:=hid hO;have HI:=hid hi;clear htb hct hg hN hP hO hi;by_cases h0:tb.size=0
  ·have hz0:¬(0:Int) < (tb.size:Int):=by omega
   have hdv:dval 0 d=dval 0 c:=by
    have h1:t=[]:=by
     rw[←HT.out]
     have:tb.data.toList.length=0:=by simpa using h0
     exact List.length_eq_zero_iff.1 this
    rw[←HCT.out,h1,List.append_nil]
   have HDV:=hid hdv;have H0:=hid h0;clear hdv h0
   cases neg with
   | true=>
    obtain ⟨b0,b1,b2,b3,b4⟩:=BO.out.two;go_wp2_with fail;refine (neg_calls _ (dval 0 c:Nat) _ HI.out).mono ?_;rintro e w2 ⟨v,rfl,hn,hi⟩;obtain ⟨s5,a5,l5,k5,rfl⟩:=hi.shape;have HI5:=hid hi;clear hi;replace BP:=hid (BP.out.new hn);replace HN:=hid (HN.out.trans hn);clear hn;obtain ⟨p0,p1,p2,p3,p4⟩:=BP.out.two;go_wp2_with fail;refine bodyPost_ret (v:=.agg #[.int .i64 s5,.slice a5 l5 k5]) (by simp[results,Tryz.results159,go_sem,p0,p1]) rfl ?_;refine HEND.out _ _ (HN.out.putAt BP.out (by omega) _ _) ?_;rw[←HZ.out,HDV.out];exact HI5.out.put2 BP.out _ _ _ _
   | false=>
    obtain ⟨b0,b1,b2,b3,b4⟩:=BO.out.two;obtain ⟨p0,p1,p2,p3,p4⟩:=BP.out.two;go_wp2_with fail;refine bodyPost_ret (v:=.agg #[.int .i64 s2,.slice o2 l2 k2]) (by simp[results,Tryz.results159,go_sem,p0,p1]) rfl ?_;refine HEND.out _ _ (HN.out.putAt BP.out (by omega) _ _) ?_;rw[←HZ.out,HDV.out];exact HI.out.put2 BP.out _ _ _ _
  ·have hz0:(0:Int) < (tb.size:Int):=by omega
   obtain ⟨n,hmin,hn1,hn18,hns⟩:∃ n:Nat,min (18:Int) (tb.size:Int)=(n:Int)∧1≤n∧n≤18∧n≤tb.size:=⟨min 18 tb.size,by omega,by omega,by omega,by omega⟩
   have hlt:tb.size=t.length:=by rw[←HT.out];simp
   have hlen:=congrArg List.length HCT.out;rw[List.length_append] at hlen;have hdc:∀ x∈c,isDig x=true:=fun x hx=>HD.out x (by rw[←HCT.out];simp[hx]);have hdt:∀ x∈t.take n,isDig x=true:=fun x hx=>HD.out x (by rw[←HCT.out];simp[List.mem_of_mem_take hx])
   have hx1:(tb.extract 0 n).data.toList=t.take n:=by rw[Lib.extract_data,HT.out];rfl
   have hx2:(tb.extract n tb.size).data.toList=t.drop n:=by rw[Lib.extract_to_end,HT.out]
   have hat:=fun W=>atoi_calls (tb.extract 0 n) (t.take n) W hx1 hdt (by rw[←List.length_pos_iff,List.length_take];omega) (by rw[List.length_take];omega);have hb1:Bd (dval 0 c:Nat):=(dval_bd hdc).bd (by omega)
   have hp10:BdK 4 10:=by unfold BdK;decide
   have hb2:Bd ((10:Int)^n):=(hp10.pow n).bd (by omega);have hb3:Bd ((dval 0 c:Nat)*(10:Int)^n):=((dval_bd hdc).mul (hp10.pow n)).bd (by omega);have hv:dval 0 (t.take n) < 10^18:=Nat.lt_of_lt_of_le (dval_lt hdt) (Nat.pow_le_pow_right (by omega) (by rw[List.length_take];omega))
   have hvl: -9223372036854775808≤((dval 0 (t.take n):Nat):Int):=by omega
   have hvh:((dval 0 (t.take n):Nat):Int)≤9223372036854775807:=by omega
   obtain ⟨V,hV⟩:∃ V:Int,((dval 0 (t.take n):Nat):Int)=V:=⟨_,rfl⟩;rw[hV] at hvl hvh;simp only[hV] at hat
   have hnew:((dval 0 c:Nat):Int)*10^n+V=(dval 0 (c ++ t.take n):Nat):=by
    rw[←hV,dval_append,dval_acc (dval 0 c),List.length_take,show min n t.length=n by omega];simp
   have hdrop:(c ++ t.take n) ++ t.drop n=d:=by rw[List.append_assoc,List.take_append_drop];exact HCT.out
   have hn0:(n:Int)≤(tb.size:Int):=by omega
   have hnp:(0:Int)≤(n:Int):=by omega
   have hsv:∀ W,IsInt W (.agg #[.int .i64 V,.slice none 0 0]) V:=fun W=>.small rfl hvl hvh;have hbv:Bd V:=.small hvl hvh
   have hsz:(tb.extract n tb.size).size < tb.size:=by simp;omega
   have HLT:=hid hlt;have HLEN:=hid hlen;have HDC:=hid hdc;have HDT:=hid hdt;have HX1:=hid hx1;have HX2:=hid hx2;have HAT:=hid hat;have HB1:=hid hb1;have HP10:=hid hp10;have HB2:=hid hb2;have HB3:=hid hb3;have HV:=hid hv;have HVV:=hid hV;have HNEW:=hid hnew;have HDROP:=hid hdrop;have HSV:=hid hsv;have HBV:=hid hbv;have HSZ:=hid hsz;have HVL:=hid hvl;have HVH:=hid hvh;have H0:=hid h0;have HN18:=hid hn18;have HN1:=hid hn1;have HNS:=hid hns;clear hlt hlen hdc hdt hx1 hx2 hat hb1 hp10 hb2 hb3 hv hV hnew hdrop hsv hbv hsz hvl hvh h0 hn18 hn1 hns;go_wp2_with fail;refine (HAT.out _).mono ?_;rintro e w1 ⟨rfl,hn⟩;replace BP:=hid (BP.out.new hn);replace BO:=hid (BO.out.new hn);replace HI:=hid (HI.out.new hn);replace HN:=hid (HN.out.trans hn);clear hn;obtain ⟨b0,b1,b2,b3,b4⟩:=BO.out.two;go_wp2_with fail;refine wp_region_T 8 (fun W=>W.cell? ⟨w.heap.size+1,0,none⟩=some (.int .i64 s2)∧W.cell? ⟨w.heap.size+1,1,none⟩=some (.slice o2 l2 k2)) 9 #[false,false,false,false,false,false,false,false,false] rfl (by kernel_rfl) (by kernel_rfl) ?_;refine tk 0 (by exact ⟨b0,b1⟩) ?_
   try simp only[PT]
   refine tk 2 (by exact ⟨b0,b1⟩) ?_
   try simp only[PT]
   refine tk 5 (by exact ⟨b0,b1⟩) ?_
   try simp only[PT]
   refine wpT_one 1 rfl (by kernel_rfl) (fun K hK=>?_);go_simp;refine (of_calls 10 _).mono ?_;rintro e w3 ⟨rfl,hn⟩;have hn:=hn.undrew;clear b0 b1 b2 b3 b4;replace BP:=hid (BP.out.new hn);replace BO:=hid (BO.out.new hn);replace HI:=hid (HI.out.new hn);replace HN:=hid (HN.out.trans hn);clear hn;obtain ⟨b0,b1,b2,b3,b4⟩:=BO.out.two;refine hK.out _ _ (fun _=>?_) ?_
   ·exact ⟨b0,b1⟩
   clear hK K
   try simp only[PT]
   refine wpT_one 3 rfl (by kernel_rfl) (fun K hK=>?_);go_simp;refine (pow_calls _ 10 n 4 _ (.small rfl (by omega) (by omega)) HP10.out (by have:=HN18.out;omega) (by have:=HN18.out;omega)).mono ?_;rintro e w4 ⟨v,rfl,hn,hi⟩;obtain ⟨s5,a5,l5,k5,rfl⟩:=hi.shape;have HI5:=hid hi;clear hi;clear b0 b1 b2 b3 b4;replace BP:=hid (BP.out.new hn);replace BO:=hid (BO.out.new hn);replace HI:=hid (HI.out.new hn);replace HN:=hid (HN.out.trans hn);clear hn;obtain ⟨b0,b1,b2,b3,b4⟩:=BO.out.two;refine hK.out _ _ (fun _=>?_) ?_
   ·exact ⟨b0,b1⟩
   clear hK K
   try simp only[PT]
   refine wpT_one 4 rfl (by kernel_rfl) (fun K hK=>?_);go_simp;refine (mul_calls _ _ (dval 0 c:Nat) (10^n) _ HI.out HI5.out HB1.out HB2.out).mono ?_;rintro e w5 ⟨v,rfl,hn,hi⟩;obtain ⟨s6,a6,l6,k6,rfl⟩:=hi.shape;have HI6:=hid hi;clear hi;clear b0 b1 b2 b3 b4;replace BP:=hid (BP.out.new hn);replace BO:=hid (BO.out.new hn);replace HN:=hid (HN.out.trans hn);clear hn;obtain ⟨b0,b1,b2,b3,b4⟩:=BO.out.two;refine hK.out _ _ (fun _=>?_) ?_
   ·exact ⟨b0,b1⟩
   clear hK K
   try simp only[PT]
   refine wpT_one 6 rfl (by kernel_rfl) (fun K hK=>?_);go_simp;refine (of_calls V _).mono ?_;rintro e w6 ⟨rfl,hn⟩;clear b0 b1 b2 b3 b4;replace BP:=hid (BP.out.new hn);replace BO:=hid (BO.out.new hn);replace HI6:=hid (HI6.out.new hn);replace HN:=hid (HN.out.trans hn);clear hn;obtain ⟨b0,b1,b2,b3,b4⟩:=BO.out.two;refine hK.out _ _ (fun _=>?_) ?_
   ·exact ⟨b0,b1⟩
   clear hK K
   try simp only[PT]
   refine wpT_one 7 rfl (by kernel_rfl) (fun K hK=>?_);go_simp;refine (add_calls _ _ ((dval 0 c:Nat)*10^n) V _ HI6.out (HSV.out _) HB3.out HBV.out).mono ?_;rintro e w7 ⟨v,rfl,hn,hi⟩;rw[HNEW.out] at hi;obtain ⟨s7,a7,l7,k7,rfl⟩:=hi.shape;have HI7:=hid hi;clear hi;clear b0 b1 b2 b3 b4;replace BP:=hid (BP.out.new hn);replace BO:=hid (BO.out.new hn);replace HN:=hid (HN.out.trans hn);clear hn;obtain ⟨b0,b1,b2,b3,b4⟩:=BO.out.two;refine hK.out _ _ (fun _=>?_) ?_
   ·exact ⟨b0,b1⟩
   clear hK K
   try simp only[PT]
   refine wpT_tail rfl (by kernel_rfl) ?_;simp only[List.drop_succ_cons,List.drop_zero];go_wp2_with fail;clear b0 b1 b2 b3 b4;have BP_:=BP.out.away BO.out (by omega) (.int .i64 s7) (.slice a7 l7 k7);have HI7_:=HI7.out.put2 BO.out s7 a7 l7 k7;have HN_:=HN.out.putAt BO.out (by omega) (.int .i64 s7) (.slice a7 l7 k7);have BO_:=BO.out.put2 (.int .i64 s7) (.slice a7 l7 k7);clear BP HI7 HN BO;have BP:=hid BP_;have HI7:=hid HI7_;have HN:=hid HN_;have BO:=hid BO_;clear BP_ HI7_ HN_ BO_
   go_roundg (tb.extract n tb.size).size
   case measure=>rw[←HG.out];exact HSZ.out
   case rel=>exact ⟨c ++ t.take n,t.drop n,tb.extract n tb.size,_,_,_,_,rfl,HX2.out,HDROP.out,rfl,HN.out,BP.out,BO.out,HI7.out⟩
theorem index47:∀ l:List UInt8,Lib.index l [47]=if slashed l then ((upTo l).length:Int) else -1
 | []=>rfl
 | b::l=>by
  have ih:=index47 l;rw[Lib.index];by_cases hb:b=47
  ·subst hb;rw[if_pos (by simp)];rw[if_pos (by simp[slashed])];simp[upTo]
  ·have h1:(47==b)=false:=by rw[beq_eq_false_iff_ne];exact fun h=>hb h.symm
   have h2:(b==47)=false:=by rw[beq_eq_false_iff_ne];exact hb
   rw[if_neg (by simp;exact fun h=>hb h.symm)]
   have h3:slashed (b::l)=slashed l:=by simp[slashed,h2]
   have h4:upTo (b::l)=b::upTo l:=by simp[upTo,hb]
   rw[h3,h4,ih];by_cases hs:slashed l=true
   ·rw[if_pos hs,if_pos hs]
    have:((((upTo l).length:Int))== -1)=false:=by rw[beq_eq_false_iff_ne];omega
    rw[if_neg (by rw[this];decide)];simp
   ·rw[if_neg hs,if_neg hs];rfl
theorem cut47 (l:List UInt8):Lib.cut l [47]=(upTo l,behind l,slashed l):=by
 unfold Lib.cut;rw[index47];by_cases hs:slashed l=true
 ·rw[if_pos hs,if_pos (by omega),hs];have h:=split_slash hs;obtain ⟨A,hA⟩:∃ A,upTo l=A:=⟨_,rfl⟩;obtain ⟨B,hB⟩:∃ B,behind l=B:=⟨_,rfl⟩;rw[hA,hB] at h⊢
  have e1:(A.length:Int).toNat=A.length:=by omega
  rw[e1,h];simp
 ·rw[if_neg hs,if_neg (by omega)]
  have hs':slashed l=false:=by simpa using hs
  obtain ⟨h1,h2⟩:=split_plain hs';rw[h1,h2,hs']
theorem slashed_itoa (z:Int):slashed (Lib.itoa z)=false:=by
 rcases Int.lt_or_le z 0 with hz | hz
 ·obtain ⟨n,rfl⟩:∃ n:Nat,z= -(n:Int):=⟨z.natAbs,by omega⟩;rw[Big.itoa_neg (by omega)];have:=slashed_plain n;simpa[slashed] using this
 ·obtain ⟨n,rfl⟩:∃ n:Nat,z=(n:Int):=⟨z.toNat,by omega⟩;rw[Big.itoa_nonneg];exact slashed_plain n
theorem parts_itoa (z:Int)(r:List UInt8):upTo (Lib.itoa z ++ 47::r)=Lib.itoa z∧behind (Lib.itoa z ++ 47::r)=r:=by
 rcases Int.lt_or_le z 0 with hz | hz
 ·obtain ⟨n,rfl⟩:∃ n:Nat,z= -(n:Int):=⟨z.natAbs,by omega⟩;rw[Big.itoa_neg (by omega)];have h1:=upTo_slash n r;have h2:=behind_slash n r;unfold upTo at *;unfold behind at *;rw[List.cons_append,List.takeWhile_cons,List.dropWhile_cons];rw[if_pos (by decide),if_pos (by decide),h1,h2];exact ⟨rfl,rfl⟩
 ·obtain ⟨n,rfl⟩:∃ n:Nat,z=(n:Int):=⟨z.toNat,by omega⟩;rw[Big.itoa_nonneg];exact ⟨upTo_slash n r,behind_slash n r⟩
theorem cut_calls (s:ByteArray)(w:World)(he:Env w)(hl:s.size≤1000000):
  Calls Tryz.prog 156 #[.string s,.string ⟨#[47]⟩] w fun e w'=>e=.returned (.tuple #[.string ⟨(upTo s.data.toList).toArray⟩,.string ⟨(behind s.data.toList).toArray⟩,.bool (slashed s.data.toList)])∧New w w':=by
 obtain ⟨m,hm⟩:=he.maxLen;refine (Tryz.strings_Cut s ⟨#[47]⟩ m w (by omega) hm).mono fun e w' ⟨h1,n,h2⟩=>⟨?_,by rw[h2];exact (New.refl w).drewN n⟩;rw[h1];have:(⟨#[47]⟩:ByteArray).data.toList=[47]:=rfl;rw[this,cut47]
theorem read_itoa (sb:ByteArray)(z:Int)(w:World)(hsb:sb.data.toList=Lib.itoa z)(hl:sb.size≤1000000):Calls Tryz.prog 159 #[.string sb] w (IntPost w z):=by
 have hl':(Lib.itoa z).length≤1000000:=by rw[←hsb];simpa using hl
 rcases Int.lt_or_le z 0 with hz | hz
 ·obtain ⟨n,rfl⟩:∃ n:Nat,z= -(n:Int):=⟨z.natAbs,by omega⟩;rw[Big.itoa_neg (by omega)] at hsb hl';have:=read_calls sb true (Lib.decDigits n) w (by rw[hsb];rfl) (decDigits_dig n) (by simp at hl';omega);rw[dval_decDigits] at this;exact this
 ·obtain ⟨n,rfl⟩:∃ n:Nat,z=(n:Int):=⟨z.toNat,by omega⟩;rw[Big.itoa_nonneg] at hsb hl';have:=read_calls sb false (Lib.decDigits n) w (by rw[hsb];rfl) (decDigits_dig n) hl';rw[dval_decDigits] at this;exact this
theorem from_calls (sb:ByteArray)(q:Rat)(w:World)(he:Env w)(hsb:sb.data.toList=ratText q)(hl:sb.size≤1000000):Calls Tryz.prog 87 #[.string sb] w (FracPost w q):=by
 obtain ⟨A,hA⟩:∃ A,upTo sb.data.toList=A:=⟨_,rfl⟩;obtain ⟨B,hB⟩:∃ B,behind sb.data.toList=B:=⟨_,rfl⟩;have hcut:=fun W (h:New w W)=>cut_calls sb W (he.new h) hl;rw[hA,hB] at hcut
 have hlen:sb.data.toList.length≤1000000:=by simpa using hl
 by_cases hd:q.den=1
 ·have ht:ratText q=Lib.itoa q.num:=by unfold ratText;rw[if_pos hd]
  have hs:slashed sb.data.toList=false:=by rw[hsb,ht];exact slashed_itoa _
  have hq:((q.num:Int):Rat)=q:=by
   apply Rat.ext
   ·rw[Rat.num_intCast]
   ·rw[Rat.den_intCast,hd]
  have hA':A=Lib.itoa q.num:=by rw[←hA,(split_plain hs).1,hsb,ht]
  have hAl:(⟨A.toArray⟩:ByteArray).size≤1000000:=by
   have:A.length≤1000000:=by rw[hA',←ht,←hsb];exact hlen
   simpa[ByteArray.size] using this
  rw[hs]at hcut;have HCUT:=hid hcut;have HA:=hid hA';have HAL:=hid hAl;have HQ:=hid hq;clear hcut hA' hAl hq;clear he hsb hA hB hs ht hd hlen;go_enter Tryz.func87,Tryz.ntmps87;go_wp2_with fail;obtain ⟨BP,HN⟩:=lay1 w 115 #[.int .i64 0,.slice none 0 0,.int .i64 0,.slice none 0 0];refine (HCUT.out _ HN.out).mono ?_;rintro e w1 ⟨rfl,hn⟩;replace BP:=hid (BP.out.new hn);replace HN:=hid (HN.out.trans hn);clear hn;go_wp2_with fail;refine (read_itoa _ q.num _ HA.out HAL.out).mono ?_;rintro e w2 ⟨v,rfl,hn,hi⟩;obtain ⟨s7,a7,l7,k7,rfl⟩:=hi.shape;have HI:=hid hi;clear hi;replace BP:=hid (BP.out.new hn);replace HN:=hid (HN.out.trans hn);clear hn;go_wp2_with fail;refine (whole_calls _ q.num _ HI.out).mono ?_;rintro e w3 ⟨v,rfl,hn,hf⟩;rw[HQ.out] at hf;obtain ⟨s9,a9,l9,k9,t9,b9,m9,n9,rfl⟩:=hf.shape;have HF:=hid hf;clear hf;replace BP:=hid (BP.out.new hn);replace HN:=hid (HN.out.trans hn);clear hn;obtain ⟨⟨p0,p1,p2,p3⟩,p4,p5,p6,p7,p8⟩:=BP.out.four;go_wp2_with fail;refine bodyPost_ret (v:=.agg #[.int .i64 s9,.slice a9 l9 k9,.int .i64 t9,.slice b9 m9 n9]) (by simp[results,Tryz.results87,go_sem,p0,p1,p2,p3]) rfl ?_;exact frac_ret HN.out BP.out (by omega) HF.out.parts.1 HF.out.parts.2
 ·have ht:ratText q=Lib.itoa q.num ++ 47::Lib.decDigits q.den:=by unfold ratText;rw[if_neg hd]
  have hs:slashed sb.data.toList=true:=by rw[hsb,ht];simp[slashed]
  have hA':A=Lib.itoa q.num:=by rw[←hA,hsb,ht];exact (parts_itoa _ _).1
  have hB':B=Lib.itoa (q.den:Int):=by rw[←hB,hsb,ht,Big.itoa_nonneg];exact (parts_itoa _ _).2
  have hAB:sb.data.toList=A ++ 47::B:=by rw[←hA,←hB];exact split_slash hs
  have hAl:(⟨A.toArray⟩:ByteArray).size≤1000000:=by
   rw[hAB,List.length_append,List.length_cons]at hlen
   have:A.length≤1000000:=by omega
   simpa[ByteArray.size] using this
  have hBl:(⟨B.toArray⟩:ByteArray).size≤1000000:=by
   rw[hAB,List.length_append,List.length_cons]at hlen
   have:B.length≤1000000:=by omega
   simpa[ByteArray.size] using this
  rw[hs]at hcut;have HCUT:=hid hcut;have HA:=hid hA';have HAL:=hid hAl;have HB:=hid hB';have HBL:=hid hBl;clear hcut hA' hAl hB' hBl;clear he hsb hA hB hs ht hd hlen hAB;go_enter Tryz.func87,Tryz.ntmps87;go_wp2_with fail;obtain ⟨BP,HN⟩:=lay1 w 115 #[.int .i64 0,.slice none 0 0,.int .i64 0,.slice none 0 0];refine (HCUT.out _ HN.out).mono ?_;rintro e w1 ⟨rfl,hn⟩;replace BP:=hid (BP.out.new hn);replace HN:=hid (HN.out.trans hn);clear hn;go_wp2_with fail;refine (read_itoa _ q.num _ HA.out HAL.out).mono ?_;rintro e w2 ⟨v,rfl,hn,hi⟩;obtain ⟨s7,a7,l7,k7,rfl⟩:=hi.shape;have HI:=hid hi;clear hi;replace BP:=hid (BP.out.new hn);replace HN:=hid (HN.out.trans hn);clear hn;go_wp2_with fail;refine (read_itoa _ (q.den:Int) _ HB.out HBL.out).mono ?_;rintro e w3 ⟨v,rfl,hn,hi⟩;obtain ⟨s8,a8,l8,k8,rfl⟩:=hi.shape;have HI8:=hid hi;clear hi;replace BP:=hid (BP.out.new hn);replace HI:=hid (HI.out.new hn);replace HN:=hid (HN.out.trans hn);clear hn;obtain ⟨⟨p0,p1,p2,p3⟩,p4,p5,p6,p7,p8⟩:=BP.out.four;go_wp2_with fail;refine bodyPost_ret (v:=.agg #[.int .i64 s7,.slice a7 l7 k7,.int .i64 s8,.slice a8 l8 k8]) (by simp[results,Tryz.results87,go_sem,p0,p1,p2,p3]) rfl ?_;exact frac_ret HN.out BP.out (by omega) HI.out HI8.out
theorem ret_i64 {a b:Int}(h:a=b):Ending.returned (.int .i64 a)=.returned (.int .i64 b):=by rw[h]
theorem nwhen_calls (b:Bool)(n:Int)(w:World):Calls Tryz.prog 100 #[.bool b,.int .i64 n] w fun e w'=>e=.returned (.int .i64 (if b then n else 0))∧w=w':=by
 cases b <;> (go_enter Tryz.func100,Tryz.ntmps100;go_wp2_with fail;go_ret;exact ⟨rfl,rfl⟩)
def firstNZ:List Int→Int
 | []=>0
 | x::l=>if x=0 then firstNZ l else x
theorem firstNZ_drop {l:List Int}{k:Nat}(hk:k < l.length)(h:firstNZ (l.drop k)=firstNZ l)(h0:l[k]=0):firstNZ (l.drop (k+1))=firstNZ l:=by
 rw[←h,List.drop_eq_getElem_cons hk,firstNZ,if_pos h0]
theorem firstNZ_at {l:List Int}{k:Nat}(hk:k < l.length)(h:firstNZ (l.drop k)=firstNZ l)(h0:l[k]≠0):firstNZ l=l[k]:=by
 rw[←h,List.drop_eq_getElem_cons hk,firstNZ,if_neg h0]
theorem nfirst_calls (l:List Int)(b cap:Nat)(w:World)(hl:l.length≤1000)(hc:∀ i (h:i < l.length),w.cell? ⟨b,i,none⟩=some (.int .i64 l[i])):
  Calls Tryz.prog 86 #[.slice (some ⟨b,0,none⟩) l.length cap] w fun e w'=>e=.returned (.int .i64 (firstNZ l))∧w=w':=by
 obtain ⟨r,hr⟩:∃ r,firstNZ l=r:=⟨_,rfl⟩;rw[hr]
 have hlen:(l.length:Int)≤1000:=by omega
 have HC:=hid hc;have HR:=hid hr;clear hc hr;go_enter Tryz.func86,Tryz.ntmps86;go_wp2_with fail
 go_loop [7] (fun i=>∃ k:Nat,k≤l.length∧i=.int .i64 (k:Int)∧Hid (firstNZ (l.drop k)=firstNZ l)) (fun i=>l.length - (intOf i).toNat)
 case atStart=>exact ⟨0,Nat.zero_le _,rfl,hid rfl⟩
 case round=>
  obtain ⟨k,hk,rfl,HK⟩:=hrel;by_cases hlt:k < l.length
  ·have hcell:=HC.out k hlt;obtain ⟨x,hx⟩:∃ x,l[k]=x:=⟨_,rfl⟩;rw[hx] at hcell;by_cases h0:x=0
   ·have hx0:(x != 0)=false:=by simp[h0]
    have hd:=firstNZ_drop hlt HK.out (hx.trans h0);have HX:=hid hx;have H0:=hid h0;have HD:=hid hd;clear hx h0 hd;go_wp2_with fail;go_round
    case rel=>exact ⟨k+1,by omega,by go_num,HD⟩
    case measure=>simp[intOf];omega
   ·have hx0:(x != 0)=true:=by simp[h0]
    have hd:=firstNZ_at hlt HK.out (by rw[hx];exact h0);have HX:=hid hx;have H0:=hid h0;have HD:=hid hd;clear hx h0 hd;go_wp2_with fail;go_ret;exact ⟨ret_i64 (by rw[←HR.out,HD.out,HX.out]),rfl⟩
  ·have hkk:k=l.length:=by omega
   have hz:r=0:=by rw[←HR.out,←HK.out,hkk,List.drop_length];rfl
   have HKK:=hid hkk;have HZ:=hid hz;clear hkk hz;go_wp2_with fail;go_ret;exact ⟨ret_i64 HZ.out.symm,rfl⟩
def outside (n lo hi:Int):Bool:=decide (n < lo) || decide (hi < n)
theorem firstNZ2 (x y:Int):firstNZ [x,y]=if x=0 then y else x:=by
 unfold firstNZ;split
 ·unfold firstNZ;split
  ·rename_i h;rw[h];rfl
  ·rfl
 ·rfl
theorem nfirst2 (x y:Int)(b cap:Nat)(t:TypeId)(w:World)(h:Box w b t #[.int .i64 x,.int .i64 y]):
  Calls Tryz.prog 86 #[.slice (some ⟨b,0,none⟩) 2 cap] w fun e w'=>e=.returned (.int .i64 (if x=0 then y else x))∧w=w':=by
 have:=nfirst_calls [x,y] b cap w (by simp) (fun i hi=>by
  have:i=0∨i=1:=by simp at hi;omega
  rcases this with rfl | rfl
  ·exact h.two.1
  ·exact h.two.2.1)
 rw[firstNZ2]at this;exact this
theorem strTrim_calls (s:ByteArray)(w:World)(hs:s.size≤1000000):Calls Tryz.prog 207 #[.string s,.string ⟨#[48,49,50,51,52,53,54,55,56,57]⟩] w fun e w'=>e=.returned (.string ⟨(Lib.trimS s.data.toList [48,49,50,51,52,53,54,55,56,57]).toArray⟩)∧New w w':=
 Any.strings_Trim_laid Tryz.lays160 (by kernel_rfl) s ⟨#[48,49,50,51,52,53,54,55,56,57]⟩ w (by omega) (by decide) (ascii_of_all (by decide))
theorem decimal_empty (w:World):Calls Tryz.prog 157 #[.string ⟨#[]⟩] w fun e w'=>e=.returned (.bool false)∧New w w':=by
 go_enter Tryz.func157,Tryz.ntmps157;go_wp2_with fail;go_ret;exact ⟨rfl,New.refl _⟩
theorem digs_contains (c:UInt8):([48,49,50,51,52,53,54,55,56,57]:List UInt8).contains c=isDig c:=by
 have key:∀ n,n < 256→([48,49,50,51,52,53,54,55,56,57]:List UInt8).contains (UInt8.ofNat n)=isDig (UInt8.ofNat n):=by decide +kernel
 have:=key c.toNat (UInt8.toNat_lt c)
 rwa [UInt8.ofNat_toNat] at this
theorem dropWhile_nil_iff {p:UInt8→Bool}:∀ {l:List UInt8},l.dropWhile p=[] ↔ ∀ c∈l,p c=true:=by
 intro l;exact ⟨fun h=>all_of_dropWhile h,fun h=>dropWhile_all h⟩
theorem dropWhile_head {p:UInt8→Bool}:∀ {l:List UInt8} {c:UInt8} {r:List UInt8},l.dropWhile p=c::r→p c=false
 | [],c,r,h=>by cases h
 | x::l,c,r,h=>by
  rw[List.dropWhile_cons]at h;split at h
  ·exact dropWhile_head h
  ·rename_i hx
   cases h
   simpa using hx
theorem trimS_nil {l:List UInt8}:Lib.trimS l [48,49,50,51,52,53,54,55,56,57]=[] ↔ l.all isDig=true:=by
 unfold Lib.trimS Lib.trimLeftS Lib.trimRightS;simp only[digs_contains];rw[dropWhile_nil_iff,List.all_eq_true];constructor
 ·intro h
  cases hd:l.reverse.dropWhile isDig with
  | nil=>
   intro c hc;exact dropWhile_nil_iff.1 hd c (by simpa using hc)
  | cons c r=>
   have h1:=dropWhile_head hd;have h2:=h c (by rw[hd];simp);rw[h1] at h2
   cases h2
 ·intro h c hc;have:l.reverse.dropWhile isDig=[]:=dropWhile_nil_iff.2 fun x hx=>h x (by simpa using hx);rw[this] at hc;simp at hc
theorem ret_bool {a b:Bool}(h:a=b):Ending.returned (.bool a)=.returned (.bool b):=by rw[h]
theorem decimal_some (c:UInt8)(l:List UInt8)(w:World)(hl:(c::l).length≤1000000):Calls Tryz.prog 157 #[.string ⟨(c::l).toArray⟩] w fun e w'=>e=.returned (.bool (isDec (c::l)))∧New w w':=by
 obtain ⟨r,hr⟩:∃ r,isDec (c::l)=r:=⟨_,rfl⟩;rw[hr];have ht:=fun W=>strTrim_calls ⟨(c::l).toArray⟩ W (by simpa[ByteArray.size] using hl);have HT:=hid ht;have HR:=hid hr;have HL:=hid hl;clear ht hr hl;go_enter Tryz.func157,Tryz.ntmps157;go_wp2_with fail;refine (HT.out _).mono ?_;rintro e w1 ⟨rfl,hn⟩;obtain ⟨X,hX⟩:∃ X,Lib.trimS (⟨(c::l).toArray⟩:ByteArray).data.toList [48,49,50,51,52,53,54,55,56,57]=X:=⟨_,rfl⟩;rw[hX];have hX:Lib.trimS (c::l) [48,49,50,51,52,53,54,55,56,57]=X:=hX;have HN:=hid hn;have HX:=hid hX;clear hn hX
 cases X with
 | nil=>
  have hall:=trimS_nil.1 HX.out;by_cases hc:c.toNat=48
  ·have hc8:c=48:=UInt8.toNat_inj.1 hc
   have hr2:r=l.isEmpty:=by
    rw[←HR.out];unfold isDec;rw[hall,hc8]
    cases l <;> simp
   have HALL:=hid hall;have HC:=hid hc;have HR2:=hid hr2;clear hall hc hr2;subst hc8;go_wp2_with fail
   all_goals go_ret
   all_goals exact ⟨ret_bool (by rw[HR2.out];try rfl),HN.out⟩
  ·have hc8:c≠48:=fun h=>hc (by rw[h];rfl)
   have hr2:r=true:=by
    rw[←HR.out];unfold isDec;rw[hall];simp[hc8]
   have hci:¬((c.toNat:Int)=48):=by omega
   have hci2:((c.toNat:Int)==48)=false:=beq_eq_false_iff_ne.2 hci;have hg:(⟨(c::l).toArray⟩:ByteArray)[0]'(by simp[ByteArray.size])=c:=rfl;have HALL:=hid hall;have HC:=hid hc;have HR2:=hid hr2;have HC8:=hid hc8;clear hall hc hr2 hc8;go_wp2_with fail
   all_goals go_ret
   all_goals exact ⟨ret_bool HR2.out.symm,HN.out⟩
 | cons x X=>
  have hr2:r=false:=by
   rw[←HR.out]
   have hall:(c::l).all isDig=false:=by
    cases h:(c::l).all isDig with
    | false=>rfl
    | true=>
     have:=trimS_nil.2 h;rw[HX.out] at this
     cases this
   unfold isDec;rw[hall];simp
  have HR2:=hid hr2;clear hr2;go_wp2_with fail;go_ret;exact ⟨ret_bool HR2.out.symm,HN.out⟩
theorem decimal_calls (s:ByteArray)(w:World)(hl:s.size≤1000000):Calls Tryz.prog 157 #[.string s] w fun e w'=>e=.returned (.bool (isDec s.data.toList))∧New w w':=by
 obtain ⟨⟨l⟩⟩:=s
 cases l with
 | nil=>exact decimal_empty w
 | cons c l=>exact decimal_some c l w (by simpa[ByteArray.size] using hl)
end Go.Proofs.YtnjonlnemagomaaGreatDoor
