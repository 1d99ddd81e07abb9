/- Part B29. -/
import Derived.Lib.IndexBytes
import Derived.Test.YtbkcjmojgglbkaaGreatDoorB26
namespace Go.Proofs.YtbkcjmojgglbkaaGreatDoor
open Go.RowKit Big Go.Lib
set_option maxRecDepth 100000
set_option maxHeartbeats 8000000
theorem digits_few {f:Nat→Nat}{n k:Nat}(hk:k < n)(hl:∀ i,i < n→f i < B9):(decDigits (vf B9 (fun i=>f (k+i)) (n - k))).length≤9*(n - k):=by
 rw[decDigits_length,nDigits_le_iff (by omega)];have h1:vf B9 (fun i=>f (k+i)) (n - k) < B9^(n - k):=vf_lt fun i hi=>hl _ (by omega);rw[Nat.pow_mul];exact h1
theorem rtext_zero (b:Bool)(a:Option Addr)(c:Nat)(w:World):Calls Tryz.prog 148 #[.agg #[.bool b,.slice a 0 c]] w fun e w'=>e=.returned (.string (bs [48]))∧New w w':=by
 go_enter Tryz.func148,Tryz.ntmps148;go_wp2_with fail;obtain ⟨BA,HN⟩:=lay1 w 137 #[.bool b,.slice a 0 c];obtain ⟨p0,p1,p2,p3,p4⟩:=BA.out.two;go_wp2_with fail;go_ret;exact ⟨rfl,HN.out⟩
theorem rtext_pos (a:Option Addr)(n c:Nat)(f:Nat→Nat)(x:Nat)(w:World)(hn0:0 < n)(hn:n≤90000)(hr:Rd w a .i64 n f)(hl:∀ i,i < n→f i < B9)(h0:f (n - 1)≠0)(hx:vf B9 f n=x):
  Calls Tryz.prog 148 #[.agg #[.bool false,.slice a n c]] w fun e w'=>e=.returned (.string (bs (decDigits x)))∧New w w':=by
 have hfew:=fun k (hk:k < n)=>digits_few hk hl
 have hni:(n:Int)≤90000:=by omega
 have hn0i:(0:Int) < (n:Int):=by omega
 have hn0b:((n:Int)==0)=false:=by simp;omega
 obtain ⟨t,ht⟩:∃ t,f (n - 1)=t:=⟨_,rfl⟩;have ht9:=hl (n - 1) (by omega)
 have hstart:vf B9 (fun i=>f (n - 1+i)) (n - (n - 1))=t:=by
  rw[show n - (n - 1)=1 by omega];simp[vf,ht]
 have hcall:=fun W=>rdecimal_one t W (by rw[←ht];unfold B9 at ht9;omega)
 have ht9i:(t:Int) < 1000000000:=by rw[ht] at ht9;unfold B9 at ht9;omega
 obtain ⟨b1,o1,rfl,hc0⟩:=hr (n - 1) (by omega);rw[ht] at hc0 h0;have HR:=hid hr;have HL:=hid hl;have H0:=hid h0;have HX:=hid hx;have HFEW:=hid hfew;have HCALL:=hid hcall;have HST:=hid hstart;have HC0:=hid hc0;have HT9:=hid ht9;have HT:=hid ht;clear hr hl h0 hx hfew hcall hstart hc0 ht9 ht;go_enter Tryz.func148,Tryz.ntmps148;go_upto_region 1 with (fail);obtain ⟨BA,HN⟩:=lay1 w 137 #[.bool false,.slice (some ⟨b1,o1,none⟩) n c];have hc0:=HN.out.cell HC0.out;obtain ⟨p0,p1,p2,p3,p4⟩:=BA.out.two;go_wp2_with fail;refine (HCALL.out _).mono ?_;rintro e w1 ⟨rfl,hn⟩;clear hc0 ht9i HC0;clear p0 p1 p2 p3 p4;replace BA:=bW BA hn;replace HN:=tW HN hn;clear hn;obtain ⟨p0,p1,p2,p3,p4⟩:=BA.out.two;go_wp2_with fail;clear p0 p1 p2 p3 p4;obtain ⟨w0,hw0⟩:∃ x,x=w1:=⟨_,rfl⟩;rw[←hw0] at BA HN⊢;clear hw0;have HN0:=HN;have BA0:=BA;clear HN BA
 have hi0:(n:Int) - 2=((n - 1:Nat):Int) - 1:=by omega
 go_loopw [3,4] (fun ss si wr=>∃ k:Nat,k < n∧si=.int .i64 ((k:Int) - 1)∧ss=.string (bs (decDigits (vf B9 (fun i=>f (k+i)) (n - k))))∧Hid (vf B9 (fun i=>f (k+i)) (n - k)≠0)∧Hid (New w0 wr)) (fun _ si _=>(RowKit.intOf si+1).toNat)
 case atStart=>exact ⟨n - 1,by omega,by rw[hi0],by rw[HST.out],hid (by rw[HST.out];exact H0.out),hid (New.refl _)⟩
 case round=>
  clear hi0 HST HCALL;obtain ⟨k,hk,rfl,rfl,HZ,HN⟩:=hrel;obtain ⟨S,hS⟩:∃ S,bs (decDigits (vf B9 (fun i=>f (k+i)) (n - k)))=S:=⟨_,rfl⟩
  have hsz:S.size≤810000:=by rw[←hS,bs_size];have:=HFEW.out k hk;omega
  rw[hS];have hN0:=HN0.out.trans HN.out;rcases Nat.eq_zero_or_pos k with hk0 | hk0
  ·subst hk0
   have e:(fun i=>f (0+i))=f:=funext fun i=>by rw[Nat.zero_add]
   rw[e,Nat.sub_zero,HX.out]at hS
   have hq:¬9223372036854775807 < 1+S.size:=by omega
   replace BA0:=hid (BA0.out.new HN.out);clear HN HZ e;have HS:=hid hS;have HN9:=hid hN0;clear hS hN0;obtain ⟨p0,p1,p2,p3,p4⟩:=BA0.out.two;go_wp2_with fail;go_ret;exact ⟨by rw[HS.out];rfl,HN9.out⟩
  ·obtain ⟨j,rfl⟩:∃ j,k=j+1:=⟨k - 1,by omega⟩;obtain ⟨hst,hnz⟩:=text_step (f:=f) (n:=n) (k:=j+1) (by omega) (by omega) HL.out HZ.out;rw[Nat.add_sub_cancel] at hst hnz
   have hji:((j+1:Nat):Int) - 1=(j:Int):=by omega
   have hj0:(0:Int)≤(j:Int):=by omega
   have hjb:decide ((0:Int)≤(j:Int))=true:=decide_eq_true hj0
   have hjn:(j:Int) < (n:Int):=by omega
   obtain ⟨b2,o2,e2,hc⟩:=HR.out j (by omega);injection e2 with e2;injection e2 with e2 e3;subst e2 e3;have hc:=hN0.cell hc;have hl9:=HL.out j (by omega);obtain ⟨t2,ht2⟩:∃ t,f j=t:=⟨_,rfl⟩;rw[ht2] at hc hl9 hst
   have hl9i:(t2:Int) < 1000000000:=by unfold B9 at hl9;omega
   have hcall:=fun W=>rdecimal_nine t2 W hl9;obtain ⟨C,hC⟩:∃ C,bs (padDigits 9 t2)=C:=⟨_,rfl⟩;simp only[hC] at hcall
   have hcs:C.size=9:=by rw[←hC,bs_size,padDigits_length]
   have hq:¬9223372036854775807 < S.size+C.size:=by omega
   have hcat:S ++ C=bs (decDigits (vf B9 (fun i=>f (j+i)) (n - j))):=by
    rw[←hS,←hC,bs_append];exact congrArg bs hst.symm
   have hBA:=BA0.out.new HN.out;rw[hji];clear hC hS hst hl9 ht2 hcs hN0 hsz HZ;have HCALL:=hid hcall;have HCAT:=hid hcat;have HNZ:=hid hnz;have BA:=hid hBA;clear hcall hcat hnz hBA;obtain ⟨p0,p1,p2,p3,p4⟩:=BA.out.two;go_wp2_with fail;refine (HCALL.out _).mono ?_;rintro e w2 ⟨rfl,hn⟩;clear p0 p1 p2 p3 p4;have hN2:=HN.out.trans hn;clear HN hn hc BA;have HN:=hid hN2;clear hN2;go_wp2_with fail;go_roundw
   case rel=>exact ⟨j,by omega,rfl,by rw[HCAT.out],HNZ,HN⟩
   case measure=>simp[RowKit.intOf] <;> omega
theorem rtext_neg (a:Option Addr)(n c:Nat)(f:Nat→Nat)(x:Nat)(w:World)(hn0:0 < n)(hn:n≤90000)(hr:Rd w a .i64 n f)(hl:∀ i,i < n→f i < B9)(h0:f (n - 1)≠0)(hx:vf B9 f n=x):
  Calls Tryz.prog 148 #[.agg #[.bool true,.slice a n c]] w fun e w'=>e=.returned (.string (bs (45::decDigits x)))∧New w w':=by
 have hfew:=fun k (hk:k < n)=>digits_few hk hl
 have hni:(n:Int)≤90000:=by omega
 have hn0i:(0:Int) < (n:Int):=by omega
 have hn0b:((n:Int)==0)=false:=by simp;omega
 obtain ⟨t,ht⟩:∃ t,f (n - 1)=t:=⟨_,rfl⟩;have ht9:=hl (n - 1) (by omega)
 have hstart:vf B9 (fun i=>f (n - 1+i)) (n - (n - 1))=t:=by
  rw[show n - (n - 1)=1 by omega];simp[vf,ht]
 have hcall:=fun W=>rdecimal_one t W (by rw[←ht];unfold B9 at ht9;omega)
 have ht9i:(t:Int) < 1000000000:=by rw[ht] at ht9;unfold B9 at ht9;omega
 obtain ⟨b1,o1,rfl,hc0⟩:=hr (n - 1) (by omega);rw[ht] at hc0 h0;have HR:=hid hr;have HL:=hid hl;have H0:=hid h0;have HX:=hid hx;have HFEW:=hid hfew;have HCALL:=hid hcall;have HST:=hid hstart;have HC0:=hid hc0;have HT9:=hid ht9;have HT:=hid ht;clear hr hl h0 hx hfew hcall hstart hc0 ht9 ht;go_enter Tryz.func148,Tryz.ntmps148;go_upto_region 1 with (fail);obtain ⟨BA,HN⟩:=lay1 w 137 #[.bool true,.slice (some ⟨b1,o1,none⟩) n c];have hc0:=HN.out.cell HC0.out;obtain ⟨p0,p1,p2,p3,p4⟩:=BA.out.two;go_wp2_with fail;refine (HCALL.out _).mono ?_;rintro e w1 ⟨rfl,hn⟩;clear hc0 ht9i HC0;clear p0 p1 p2 p3 p4;replace BA:=bW BA hn;replace HN:=tW HN hn;clear hn;obtain ⟨p0,p1,p2,p3,p4⟩:=BA.out.two;go_wp2_with fail;clear p0 p1 p2 p3 p4;obtain ⟨w0,hw0⟩:∃ x,x=w1:=⟨_,rfl⟩;rw[←hw0] at BA HN⊢;clear hw0;have HN0:=HN;have BA0:=BA;clear HN BA
 have hi0:(n:Int) - 2=((n - 1:Nat):Int) - 1:=by omega
 go_loopw [3,4] (fun ss si wr=>∃ k:Nat,k < n∧si=.int .i64 ((k:Int) - 1)∧ss=.string (bs (decDigits (vf B9 (fun i=>f (k+i)) (n - k))))∧Hid (vf B9 (fun i=>f (k+i)) (n - k)≠0)∧Hid (New w0 wr)) (fun _ si _=>(RowKit.intOf si+1).toNat)
 case atStart=>exact ⟨n - 1,by omega,by rw[hi0],by rw[HST.out],hid (by rw[HST.out];exact H0.out),hid (New.refl _)⟩
 case round=>
  clear hi0 HST HCALL;obtain ⟨k,hk,rfl,rfl,HZ,HN⟩:=hrel;obtain ⟨S,hS⟩:∃ S,bs (decDigits (vf B9 (fun i=>f (k+i)) (n - k)))=S:=⟨_,rfl⟩
  have hsz:S.size≤810000:=by rw[←hS,bs_size];have:=HFEW.out k hk;omega
  rw[hS];have hN0:=HN0.out.trans HN.out;rcases Nat.eq_zero_or_pos k with hk0 | hk0
  ·subst hk0
   have e:(fun i=>f (0+i))=f:=funext fun i=>by rw[Nat.zero_add]
   rw[e,Nat.sub_zero,HX.out]at hS
   have hq:¬9223372036854775807 < 1+S.size:=by omega
   replace BA0:=hid (BA0.out.new HN.out);clear HN HZ e;have HS:=hid hS;have HN9:=hid hN0;clear hS hN0;obtain ⟨p0,p1,p2,p3,p4⟩:=BA0.out.two;go_wp2_with fail;go_ret;exact ⟨by have h:=bs_append [45] (decDigits x);rw[HS.out] at h;exact congrArg (fun s=>Ending.returned (.string s)) h,HN9.out⟩
  ·obtain ⟨j,rfl⟩:∃ j,k=j+1:=⟨k - 1,by omega⟩;obtain ⟨hst,hnz⟩:=text_step (f:=f) (n:=n) (k:=j+1) (by omega) (by omega) HL.out HZ.out;rw[Nat.add_sub_cancel] at hst hnz
   have hji:((j+1:Nat):Int) - 1=(j:Int):=by omega
   have hj0:(0:Int)≤(j:Int):=by omega
   have hjb:decide ((0:Int)≤(j:Int))=true:=decide_eq_true hj0
   have hjn:(j:Int) < (n:Int):=by omega
   obtain ⟨b2,o2,e2,hc⟩:=HR.out j (by omega);injection e2 with e2;injection e2 with e2 e3;subst e2 e3;have hc:=hN0.cell hc;have hl9:=HL.out j (by omega);obtain ⟨t2,ht2⟩:∃ t,f j=t:=⟨_,rfl⟩;rw[ht2] at hc hl9 hst
   have hl9i:(t2:Int) < 1000000000:=by unfold B9 at hl9;omega
   have hcall:=fun W=>rdecimal_nine t2 W hl9;obtain ⟨C,hC⟩:∃ C,bs (padDigits 9 t2)=C:=⟨_,rfl⟩;simp only[hC] at hcall
   have hcs:C.size=9:=by rw[←hC,bs_size,padDigits_length]
   have hq:¬9223372036854775807 < S.size+C.size:=by omega
   have hcat:S ++ C=bs (decDigits (vf B9 (fun i=>f (j+i)) (n - j))):=by
    rw[←hS,←hC,bs_append];exact congrArg bs hst.symm
   have hBA:=BA0.out.new HN.out;rw[hji];clear hC hS hst hl9 ht2 hcs hN0 hsz HZ;have HCALL:=hid hcall;have HCAT:=hid hcat;have HNZ:=hid hnz;have BA:=hid hBA;clear hcall hcat hnz hBA;obtain ⟨p0,p1,p2,p3,p4⟩:=BA.out.two;go_wp2_with fail;refine (HCALL.out _).mono ?_;rintro e w2 ⟨rfl,hn⟩;clear p0 p1 p2 p3 p4;have hN2:=HN.out.trans hn;clear HN hn hc BA;have HN:=hid hN2;clear hN2;go_wp2_with fail;go_roundw
   case rel=>exact ⟨j,by omega,rfl,by rw[HCAT.out],HNZ,HN⟩
   case measure=>simp[RowKit.intOf] <;> omega
theorem rtext_calls (K:Nat)(v:Value)(z:Int)(w:World)(h:IsZ w v z)(hK:K≤90000)(hz:z.natAbs < B9^K):Calls Tryz.prog 148 #[v] w fun e w'=>e=.returned (.string (bs (itoa z)))∧New w w':=by
 obtain ⟨b,a,n,c,rfl⟩:=h.shape;obtain ⟨hb,hd⟩:=h.parts;obtain ⟨n',f,hd,hv⟩:=hd;have hn:=len_le hd.canon hv hz;have hpos:=hd.canon.pos (by decide);obtain ⟨⟨a',cap,⟨e, -⟩,hr,hl⟩,h0⟩:=hd;injection e with e1 e2 e3;subst e1 e2 e3;rcases Nat.eq_zero_or_pos n with hn0 | hn0
 ·subst hn0
  have hz0:z=0:=by
   rw[vf_zero]at hv;omega
  rw[hz0,show itoa 0=[48] by rw[show (0:Int)=((0:Nat):Int) from rfl,Big.itoa_nonneg,decDigits_zero]];exact rtext_zero b a c w
 ·have hzp:0 < z.natAbs:=by rw[←hv];exact hpos (by omega)
  by_cases hneg:z < 0
  ·rw[hb,decide_eq_true hneg];have:=rtext_neg a n c f _ w hn0 (by omega) hr hl (h0 (by omega)) hv
   have e:itoa z=45::decDigits z.natAbs:=by
    have:=Big.itoa_neg (n:=z.natAbs) (by omega);rw[←this];congr 1;omega
   rw[e];exact this
  ·rw[hb,decide_eq_false hneg];have:=rtext_pos a n c f _ w hn0 (by omega) hr hl (h0 (by omega)) hv
   have e:itoa z=decDigits z.natAbs:=by
    rw[←Big.itoa_nonneg];congr 1;omega
   rw[e];exact this
theorem parse_step {t:List UInt8}{k D:Nat}{o:Nat→Nat}(h9:9 < t.length)(ht:∀ c∈t,isDig c=true)(h:vf B9 o k+dval 0 t*B9^k=D):
  dval 0 (t.drop (t.length - 9)) < B9∧vf B9 (upd o k (dval 0 (t.drop (t.length - 9)))) (k+1)+dval 0 (t.take (t.length - 9))*B9^(k+1)=D:=by
 have hl:(t.drop (t.length - 9)).length=9:=by rw[List.length_drop];omega
 have h1:=dval_lt (l:=t.drop (t.length - 9)) fun c hc=>ht c (List.mem_of_mem_drop hc);rw[hl] at h1
 have h2:dval 0 t=dval 0 (t.take (t.length - 9))*10^9+dval 0 (t.drop (t.length - 9)):=by
  conv=>lhs;rw[←List.take_append_drop (t.length - 9) t]
  rw[dval_append,dval_acc,hl]
 refine ⟨h1,?_⟩;rw[vf_succ,upd_same,vf_upd_above (Nat.le_refl _),Nat.pow_succ,←h,h2];generalize B9^k=P;generalize dval 0 (t.take (t.length - 9))=a;generalize dval 0 (t.drop (t.length - 9))=b;show vf B9 o k+b*P+a*(P*1000000000)=vf B9 o k+(a*1000000000+b)*P;rw[Nat.add_mul,Nat.mul_right_comm a,Nat.mul_assoc a];omega
theorem rparse_pos (s:ByteArray)(d:List UInt8)(w:World)(hs:s.data.toList=d)(hd:∀ c∈d,isDig c=true)(hl:d.length≤100000):
  Calls Tryz.prog 144 #[.string s] w (RetZ w (sgnd false (dval 0 d))):=by
 obtain ⟨i0,hi0,hz0,hz1,hz2⟩:=info_parts info_int;obtain ⟨D,hD⟩:∃ D,dval 0 d=D:=⟨_,rfl⟩;rw[hD];subst hs
 have hsz0:s.size≤100000:=by simpa using hl
 have hv0:vf B9 (fun _=>0) 0+dval 0 s.data.toList*B9^0=D:=by rw[vf_zero,Nat.pow_zero,Nat.mul_one,Nat.zero_add];exact hD
 have hs0:Hid (∀ c∈s.data.toList,isDig c=true):=hid hd;by_cases h0:0 < s.size
 ·have hc1:=isDig_iff.1 (hd (s[0]'h0) (by
   have:s[0]'h0=s.data.toList[0]'(by simpa using h0):=rfl;rw[this]
   exact List.getElem_mem _))
  have hc:¬((s[0]'h0).toNat:Int)=45:=by omega
  have hcb:(((s[0]'h0).toNat:Int)==45)=false:=beq_eq_false_iff_ne.2 hc;clear hc1 hd hl hD;have HV0:=hid hv0;have HS0:=hid hs0;clear hv0 hs0;go_enter Tryz.func144,Tryz.ntmps144;go_wp2_with fail;obtain ⟨BP,HN⟩:=lay1 w 137 #[.bool false,.slice none 0 0];obtain ⟨w0,hw0⟩:∃ x,w.alloc (.cells #[.bool false,.slice none 0 0] 137)=x:=⟨_,rfl⟩;rw[hw0] at HN BP⊢;clear hw0;have HN0:=HN;clear HN;go_loopw [0,4] (fun ss v wr=>∃ (tb:ByteArray) (k:Nat) (o:Nat→Nat),ss=.string tb∧k+tb.size≤100000∧Hid (∀ c∈tb.data.toList,isDig c=true)∧Hid (wr.ownsRow w0.heap.size 3 1 v k (ds o k))∧Hid (New w0 wr)∧Hid (∀ j,o j < B9)∧Hid (vf B9 o k+dval 0 tb.data.toList*B9^k=D)) (fun ss _ _=>lenS ss)
  case atStart=>exact ⟨s,0,fun _=>0,rfl,by omega,HS0.out,hid (World.ownsRow_nil _ _ _ _),hid (New.refl _),hid (fun _=>Nat.zero_lt_succ _),HV0⟩
  case round=>
   clear HS0;obtain ⟨tb,k,o,rfl,hsz,HT,HO,HN,HB,HV⟩:=hrel
   have htl:tb.data.toList.length=tb.size:=by simp
   by_cases h9:9 < tb.size
   ·have hst:=parse_step (o:=o) (k:=k) (D:=D) (by rw[htl];exact h9) HT.out HV.out;rw[htl] at hst;have e1:(tb.extract (tb.size - 9) tb.size).data.toList=tb.data.toList.drop (tb.size - 9):=Lib.extract_to_end _ _
    have e2:(tb.extract 0 (tb.size - 9)).data.toList=tb.data.toList.take (tb.size - 9):=by rw[Lib.extract_data];rfl
    have hx:∀ c∈tb.data.toList.drop (tb.size - 9),isDig c=true:=fun c hc=>HT.out c (List.mem_of_mem_drop hc);have hva:=fun W=>rvalue_calls (tb.extract (tb.size - 9) tb.size) _ W e1 hx (by rw[List.length_drop,htl];omega);obtain ⟨x,hxx⟩:∃ x,dval 0 (tb.data.toList.drop (tb.size - 9))=x:=⟨_,rfl⟩;simp only[hxx] at hva hst;obtain ⟨hx9,hst⟩:=hst;have ht2:∀ c∈(tb.extract 0 (tb.size - 9)).data.toList,isDig c=true:=fun c hc=>HT.out c (by rw[e2] at hc;exact List.mem_of_mem_take hc);rw[←e2] at hst;have hdn:=own_b9 (k:=k) HB.out hx9
    have hx9i:(x:Int) < 1000000000:=by unfold B9 at hx9;omega
    have h9i:(9:Int) < (tb.size:Int):=by omega
    have hk63:k+1≤maxLen:=by unfold maxLen;omega
    have hk47:(k+1)*8≤140737488355328:=by omega
    have hs2:k+1+(tb.extract 0 (tb.size - 9)).size≤100000:=by simp;omega
    have hs3:(tb.extract 0 (tb.size - 9)).size < tb.size:=by simp;omega
    clear hx9 hxx e1 e2 hx htl;have HVA:=hid hva;have HST:=hid hst;have HT2:=hid ht2;have HDN:=hid hdn;have HK63:=hid hk63;have HK47:=hid hk47;have HS2:=hid hs2;have HS3:=hid hs3;clear hva hst ht2 hdn hk63 hk47 hs2 hs3;go_wp2_with fail;refine (HVA.out _).mono ?_;rintro e w1 ⟨rfl,hw1⟩;rw[hw1];clear hw1;go_wp2_with (at_builtin;refine wpList_append_own _ rfl _ _ 57 rfl w0.heap.size 3 i0 (.int .i64 0) 1 8 Tryz.underlying57 hi0 hz0 hz1 hz2 rfl (by decide) _ _ _ rfl (HO.out.alloc _) ⟨wr.heap.size,0,none⟩ 1 1 [.int .i64 (x:Int)] rfl rfl (one_c1 _ _ _) (one_c2 _) HK63.out HK47.out (by have:=HN.out.size;rw[←size_alloc];omega) ?_);intro v' w9 hown' hgrow _;have hN1:=grown_new HN.out HO.out hgrow;rw[←ds_snoc] at hown';clear hgrow;have HN1:=hid hN1;have HO1:=hid hown';clear hN1 hown';go_wp2_with fail;go_roundw
    case rel=>exact ⟨_,k+1,upd o k x,rfl,HS2.out,HT2,HO1,HN1,HDN,HST⟩
    case measure=>exact HS3.out
   ·have h9i:¬(9:Int) < (tb.size:Int):=by omega
    have hva:=fun W=>rvalue_calls tb _ W rfl HT.out (by rw[htl];omega);obtain ⟨x,hxx⟩:∃ x,dval 0 tb.data.toList=x:=⟨_,rfl⟩
    have hx9:x < B9:=by
     have h1:=dval_lt HT.out;rw[hxx,htl] at h1;have h2:=Nat.pow_le_pow_right (n:=10) (by omega) (show tb.size≤9 by omega);unfold B9;omega
    have hv:=HV.out;simp only[hxx] at hva hv
    have hvv:vf B9 (upd o k x) (k+1)=D:=by rw[vf_succ,upd_same,vf_upd_above (Nat.le_refl _),hv]
    have hdn:=own_b9 (k:=k) HB.out hx9
    have hk63:k+1≤maxLen:=by unfold maxLen;omega
    have hk47:(k+1)*8≤140737488355328:=by omega
    clear hx9 hxx hv htl;have HVA:=hid hva;have HVV:=hid hvv;have HDN:=hid hdn;have HK63:=hid hk63;have HK47:=hid hk47;clear hva hvv hdn hk63 hk47;go_wp2_with fail;refine (HVA.out _).mono ?_;rintro e w1 ⟨rfl,hw1⟩;rw[hw1];clear hw1;go_wp2_with (at_builtin;refine wpList_append_own _ rfl _ _ 57 rfl w0.heap.size 3 i0 (.int .i64 0) 1 8 Tryz.underlying57 hi0 hz0 hz1 hz2 rfl (by decide) _ _ _ rfl (HO.out.alloc _) ⟨wr.heap.size,0,none⟩ 1 1 [.int .i64 (x:Int)] rfl rfl (one_c1 _ _ _) (one_c2 _) HK63.out HK47.out (by have:=HN.out.size;rw[←size_alloc];omega) ?_);intro v' w9 hown' hgrow _;have hN1:=grown_new HN.out HO.out hgrow;rw[←ds_snoc] at hown';have hdg:=own_dgn hown' fun i _=>HDN.out i;have hsg:=rsigned_calls false _ D _ ⟨_,_,hdg,HVV.out⟩;clear hgrow hdg hown';replace BP:=bW BP hN1;have HN_:=HN0.out.trans hN1;clear HN HN0 hN1;have HN:=hid HN_;have HSG:=hid hsg;clear HN_ hsg;go_wp2_with fail;refine HSG.out.mono ?_;rintro e w2 ⟨v2,rfl,hn,hz⟩;obtain ⟨b9,a9,l9,c9,rfl⟩:=hz.shape;have HZ:=hid hz;clear hz;replace BP:=bW BP hn;replace HN:=tW HN hn;clear hn;obtain ⟨p0,p1,p2,p3,p4⟩:=BP.out.two;go_wp2_with fail;refine bodyPost_ret (v:=.agg #[.bool b9,.slice a9 l9 c9]) (by simp[results,Tryz.results144,go_sem,p0,p1]) rfl ?_;exact z_ret HN.out BP.out (by omega) HZ.out
 ·have hz:s.size=0:=by omega
  clear hd hl hD;have HV0:=hid hv0;have HS0:=hid hs0;clear hv0 hs0;go_enter Tryz.func144,Tryz.ntmps144;go_wp2_with fail;obtain ⟨BP,HN⟩:=lay1 w 137 #[.bool false,.slice none 0 0];obtain ⟨w0,hw0⟩:∃ x,w.alloc (.cells #[.bool false,.slice none 0 0] 137)=x:=⟨_,rfl⟩;rw[hw0] at HN BP⊢;clear hw0;have HN0:=HN;clear HN;go_loopw [0,4] (fun ss v wr=>∃ (tb:ByteArray) (k:Nat) (o:Nat→Nat),ss=.string tb∧k+tb.size≤100000∧Hid (∀ c∈tb.data.toList,isDig c=true)∧Hid (wr.ownsRow w0.heap.size 3 1 v k (ds o k))∧Hid (New w0 wr)∧Hid (∀ j,o j < B9)∧Hid (vf B9 o k+dval 0 tb.data.toList*B9^k=D)) (fun ss _ _=>lenS ss)
  case atStart=>exact ⟨s,0,fun _=>0,rfl,by omega,HS0.out,hid (World.ownsRow_nil _ _ _ _),hid (New.refl _),hid (fun _=>Nat.zero_lt_succ _),HV0⟩
  case round=>
   clear HS0;obtain ⟨tb,k,o,rfl,hsz,HT,HO,HN,HB,HV⟩:=hrel
   have htl:tb.data.toList.length=tb.size:=by simp
   by_cases h9:9 < tb.size
   ·have hst:=parse_step (o:=o) (k:=k) (D:=D) (by rw[htl];exact h9) HT.out HV.out;rw[htl] at hst;have e1:(tb.extract (tb.size - 9) tb.size).data.toList=tb.data.toList.drop (tb.size - 9):=Lib.extract_to_end _ _
    have e2:(tb.extract 0 (tb.size - 9)).data.toList=tb.data.toList.take (tb.size - 9):=by rw[Lib.extract_data];rfl
    have hx:∀ c∈tb.data.toList.drop (tb.size - 9),isDig c=true:=fun c hc=>HT.out c (List.mem_of_mem_drop hc);have hva:=fun W=>rvalue_calls (tb.extract (tb.size - 9) tb.size) _ W e1 hx (by rw[List.length_drop,htl];omega);obtain ⟨x,hxx⟩:∃ x,dval 0 (tb.data.toList.drop (tb.size - 9))=x:=⟨_,rfl⟩;simp only[hxx] at hva hst;obtain ⟨hx9,hst⟩:=hst;have ht2:∀ c∈(tb.extract 0 (tb.size - 9)).data.toList,isDig c=true:=fun c hc=>HT.out c (by rw[e2] at hc;exact List.mem_of_mem_take hc);rw[←e2] at hst;have hdn:=own_b9 (k:=k) HB.out hx9
    have hx9i:(x:Int) < 1000000000:=by unfold B9 at hx9;omega
    have h9i:(9:Int) < (tb.size:Int):=by omega
    have hk63:k+1≤maxLen:=by unfold maxLen;omega
    have hk47:(k+1)*8≤140737488355328:=by omega
    have hs2:k+1+(tb.extract 0 (tb.size - 9)).size≤100000:=by simp;omega
    have hs3:(tb.extract 0 (tb.size - 9)).size < tb.size:=by simp;omega
    clear hx9 hxx e1 e2 hx htl;have HVA:=hid hva;have HST:=hid hst;have HT2:=hid ht2;have HDN:=hid hdn;have HK63:=hid hk63;have HK47:=hid hk47;have HS2:=hid hs2;have HS3:=hid hs3;clear hva hst ht2 hdn hk63 hk47 hs2 hs3;go_wp2_with fail;refine (HVA.out _).mono ?_;rintro e w1 ⟨rfl,hw1⟩;rw[hw1];clear hw1;go_wp2_with (at_builtin;refine wpList_append_own _ rfl _ _ 57 rfl w0.heap.size 3 i0 (.int .i64 0) 1 8 Tryz.underlying57 hi0 hz0 hz1 hz2 rfl (by decide) _ _ _ rfl (HO.out.alloc _) ⟨wr.heap.size,0,none⟩ 1 1 [.int .i64 (x:Int)] rfl rfl (one_c1 _ _ _) (one_c2 _) HK63.out HK47.out (by have:=HN.out.size;rw[←size_alloc];omega) ?_);intro v' w9 hown' hgrow _;have hN1:=grown_new HN.out HO.out hgrow;rw[←ds_snoc] at hown';clear hgrow;have HN1:=hid hN1;have HO1:=hid hown';clear hN1 hown';go_wp2_with fail;go_roundw
    case rel=>exact ⟨_,k+1,upd o k x,rfl,HS2.out,HT2,HO1,HN1,HDN,HST⟩
    case measure=>exact HS3.out
   ·have h9i:¬(9:Int) < (tb.size:Int):=by omega
    have hva:=fun W=>rvalue_calls tb _ W rfl HT.out (by rw[htl];omega);obtain ⟨x,hxx⟩:∃ x,dval 0 tb.data.toList=x:=⟨_,rfl⟩
    have hx9:x < B9:=by
     have h1:=dval_lt HT.out;rw[hxx,htl] at h1;have h2:=Nat.pow_le_pow_right (n:=10) (by omega) (show tb.size≤9 by omega);unfold B9;omega
    have hv:=HV.out;simp only[hxx] at hva hv
    have hvv:vf B9 (upd o k x) (k+1)=D:=by rw[vf_succ,upd_same,vf_upd_above (Nat.le_refl _),hv]
    have hdn:=own_b9 (k:=k) HB.out hx9
    have hk63:k+1≤maxLen:=by unfold maxLen;omega
    have hk47:(k+1)*8≤140737488355328:=by omega
    clear hx9 hxx hv htl;have HVA:=hid hva;have HVV:=hid hvv;have HDN:=hid hdn;have HK63:=hid hk63;have HK47:=hid hk47;clear hva hvv hdn hk63 hk47;go_wp2_with fail;refine (HVA.out _).mono ?_;rintro e w1 ⟨rfl,hw1⟩;rw[hw1];clear hw1;go_wp2_with (at_builtin;refine wpList_append_own _ rfl _ _ 57 rfl w0.heap.size 3 i0 (.int .i64 0) 1 8 Tryz.underlying57 hi0 hz0 hz1 hz2 rfl (by decide) _ _ _ rfl (HO.out.alloc _) ⟨wr.heap.size,0,none⟩ 1 1 [.int .i64 (x:Int)] rfl rfl (one_c1 _ _ _) (one_c2 _) HK63.out HK47.out (by have:=HN.out.size;rw[←size_alloc];omega) ?_);intro v' w9 hown' hgrow _;have hN1:=grown_new HN.out HO.out hgrow;rw[←ds_snoc] at hown';have hdg:=own_dgn hown' fun i _=>HDN.out i;have hsg:=rsigned_calls false _ D _ ⟨_,_,hdg,HVV.out⟩;clear hgrow hdg hown';replace BP:=bW BP hN1;have HN_:=HN0.out.trans hN1;clear HN HN0 hN1;have HN:=hid HN_;have HSG:=hid hsg;clear HN_ hsg;go_wp2_with fail;refine HSG.out.mono ?_;rintro e w2 ⟨v2,rfl,hn,hz⟩;obtain ⟨b9,a9,l9,c9,rfl⟩:=hz.shape;have HZ:=hid hz;clear hz;replace BP:=bW BP hn;replace HN:=tW HN hn;clear hn;obtain ⟨p0,p1,p2,p3,p4⟩:=BP.out.two;go_wp2_with fail;refine bodyPost_ret (v:=.agg #[.bool b9,.slice a9 l9 c9]) (by simp[results,Tryz.results144,go_sem,p0,p1]) rfl ?_;exact z_ret HN.out BP.out (by omega) HZ.out
theorem rparse_neg (s:ByteArray)(d:List UInt8)(w:World)(hs:s.data.toList=45::d)(hd:∀ c∈d,isDig c=true)(hl:d.length≤100000):
  Calls Tryz.prog 144 #[.string s] w (RetZ w (sgnd true (dval 0 d))):=by
 obtain ⟨i0,hi0,hz0,hz1,hz2⟩:=info_parts info_int;obtain ⟨D,hD⟩:∃ D,dval 0 d=D:=⟨_,rfl⟩;rw[hD]
 have hln:s.data.toList.length=s.size:=by simp
 rw[hs]at hln
 have hsz0:s.size≤100001:=by rw[List.length_cons] at hln;omega
 have h0:0 < s.size:=by rw[List.length_cons] at hln;omega
 have hx1:(s.extract 1 s.size).data.toList=d:=by rw[Lib.extract_to_end,hs];rfl
 have hxs:(s.extract 1 s.size).size=s.size - 1:=by simp
 have hc:((s[0]'h0).toNat:Int)=45:=by
  have:s[0]'h0=s.data.toList[0]'(by simpa using h0):=rfl;rw[this]
  have:s.data.toList[0]?=some 45:=by rw[hs];rfl
  rw[List.getElem?_eq_getElem (by simpa using h0)]at this;rw[Option.some.inj this];rfl
 have hcb:(((s[0]'h0).toNat:Int)==45)=true:=beq_iff_eq.2 hc
 have hv0:vf B9 (fun _=>0) 0+dval 0 (s.extract 1 s.size).data.toList*B9^0=D:=by rw[vf_zero,Nat.pow_zero,Nat.mul_one,Nat.zero_add,hx1];exact hD
 have hs0:Hid (∀ c∈(s.extract 1 s.size).data.toList,isDig c=true):=hid (by rw[hx1];exact hd)
 have hsz1:0+(s.extract 1 s.size).size≤100000:=by rw[hxs];omega
 clear hd hl hD hs hln hx1 hxs;have HV0:=hid hv0;have HS0:=hid hs0;have HSZ1:=hid hsz1;clear hv0 hs0 hsz1;go_enter Tryz.func144,Tryz.ntmps144;go_wp2_with fail;obtain ⟨BP,HN⟩:=lay1 w 137 #[.bool false,.slice none 0 0];obtain ⟨w0,hw0⟩:∃ x,w.alloc (.cells #[.bool false,.slice none 0 0] 137)=x:=⟨_,rfl⟩;rw[hw0] at HN BP⊢;clear hw0;have HN0:=HN;clear HN;go_loopw [0,4] (fun ss v wr=>∃ (tb:ByteArray) (k:Nat) (o:Nat→Nat),ss=.string tb∧k+tb.size≤100000∧Hid (∀ c∈tb.data.toList,isDig c=true)∧Hid (wr.ownsRow w0.heap.size 3 1 v k (ds o k))∧Hid (New w0 wr)∧Hid (∀ j,o j < B9)∧Hid (vf B9 o k+dval 0 tb.data.toList*B9^k=D)) (fun ss _ _=>lenS ss)
 case atStart=>exact ⟨_,0,fun _=>0,rfl,HSZ1.out,HS0.out,hid (World.ownsRow_nil _ _ _ _),hid (New.refl _),hid (fun _=>Nat.zero_lt_succ _),HV0⟩
 case round=>
  clear HS0;obtain ⟨tb,k,o,rfl,hsz,HT,HO,HN,HB,HV⟩:=hrel
  have htl:tb.data.toList.length=tb.size:=by simp
  by_cases h9:9 < tb.size
  ·have hst:=parse_step (o:=o) (k:=k) (D:=D) (by rw[htl];exact h9) HT.out HV.out;rw[htl] at hst;have e1:(tb.extract (tb.size - 9) tb.size).data.toList=tb.data.toList.drop (tb.size - 9):=Lib.extract_to_end _ _
   have e2:(tb.extract 0 (tb.size - 9)).data.toList=tb.data.toList.take (tb.size - 9):=by rw[Lib.extract_data];rfl
   have hx:∀ c∈tb.data.toList.drop (tb.size - 9),isDig c=true:=fun c hc=>HT.out c (List.mem_of_mem_drop hc);have hva:=fun W=>rvalue_calls (tb.extract (tb.size - 9) tb.size) _ W e1 hx (by rw[List.length_drop,htl];omega);obtain ⟨x,hxx⟩:∃ x,dval 0 (tb.data.toList.drop (tb.size - 9))=x:=⟨_,rfl⟩;simp only[hxx] at hva hst;obtain ⟨hx9,hst⟩:=hst;have ht2:∀ c∈(tb.extract 0 (tb.size - 9)).data.toList,isDig c=true:=fun c hc=>HT.out c (by rw[e2] at hc;exact List.mem_of_mem_take hc);rw[←e2] at hst;have hdn:=own_b9 (k:=k) HB.out hx9
   have hx9i:(x:Int) < 1000000000:=by unfold B9 at hx9;omega
   have h9i:(9:Int) < (tb.size:Int):=by omega
   have hk63:k+1≤maxLen:=by unfold maxLen;omega
   have hk47:(k+1)*8≤140737488355328:=by omega
   have hs2:k+1+(tb.extract 0 (tb.size - 9)).size≤100000:=by simp;omega
   have hs3:(tb.extract 0 (tb.size - 9)).size < tb.size:=by simp;omega
   clear hx9 hxx e1 e2 hx htl;have HVA:=hid hva;have HST:=hid hst;have HT2:=hid ht2;have HDN:=hid hdn;have HK63:=hid hk63;have HK47:=hid hk47;have HS2:=hid hs2;have HS3:=hid hs3;clear hva hst ht2 hdn hk63 hk47 hs2 hs3;go_wp2_with fail;refine (HVA.out _).mono ?_;rintro e w1 ⟨rfl,hw1⟩;rw[hw1];clear hw1;go_wp2_with (at_builtin;refine wpList_append_own _ rfl _ _ 57 rfl w0.heap.size 3 i0 (.int .i64 0) 1 8 Tryz.underlying57 hi0 hz0 hz1 hz2 rfl (by decide) _ _ _ rfl (HO.out.alloc _) ⟨wr.heap.size,0,none⟩ 1 1 [.int .i64 (x:Int)] rfl rfl (one_c1 _ _ _) (one_c2 _) HK63.out HK47.out (by have:=HN.out.size;rw[←size_alloc];omega) ?_);intro v' w9 hown' hgrow _;have hN1:=grown_new HN.out HO.out hgrow;rw[←ds_snoc] at hown';clear hgrow;have HN1:=hid hN1;have HO1:=hid hown';clear hN1 hown';go_wp2_with fail;go_roundw
   case rel=>exact ⟨_,k+1,upd o k x,rfl,HS2.out,HT2,HO1,HN1,HDN,HST⟩
   case measure=>exact HS3.out
  ·have h9i:¬(9:Int) < (tb.size:Int):=by omega
   have hva:=fun W=>rvalue_calls tb _ W rfl HT.out (by rw[htl];omega);obtain ⟨x,hxx⟩:∃ x,dval 0 tb.data.toList=x:=⟨_,rfl⟩
   have hx9:x < B9:=by
    have h1:=dval_lt HT.out;rw[hxx,htl] at h1;have h2:=Nat.pow_le_pow_right (n:=10) (by omega) (show tb.size≤9 by omega);unfold B9;omega
   have hv:=HV.out;simp only[hxx] at hva hv
   have hvv:vf B9 (upd o k x) (k+1)=D:=by rw[vf_succ,upd_same,vf_upd_above (Nat.le_refl _),hv]
   have hdn:=own_b9 (k:=k) HB.out hx9
   have hk63:k+1≤maxLen:=by unfold maxLen;omega
   have hk47:(k+1)*8≤140737488355328:=by omega
   clear hx9 hxx hv htl;have HVA:=hid hva;have HVV:=hid hvv;have HDN:=hid hdn;have HK63:=hid hk63;have HK47:=hid hk47;clear hva hvv hdn hk63 hk47;go_wp2_with fail;refine (HVA.out _).mono ?_;rintro e w1 ⟨rfl,hw1⟩;rw[hw1];clear hw1;go_wp2_with (at_builtin;refine wpList_append_own _ rfl _ _ 57 rfl w0.heap.size 3 i0 (.int .i64 0) 1 8 Tryz.underlying57 hi0 hz0 hz1 hz2 rfl (by decide) _ _ _ rfl (HO.out.alloc _) ⟨wr.heap.size,0,none⟩ 1 1 [.int .i64 (x:Int)] rfl rfl (one_c1 _ _ _) (one_c2 _) HK63.out HK47.out (by have:=HN.out.size;rw[←size_alloc];omega) ?_);intro v' w9 hown' hgrow _;have hN1:=grown_new HN.out HO.out hgrow;rw[←ds_snoc] at hown';have hdg:=own_dgn hown' fun i _=>HDN.out i;have hsg:=rsigned_calls true _ D _ ⟨_,_,hdg,HVV.out⟩;clear hgrow hdg hown';replace BP:=bW BP hN1;have HN_:=HN0.out.trans hN1;clear HN HN0 hN1;have HN:=hid HN_;have HSG:=hid hsg;clear HN_ hsg;go_wp2_with fail;refine HSG.out.mono ?_;rintro e w2 ⟨v2,rfl,hn,hz⟩;obtain ⟨b9,a9,l9,c9,rfl⟩:=hz.shape;have HZ:=hid hz;clear hz;replace BP:=bW BP hn;replace HN:=tW HN hn;clear hn;obtain ⟨p0,p1,p2,p3,p4⟩:=BP.out.two;go_wp2_with fail;refine bodyPost_ret (v:=.agg #[.bool b9,.slice a9 l9 c9]) (by simp[results,Tryz.results144,go_sem,p0,p1]) rfl ?_;exact z_ret HN.out BP.out (by omega) HZ.out
theorem rparse_itoa (s:ByteArray)(z:Int)(w:World)(hs:s.data.toList=itoa z)(hl:(itoa z).length≤100000):Calls Tryz.prog 144 #[.string s] w (RetZ w z):=by
 rcases Int.lt_or_le z 0 with hz | hz
 ·obtain ⟨n,rfl⟩:∃ n:Nat,z= -(n:Int):=⟨z.natAbs,by omega⟩;rw[Big.itoa_neg (by omega)] at hs hl;have:=rparse_neg s (decDigits n) w hs (decDigits_dig n) (by simp at hl;omega);rw[dval_decDigits] at this;exact this
 ·obtain ⟨n,rfl⟩:∃ n:Nat,z=(n:Int):=⟨z.toNat,by omega⟩;rw[Big.itoa_nonneg] at hs hl;have:=rparse_pos s (decDigits n) w hs (decDigits_dig n) hl;rw[dval_decDigits] at this;exact this
end Go.Proofs.YtbkcjmojgglbkaaGreatDoor
namespace Go.Proofs.YtbkcjmojgglbkaaGreatDoor
open Go.RowKit Big
open Go.Lib (hid)
set_option maxRecDepth 100000
set_option maxHeartbeats 8000000
theorem whole_step {s q d m k:Nat}{o:Nat→Nat}(h:s*B9^k+vf B9 o k=m)(hs:d+B9*q=s):
  q*B9^(k+1)+vf B9 (upd o k d) (k+1)=m:=by
 rw[vf_succ,upd_same,vf_upd_above (Nat.le_refl _),Nat.pow_succ,←h,←hs,Nat.add_mul]
 have:q*(B9^k*B9)=B9*q*B9^k:=by rw[Nat.mul_comm (B9^k),←Nat.mul_assoc,Nat.mul_comm q]
 omega
theorem whole_few {s m k v:Nat}(hy:0 < s)(h:s*B9^k+v=m)(hm:m≤9223372036854775808):k≤2:=by
 rcases Nat.lt_or_ge k 3 with h1 | h1
 ·omega
 ·exfalso;have h2:B9^3≤B9^k:=Nat.pow_le_pow_right (by decide) h1;have h3:1*B9^k≤s*B9^k:=Nat.mul_le_mul_right _ hy
  have h4:B9^3=1000000000000000000000000000:=by decide
  omega
theorem rwhole_neg (z:Int)(w:World)(lo: -9223372036854775808≤z)(hi:z≤9223372036854775807)(hdz:decide (z < 0)=true):
  Calls Tryz.prog 145 #[.int .i64 z] w (RetZ w z):=by
 obtain ⟨i0,hi0,hz0,hz1,hz2⟩:=info_parts info_int
 have hend:sgnd true z.natAbs=z:=by rw[←hdz];exact sgnd_of z
 obtain ⟨m,hm⟩:∃ m,z.natAbs=m:=⟨_,rfl⟩;rw[hm] at hend
 have hm64:m≤9223372036854775808:=by omega
 have hst0:m*B9^0+vf B9 (fun _=>0) 0=m:=by rw[vf_zero,Nat.pow_zero,Nat.mul_one,Nat.add_zero]
 have hzm:z= -(m:Int):=by have h:=hdz;simp at h;omega
 have HEND:=hid hend;have HM64:=hid hm64;have HST0:=hid hst0;have HZM:=hid hzm;clear hend hm64 hst0 hzm;go_enter Tryz.func145,Tryz.ntmps145;go_wp2_with fail;clear hdz lo hi hm;obtain ⟨BP,HN⟩:=lay1 w 137 #[.bool false,.slice none 0 0];obtain ⟨w0,hw0⟩:∃ x,w.alloc (.cells #[.bool false,.slice none 0 0] 137)=x:=⟨_,rfl⟩;rw[hw0] at HN BP⊢;clear hw0;have HN0:=HN;clear HN;go_loopw [0,3] (fun n v wr=>∃ (s k:Nat) (o:Nat→Nat),n=.int .i64 (-(s:Int))∧s≤9223372036854775808∧Hid (wr.ownsRow w0.heap.size 3 1 v k (ds o k))∧Hid (New w0 wr)∧Hid (∀ j,o j < B9)∧Hid (s*B9^k+vf B9 o k=m)) (fun n _ _=>(intOf n).natAbs)
 case atStart=>exact ⟨m,0,fun _=>0,by rw[HZM.out],HM64.out,hid (World.ownsRow_nil _ _ _ _),hid (New.refl _),hid (fun _=>Nat.zero_lt_succ _),HST0⟩
 case round=>
  clear HST0 HZM;obtain ⟨s,k,o,rfl,hs,HO,HN,HB,HV⟩:=hrel;rcases Nat.eq_zero_or_pos s with h0 | h0
  ·subst h0;have hv:=HV.out;rw[Nat.zero_mul,Nat.zero_add] at hv;have hd:=own_dgn HO.out fun i _=>HB.out i;have hsg:=rsigned_calls true _ m wr ⟨k,o,hd,hv⟩;rw[HEND.out] at hsg;clear hv hd hs;replace BP:=hid (BP.out.new HN.out);have HN_:=HN0.out.trans HN.out;clear HN HN0;have HSG:=hid hsg;have HN:=hid HN_;clear hsg HN_;go_wp2_with fail;refine HSG.out.mono ?_;rintro e w2 ⟨v2,rfl,hn,hz⟩;obtain ⟨b9,a9,l9,c9,rfl⟩:=hz.shape;have HZ:=hid hz;clear hz;replace BP:=bW BP hn;replace HN:=tW HN hn;clear hn;obtain ⟨p0,p1,p2,p3,p4⟩:=BP.out.two;go_wp2_with fail;refine bodyPost_ret (v:=.agg #[.bool b9,.slice a9 l9 c9]) (by simp[results,Tryz.results145,go_sem,p0,p1]) rfl ?_;exact z_ret HN.out BP.out (by omega) HZ.out
  ·have hk2:=whole_few h0 HV.out HM64.out;obtain ⟨q,r,hqr,hr9,e1,e2,e3,e4⟩:=div9 s;have hst:q*B9^(k+1)+vf B9 (upd o k r) (k+1)=m:=whole_step HV.out hqr;have hdn:=own_b9 (k:=k) HB.out hr9
   have hmeas:q < s:=by unfold B9 at hqr;omega
   have hqs:q≤9223372036854775808:=by omega
   have hqi:(q:Int)≤10000000000:=by unfold B9 at hqr;omega
   have hri:(r:Int) < 1000000000:=by unfold B9 at hr9;omega
   have hk63:k+1≤maxLen:=by unfold maxLen;omega
   have hk47:(k+1)*8≤140737488355328:=by omega
   have h0i:(0:Int) < (s:Int):=by omega
   clear hqr hr9 hs h0;have HK63:=hid hk63;have HK47:=hid hk47;have HK2:=hid hk2;have HST:=hid hst;have HDN:=hid hdn;have HMEAS:=hid hmeas;have HQS:=hid hqs;clear hk63 hk47 hk2 hst hdn hmeas hqs
   have t1:(-(s:Int)==0)=false:=by simp;omega
   have t2:(-(s:Int) != 0)=true:=by simp;omega
   clear h0i
   have e5:Int.tdiv (-(s:Int)) 1000000000= -(q:Int):=by rw[Int.neg_tdiv,e2]
   have e6:Int.tmod (-(s:Int)) 1000000000= -(r:Int):=by rw[Int.neg_tmod,e3]
   rcases Nat.eq_zero_or_pos r with hr | hr
   ·subst hr;go_wp2_with (at_builtin;refine wpList_append_own _ rfl _ _ 57 rfl w0.heap.size 3 i0 (.int .i64 0) 1 8 Tryz.underlying57 hi0 hz0 hz1 hz2 rfl (by decide) _ _ _ rfl (HO.out.alloc _) ⟨wr.heap.size,0,none⟩ 1 1 [.int .i64 (0)] rfl rfl (one_c1 _ _ _) (one_c2 _) HK63.out HK47.out (by have:=HN.out.size;rw[←size_alloc];omega) ?_);intro v' w9 hown' hgrow _;have hN1:=grown_new HN.out HO.out hgrow
    have hown':w9.ownsRow w0.heap.size 3 1 v' (k+1) (ds (upd o k (0)) (k+1)):=by rw[ds_snoc];exact hown'
    clear hgrow;have HN1:=hid hN1;have HO1:=hid hown';clear hN1 hown';go_wp2_with fail;go_roundw
    case rel=>exact ⟨q,k+1,upd o k (0),rfl,HQS.out,HO1,HN1,HDN,HST⟩
    case measure=>simp[intOf];exact HMEAS.out
   ·have hr0: -(r:Int) < 0:=by omega
    go_wp2_with (at_builtin;refine wpList_append_own _ rfl _ _ 57 rfl w0.heap.size 3 i0 (.int .i64 0) 1 8 Tryz.underlying57 hi0 hz0 hz1 hz2 rfl (by decide) _ _ _ rfl (HO.out.alloc _) ⟨wr.heap.size,0,none⟩ 1 1 [.int .i64 ((r:Int))] rfl rfl (one_c1 _ _ _) (one_c2 _) HK63.out HK47.out (by have:=HN.out.size;rw[←size_alloc];omega) ?_);intro v' w9 hown' hgrow _;have hN1:=grown_new HN.out HO.out hgrow
    have hown':w9.ownsRow w0.heap.size 3 1 v' (k+1) (ds (upd o k (r)) (k+1)):=by rw[ds_snoc];exact hown'
    clear hgrow;have HN1:=hid hN1;have HO1:=hid hown';clear hN1 hown';go_wp2_with fail;go_roundw
    case rel=>exact ⟨q,k+1,upd o k (r),rfl,HQS.out,HO1,HN1,HDN,HST⟩
    case measure=>simp[intOf];exact HMEAS.out
theorem rwhole_pos (z:Int)(w:World)(lo: -9223372036854775808≤z)(hi:z≤9223372036854775807)(hdz:decide (z < 0)=false):
  Calls Tryz.prog 145 #[.int .i64 z] w (RetZ w z):=by
 obtain ⟨i0,hi0,hz0,hz1,hz2⟩:=info_parts info_int
 have hend:sgnd false z.natAbs=z:=by rw[←hdz];exact sgnd_of z
 obtain ⟨m,hm⟩:∃ m,z.natAbs=m:=⟨_,rfl⟩;rw[hm] at hend
 have hm64:m≤9223372036854775808:=by omega
 have hst0:m*B9^0+vf B9 (fun _=>0) 0=m:=by rw[vf_zero,Nat.pow_zero,Nat.mul_one,Nat.add_zero]
 have hzm:z=(m:Int):=by have h:=hdz;simp at h;omega
 have HEND:=hid hend;have HM64:=hid hm64;have HST0:=hid hst0;have HZM:=hid hzm;clear hend hm64 hst0 hzm;go_enter Tryz.func145,Tryz.ntmps145;go_wp2_with fail;clear hdz lo hi hm;obtain ⟨BP,HN⟩:=lay1 w 137 #[.bool false,.slice none 0 0];obtain ⟨w0,hw0⟩:∃ x,w.alloc (.cells #[.bool false,.slice none 0 0] 137)=x:=⟨_,rfl⟩;rw[hw0] at HN BP⊢;clear hw0;have HN0:=HN;clear HN;go_loopw [0,3] (fun n v wr=>∃ (s k:Nat) (o:Nat→Nat),n=.int .i64 ((s:Int))∧s≤9223372036854775808∧Hid (wr.ownsRow w0.heap.size 3 1 v k (ds o k))∧Hid (New w0 wr)∧Hid (∀ j,o j < B9)∧Hid (s*B9^k+vf B9 o k=m)) (fun n _ _=>(intOf n).natAbs)
 case atStart=>exact ⟨m,0,fun _=>0,by rw[HZM.out],HM64.out,hid (World.ownsRow_nil _ _ _ _),hid (New.refl _),hid (fun _=>Nat.zero_lt_succ _),HST0⟩
 case round=>
  clear HST0 HZM;obtain ⟨s,k,o,rfl,hs,HO,HN,HB,HV⟩:=hrel;rcases Nat.eq_zero_or_pos s with h0 | h0
  ·subst h0;have hv:=HV.out;rw[Nat.zero_mul,Nat.zero_add] at hv;have hd:=own_dgn HO.out fun i _=>HB.out i;have hsg:=rsigned_calls false _ m wr ⟨k,o,hd,hv⟩;rw[HEND.out] at hsg;clear hv hd hs;replace BP:=hid (BP.out.new HN.out);have HN_:=HN0.out.trans HN.out;clear HN HN0;have HSG:=hid hsg;have HN:=hid HN_;clear hsg HN_;go_wp2_with fail;refine HSG.out.mono ?_;rintro e w2 ⟨v2,rfl,hn,hz⟩;obtain ⟨b9,a9,l9,c9,rfl⟩:=hz.shape;have HZ:=hid hz;clear hz;replace BP:=bW BP hn;replace HN:=tW HN hn;clear hn;obtain ⟨p0,p1,p2,p3,p4⟩:=BP.out.two;go_wp2_with fail;refine bodyPost_ret (v:=.agg #[.bool b9,.slice a9 l9 c9]) (by simp[results,Tryz.results145,go_sem,p0,p1]) rfl ?_;exact z_ret HN.out BP.out (by omega) HZ.out
  ·have hk2:=whole_few h0 HV.out HM64.out;obtain ⟨q,r,hqr,hr9,e1,e2,e3,e4⟩:=div9 s;have hst:q*B9^(k+1)+vf B9 (upd o k r) (k+1)=m:=whole_step HV.out hqr;have hdn:=own_b9 (k:=k) HB.out hr9
   have hmeas:q < s:=by unfold B9 at hqr;omega
   have hqs:q≤9223372036854775808:=by omega
   have hqi:(q:Int)≤10000000000:=by unfold B9 at hqr;omega
   have hri:(r:Int) < 1000000000:=by unfold B9 at hr9;omega
   have hk63:k+1≤maxLen:=by unfold maxLen;omega
   have hk47:(k+1)*8≤140737488355328:=by omega
   have h0i:(0:Int) < (s:Int):=by omega
   clear hqr hr9 hs h0;have HK63:=hid hk63;have HK47:=hid hk47;have HK2:=hid hk2;have HST:=hid hst;have HDN:=hid hdn;have HMEAS:=hid hmeas;have HQS:=hid hqs;clear hk63 hk47 hk2 hst hdn hmeas hqs
   have t1:((s:Int)==0)=false:=by simp;omega
   have t2:((s:Int) != 0)=true:=by simp;omega
   clear h0i
   have hr0:¬(r:Int) < 0:=by omega
   go_wp2_with (at_builtin;refine wpList_append_own _ rfl _ _ 57 rfl w0.heap.size 3 i0 (.int .i64 0) 1 8 Tryz.underlying57 hi0 hz0 hz1 hz2 rfl (by decide) _ _ _ rfl (HO.out.alloc _) ⟨wr.heap.size,0,none⟩ 1 1 [.int .i64 ((r:Int))] rfl rfl (one_c1 _ _ _) (one_c2 _) HK63.out HK47.out (by have:=HN.out.size;rw[←size_alloc];omega) ?_);intro v' w9 hown' hgrow _;have hN1:=grown_new HN.out HO.out hgrow
   have hown':w9.ownsRow w0.heap.size 3 1 v' (k+1) (ds (upd o k (r)) (k+1)):=by rw[ds_snoc];exact hown'
   clear hgrow;have HN1:=hid hN1;have HO1:=hid hown';clear hN1 hown';go_wp2_with fail;go_roundw
   case rel=>exact ⟨q,k+1,upd o k (r),rfl,HQS.out,HO1,HN1,HDN,HST⟩
   case measure=>simp[intOf];exact HMEAS.out
theorem rwhole_calls (z:Int)(w:World)(lo: -9223372036854775808≤z)(hi:z≤9223372036854775807):Calls Tryz.prog 145 #[.int .i64 z] w (RetZ w z):=by
 by_cases h:z < 0
 ·exact rwhole_neg z w lo hi (decide_eq_true h)
 ·exact rwhole_pos z w lo hi (decide_eq_false h)
end Go.Proofs.YtbkcjmojgglbkaaGreatDoor
