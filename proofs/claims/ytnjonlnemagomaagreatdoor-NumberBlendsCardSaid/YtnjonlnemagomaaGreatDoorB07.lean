/- Part B07. -/
import Derived.Lib.IndexMore
import Derived.Shelf.Strings.SlTrimAscii
import Derived.Deep.DeepCutAuto
import Derived.Laws.FloatArith
import Derived.Deep.Onto
import Derived.OwnWalk
import Derived.Laws.AppendOwn
import Derived.Test.YtnjonlnemagomaaGreatDoorB06
namespace Go.Proofs.YtnjonlnemagomaaGreatDoor
open Go.RowKit Big Tryz
open Go.Lib (hid)
set_option maxRecDepth 100000
set_option maxHeartbeats 8000000
set_option linter.all false
theorem index47:∀ l:List UInt8,Lib.index l [47]=if slashed l then ((upTo l).length:Int) else -1
 | []=>rfl
 | b::l=>by
  have ih:=index47 l;rw[Lib.index];by_cases hb:b=47
  ·subst hb;rw[if_pos (by simp)];rw[if_pos (by simp[slashed])];simp[upTo]
  ·have h1:(47==b)=false:=by rw[beq_eq_false_iff_ne];exact fun h=>hb h.symm
   have h2:(b==47)=false:=by rw[beq_eq_false_iff_ne];exact hb
   rw[if_neg (by simp;exact fun h=>hb h.symm)]
   have h3:slashed (b::l)=slashed l:=by simp[slashed,h2]
   have h4:upTo (b::l)=b::upTo l:=by simp[upTo,List.takeWhile_cons,hb]
   rw[h3,h4,ih];by_cases hs:slashed l=true
   ·rw[if_pos hs,if_pos hs]
    have:((((upTo l).length:Int))== -1)=false:=by rw[beq_eq_false_iff_ne];omega
    rw[if_neg (by rw[this];decide)];simp
   ·rw[if_neg hs,if_neg hs];rfl
theorem cut47 (l:List UInt8):Lib.cut l [47]=(upTo l,behind l,slashed l):=by
 unfold Lib.cut;rw[index47];by_cases hs:slashed l=true
 ·rw[if_pos hs,if_pos (by omega),hs];have h:=split_slash hs;obtain ⟨A,hA⟩:∃ A,upTo l=A:=⟨_,rfl⟩;obtain ⟨B,hB⟩:∃ B,behind l=B:=⟨_,rfl⟩;rw[hA,hB] at h⊢
  have e1:(A.length:Int).toNat=A.length:=by omega
  rw[e1,h];simp
 ·rw[if_neg hs,if_neg (by omega)]
  have aa:slashed l=false:=by simpa using hs
  obtain ⟨h1,h2⟩:=split_plain aa;rw[h1,h2,aa]
theorem slashed_itoa (z:Int):slashed (Lib.itoa z)=false:=by
 rcases Int.lt_or_le z 0 with hz | hz
 ·obtain ⟨n,rfl⟩:∃ n:Nat,z= -(n:Int):=⟨z.natAbs,by omega⟩;rw[Big.itoa_neg (by omega)];have:=slashed_plain n;simpa[slashed] using this
 ·obtain ⟨n,rfl⟩:∃ n:Nat,z=(n:Int):=⟨z.toNat,by omega⟩;rw[Big.itoa_nonneg];exact slashed_plain n
theorem parts_itoa (z:Int)(r:List UInt8):upTo (Lib.itoa z ++ 47::r)=Lib.itoa z∧behind (Lib.itoa z ++ 47::r)=r:=by
 rcases Int.lt_or_le z 0 with hz | hz
 ·obtain ⟨n,rfl⟩:∃ n:Nat,z= -(n:Int):=⟨z.natAbs,by omega⟩;rw[Big.itoa_neg (by omega)];have h1:=upTo_slash n r;have h2:=behind_slash n r;unfold upTo at *;unfold behind at *;rw[List.cons_append,List.takeWhile_cons,List.dropWhile_cons];rw[if_pos (by decide),if_pos (by decide),h1,h2];exact ⟨rfl,rfl⟩
 ·obtain ⟨n,rfl⟩:∃ n:Nat,z=(n:Int):=⟨z.toNat,by omega⟩;rw[Big.itoa_nonneg];exact ⟨upTo_slash n r,behind_slash n r⟩
theorem cut_calls (s:ByteArray)(w:World)(he:Env w)(hl:s.size≤1000000):
  Calls prog 156 #[.string s,.string ⟨#[47]⟩] w fun e w'=>e=.returned (.tuple #[.string ⟨(upTo s.data.toList).toArray⟩,.string ⟨(behind s.data.toList).toArray⟩,.bool (slashed s.data.toList)])∧New w w':=by
 obtain ⟨m,hm⟩:=he.maxLen;refine (Tryz.strings_Cut s ⟨#[47]⟩ m w (by omega) hm).mono fun e w' ⟨h1,n,h2⟩=>⟨?_,by rw[h2];exact (New.refl w).drewN n⟩;rw[h1];have:(⟨#[47]⟩:ByteArray).data.toList=[47]:=rfl;rw[this,cut47]
theorem read_itoa (sb:ByteArray)(z:Int)(w:World)(hsb:sb.data.toList=Lib.itoa z)(hl:sb.size≤1000000):Calls prog 159 #[.string sb] w (IntPost w z):=by
 have aa:(Lib.itoa z).length≤1000000:=by rw[←hsb];simpa using hl
 rcases Int.lt_or_le z 0 with hz | hz
 ·obtain ⟨n,rfl⟩:∃ n:Nat,z= -(n:Int):=⟨z.natAbs,by omega⟩;rw[Big.itoa_neg (by omega)] at hsb aa;have:=read_calls sb true (Lib.decDigits n) w (by rw[hsb];rfl) (decDigits_dig n) (by simp at aa;omega);rw[dval_decDigits] at this;exact this
 ·obtain ⟨n,rfl⟩:∃ n:Nat,z=(n:Int):=⟨z.toNat,by omega⟩;rw[Big.itoa_nonneg] at hsb aa;have:=read_calls sb false (Lib.decDigits n) w (by rw[hsb];rfl) (decDigits_dig n) aa;rw[dval_decDigits] at this;exact this
theorem from_calls (sb:ByteArray)(q:Rat)(w:World)(he:Env w)(hsb:sb.data.toList=ratText q)(hl:sb.size≤1000000):Calls prog 87 #[.string sb] w (FracPost w q):=by
 obtain ⟨A,hA⟩:∃ A,upTo sb.data.toList=A:=⟨_,rfl⟩;obtain ⟨B,hB⟩:∃ B,behind sb.data.toList=B:=⟨_,rfl⟩;have aa:=fun W (h:New w W)=>cut_calls sb W (he.new h) hl;rw[hA,hB] at aa
 have ab:sb.data.toList.length≤1000000:=by simpa using hl
 by_cases hd:q.den=1
 ·have ht:ratText q=Lib.itoa q.num:=by unfold ratText;rw[if_pos hd]
  have hs:slashed sb.data.toList=false:=by rw[hsb,ht];exact slashed_itoa _
  have hq:((q.num:Int):Rat)=q:=by
   apply Rat.ext
   ·rw[Rat.num_intCast]
   ·rw[Rat.den_intCast,hd]
  have ac:A=Lib.itoa q.num:=by rw[←hA,(split_plain hs).1,hsb,ht]
  have ae:(⟨A.toArray⟩:ByteArray).size≤1000000:=by
   have:A.length≤1000000:=by rw[ac,←ht,←hsb];exact ab
   simpa[ByteArray.size] using this
  rw[hs]at aa;refine zh4 ?_ aa ac ae hq;clear aa ac ae hq;intro ad HA af HQ;clear he hsb hA hB hs ht hd ab;go_in;go_wp2_with fail;obtain ⟨BP,HN⟩:=lay1 w 115 #[.int .i64 0,.slice none 0 0,.int .i64 0,.slice none 0 0];refine zM (ad _ HN) fun w1 hn=>?_;obtain ⟨HN,BP⟩:=zn2 hn HN BP.new;clear hn;go_wp2_with fail;refine zO (read_itoa _ q.num _ HA af) fun w2 s7 a7 l7 k7 hn hi=>?_;have HI:=hid hi;clear hi;obtain ⟨HN,BP⟩:=zn2 hn HN BP.new;clear hn;go_wp2_with fail;refine zS (whole_calls _ q.num _ HI) fun w3 s9 a9 l9 k9 t9 b9 m9 n9 hn hf=>?_;rw[HQ.out] at hf;replace hf:=hid hf;obtain ⟨HN,BP⟩:=zn2 hn HN BP.new;clear hn;obtain ⟨⟨p0,p1,p2,p3⟩,p4,p5,p6,p7,p8⟩:=BP.out.four;go_wp2_with fail;refine bodyPost_ret (v:=.agg #[.int .i64 s9,.slice a9 l9 k9,.int .i64 t9,.slice b9 m9 n9]) (by simp[results,results87,go_sem,p0,p1,p2,p3]) rfl ?_;exact frac_ret HN BP (by omega) hf.parts.1 hf.parts.2
 ·have ht:ratText q=Lib.itoa q.num ++ 47::Lib.decDigits q.den:=by unfold ratText;rw[if_neg hd]
  have hs:slashed sb.data.toList=true:=by rw[hsb,ht];simp[slashed]
  have ac:A=Lib.itoa q.num:=by rw[←hA,hsb,ht];exact (parts_itoa _ _).1
  have ah:B=Lib.itoa (q.den:Int):=by rw[←hB,hsb,ht,Big.itoa_nonneg];exact (parts_itoa _ _).2
  have ag:sb.data.toList=A ++ 47::B:=by rw[←hA,←hB];exact split_slash hs
  have ae:(⟨A.toArray⟩:ByteArray).size≤1000000:=by
   rw[ag,List.length_append,List.length_cons]at ab
   have:A.length≤1000000:=by omega
   simpa[ByteArray.size] using this
  have ai:(⟨B.toArray⟩:ByteArray).size≤1000000:=by
   rw[ag,List.length_append,List.length_cons]at ab
   have:B.length≤1000000:=by omega
   simpa[ByteArray.size] using this
  rw[hs]at aa;refine zh5 ?_ aa ac ae ah ai;clear aa ac ae ah ai;intro ad HA af HB aj;clear he hsb hA hB hs ht hd ab ag;go_in;go_wp2_with fail;obtain ⟨BP,HN⟩:=lay1 w 115 #[.int .i64 0,.slice none 0 0,.int .i64 0,.slice none 0 0];refine zM (ad _ HN) fun w1 hn=>?_;obtain ⟨HN,BP⟩:=zn2 hn HN BP.new;clear hn;go_wp2_with fail;refine zO (read_itoa _ q.num _ HA af) fun w2 s7 a7 l7 k7 hn hi=>?_;have HI:=hid hi;clear hi;obtain ⟨HN,BP⟩:=zn2 hn HN BP.new;clear hn;go_wp2_with fail;refine zO (read_itoa _ (q.den:Int) _ HB aj) fun w3 s8 a8 l8 k8 hn hi=>?_;replace hi:=hid hi;obtain ⟨HN,BP,HI⟩:=zn3 hn HN BP.new HI.new;clear hn;obtain ⟨⟨p0,p1,p2,p3⟩,p4,p5,p6,p7,p8⟩:=BP.out.four;go_wp2_with fail;refine bodyPost_ret (v:=.agg #[.int .i64 s7,.slice a7 l7 k7,.int .i64 s8,.slice a8 l8 k8]) (by simp[results,results87,go_sem,p0,p1,p2,p3]) rfl ?_;exact frac_ret HN BP (by omega) HI hi
theorem ret_i64 {a b:Int}(h:a=b):Ending.returned (.int .i64 a)=.returned (.int .i64 b):=by rw[h]
theorem nwhen_calls (b:Bool)(n:Int)(w:World):Calls prog 100 #[.bool b,.int .i64 n] w fun e w'=>e=.returned (.int .i64 (if b then n else 0))∧w=w':=by
 cases b <;> (go_in;go_wp2_with fail;go_ret;exact ⟨rfl,rfl⟩)
def firstNZ:List Int→Int
 | []=>0
 | x::l=>if x=0 then firstNZ l else x
theorem firstNZ_drop {l:List Int}{k:Nat}(hk:k < l.length)(h:firstNZ (l.drop k)=firstNZ l)(h0:l[k]=0):firstNZ (l.drop (k+1))=firstNZ l:=by
 rw[←h,List.drop_eq_getElem_cons hk,firstNZ,if_pos h0]
theorem firstNZ_at {l:List Int}{k:Nat}(hk:k < l.length)(h:firstNZ (l.drop k)=firstNZ l)(h0:l[k]≠0):firstNZ l=l[k]:=by
 rw[←h,List.drop_eq_getElem_cons hk,firstNZ,if_neg h0]
theorem nfirst_calls (l:List Int)(b cap:Nat)(w:World)(hl:l.length≤1000)(hc:∀ i (h:i < l.length),w.cell? ⟨b,i,none⟩=some (.int .i64 l[i])):
  Calls prog 86 #[.slice (some ⟨b,0,none⟩) l.length cap] w fun e w'=>e=.returned (.int .i64 (firstNZ l))∧w=w':=by
 obtain ⟨r,hr⟩:∃ r,firstNZ l=r:=⟨_,rfl⟩;rw[hr]
 have ad:(l.length:Int)≤1000:=by omega
 replace hc:=hid hc;replace hr:=hid hr;go_in;go_wp2_with fail
 go_loop [7] (fun i=>∃ k:Nat,k≤l.length∧i=.int .i64 (k:Int)∧Hid (firstNZ (l.drop k)=firstNZ l)) (fun i=>l.length - (intOf i).toNat)
 case atStart=>exact ⟨0,Nat.zero_le _,rfl,hid rfl⟩
 case round=>
  obtain ⟨k,hk,rfl,HK⟩:=hrel;by_cases hlt:k < l.length
  ·have aa:=hc.out k hlt;obtain ⟨x,hx⟩:∃ x,l[k]=x:=⟨_,rfl⟩;rw[hx] at aa;by_cases h0:x=0
   ·have ac:(x != 0)=false:=by simp[h0]
    have hd:=firstNZ_drop hlt HK.out (hx.trans h0);refine zh3 ?_ hx h0 hd;clear hx h0 hd;intro HX H0 HD;go_wp2_with fail;go_round
    case rel=>exact ⟨k+1,by omega,by go_num,HD⟩
    case measure=>simp[intOf];omega
   ·have ac:(x != 0)=true:=by simp[h0]
    have hd:=firstNZ_at hlt HK.out (by rw[hx];exact h0);refine zh3 ?_ hx h0 hd;clear hx h0 hd;intro HX H0 HD;go_wp2_with fail;go_ret;exact ⟨ret_i64 (by rw[←hr.out,HD.out,HX.out]),rfl⟩
  ·have ab:k=l.length:=by omega
   have hz:r=0:=by rw[←hr.out,←HK.out,ab,List.drop_length];rfl
   replace ab:=hid ab;replace hz:=hid hz;go_wp2_with fail;go_ret;exact ⟨ret_i64 hz.symm,rfl⟩
def outside (n lo hi:Int):Bool:=decide (n < lo) || decide (hi < n)
theorem firstNZ2 (x y:Int):firstNZ [x,y]=if x=0 then y else x:=by
 unfold firstNZ;split
 ·unfold firstNZ;split
  ·rename_i h;rw[h];rfl
  ·rfl
 ·rfl
theorem nfirst2 (x y:Int)(b cap:Nat)(t:TypeId)(w:World)(h:Box w b t #[.int .i64 x,.int .i64 y]):
  Calls prog 86 #[.slice (some ⟨b,0,none⟩) 2 cap] w fun e w'=>e=.returned (.int .i64 (if x=0 then y else x))∧w=w':=by
 have:=nfirst_calls [x,y] b cap w (by simp) (fun i hi=>by
  have:i=0∨i=1:=by simp at hi;omega
  rcases this with rfl | rfl
  ·exact h.two.1
  ·exact h.two.2.1)
 rw[firstNZ2]at this;exact this
theorem strTrim_calls (s:ByteArray)(w:World)(hs:s.size≤1000000):Calls prog 207 #[.string s,.string ⟨#[48,49,50,51,52,53,54,55,56,57]⟩] w fun e w'=>e=.returned (.string ⟨(Lib.trimS s.data.toList [48,49,50,51,52,53,54,55,56,57]).toArray⟩)∧New w w':=
 Any.strings_Trim_laid Tryz.lays160 (by kernel_rfl) s ⟨#[48,49,50,51,52,53,54,55,56,57]⟩ w (by omega) (by decide) (ascii_of_all (by decide))
theorem decimal_empty (w:World):Calls prog 157 #[.string ⟨#[]⟩] w fun e w'=>e=.returned (.bool false)∧New w w':=by
 go_in;go_wp2_with fail;go_ret;exact ⟨rfl,New.refl _⟩
theorem digs_contains (c:UInt8):([48,49,50,51,52,53,54,55,56,57]:List UInt8).contains c=isDig c:=by
 have aa:∀ n,n < 256→([48,49,50,51,52,53,54,55,56,57]:List UInt8).contains (UInt8.ofNat n)=isDig (UInt8.ofNat n):=by decide +kernel
 have:=aa c.toNat (UInt8.toNat_lt c)
 rwa [UInt8.ofNat_toNat] at this
theorem dropWhile_nil_iff {p:UInt8→Bool}:∀ {l:List UInt8},l.dropWhile p=[] ↔ ∀ c∈l,p c=true:=by
 intro l;exact ⟨fun h=>all_of_dropWhile h,fun h=>dropWhile_all h⟩
theorem dropWhile_head {p:UInt8→Bool}:∀ {l:List UInt8} {c:UInt8} {r:List UInt8},l.dropWhile p=c::r→p c=false
 | [],c,r,h=>by cases h
 | x::l,c,r,h=>by
  rw[List.dropWhile_cons]at h;split at h
  ·exact dropWhile_head h
  ·rename_i hx
   cases h
   simpa using hx
theorem trimS_nil {l:List UInt8}:Lib.trimS l [48,49,50,51,52,53,54,55,56,57]=[] ↔ l.all isDig=true:=by
 unfold Lib.trimS Lib.trimLeftS Lib.trimRightS;simp only[digs_contains];rw[dropWhile_nil_iff,List.all_eq_true];constructor
 ·intro h
  cases hd:l.reverse.dropWhile isDig with
  | nil=>
   intro c hc;exact dropWhile_nil_iff.1 hd c (by simpa using hc)
  | cons c r=>
   have h1:=dropWhile_head hd;have h2:=h c (by rw[hd];simp);rw[h1] at h2
   cases h2
 ·intro h c hc;have:l.reverse.dropWhile isDig=[]:=dropWhile_nil_iff.2 fun x hx=>h x (by simpa using hx);rw[this] at hc;simp at hc
theorem ret_bool {a b:Bool}(h:a=b):Ending.returned (.bool a)=.returned (.bool b):=by rw[h]
theorem decimal_some (c:UInt8)(l:List UInt8)(w:World)(hl:(c::l).length≤1000000):Calls prog 157 #[.string ⟨(c::l).toArray⟩] w fun e w'=>e=.returned (.bool (isDec (c::l)))∧New w w':=by
 obtain ⟨r,hr⟩:∃ r,isDec (c::l)=r:=⟨_,rfl⟩;rw[hr];have ht:=fun W=>strTrim_calls ⟨(c::l).toArray⟩ W (by simpa[ByteArray.size] using hl);refine zh3 ?_ ht hr hl;clear ht hr hl;intro HT HR HL;go_in;go_wp2_with fail;refine zM (HT _) fun w1 hn=>?_;obtain ⟨X,hX⟩:∃ X,Lib.trimS (⟨(c::l).toArray⟩:ByteArray).data.toList [48,49,50,51,52,53,54,55,56,57]=X:=⟨_,rfl⟩;rw[hX];have hX:Lib.trimS (c::l) [48,49,50,51,52,53,54,55,56,57]=X:=hX;replace hn:=hid hn;replace hX:=hid hX
 cases X with
 | nil=>
  have aa:=trimS_nil.1 hX.out;by_cases hc:c.toNat=48
  ·have ac:c=48:=UInt8.toNat_inj.1 hc
   have ab:r=l.isEmpty:=by
    rw[←HR.out];unfold isDec;rw[aa,ac]
    cases l <;> simp
   refine zh3 ?_ aa hc ab;clear aa hc ab;intro ae HC ad;subst ac;go_wp2_with fail
   all_goals go_ret
   all_goals exact ⟨ret_bool (by rw[ad.out];try rfl),hn.out⟩
  ·have ac:c≠48:=fun h=>hc (by rw[h];rfl)
   have ab:r=true:=by
    rw[←HR.out];unfold isDec;rw[aa];simp[ac]
   have af:¬((c.toNat:Int)=48):=by omega
   have ag:((c.toNat:Int)==48)=false:=beq_eq_false_iff_ne.2 af;have hg:(⟨(c::l).toArray⟩:ByteArray)[0]'(by simp[ByteArray.size])=c:=rfl;refine zh4 ?_ aa hc ab ac;clear aa hc ab ac;intro ae HC ad ah;go_wp2_with fail
   all_goals go_ret
   all_goals exact ⟨ret_bool ad.out.symm,hn.out⟩
 | cons x X=>
  have ab:r=false:=by
   rw[←HR.out]
   have aa:(c::l).all isDig=false:=by
    cases h:(c::l).all isDig with
    | false=>rfl
    | true=>
     have:=trimS_nil.2 h;rw[hX.out] at this
     cases this
   unfold isDec;rw[aa];simp
  replace ab:=hid ab;go_wp2_with fail;go_ret;exact ⟨ret_bool ab.symm,hn⟩
theorem decimal_calls (s:ByteArray)(w:World)(hl:s.size≤1000000):Calls prog 157 #[.string s] w fun e w'=>e=.returned (.bool (isDec s.data.toList))∧New w w':=by
 obtain ⟨⟨l⟩⟩:=s
 cases l with
 | nil=>exact decimal_empty w
 | cons c l=>exact decimal_some c l w (by simpa[ByteArray.size] using hl)
theorem cutPrefix_calls (s:ByteArray)(w:World):Calls prog 155 #[.string s,.string ⟨#[45]⟩] w fun e w'=>e=.returned (.tuple #[.string ⟨(unsigned s.data.toList).toArray⟩,.bool (s.data.toList.head?==some 45)])∧w=w':=by
 refine (Tryz.strings_CutPrefix s ⟨#[45]⟩ w).mono fun e w' ⟨h1,h2⟩=>⟨?_,h2.symm⟩;rw[h1];have e1:(⟨#[45]⟩:ByteArray).data.toList=[45]:=rfl;rw[e1]
 have e2:Lib.hasPrefix s.data.toList [45]=(s.data.toList.head?==some 45):=by
  cases s.data.toList with
  | nil=>rfl
  | cons c l=>
   show ((45==c) && true)=(some c==some 45);rw[Bool.and_true];by_cases h:c=45
   ·subst h;rfl
   ·rw[beq_eq_false_iff_ne.2 (fun x=>h x.symm),beq_eq_false_iff_ne.2 (fun x=>h (Option.some.inj x))]
 have e3:Lib.trimPrefix s.data.toList [45]=unsigned s.data.toList:=by
  unfold Lib.trimPrefix unsigned;rw[e2];by_cases h:s.data.toList.head?=some 45
  ·rw[if_pos (by rw[h];rfl),if_pos h];simp
  ·rw[if_neg (by simpa using h),if_neg h]
 rw[e2,e3]
def form1 (neg:Bool)(A:List UInt8):Bool:=isDec A && (!neg || A != [48])
def form2 (F br:Bool)(B:List UInt8):Bool:=if br then F && isDec B && B != [48] && B != [49] else F
theorem form_bool (br dA neg zA dB zB oB:Bool):(if br then (dA && (!neg || !zA)) && dB && !zB && !oB else (dA && (!neg || !zA)))=(dA && !(neg && zA) && (!br || (dB && !zB && !oB))):=by
 revert br dA neg zA dB zB oB
 decide
theorem isDec_digs {l:List UInt8}(h:isDec l=true):∀ c∈l,isDig c=true:=by
 unfold isDec at h;simp only[Bool.and_eq_true] at h;exact List.all_eq_true.1 h.1.2
theorem form_dec {A B:List UInt8}{neg F1:Bool}(h1:form1 neg A=F1)(h2:form2 F1 true B=true):(∀ c∈A,isDig c=true)∧(∀ c∈B,isDig c=true):=by
 unfold form2 at h2;rw[if_pos rfl] at h2;simp only[Bool.and_eq_true] at h2;obtain ⟨⟨⟨h3,h4⟩,_⟩,_⟩:=h2;rw[h3] at h1;unfold form1 at h1;rw[Bool.and_eq_true] at h1;exact ⟨isDec_digs h1.1,isDec_digs h4⟩
theorem gcd_bd' {x y:Nat}(hx:Bd (x:Int))(hy:Bd (y:Int)):Bd ((Int.gcd (x:Int) (y:Int):Nat):Int):=by
 rcases Nat.eq_zero_or_pos y with rfl | h
 ·simpa using hx
 ·exact gcd_bd (by omega) hy
theorem form_eq {l U A B:List UInt8}{neg br:Bool}(hU:unsigned l=U)(hn:(l.head?==some 45)=neg)(hA:upTo U=A)(hB:behind U=B)(hb:slashed U=br):form2 (form1 neg A) br B=ratForm l:=by
 unfold ratForm form2 form1;rw[hU,hn,hA,hB,hb];exact form_bool br (isDec A) neg (A==[48]) (isDec B) (B==[48]) (B==[49])
theorem check_calls (s:ByteArray)(w:World)(he:Env w)(hl:s.size≤100000):Calls prog 75 #[.string s] w fun e w'=>e=.returned (.int .i64 (ratErr s.data.toList))∧New w w':=by
 obtain ⟨r,hr⟩:∃ r,ratErr s.data.toList=r:=⟨_,rfl⟩;rw[hr];obtain ⟨U,hU⟩:∃ U,unsigned s.data.toList=U:=⟨_,rfl⟩;obtain ⟨neg,hneg⟩:∃ b,(s.data.toList.head?==some 45)=b:=⟨_,rfl⟩;have hcp:=fun W=>cutPrefix_calls s W;rw[hU,hneg] at hcp;obtain ⟨A,hA⟩:∃ A,upTo U=A:=⟨_,rfl⟩;obtain ⟨B,hB⟩:∃ B,behind U=B:=⟨_,rfl⟩;obtain ⟨br,hbr⟩:∃ b,slashed U=b:=⟨_,rfl⟩
 have hlu:U.length≤100000:=by
  have:s.data.toList.length≤100000:=by simpa using hl
  rw[←hU];unfold unsigned;split
  ·rw[List.length_tail];omega
  ·exact this
 have hsz:(⟨U.toArray⟩:ByteArray).size≤1000000:=by simp[ByteArray.size];omega
 have hcut:=fun W (h:New w W)=>cut_calls ⟨U.toArray⟩ W (he.new h) hsz;simp only[hA,hB,hbr] at hcut
 have hAl:A.length≤100000:=by
  rw[←hA];unfold upTo;exact Nat.le_trans (List.takeWhile_sublist _).length_le hlu
 have hBl:B.length≤100000:=by
  rw[←hB];unfold behind;have h1:=(List.dropWhile_sublist (l:=U) (· != 47)).length_le;rw[List.length_tail];omega
 have hdA:∀ W,Calls prog 157 #[.string ⟨A.toArray⟩] W fun e w'=>e=.returned (.bool (isDec A))∧New W w':=fun W=>decimal_calls ⟨A.toArray⟩ W (by simp[ByteArray.size];omega);have hdB:∀ W,Calls prog 157 #[.string ⟨B.toArray⟩] W fun e w'=>e=.returned (.bool (isDec B))∧New W w':=fun W=>decimal_calls ⟨B.toArray⟩ W (by simp[ByteArray.size];omega);obtain ⟨F1,hF1⟩:∃ F,form1 neg A=F:=⟨_,rfl⟩;obtain ⟨F2,hF2⟩:∃ F,form2 F1 br B=F:=⟨_,rfl⟩;refine zh12 ?_ hr hU hneg hcp hA hB hbr hlu hsz hcut hAl hBl;intro HR HU HNEG HCP HA HB HBR HLU HSZ HCUT HAL HBL;refine zh6 ?_ hdA hdB hF1 hF2 he hl;clear hr hU hneg hcp hA hB hbr hlu hsz hcut hAl hBl hdA hdB hF1 hF2 he hl;intro HDA HDB HF1 HF2 HE HL;go_in;go_wp2_with fail;refine (HCP _).mono ?_;rintro e w' ⟨rfl,rfl⟩;go_wp2_with fail;refine zM (HCUT _ (New.refl _)) fun w1 hn=>?_;have HN:=hid hn;clear hn;go_upto_region 3 with (fail)
 go_cut [8] (fun f wx=>f=.bool F1∧New w wx)
 case first=>
  go_wp2_with fail;refine zM (HDA _) fun w2 hn=>?_;replace HN:=tW HN hn;clear hn
  cases hda:isDec A with
  | false=>
   have hf:F1=false:=by rw[←HF1.out];unfold form1;rw[hda];rfl
   have HD:=hid hda;replace hf:=hid hf;clear hda;go_wp2_with fail
   go_meet
   exact ⟨by rw[hf.out],HN.out⟩
  | true=>
   cases neg with
   | false=>
    have hf:F1=true:=by rw[←HF1.out];unfold form1;rw[hda];rfl
    have HD:=hid hda;replace hf:=hid hf;clear hda;go_wp2_with fail
    go_meet
    exact ⟨by rw[hf.out],HN.out⟩
   | true=>
    by_cases hz:A=[48]
    ·have hf:F1=false:=by rw[←HF1.out];unfold form1;rw[hda,hz];rfl
     have HD:=hid hda;have HF:=hid hf;clear hda hf;subst hz;go_wp2_with fail
     go_meet
     exact ⟨by rw[HF.out],HN.out⟩
    ·have hz1:(A==[48])=false:=beq_eq_false_iff_ne.2 hz
     have hz2:(A != [48])=true:=by rw[bne,hz1];rfl
     have hf:F1=true:=by rw[←HF1.out];unfold form1;rw[hda,hz2];rfl
     refine zh3 ?_ hda hf hz;clear hda hf hz;intro HD HF HZ;go_wp2_with fail
     go_meet
     exact ⟨by rw[HF.out],HN.out⟩
 case rest=>
  obtain ⟨rfl,hn⟩:=hcut;clear HN;have HN:=hid hn;clear hn
  go_step
  go_upto_if 32 with (fail)
  go_cut [8] (fun f wx=>f=.bool F2∧New w wx)
  case first=>
   cases br with
   | false=>
    have hf:F2=F1:=by rw[←HF2.out];rfl
    replace hf:=hid hf;go_wp2_with fail
    go_meet
    exact ⟨by rw[hf.out],HN.out⟩
   | true=>
    cases F1 with
    | false=>
     have hf:F2=false:=by rw[←HF2.out];rfl
     replace hf:=hid hf;go_wp2_with fail
     go_meet
     exact ⟨by rw[hf.out],HN.out⟩
    | true=>
     go_wp2_with fail;refine zM (HDB _) fun w2 hn=>?_;replace HN:=tW HN hn;clear hn
     cases hda:isDec B with
     | false=>
      have hf:F2=false:=by rw[←HF2.out];unfold form2;rw[hda];rfl
      have HD:=hid hda;replace hf:=hid hf;clear hda;go_wp2_with fail
      go_meet
      exact ⟨by rw[hf.out],HN.out⟩
     | true=>
      by_cases hz:B=[48]
      ·have hf:F2=false:=by rw[←HF2.out];unfold form2;rw[hda,hz];rfl
       have HD:=hid hda;have HF:=hid hf;clear hda hf;subst hz;go_wp2_with fail
       go_meet
       exact ⟨by rw[HF.out],HN.out⟩
      ·by_cases hy:B=[49]
       ·have hf:F2=false:=by rw[←HF2.out];unfold form2;rw[hda,hy];rfl
        have HD:=hid hda;have HF:=hid hf;clear hda hf;clear hz;subst hy;go_wp2_with fail
        go_meet
        exact ⟨by rw[HF.out],HN.out⟩
       ·have hz1:(B==[48])=false:=beq_eq_false_iff_ne.2 hz
        have hz2:(B != [48])=true:=by rw[bne,hz1];rfl
        have hy1:(B==[49])=false:=beq_eq_false_iff_ne.2 hy
        have hy2:(B != [49])=true:=by rw[bne,hy1];rfl
        have hf:F2=true:=by rw[←HF2.out];unfold form2;rw[hda,hz2,hy2];rfl
        refine zh4 ?_ hda hf hz hy;clear hda hf hz hy;intro HD HF HZ HY;go_wp2_with fail
        go_meet
        exact ⟨by rw[HF.out],HN.out⟩
  case rest=>
   obtain ⟨rfl,hn⟩:=hcut;clear HN;have HN:=hid hn;clear hn
   have hform:F2=ratForm s.data.toList:=by
    rw[←HF2.out,←HF1.out];exact form_eq HU HNEG HA HB HBR
   have hres:=HR.out;unfold ratErr at hres;rw[←hform] at hres;replace hform:=hid hform
   go_step
   cases F2 with
   | false=>
    rw[if_pos rfl]at hres;have HRES:=hid hres;clear hres;by_cases h6:600 < A.length
    ·have h6i:(600:Int) < (A.length:Int):=by omega
     go_wp2_with fail;refine (nwhen_calls _ 1 _).mono ?_;rintro e w2 ⟨rfl,rfl⟩;go_wp2_with fail;refine (nwhen_calls _ 4 _).mono ?_;rintro e w2 ⟨rfl,rfl⟩;go_wp2_with fail;refine (nfirst2 1 4 _ _ 32 _ (Box.alloc _ _ _ _ rfl)).mono ?_;rintro e w2 ⟨rfl,rfl⟩;go_wp2_with fail;go_ret;exact ⟨ret_i64 HRES,HN.alloc _⟩
    ·have h6i:¬(600:Int) < (A.length:Int):=by omega
     by_cases h7:600 < B.length
     ·have h7i:(600:Int) < (B.length:Int):=by omega
      go_wp2_with fail;refine (nwhen_calls _ 1 _).mono ?_;rintro e w2 ⟨rfl,rfl⟩;go_wp2_with fail;refine (nwhen_calls _ 4 _).mono ?_;rintro e w2 ⟨rfl,rfl⟩;go_wp2_with fail;refine (nfirst2 1 4 _ _ 32 _ (Box.alloc _ _ _ _ rfl)).mono ?_;rintro e w2 ⟨rfl,rfl⟩;go_wp2_with fail;go_ret;exact ⟨ret_i64 HRES,HN.alloc _⟩
     ·have h7i:¬(600:Int) < (B.length:Int):=by omega
      go_wp2_with fail;refine (nwhen_calls _ 1 _).mono ?_;rintro e w2 ⟨rfl,rfl⟩;go_wp2_with fail;refine (nwhen_calls _ 4 _).mono ?_;rintro e w2 ⟨rfl,rfl⟩;go_wp2_with fail;refine (nfirst2 1 0 _ _ 32 _ (Box.alloc _ _ _ _ rfl)).mono ?_;rintro e w2 ⟨rfl,rfl⟩;go_wp2_with fail;go_ret;exact ⟨ret_i64 HRES,HN.alloc _⟩
   | true=>
    rw[if_neg (by decide)]at hres
    have hlar:ratLarge s.data.toList=(decide (600 < A.length) || decide (600 < B.length)):=by unfold ratLarge;rw[HU.out,HA.out,HB.out]
    rw[hlar]at hres;by_cases h6:600 < A.length
    ·have h6i:(600:Int) < (A.length:Int):=by omega
     rw[decide_eq_true h6,Bool.true_or,if_pos rfl]at hres;have HLAR:=hid hlar;have HRES:=hid hres;clear hlar hres;go_wp2_with fail;refine (nwhen_calls _ 1 _).mono ?_;rintro e w2 ⟨rfl,rfl⟩;go_wp2_with fail;refine (nwhen_calls _ 4 _).mono ?_;rintro e w2 ⟨rfl,rfl⟩;go_wp2_with fail;refine (nfirst2 0 4 _ _ 32 _ (Box.alloc _ _ _ _ rfl)).mono ?_;rintro e w2 ⟨rfl,rfl⟩;go_wp2_with fail;go_ret;exact ⟨ret_i64 HRES,HN.alloc _⟩
    ·have h6i:¬(600:Int) < (A.length:Int):=by omega
     rw[decide_eq_false h6,Bool.false_or]at hres;by_cases h7:600 < B.length
     ·have h7i:(600:Int) < (B.length:Int):=by omega
      rw[decide_eq_true h7,if_pos rfl]at hres;have HLAR:=hid hlar;have HRES:=hid hres;clear hlar hres;go_wp2_with fail;refine (nwhen_calls _ 1 _).mono ?_;rintro e w2 ⟨rfl,rfl⟩;go_wp2_with fail;refine (nwhen_calls _ 4 _).mono ?_;rintro e w2 ⟨rfl,rfl⟩;go_wp2_with fail;refine (nfirst2 0 4 _ _ 32 _ (Box.alloc _ _ _ _ rfl)).mono ?_;rintro e w2 ⟨rfl,rfl⟩;go_wp2_with fail;go_ret;exact ⟨ret_i64 HRES,HN.alloc _⟩
     ·have h7i:¬(600:Int) < (B.length:Int):=by omega
      rw[decide_eq_false h7,if_neg (by decide)]at hres;replace hlar:=hid hlar;replace hres:=hid hres
      cases br with
      | false=>
       have hr0:r=0:=by
        rw[←hres.out];unfold ratCommon;rw[HU.out,HBR.out];rfl
       replace hr0:=hid hr0;go_wp2_with fail;refine (nwhen_calls _ 1 _).mono ?_;rintro e w2 ⟨rfl,rfl⟩;go_wp2_with fail;refine (nwhen_calls _ 4 _).mono ?_;rintro e w2 ⟨rfl,rfl⟩;go_wp2_with fail;refine (nfirst2 0 0 _ _ 32 _ (Box.alloc _ _ _ _ rfl)).mono ?_;rintro e w2 ⟨rfl,rfl⟩;go_wp2_with fail;refine (nwhen_calls _ 1 _).mono ?_;rintro e w2 ⟨rfl,rfl⟩;go_wp2_with fail;go_ret;exact ⟨ret_i64 hr0.symm,HN.alloc _⟩
      | true=>
       obtain ⟨hA1,hB1⟩:=form_dec (HF1) (HF2);have hbA:=(dval_bd hA1).bd (by have:=HAL.out;omega);have hbB:=(dval_bd hB1).bd (by have:=HBL.out;omega)
       have hAL1:A.length≤1000000:=by have:=HAL.out;omega
       have hBL1:B.length≤1000000:=by have:=HBL.out;omega
       obtain ⟨g,hg⟩:∃ g,Int.gcd ((dval 0 A:Nat):Int) ((dval 0 B:Nat):Int)=g:=⟨_,rfl⟩
       have hbg:Bd (g:Int):=by
        rw[←hg];exact gcd_bd' hbA hbB
       have hcm:r=if (g != 1)=true then 1 else 0:=by
        rw[←hres.out];unfold ratCommon;rw[HU.out,HBR.out,HA.out,HB.out,←hg,Bool.true_and];rfl
       refine zh9 ?_ hA1 hB1 hbA hbB hg hbg hcm hAL1 hBL1;clear hA1 hB1 hbA hbB hg hbg hcm hAL1 hBL1;intro HA1 HB1 HBA HBB HG HBG HCM HAL1 HBL1;go_wp2_with fail;refine (nwhen_calls _ 1 _).mono ?_;rintro e w2 ⟨rfl,rfl⟩;go_wp2_with fail;refine (nwhen_calls _ 4 _).mono ?_;rintro e w2 ⟨rfl,rfl⟩;go_wp2_with fail;refine (nfirst2 0 0 _ _ 32 _ (Box.alloc _ _ _ _ rfl)).mono ?_;rintro e w2 ⟨rfl,rfl⟩;go_wp2_with fail;replace HN:=hid (HN.alloc (.cells #[.int .i64 0,.int .i64 0] 32));refine zN (read_calls ⟨A.toArray⟩ false A _ rfl HA1 HAL1) fun w3 v3 hn hi=>?_;have HI3:=hid hi;clear hi;replace HN:=tW HN hn;clear hn;go_wp2_with fail;refine zN (read_calls ⟨B.toArray⟩ false B _ rfl HB1 HBL1) fun w4 v4 hn hi=>?_;have HI4:=hid hi;clear hi;obtain ⟨HN,HI3⟩:=zn2 hn HN HI3.new;clear hn;go_wp2_with fail;refine zN (gcd_calls _ _ _ _ _ HI3 HI4 HBA HBB) fun w5 v5 hn hi=>?_
       have hi:IsInt w5 v5 (g:Int):=by rw[←HG.out];exact hi
       have HI5:=hid hi;clear hi;replace HN:=tW HN hn;clear hn;go_wp2_with fail;refine zM (of_calls 1 _) fun w6 hn=>?_;obtain ⟨HN,HI5⟩:=zn2 hn HN HI5.new;clear hn;go_wp2_with fail;refine zM (cmp_calls _ _ (g:Int) 1 _ HI5 (.small rfl (by omega) (by omega)) HBG (.small (by omega) (by omega))) fun w7 hn=>?_;replace HN:=tW HN hn;clear hn;by_cases hg1:g=1
       ·have hs:Int.sign ((g:Int) - 1)=0:=by rw[hg1];rfl
        have hr0:r=0:=by rw[HCM.out,hg1];rfl
        rw[hs];refine zh3 ?_ hs hr0 hg1;clear hs hr0 hg1;intro HS HR0 HG1;go_wp2_with fail;refine (nwhen_calls _ 1 _).mono ?_;rintro e w2 ⟨rfl,rfl⟩;go_wp2_with fail;go_ret;exact ⟨ret_i64 HR0.symm,HN⟩
       ·obtain ⟨t,ht,ht0⟩:∃ t,Int.sign ((g:Int) - 1)=t∧(t != 0)=true:=⟨_,rfl,by
         rw[bne_iff_ne];intro h;have:=Int.sign_eq_zero_iff_zero.1 h
         omega⟩
        have hr0:r=1:=by
         rw[HCM.out,if_pos (by rw[bne_iff_ne];exact hg1)]
        rw[ht];refine zh3 ?_ ht hr0 hg1;clear ht hr0 hg1;intro HTT HR0 HG1;go_wp2_with fail;refine (nwhen_calls _ 1 _).mono ?_;rintro e w2 ⟨rfl,rfl⟩;go_wp2_with fail;go_ret;exact ⟨ret_i64 HR0.symm,HN⟩
def isFin (b:Nat):Bool:=match Ieee.single.read b with | .number ..=>true | _=>false
theorem isFin_spec {b:Nat}(h:isFin b=true):∃ s m i,Ieee.single.read b=.number s m i:=by
 unfold isFin at h;split at h
 ·rename_i s m i hr;exact ⟨s,m,i,hr⟩
 ·cases h
theorem sub_self_fin {b:Nat}(h:isFin b=true):floatBits .sub .f32 b b=some 0:=by
 obtain ⟨s,m,i,hr⟩:=isFin_spec h;show Ieee.single.sub b b=some 0;unfold Ieee.Format.sub;rw[hr];simp only[Ieee.Datum.opposite,Ieee.Datum.sum,Option.map_some]
 have e:Ieee.signed s m (i - min i i).toNat+Ieee.signed (!s) m (i - min i i).toNat=0:=by
  unfold Ieee.signed
  cases s <;> simp <;> omega
 rw[e]
 cases s <;> rfl
theorem sub_self_nan {b:Nat}(h:isFin b=false):FloatKind.f32.format.sub b b=none:=by
 show Ieee.single.sub b b=none;unfold Ieee.Format.sub;unfold isFin at h
 cases hr:Ieee.single.read b with
 | number s m i=>rw[hr] at h;cases h
 | infinity s=>cases s <;> rfl
 | nan s f=>rfl
def nanOf (w:World)(b:Nat):Nat:=(Question.nanBits .f32 b b).cut (w.tape w.drawn (.nanBits .f32 b b))
theorem nan_run {P:Program}(t:TypeId)(b:Nat)(h:isFin b=false)(w:World):(binOp .sub t (.float .f32 b) (.float .f32 b)).run P w=.ok (.float .f32 (nanOf w b)) w.drew:=by
 simp[binOp,Op.floatArith,sub_self_nan h];rfl
theorem nan_read (w:World)(b:Nat):∃ s f,Ieee.single.read (nanOf w b)=.nan s f:=by
 unfold nanOf;generalize w.tape w.drawn (.nanBits .f32 b b)=t;show ∃ s f,Ieee.single.read ((t % 2)*2^31+0x7f800000+1+(t / 2) % (2^23 - 1))=.nan s f;obtain ⟨x,hx⟩:∃ x,(t / 2) % (2^23 - 1)=x:=⟨_,rfl⟩
 have aa:x < 8388607:=by rw[←hx];exact Nat.mod_lt _ (by decide)
 rw[hx];unfold Ieee.Format.read
 have e1:Ieee.single.signWeight=2147483648:=by decide
 have e2:Ieee.single.binade=8388608:=by decide
 have e3:Ieee.single.infRung=2139095040:=by decide
 rw[e1,e2,e3]
 have hm:(t % 2*2^31+0x7f800000+1+x) % 2147483648=2139095041+x:=by omega
 simp only[hm];rw[if_neg (by omega),if_neg (by omega),if_neg (by omega)];exact ⟨_,_,rfl⟩
theorem nan_order (w:World)(b c:Nat):FloatKind.f32.format.order (nanOf w b) c=none:=by
 obtain ⟨s,f,h⟩:=nan_read w b;show (Ieee.single.read (nanOf w b)).order _=none;rw[h];rfl
def FinPost (w:World)(b:Bool)(e:Ending)(w':World):Prop:=e=.returned (.bool b)∧∃ n,w'=w.drewN n
theorem finite_calls (b:Nat)(w:World):Calls prog 124 #[.float .f32 b] w (FinPost w (isFin b)):=by
 cases h:isFin b with
 | true=>
  have aa:=fun W=>run_float_arith (P:=prog) W .sub 62 .f32 b b 0 (sub_self_fin h)
  have ho:(FloatKind.f32.format.order 0 0==some .eq)=true:=by decide
  have H:=hid h;clear h;go_in;go_wp2_with fail;go_ret;exact ⟨rfl,0,rfl⟩
 | false=>
  have aa:=fun W=>nan_run (P:=prog) 62 b h W;have ho:=fun W=>nan_order W b 0;replace h:=hid h;go_in;go_wp2_with fail;go_ret;exact ⟨rfl,1,rfl⟩
def stepQ (s:Int):Rat:=if s < 0 then ((2^(-s).toNat:Int):Rat)⁻¹ else ((2^s.toNat:Int):Rat)
theorem FB.int {k:Nat}{x:Int}(h:BdK k x)(hk:1≤k):FB k (x:Rat):=⟨by rw[Rat.num_intCast];exact h,by
 rw[Rat.den_intCast];unfold BdK
 exact Nat.lt_of_lt_of_le (by decide:(1:Int).natAbs < 2^1) (Nat.pow_le_pow_right (by omega) hk)⟩
theorem New.of_eq {w w':World}(h:w=w'):New w w':=h ▸ New.refl w
def RetNew (w:World)(r:Int)(e:Ending)(w':World):Prop:=e=.returned (.int .i64 r)∧New w w'
theorem laid1 (w:World)(t:TypeId)(cs:Array Value):∃ x,w.alloc (.cells cs t)=x∧Box x w.heap.size t cs∧New w x:=⟨_,rfl,Box.alloc w _ t cs rfl,(New.refl w).alloc _⟩
theorem ten_le (k a b:Nat)(ha:a=6*k)(hb:b=20*k):(10:Nat)^a≤2^b:=by
 subst ha hb;rw[Nat.pow_mul,Nat.pow_mul];exact Nat.pow_le_pow_left (by decide) k
theorem Fits.fb {q:Rat}(h:Fits q):FB 2000 q:=by
 have h1:=Fits.iff.1 h;have h2:(10:Nat)^600≤2^2000:=ten_le 100 600 2000 rfl rfl
 have h3:∀ M:Nat,q.den < M→((q.den:Int)).natAbs < M:=fun M h=>by simpa using h
 exact ⟨Nat.lt_of_lt_of_le h1.1 h2,Nat.lt_of_lt_of_le (h3 _ h1.2) h2⟩
def words (l:List Nat):List Value:=l.map fun (x:Nat)=>Value.int .u16 (x:Int)
def geqF (x y:Nat):Bool:=FloatKind.f32.format.order x y==some Ordering.gt || FloatKind.f32.format.order x y==some Ordering.eq
end Go.Proofs.YtnjonlnemagomaaGreatDoor
