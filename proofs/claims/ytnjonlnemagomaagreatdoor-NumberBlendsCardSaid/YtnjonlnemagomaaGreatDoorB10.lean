/- Part B10. -/
import Derived.Shelf.Strings.BuilderK
import Derived.Test.YtnjonlnemagomaaGreatDoorB06
namespace Go.Proofs.YtnjonlnemagomaaGreatDoor
open Go.RowKit Big Go.Lib Tryz
set_option maxRecDepth 100000
set_option maxHeartbeats 8000000
set_option linter.all false
def grpT (q r:Nat):List UInt8:=if q=0 then decDigits r else padDigits 18 r
def Grp (T V:Nat)(ps:List (List UInt8)):Prop:=(if V=0 then [] else decDigits V) ++ ps.reverse.flatten=decDigits T
theorem Grp.start {T:Nat}(h:T≠0):Grp T T []:=by unfold Grp;rw[if_neg h];simp
theorem Grp.step {T V q r:Nat}{ps:List (List UInt8)}(h:Grp T V ps)(h0:V≠0)(hq:q*1000000000000000000+r=V)(hr:r < 1000000000000000000):Grp T q (ps ++ [grpT q r]):=by
 unfold Grp at h⊢;rw[if_neg h0] at h;rw[List.reverse_append,List.flatten_append,List.reverse_singleton,List.flatten_singleton,←h,←List.append_assoc];congr 1;unfold grpT;by_cases hq0:q=0
 ·rw[if_pos hq0,if_pos hq0,List.nil_append];rw[hq0,Nat.zero_mul,Nat.zero_add] at hq;rw[hq]
 ·rw[if_neg hq0,if_neg hq0,←hq]
  have e:(10:Nat)^18=1000000000000000000:=by decide
  have:=decDigits_pad hq0 18 r (by rw[e];exact hr);rw[e] at this;exact this.symm
theorem Grp.end_ {T:Nat}{ps:List (List UInt8)}(h:Grp T 0 ps):ps.reverse.flatten=decDigits T:=by
 unfold Grp at h;rw[if_pos rfl,List.nil_append] at h;exact h
theorem dig18 {r:Nat}(h:r < 1000000000000000000):(decDigits r).length≤18:=by
 rw[decDigits_length,nDigits_le_iff (by omega)]
 have e:(10:Nat)^18=1000000000000000000:=by decide
 rw[e];exact h
theorem grp_zero (r:Nat):grpT 0 r=decDigits r:=if_pos rfl
theorem grp_pad {q r:Nat}(hq:q≠0)(h:r < 1000000000000000000):grpT q r=List.replicate (18 - (decDigits r).length) 48 ++ decDigits r:=by
 unfold grpT;rw[if_neg hq,padDigits_of_nDigits (by rw[←decDigits_length];exact dig18 h),decDigits_length]
theorem grp_len {q r:Nat}(h:r < 1000000000000000000):(grpT q r).length≤18:=by
 unfold grpT;split
 ·exact dig18 h
 ·rw[padDigits_length];exact Nat.le_refl _
def GrpN (T g L:Nat):Prop:=L≤40001∧(g≠0→2^L*g≤T)
theorem GrpN.start (T:Nat):GrpN T T 0:=⟨by omega,fun _=>by rw[Nat.pow_zero,Nat.one_mul];exact Nat.le_refl _⟩
theorem GrpN.lt {T g L:Nat}(h:GrpN T g L)(hT:T < 2^40000)(h0:g≠0):L < 40000:=by
 have h1:=h.2 h0;have h2:2^L*1≤2^L*g:=Nat.mul_le_mul_left _ (by omega);rw[Nat.mul_one] at h2;exact (Nat.pow_lt_pow_iff_right (by omega)).1 (Nat.lt_of_le_of_lt (Nat.le_trans h2 h1) hT)
theorem GrpN.step {T g q r L:Nat}(h:GrpN T g L)(hT:T < 2^40000)(h0:g≠0)(hq:q*1000000000000000000+r=g):GrpN T q (L+1):=by
 have h1:=h.lt hT h0;refine ⟨by omega,fun _=>Nat.le_trans ?_ (h.2 h0)⟩;rw[Nat.pow_succ,Nat.mul_assoc];exact Nat.mul_le_mul_left _ (by omega)
def grpOut (ps:List (List UInt8))(k:Nat):List UInt8:=(ps.drop k).reverse.flatten
theorem grpOut_end (ps:List (List UInt8)):grpOut ps ps.length=[]:=by unfold grpOut;rw[List.drop_length];rfl
theorem grpOut_next {ps:List (List UInt8)}{k:Nat}(h:k < ps.length):grpOut ps k=grpOut ps (k+1) ++ ps[k]:=by
 unfold grpOut;rw[List.drop_eq_getElem_cons h,List.reverse_cons,List.flatten_append,List.flatten_singleton]
theorem grpOut_len {ps:List (List UInt8)}(h:∀ p∈ps,p.length≤18):∀ k,(grpOut ps k).length≤18*ps.length:=fun k=>by
 have key:∀ l:List (List UInt8),(∀ p∈l,p.length≤18)→l.reverse.flatten.length≤18*l.length:=fun l=>by
  induction l with
  | nil=>intro _;exact Nat.le_refl _
  | cons x l ih=>
   intro hl;rw[List.reverse_cons,List.flatten_append,List.flatten_singleton,List.length_append,List.length_cons];have h1:=ih fun p hp=>hl p (List.mem_cons_of_mem _ hp);have h2:=hl x (List.mem_cons_self ..);omega
 have h1:=key (ps.drop k) fun p hp=>h p (List.mem_of_mem_drop hp);rw[List.length_drop] at h1;unfold grpOut;omega
theorem bwrite_calls (B b:Nat)(bs:List Value)(s:ByteArray)(w:World)(h:Lib.IsBuilderF 237 5 B b bs w)(hlen:bs.length+s.size≤140737488355328)(hBw:B≤w.heap.size):
  Calls prog 231 #[.pointer (some ⟨b,0,none⟩),.string s] w fun e w'=>e=.returned (.tuple #[.int .i64 s.size,.nilIface])∧(Lib.BuilderAtF 237 5 B b (.pointer (some ⟨b,0,none⟩)) (bs ++ Lib.strCells s) w'∧Below B w w'∧Lib.OthersKept 5 (some b) w w'):=
 Any.Builder_WriteString_k {Tryz.lays105 with} Tryz.Builder_Extra_105 B b bs s w h hlen hBw
end Go.Proofs.YtnjonlnemagomaaGreatDoor
namespace Go.Proofs.YtnjonlnemagomaaGreatDoor
open Go.RowKit Big Tryz
open Go.Lib (hid)
set_option maxRecDepth 100000
set_option maxHeartbeats 8000000
set_option linter.all false
def DivModF (w:World)(A B:Nat)(e:Ending)(w':World):Prop:=∃ (vq vr:Value) (m n:Nat) (f g:Nat→Nat),e=.returned (.tuple #[vq,vr])∧New w w'∧Wds w' vq m f∧Wds w' vr n g∧
 vf W64 f m*B+vf W64 g n=A∧vf W64 g n < B∧∀ (b off:Nat) (p:Option Nat) (n c:Nat),vq=.slice (some ⟨b,off,p⟩) n c→w.heap.size≤b
theorem divide_lessF (va vb:Value)(m n:Nat)(f g:Nat→Nat)(w:World)(ha:Wds w va m f)(hb:Wds w vb n g)(aa:vf W64 f m < vf W64 g n):
  Calls prog 224 #[va,vb] w (DivModF w (vf W64 f m) (vf W64 g n)):=by
 have hc:cmpNat (vf W64 f m) (vf W64 g n)= -1:=by unfold cmpNat;rw[if_pos aa]
 replace hc:=hid hc;replace aa:=hid aa;go_in;go_wp2_with fail;refine (compareWords_calls va vb m n f g w ha hb).mono ?_;rintro e w' ⟨hn,rfl⟩;rw[hc.out];replace hn:=hid hn;go_wp2_with fail;go_ret2;exact ⟨_,_,0,m,fun _=>0,f,rfl,hn,⟨none,0,⟨rfl,Nat.le_refl _,by omega,fun _=>rfl⟩,Rd.zero _ _ _ _,⟨fun i hi=>by omega,fun h=>absurd rfl h⟩⟩,ha.new hn,by rw[vf_zero,Nat.zero_mul,Nat.zero_add],aa.out,fun b' ab p' n' c' h=>by cases h⟩
theorem divide_oneF (a b:Option Addr) (m ca cb:Nat) (f g:Nat→Nat) (w:World) (hm:m≤1000000) (hm0:0 < m) (h1a:m≤ca) (h1b:ca≤281474976710656) (h1c:a=none→ca=0) (h2a:1≤cb) (h2b:cb≤281474976710656) (h2c:b=none→cb=0)
  (ha:Rd w a .u64 m f) (hb:Rd w b .u64 1 g) (cf:Canon W64 f m) (cg:Canon W64 g 1) (hge:vf W64 g 1≤vf W64 f m):
  Calls prog 224 #[.slice a m ca,.slice b 1 cb] w (DivModF w (vf W64 f m) (vf W64 g 1)):=by
 have ah:=fun W=>run_make_row' (P:=prog) 111 198 (.int .u64 0) 8 underlying111 info_u64 rfl .i64 .i64 m (by omega) (by omega) W;obtain ⟨r,a1,hr⟩:∃ r:Int,0≤r∧cmpNat (vf W64 f m) (vf W64 g 1)=r:=⟨_,by unfold cmpNat;rw[if_neg (by omega)];split <;> omega,rfl⟩;have aw:=hid ah;have ax:=hid hr;have a4:g 0≠0:=cg.top (by omega);have al:g 0 < W64:=cg.lt 0 (by omega)
 have a2:¬r < 0:=by omega
 replace cf:=hid cf;replace cg:=hid cg;clear ah hr hge a1;go_in;go_wp2_with fail;refine (compareWords_calls _ _ m 1 f g w ⟨a,ca,⟨rfl,h1a,h1b,h1c⟩,ha,cf⟩ ⟨b,cb,⟨rfl,h2a,h2b,h2c⟩,hb,cg⟩).mono ?_;rintro e w1 ⟨hn,rfl⟩;rw[ax.out];have ha:=ha.new hn;have hb:=hb.new hn;replace hn:=hid hn;have ah:=aw.out;go_wp2_with fail;clear ah;obtain ⟨B,hB⟩:∃ B,B=w1.heap.size:=⟨_,rfl⟩;have ac:=Row.made w1 .u64 m 198;have ae:New w1 (w1.alloc (.cells (madeCells #[.int .u64 0] m) 198)):=(New.refl w1).alloc _;rw[←hB] at ac⊢;generalize w1.alloc (.cells (madeCells #[.int .u64 0] m) 198)=w2 at ac ae⊢;replace hB:=hid hB
 go_loopw [7,8] (fun sr si wx=>∃ (kk rr:Nat) (q:Nat→Nat),kk≤m∧si=.int .i64 ((kk:Int) - 1)∧sr=.int .u64 rr∧rr < g 0∧New w1 wx∧Row wx B 198 .u64 m q∧(∀ i,q i < W64)∧
  vf W64 (fun i=>q (kk+i)) (m - kk)*g 0+rr=vf W64 (fun i=>f (kk+i)) (m - kk)) (fun _ si _=>(intOf si+1).toNat)
 case atStart=>exact ⟨m,0,fun _=>0,Nat.le_refl _,rfl,rfl,by omega,ae,ac,fun _=>by simp[W64],by rw[Nat.sub_self,vf_zero,vf_zero,Nat.zero_mul]⟩
 case round=>
  clear ac ae;obtain ⟨kk,rr,q,az,rfl,rfl,ai,ab,aa,af,ad⟩:=hrel;replace ad:=hid ad;replace af:=hid af;by_cases hk0:kk=0
  ·subst hk0;simp only[Nat.zero_add,Nat.sub_zero] at ad;go_wp2_with fail;refine (trim_val _ m m q _ (Nat.le_refl _) (by omega) (by simp) aa.rd).mono ?_;rintro e w3 ⟨rfl,rfl⟩;go_wp2_with fail
   have ak:Row (w3.alloc (.cells #[.int .u64 rr] 198)) w3.heap.size 198 .u64 1 fun _=>rr:=World.rowIs_alloc w3 #[.int .u64 rr] 198 _ (fun i hi=>by
    have:i=0:=by simpa using hi
    subst this;rfl)
   have ap:=hn.out.trans (ab.alloc (.cells #[.int .u64 rr] 198));have ag:=aa.alloc (.cells #[.int .u64 rr] 198);refine (trim_val _ 1 1 (fun _=>rr) _ (Nat.le_refl _) (by omega) (by simp) ak.rd).mono ?_;rintro e w4 ⟨rfl,av⟩;have hw:=hid (wds_trim (Nat.le_refl _) (by omega) ag.rd (fun i _=>af i));have au:=hid (wds_trim (Nat.le_refl _) (by omega) ak.rd (fun i _=>Nat.lt_trans ai al));have hv:=hid (trimLen_canon (B:=W64) (f:=q) (len:=m) fun i _=>af i).2;have ar:=hid (trimLen_canon (B:=W64) (f:=fun _=>rr) (len:=1) fun i _=>Nat.lt_trans ai al).2;have aq:=hid ap;rw[←av] at hw au aq;clear ak ag ap av aa ab;go_wp2_with fail;go_ret2
   have e1:vf W64 (fun _=>rr) 1=rr:=by simp[vf]
   have e2:vf W64 g 1=g 0:=by simp[vf]
   refine ⟨_,_,_,_,q,fun _=>rr,rfl,aq.out,hw.out,au.out,?_,?_,fun b' a3 p' n' c' h=>?_⟩
   ·rw[hv.out,ar.out,e1,e2];exact ad
   ·rw[ar.out,e1,e2];exact ai
   ·injection h with h1;injection h1 with h1;injection h1 with h2;rw[←h2,hB.out];exact hn.size
  ·obtain ⟨b1,o1,rfl,e1⟩:=(ha.new ab) (kk - 1) (by omega);obtain ⟨b2,o2,rfl,e2⟩:=(hb.new ab) 0 (by omega);simp only[Nat.add_zero] at e2;have ay:=cf.out.lt (kk - 1) (by omega);have f1:=aa.cell (i:=kk - 1) (by omega);have ff:=aa.frozen (kk - 1);obtain ⟨d,r',hd,a0,hs,aj⟩:=div64_calls' rr (f (kk - 1)) (g 0) ay al ai;refine zh4 ?_ hs aj ab aa;clear hs aj ab aa ha hb;intro HS am an ao;go_wp2_with fail
   go_region_with (go_at_call 255;refine (am _).mono ?_;rintro e w' ⟨rfl,mm,rfl⟩)
   all_goals go_wp2_with fail
   all_goals clear e1 e2 f1 ff
   all_goals
    go_roundw
    case rel=>
     exact ⟨kk - 1,r',upd q (kk - 1) d,by omega,by go_num,rfl,a0,(an.out.drewN _).setCell (by rw[←hB.out];exact Nat.le_refl _) _,(ao.out.drewN _).set _ _,upd_lt af.out hd,div1_digit hk0 az ad.out HS.out⟩
    case measure=>simp[intOf];omega
theorem divide_fresh (va vb:Value)(m:Nat)(f g:Nat→Nat)(w:World)(hm:m≤1000000)(ha:Wds w va m f)(hb:Wds w vb 1 g):
  Calls prog 224 #[va,vb] w (DivModF w (vf W64 f m) (vf W64 g 1)):=by
 rcases Nat.lt_or_ge (vf W64 f m) (vf W64 g 1) with h | h
 ·exact divide_lessF va vb m 1 f g w ha hb h
 ·obtain ⟨a,ca,⟨rfl,aa,ab,ac⟩,ha,cf⟩:=ha;obtain ⟨b,cb,⟨rfl,ad,ae,af⟩,hb,cg⟩:=hb
  have ag:0 < m:=by
   rcases Nat.eq_zero_or_pos m with h3 | h3
   ·exfalso;subst h3;have h4:=cg.ge (by omega);have h5:vf W64 f 0=0:=rfl;have h6:W64^(1 - 1)=1:=rfl;omega
   ·exact h3
  exact divide_oneF a b m ca cb f g w hm ag aa ab ac ad ae af ha hb cf cg h
end Go.Proofs.YtnjonlnemagomaaGreatDoor
