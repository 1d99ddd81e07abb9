/- Part A07. -/
import Derived.Deep.RegionHeld3
import Derived.OrdersHeld
import Derived.StillTail
import Derived.Deep.RegionWith
import Derived.Tactics
import Derived.Test.YtnjonlnemagomaaGreatDoorA06
namespace Go.Proofs.YtnjonlnemagomaaGreatDoor
open Go.RowKit Big Go
open Go.Lib (hid)
set_option maxRecDepth 100000
set_option maxHeartbeats 8000000
theorem mul_signed {x y:Int}{k:Nat}(hk:k=x.natAbs*y.natAbs):signed (decide (x < 0) != decide (y < 0)) k=x*y:=by
 subst hk;unfold signed;rcases Int.lt_or_le x 0 with hx | hx <;> rcases Int.lt_or_le y 0 with hy | hy
 ·have e1:(x.natAbs:Int)= -x:=by omega
  have e2:(y.natAbs:Int)= -y:=by omega
  simp only[hx,hy,Int.natCast_mul,e1,e2];simp[Int.neg_mul,Int.mul_neg]
 ·have e1:(x.natAbs:Int)= -x:=by omega
  have e2:(y.natAbs:Int)=y:=by omega
  have hy':¬y < 0:=by omega
  simp only[hx,hy',Int.natCast_mul,e1,e2];simp[Int.neg_mul]
 ·have e1:(x.natAbs:Int)=x:=by omega
  have e2:(y.natAbs:Int)= -y:=by omega
  have hx':¬x < 0:=by omega
  simp only[hx',hy,Int.natCast_mul,e1,e2];simp[Int.mul_neg]
 ·have e1:(x.natAbs:Int)=x:=by omega
  have e2:(y.natAbs:Int)=y:=by omega
  have hy':¬y < 0:=by omega
  have hx':¬x < 0:=by omega
  simp only[hx',hy',Int.natCast_mul,e1,e2];simp
theorem new3 {w:World}{o o' o'':Obj}:New w (((w.alloc o).alloc o').alloc o''):=(((New.refl w).alloc o).alloc o').alloc o''
theorem new3d {w:World}{o o' o'':Obj}{n:Nat}:New w ((((w.alloc o).alloc o').alloc o'').drewN n):=new3.drewN n
theorem sel0 {a b:World}(h:New a b):New a b:=h
theorem sel1 {a b:World}{n:Nat}(h:New (a.drewN n) b):New a b:=((New.refl a).drewN n).trans h
theorem mul_calls (va vb:Value)(x y:Int)(w:World)(hx:IsInt w va x)(hy:IsInt w vb y)(bx:Bd x)(by':Bd y):Calls Tryz.prog 164 #[va,vb] w (IntPost w (x*y)):=by
 have q1:=eql_nil;have HX:=hid hx;have HY:=hid hy;have BX:=hid bx;have BY:=hid by';clear bx by';rcases hx with ⟨rfl,lo,hi⟩ | ⟨b,off,n,cap,f,s,rfl,hs,hw,h0,hv,hz⟩
 ·rcases hy with ⟨rfl,lo',hi'⟩ | ⟨b',off',n',cap',f',s',rfl,hs',hw',h0',hv',hz'⟩
  ·obtain ⟨hh,ll,hlo,hhi,hml,hmul⟩:=mul64_ex x.natAbs y.natAbs (by unfold W64;omega) (by unfold W64;omega);have s1:=fun w=>(size_calls x w lo hi).mono fun e w' ⟨h1,h2⟩=>(⟨h1,h2.symm⟩:e=_∧w'=w);have s2:=fun w=>(size_calls y w lo' hi').mono fun e w' ⟨h1,h2⟩=>(⟨h1,h2.symm⟩:e=_∧w'=w);have hmul:=fun w=>(hmul w).mono fun e w' ⟨h1,h2⟩=>(⟨h1,h2.symm⟩:e=_∧w'=w);have S1:=hid s1;have S2:=hid s2;have HM:=hid hml;have HMC:=hid hmul;clear s1 s2 hml hmul lo hi lo' hi';go_enter Tryz.func164,Tryz.ntmps164;go_wp2_with fail
   go_quiet ((first
    | (go_at_call_of 216 (Value.int .i64 x);exact Calls.quiet_of_same (S1.out _))
    | (go_at_call_of 216 (Value.int .i64 y);exact Calls.quiet_of_same (S2.out _))
    | (go_at_call 215;exact Calls.quiet_of_same (HMC.out _))))
   by_cases hs:hh=0∧ll≤9223372036854775807
   ·obtain ⟨rfl,hl⟩:=hs
    have hl':(ll:Int)≤9223372036854775807:=by omega
    have hk:ll=x.natAbs*y.natAbs:=by have:=HM.out;omega
    have hsg:signed (!(decide (x < 0)==decide (y < 0))) ll=x*y:=mul_signed hk;have HP:=hid fun w' (hn:New w w') (s:Int) (hs:s=signed (!(decide (x < 0)==decide (y < 0))) ll)=>made_small hn (s:=s) (by rw[hs];unfold signed;split <;> omega) (by rw[hs];unfold signed;split <;> omega) (x*y) (by rw[hs,hsg]);clear hl hk hsg;by_cases hd:decide (x < 0)=decide (y < 0)
    ·have hd1:(decide (x < 0)==decide (y < 0))=true:=by rw[hd];simp
     have hc:IntKind.i64.wrap (ll:Int)=(ll:Int):=by rw[IntKind.wrap_i64];omega
     clear hd;go_wp2_with fail;have ho:=(Own2.alloc ((w.alloc (.cells #[.int .i64 x,.slice none 0 0] 113)).alloc (.cells #[.int .i64 y,.slice none 0 0] 113)) _ 113 (.int .i64 0) (.slice none 0 0) (size_alloc2 w _ _)).new ((New.refl _).drewN nq);have d0:=(ho.set0 (.int .i64 ll)).cells.1;have e1:=((ho.set0 (.int .i64 ll)).set1 (.slice none 0 0)).cells.2.1;refine bodyPost_ret (v:=.agg #[.int .i64 ll,.slice none 0 0]) (by simp[results,Tryz.results164,go_sem,d0,e1]) rfl ?_;exact HP.out _ ((new3d.setCell (by simp;omega) _).setCell (by simp;omega) _) _ (by rw[hd1];rfl)
    ·have hd1:(decide (x < 0)==decide (y < 0))=false:=by simpa using hd
     have hc:IntKind.i64.wrap (ll:Int)=(ll:Int):=by rw[IntKind.wrap_i64];omega
     clear hd;go_wp2_with fail;have ho:=(Own2.alloc ((w.alloc (.cells #[.int .i64 x,.slice none 0 0] 113)).alloc (.cells #[.int .i64 y,.slice none 0 0] 113)) _ 113 (.int .i64 0) (.slice none 0 0) (size_alloc2 w _ _)).new ((New.refl _).drewN nq);have d0:=(ho.set0 (.int .i64 (-(ll:Int)))).cells.1;have e1:=((ho.set0 (.int .i64 (-(ll:Int)))).set1 (.slice none 0 0)).cells.2.1;refine bodyPost_ret (v:=.agg #[.int .i64 (-(ll:Int)),.slice none 0 0]) (by simp[results,Tryz.results164,go_sem,d0,e1]) rfl ?_;exact HP.out _ ((new3d.setCell (by simp;omega) _).setCell (by simp;omega) _) _ (by rw[hd1];rfl)
   ·clear HM;by_cases h0:hh=0
    ·have hl':¬(ll:Int)≤9223372036854775807:=by omega
     subst h0;clear hs;go_wp2_with fail;refine (parts_calls _ x _ (HX.out.new new3d)).mono ?_;rintro e w1 ⟨va,n1,f1,rfl,hn,hw,hv⟩;have hn:=sel1 hn;have ho:=(Own2.alloc _ _ 113 (.int .i64 0) (.slice none 0 0) (size_alloc2 w _ _)).new hn;have hN:=new3.trans hn;have hob:=((Own2.alloc _ _ 113 _ _ (size_alloc w _)).new ((New.refl _).alloc _)).new hn;obtain ⟨i0,i1, -, -⟩:=hob.cells;have HO:=hid ho;have HW:=hid hw;have HV:=hid hv;have HN:=hid hN;clear hn hw hv ho hN hob;go_wp2_with fail;clear i0 i1;refine (parts_calls _ y _ (HY.out.new HN.out)).mono ?_;rintro e w2 ⟨vb,n2,f2,rfl,hn,hw,hv⟩;have hw1:=HW.out.new hn;have la:=hw1.le BX.out HV.out;have lb:=hw.le BY.out hv;have ho:=HO.out.new hn;have hN:=HN.out.trans hn;have HW1:=hid hw1;have HW2:=hid hw;have HV2:=hid hv;have HO2:=hid ho;have HN2:=hid hN;clear hn hw hv ho hN hw1 HO HW HN;go_wp2_with fail;refine (mulWords_calls va vb n1 n2 f1 f2 _ la lb HW1.out HW2.out).mono ?_;rintro e w3 ⟨vc,n3,f3,hn,rfl,hw,hv⟩;have hs3:signed (!(decide (x < 0)==decide (y < 0))) (vf W64 f3 n3)=x*y:=mul_signed (by rw[hv,HV.out,HV2.out]);have ho:=HO2.out.new hn;have hN:=HN2.out.trans hn;have HW3:=hid hw;have HS3:=hid hs3;have HO3:=hid ho;have HN3:=hid hN;clear hn hw hv ho hN hs3 HO2 HN2;go_wp2_with fail;refine (made_calls _ vc n3 f3 _ HW3.out).mono ?_;rintro e w4 ⟨v',rfl,hn,hi⟩;rw[HS3.out] at hi;have ho2:=HO3.out.new hn;have hN2:=HN3.out.trans hn;clear hn;obtain ⟨c0,c1,c2,c3⟩:=ho2.cells;obtain ⟨s',a',l',c',rfl⟩:=hi.shape;have ho3:=ho2.set0 (.int .i64 s');obtain ⟨d0,d1, -,d3⟩:=ho3.cells;have D0:=hid d0;clear d0;obtain ⟨-,e1, -, -⟩:=(ho3.set1 (.slice a' l' c')).cells;have E1:=hid e1;clear ho3 e1;have HP:=hid (stored_post hN2 hi ho2 (by omega));clear hi ho2 hN2;go_wp2_with fail;refine bodyPost_ret (v:=.agg #[.int .i64 s',.slice a' l' c']) (by simp[results,Tryz.results164,go_sem,D0.out,E1.out]) rfl ?_;exact HP.out
    ·have h0':((hh:Int)==0)=false:=by simp;omega
     clear hs h0;go_wp2_with fail;refine (parts_calls _ x _ (HX.out.new new3d)).mono ?_;rintro e w1 ⟨va,n1,f1,rfl,hn,hw,hv⟩;have hn:=sel1 hn;have ho:=(Own2.alloc _ _ 113 (.int .i64 0) (.slice none 0 0) (size_alloc2 w _ _)).new hn;have hN:=new3.trans hn;have hob:=((Own2.alloc _ _ 113 _ _ (size_alloc w _)).new ((New.refl _).alloc _)).new hn;obtain ⟨i0,i1, -, -⟩:=hob.cells;have HO:=hid ho;have HW:=hid hw;have HV:=hid hv;have HN:=hid hN;clear hn hw hv ho hN hob;go_wp2_with fail;clear i0 i1;refine (parts_calls _ y _ (HY.out.new HN.out)).mono ?_;rintro e w2 ⟨vb,n2,f2,rfl,hn,hw,hv⟩;have hw1:=HW.out.new hn;have la:=hw1.le BX.out HV.out;have lb:=hw.le BY.out hv;have ho:=HO.out.new hn;have hN:=HN.out.trans hn;have HW1:=hid hw1;have HW2:=hid hw;have HV2:=hid hv;have HO2:=hid ho;have HN2:=hid hN;clear hn hw hv ho hN hw1 HO HW HN;go_wp2_with fail;refine (mulWords_calls va vb n1 n2 f1 f2 _ la lb HW1.out HW2.out).mono ?_;rintro e w3 ⟨vc,n3,f3,hn,rfl,hw,hv⟩;have hs3:signed (!(decide (x < 0)==decide (y < 0))) (vf W64 f3 n3)=x*y:=mul_signed (by rw[hv,HV.out,HV2.out]);have ho:=HO2.out.new hn;have hN:=HN2.out.trans hn;have HW3:=hid hw;have HS3:=hid hs3;have HO3:=hid ho;have HN3:=hid hN;clear hn hw hv ho hN hs3 HO2 HN2;go_wp2_with fail;refine (made_calls _ vc n3 f3 _ HW3.out).mono ?_;rintro e w4 ⟨v',rfl,hn,hi⟩;rw[HS3.out] at hi;have ho2:=HO3.out.new hn;have hN2:=HN3.out.trans hn;clear hn;obtain ⟨c0,c1,c2,c3⟩:=ho2.cells;obtain ⟨s',a',l',c',rfl⟩:=hi.shape;have ho3:=ho2.set0 (.int .i64 s');obtain ⟨d0,d1, -,d3⟩:=ho3.cells;have D0:=hid d0;clear d0;obtain ⟨-,e1, -, -⟩:=(ho3.set1 (.slice a' l' c')).cells;have E1:=hid e1;clear ho3 e1;have HP:=hid (stored_post hN2 hi ho2 (by omega));clear hi ho2 hN2;go_wp2_with fail;refine bodyPost_ret (v:=.agg #[.int .i64 s',.slice a' l' c']) (by simp[results,Tryz.results164,go_sem,D0.out,E1.out]) rfl ?_;exact HP.out
  ·clear lo hi hs' hw' h0' hv' hz';go_enter Tryz.func164,Tryz.ntmps164;go_wp2_with fail;refine (parts_calls _ x _ (HX.out.new new3)).mono ?_;rintro e w1 ⟨va,n1,f1,rfl,hn,hw,hv⟩;have hn:=sel0 hn;have ho:=(Own2.alloc _ _ 113 (.int .i64 0) (.slice none 0 0) (size_alloc2 w _ _)).new hn;have hN:=new3.trans hn;have hob:=((Own2.alloc _ _ 113 _ _ (size_alloc w _)).new ((New.refl _).alloc _)).new hn;obtain ⟨i0,i1, -, -⟩:=hob.cells;have HO:=hid ho;have HW:=hid hw;have HV:=hid hv;have HN:=hid hN;clear hn hw hv ho hN hob;go_wp2_with fail;clear i0 i1;refine (parts_calls _ y _ (HY.out.new HN.out)).mono ?_;rintro e w2 ⟨vb,n2,f2,rfl,hn,hw,hv⟩;have hw1:=HW.out.new hn;have la:=hw1.le BX.out HV.out;have lb:=hw.le BY.out hv;have ho:=HO.out.new hn;have hN:=HN.out.trans hn;have HW1:=hid hw1;have HW2:=hid hw;have HV2:=hid hv;have HO2:=hid ho;have HN2:=hid hN;clear hn hw hv ho hN hw1 HO HW HN;go_wp2_with fail;refine (mulWords_calls va vb n1 n2 f1 f2 _ la lb HW1.out HW2.out).mono ?_;rintro e w3 ⟨vc,n3,f3,hn,rfl,hw,hv⟩;have hs3:signed (!(decide (x < 0)==decide (y < 0))) (vf W64 f3 n3)=x*y:=mul_signed (by rw[hv,HV.out,HV2.out]);have ho:=HO2.out.new hn;have hN:=HN2.out.trans hn;have HW3:=hid hw;have HS3:=hid hs3;have HO3:=hid ho;have HN3:=hid hN;clear hn hw hv ho hN hs3 HO2 HN2;go_wp2_with fail;refine (made_calls _ vc n3 f3 _ HW3.out).mono ?_;rintro e w4 ⟨v',rfl,hn,hi⟩;rw[HS3.out] at hi;have ho2:=HO3.out.new hn;have hN2:=HN3.out.trans hn;clear hn;obtain ⟨c0,c1,c2,c3⟩:=ho2.cells;obtain ⟨s',a',l',c',rfl⟩:=hi.shape;have ho3:=ho2.set0 (.int .i64 s');obtain ⟨d0,d1, -,d3⟩:=ho3.cells;have D0:=hid d0;clear d0;obtain ⟨-,e1, -, -⟩:=(ho3.set1 (.slice a' l' c')).cells;have E1:=hid e1;clear ho3 e1;have HP:=hid (stored_post hN2 hi ho2 (by omega));clear hi ho2 hN2;go_wp2_with fail;refine bodyPost_ret (v:=.agg #[.int .i64 s',.slice a' l' c']) (by simp[results,Tryz.results164,go_sem,D0.out,E1.out]) rfl ?_;exact HP.out
 ·clear hs hw h0 hv hz hy;obtain ⟨s',a',l',c',rfl⟩:=HY.out.shape;go_enter Tryz.func164,Tryz.ntmps164;go_wp2_with fail;refine (parts_calls _ x _ (HX.out.new new3)).mono ?_;rintro e w1 ⟨va,n1,f1,rfl,hn,hw,hv⟩;have hn:=sel0 hn;have ho:=(Own2.alloc _ _ 113 (.int .i64 0) (.slice none 0 0) (size_alloc2 w _ _)).new hn;have hN:=new3.trans hn;have hob:=((Own2.alloc _ _ 113 _ _ (size_alloc w _)).new ((New.refl _).alloc _)).new hn;obtain ⟨i0,i1, -, -⟩:=hob.cells;have HO:=hid ho;have HW:=hid hw;have HV:=hid hv;have HN:=hid hN;clear hn hw hv ho hN hob;go_wp2_with fail;clear i0 i1;refine (parts_calls _ y _ (HY.out.new HN.out)).mono ?_;rintro e w2 ⟨vb,n2,f2,rfl,hn,hw,hv⟩;have hw1:=HW.out.new hn;have la:=hw1.le BX.out HV.out;have lb:=hw.le BY.out hv;have ho:=HO.out.new hn;have hN:=HN.out.trans hn;have HW1:=hid hw1;have HW2:=hid hw;have HV2:=hid hv;have HO2:=hid ho;have HN2:=hid hN;clear hn hw hv ho hN hw1 HO HW HN;go_wp2_with fail;refine (mulWords_calls va vb n1 n2 f1 f2 _ la lb HW1.out HW2.out).mono ?_;rintro e w3 ⟨vc,n3,f3,hn,rfl,hw,hv⟩;have hs3:signed (!(decide (x < 0)==decide (y < 0))) (vf W64 f3 n3)=x*y:=mul_signed (by rw[hv,HV.out,HV2.out]);have ho:=HO2.out.new hn;have hN:=HN2.out.trans hn;have HW3:=hid hw;have HS3:=hid hs3;have HO3:=hid ho;have HN3:=hid hN;clear hn hw hv ho hN hs3 HO2 HN2;go_wp2_with fail;refine (made_calls _ vc n3 f3 _ HW3.out).mono ?_;rintro e w4 ⟨v',rfl,hn,hi⟩;rw[HS3.out] at hi;have ho2:=HO3.out.new hn;have hN2:=HN3.out.trans hn;clear hn;obtain ⟨c0,c1,c2,c3⟩:=ho2.cells;obtain ⟨s',a',l',c',rfl⟩:=hi.shape;have ho3:=ho2.set0 (.int .i64 s');obtain ⟨d0,d1, -,d3⟩:=ho3.cells;have D0:=hid d0;clear d0;obtain ⟨-,e1, -, -⟩:=(ho3.set1 (.slice a' l' c')).cells;have E1:=hid e1;clear ho3 e1;have HP:=hid (stored_post hN2 hi ho2 (by omega));clear hi ho2 hN2;go_wp2_with fail;refine bodyPost_ret (v:=.agg #[.int .i64 s',.slice a' l' c']) (by simp[results,Tryz.results164,go_sem,D0.out,E1.out]) rfl ?_;exact HP.out
theorem New.undrew {a b:World}(h:New a.drew b):New a b:=((New.refl a).drew).trans h
def NotU (v:Value):Prop:=∀ x:Int,v≠.int .u64 x
theorem NotU.slice (a:Option Addr)(l c:Nat):NotU (.slice a l c):=fun _ h=>by cases h
theorem NotU.i64 (n:Int):NotU (.int .i64 n):=fun _ h=>by cases h
theorem NotU.string (s:ByteArray):NotU (.string s):=fun _ h=>by cases h
theorem NotU.bool (b:Bool):NotU (.bool b):=fun _ h=>by cases h
theorem NotU.float (k:FloatKind)(b:Nat):NotU (.float k b):=fun _ h=>by cases h
theorem NotU.pointer (a:Option Addr):NotU (.pointer a):=fun _ h=>by cases h
theorem NotU.map (a:Option Nat):NotU (.map a):=fun _ h=>by cases h
theorem NotU.func (f:Fn)(a b:Array Value):NotU (.func f a b):=fun _ h=>by cases h
def NoDig (w:World)(B:Nat):Prop:=B < w.heap.size∧∀ o x,w.cell? ⟨B,o,none⟩≠some (.int .u64 x)
theorem NoDig.new {a b:World}{B:Nat}(h:NoDig a B)(hn:New a b):NoDig b B:=
 ⟨Nat.lt_of_lt_of_le h.1 hn.size,fun o x=>by rw[hn.cells B o h.1];exact h.2 o x⟩
theorem noDig_alloc (w:World)(cs:Array Value)(t:TypeId)(hc:∀ v,v∈cs→NotU v):NoDig (w.alloc (.cells cs t)) w.heap.size:=by
 refine ⟨by rw[←size_alloc];omega,fun o x h=>?_⟩;have:(w.alloc (.cells cs t)).cell? ⟨w.heap.size,o,none⟩=cs[o]?:=World.cell?_alloc_new w cs t o;rw[this] at h;exact hc _ (Array.mem_of_getElem? h) x rfl
theorem cell?_setCell_or (w:World)(p q:Addr)(u v:Value)(h:(w.setCell p u).cell? q=some v):v=u∨w.cell? q=some v:=by
 by_cases e:p=q
 ·subst e
  cases hc:w.cell? p with
  | some x=>
   rw[World.cell?_setCell_same' w p u (by rw[hc];rfl)] at h;exact .inl (Option.some.inj h).symm
  | none=>
   obtain ⟨x,hx⟩:∃ x,w.heap[p.block]?=x:=⟨_,rfl⟩;simp only[World.cell?,World.setCell,Array.getElem?_modify,if_true,hx] at h hc
   cases x with
   | none=>simp at h
   | some o=>
    cases o with
    | cells c t f=>
     simp only[Option.map_some]at h hc;split at h
     ·simp at h
     ·rename_i hs;rw[if_neg hs] at hc;simp only[Array.getElem?_setIfInBounds] at h
      have:¬p.off < c.size:=by
       have:c.size≤p.off:=by simpa using hc
       omega
      simp[this]at h
    | _=>simp at h
 ·right
  rwa [World.cell?_setCell_other (h:=e)] at h
theorem NoDig.set {w:World}{B:Nat}(h:NoDig w B)(p:Addr){u:Value}(hu:NotU u):NoDig (w.setCell p u) B:=by
 refine ⟨by simpa using h.1,fun o x hc=>?_⟩;rcases cell?_setCell_or w p _ u _ hc with h1 | h1
 ·exact hu x h1.symm
 ·exact h.2 o x h1
theorem Rd.set {w:World}{a:Option Addr}{n:Nat}{f:Nat→Nat}(h:Rd w a .u64 n f){p:Addr}(hp:NoDig w p.block)(u:Value):Rd (w.setCell p u) a .u64 n f:=fun i hi=>by
 obtain ⟨b,off,e,hc⟩:=h i hi;refine ⟨b,off,e,?_⟩
 have:p.block≠b:=by
  rintro rfl;exact hp.2 _ _ hc
 rw[World.cell?_setCell_far _ _ _ _ (by exact this)];exact hc
theorem IsInt.set {w:World}{v:Value}{z:Int}(h:IsInt w v z){p:Addr}(hp:NoDig w p.block)(u:Value):IsInt (w.setCell p u) v z:=by
 rcases h with ⟨h,lo,hi⟩ | ⟨b,off,n,cap,f,s,h,hs,hw,h0,hv,hz⟩
 ·exact .small h lo hi
 ·obtain ⟨a,cap',h1,h2,h3⟩:=hw;exact .big b off n cap f s h hs ⟨a,cap',h1,h2.set hp u,h3⟩ h0 hv hz
theorem Box.noDig {w:World}{B:Nat}{t:TypeId}{cs:Array Value}(h:Box w B t cs)(hc:∀ v,v∈cs→NotU v):NoDig w B:=
 ⟨h.lt,fun o x e=>by
  rw[h.cell o]at e
  exact hc _ (Array.mem_of_getElem? e) x rfl⟩
theorem Box.noDig2 {w:World}{B:Nat}{t:TypeId}{s:Int}{a:Option Addr}{l c:Nat}(h:Box w B t #[.int .i64 s,.slice a l c]):NoDig w B:=
 h.noDig fun v hv=>by
  simp at hv;rcases hv with rfl | rfl
  ·exact .i64 s
  ·exact .slice a l c
theorem Box.noDig4 {w:World}{B:Nat}{t:TypeId}{s:Int}{a:Option Addr}{l c:Nat}{s':Int}{a':Option Addr}{l' c':Nat}(h:Box w B t #[.int .i64 s,.slice a l c,.int .i64 s',.slice a' l' c']):NoDig w B:=
 h.noDig fun v hv=>by
  simp at hv;rcases hv with rfl | rfl | rfl | rfl
  ·exact .i64 s
  ·exact .slice a l c
  ·exact .i64 s'
  ·exact .slice a' l' c'
theorem IsInt.put2 {w:World}{v:Value}{z:Int}(h:IsInt w v z){B:Nat}{t:TypeId}{s:Int}{a:Option Addr}{l c:Nat}(hb:Box w B t #[.int .i64 s,.slice a l c])(n:Int)(b:Option Addr)(m k:Nat):
  IsInt ((w.setCell ⟨B,0,none⟩ (.int .i64 n)).setCell ⟨B,1,none⟩ (.slice b m k)) v z:=
 (h.set (p:=⟨B,0,none⟩) hb.noDig2 _).set (p:=⟨B,1,none⟩) (hb.noDig2.set _ (.i64 n)) _
theorem IsInt.put4 {w:World}{v:Value}{z:Int}(h:IsInt w v z){B:Nat}{t:TypeId}{s s':Int}{a a':Option Addr}{l c l' c':Nat}(hb:Box w B t #[.int .i64 s,.slice a l c,.int .i64 s',.slice a' l' c'])(n n':Int)(b b':Option Addr)(m k m' k':Nat):
  IsInt ((((w.setCell ⟨B,0,none⟩ (.int .i64 n)).setCell ⟨B,1,none⟩ (.slice b m k)).setCell ⟨B,2,none⟩ (.int .i64 n')).setCell ⟨B,3,none⟩ (.slice b' m' k')) v z:=
 (((h.set (p:=⟨B,0,none⟩) hb.noDig4 _).set (p:=⟨B,1,none⟩) (hb.noDig4.set _ (.i64 n)) _).set (p:=⟨B,2,none⟩) ((hb.noDig4.set _ (.i64 n)).set _ (.slice b m k)) _).set (p:=⟨B,3,none⟩) (((hb.noDig4.set _ (.i64 n)).set _ (.slice b m k)).set _ (.i64 n')) _
theorem New.put2 {a w:World}(h:New a w){B:Nat}(hB:a.heap.size≤B)(u u':Value):New a ((w.setCell ⟨B,0,none⟩ u).setCell ⟨B,1,none⟩ u'):=(h.setCell hB _).setCell hB _
theorem New.put4 {a w:World}(h:New a w){B:Nat}(hB:a.heap.size≤B)(u u' v v':Value):New a ((((w.setCell ⟨B,0,none⟩ u).setCell ⟨B,1,none⟩ u').setCell ⟨B,2,none⟩ v).setCell ⟨B,3,none⟩ v'):=(((h.setCell hB _).setCell hB _).setCell hB _).setCell hB _
theorem Bd.le {z z':Int}(h:Bd z)(hl:z'.natAbs≤z.natAbs):Bd z':=by
 obtain ⟨k,h1,h2⟩:=h;exact ⟨k,h1,by omega⟩
theorem Bd.small {z:Int}(lo: -9223372036854775808≤z)(hi:z≤9223372036854775807):Bd z:=⟨64,by omega,by
 have:(2:Nat)^64=18446744073709551616:=by decide
 omega⟩
theorem Box.other2 {w:World}{B B':Nat}{t:TypeId}{cs:Array Value}(h:Box w B t cs)(hp:B'≠B)(u u':Value):Box ((w.setCell ⟨B',0,none⟩ u).setCell ⟨B',1,none⟩ u') B t cs:=
 (h.other (p:=⟨B',0,none⟩) hp u).other (p:=⟨B',1,none⟩) hp u'
theorem Box.away {w:World}{B B':Nat}{t t':TypeId}{cs cs':Array Value}(h:Box w B t cs)(_h':Box w B' t' cs')(hp:B'≠B)(u u':Value):Box ((w.setCell ⟨B',0,none⟩ u).setCell ⟨B',1,none⟩ u') B t cs:=
 h.other2 hp u u'
theorem New.putAt {a w:World}(h:New a w){B:Nat}{t:TypeId}{cs:Array Value}(_hb:Box w B t cs)(hB:a.heap.size≤B)(u u':Value):New a ((w.setCell ⟨B,0,none⟩ u).setCell ⟨B,1,none⟩ u'):=h.put2 hB u u'
section
variable {P:Program} {ops:Array Oper} {Q:Exit→Act→World→Prop} {md:Region.Mode} {S:World→Prop}
def wpT (P:Program)(md:Region.Mode)(ops:Array Oper)(Q:Exit→Act→World→Prop)(S:World→Prop)(n:Nat):Nat→Array Bool→Act→World→Prop
 | 0,listed,a,w=>Region.ready md ops listed=[]∧Q .normal a w
 | fuel+1,listed,a,w=>
  (Region.ready md ops listed=[]→Q .normal a w)∧
  ∀ i∈Region.ready md ops listed,wpOp P ops Q i (fun a' w'=>(i < n→S w')∧wpT P md ops Q S n fuel (listed.setIfInBounds i true) a' w') a w
theorem wpAny_of_T {n:Nat}:∀ (fuel:Nat) (listed:Array Bool) (a:Act) (w:World),wpT P md ops Q S n fuel listed a w→wpAny P md ops Q fuel listed a w
 | 0,_,_,_,h=>h
 | fuel+1,_,_,_,h=>⟨h.1,fun i hi=>wpOp_mono (fun a' w' h'=>wpAny_of_T fuel _ a' w' h'.2) (h.2 i hi)⟩
theorem wpT_first {n i:Nat} {oi:Oper} {v:Value} (hi:ops[i]?=some oi) (hsel:∀ (j:Nat) (o:Oper) cs b,ops[j]?=some o→o.op≠.select cs b)
  (hs:Region.sinkB md ops n=true) (hc:Region.chainB md ops n=true) (hn:n < ops.size) (hin:i < n)
  (hQ:∀ c a w,Q (.panic c) (a.put oi.dst v) w→Q (.panic c) a w):
  ∀ (fuel:Nat) (listed:Array Bool) (a:Act) (w:World),HeadInv md ops n listed→
   (∀ j oj,ops[j]?=some oj→j≠i→listed.getD j true=false→(∀ e∈oj.after,Region.binds md e=true→e.on≠i)→oi.apart ops oj=true)→
   i∈Region.ready md ops listed→YieldsIf P ops S oi v a→S w→
   wpT P md ops Q S n fuel (listed.setIfInBounds i true) (a.put oi.dst v) w→wpT P md ops Q S n (fuel+1) listed a w:=by
 intro fuel
 induction fuel with
 | zero=>
  intro listed a w _ _ hr hy hS H;refine ⟨fun h=>(by rw[h] at hr;cases hr),fun j hj=>?_⟩;by_cases hji:j=i
  ·subst hji;exact hy.wpOp hi hS ⟨fun _=>hS,H⟩
  ·have:=ready_mono hj hji;rw[H.1] at this
   cases this
 | succ fuel ih=>
  intro listed a w inv hfree hr hy hS H;have hun:=(mem_ready.1 hr).1;refine ⟨fun h=>(by rw[h] at hr;cases hr),fun j hj=>?_⟩
  have hjn:j < n:=by
   rcases Nat.lt_or_ge j n with h | h
   ·exact h
   ·exact absurd hj (tail_waits hs hc hn inv _ i rfl hin hun j h)
  by_cases hji:j=i
  ·subst hji;exact hy.wpOp hi hS ⟨fun _=>hS,H⟩
  ·have h1:=H.2 j (ready_mono hj hji);obtain ⟨hjun,oj,hoj,hall⟩:=mem_ready.1 hj
   have hnot:∀ e∈oj.after,Region.binds md e=true→e.on≠i:=fun e he hb heq=>by
    have h1:=hall e he hb;rw[heq,getD_both hun] at h1
    cases h1
   have h2:=wpOp_putIf hoj (hfree j oj hoj hji hjun hnot) (fun cs b=>hsel i oi cs b hi) (fun cs b=>hsel j oj cs b hoj) hQ hy h1
   have hfree':∀ k ok,ops[k]?=some ok→k≠i→(listed.setIfInBounds j true).getD k true=false→
     (∀ e∈ok.after,Region.binds md e=true→e.on≠i)→oi.apart ops ok=true:=fun k ok hk hki hun hno=>by
    refine hfree k ok hk hki ?_ hno;by_cases hjk:j=k
    ·subst hjk;exact hjun
    ·rw[getD_set_ne true hjk] at hun;exact hun
   refine wpOp_mono (fun a' w' h3=>⟨h3.2.1,ih (listed.setIfInBounds j true) a' w' (inv.set hj hjn) hfree' (ready_mono hr (Ne.symm hji)) h3.1 (h3.2.1 hjn) ?_⟩) h2;rw[Array.setIfInBounds_comm _ _ hji];exact h3.2.2
def headB (md:Region.Mode)(ops:Array Oper)(n:Nat)(listed:Array Bool):Bool:=
 listed.size==ops.size &&
 ((List.range ops.size).all fun j=>!listed.getD j false || (match ops[j]? with | some oj=>oj.after.all fun e=>!Region.binds md e || listed.getD e.on false | none=>true)) &&
 (List.range ops.size).all fun t=>t < n || !listed.getD t true
theorem headB_spec {n:Nat}{listed:Array Bool}(h:headB md ops n listed=true):HeadInv md ops n listed:=by
 simp only[headB,Bool.and_eq_true,beq_iff_eq]at h;obtain ⟨⟨h1,h2⟩,h3⟩:=h;refine ⟨h1,fun j oj hj hl e he hb=>?_,fun t ht ht'=>?_⟩
 ·have hjs:j < ops.size:=(Array.getElem?_eq_some_iff.1 hj).1;have:=List.all_eq_true.1 h2 j (List.mem_range.2 hjs);rw[hl,hj] at this;simp only[Bool.not_true,Bool.false_or] at this;have:=Array.all_eq_true'.1 this e he;rw[hb] at this;simpa using this
 ·have:=List.all_eq_true.1 h3 t (List.mem_range.2 ht')
  have h4:decide (t < n)=false:=by simp;omega
  rw[h4]at this;simpa using this
def takeB (md:Region.Mode)(ops:Array Oper)(n:Nat)(listed:Array Bool)(i:Nat):Bool:=
 Region.noSelect ops && Region.sinkB md ops n && Region.chainB md ops n && decide (n < ops.size) && decide (i < n) && Region.free md ops listed i && (Region.ready md ops listed).contains i && headB md ops n listed
theorem wpT_take {n:Nat} (i:Nat) {oi:Oper} {v:Value} {fuel:Nat} {listed:Array Bool} {a:Act} {w:World} (hi:ops[i]?=some oi) (hB:takeB md ops n listed i=true)
  (hQ:∀ c a w,Q (.panic c) (a.put oi.dst v) w→Q (.panic c) a w) (hS:S w) (hy:YieldsIf P ops S oi v a)
  (h:wpT P md ops Q S n fuel (listed.setIfInBounds i true) (a.put oi.dst v) w):wpT P md ops Q S n (fuel+1) listed a w:=by
 simp only[takeB,Bool.and_eq_true,decide_eq_true_eq]at hB;obtain ⟨⟨⟨⟨⟨⟨⟨h1,h2⟩,h3⟩,h4⟩,h5⟩,h6⟩,h7⟩,h8⟩:=hB;exact wpT_first hi (Region.noSelect_spec h1) h2 h3 h4 h5 hQ fuel listed a w (headB_spec h8) (Region.free_spec hi h6) (by simpa using h7) hy hS h
theorem tk {n:Nat} (i:Nat) {oi:Oper} {v:Value} {fuel:Nat} {listed:Array Bool} {a:Act} {w:World} (hS:S w) (h:wpT P md ops Q S n fuel (listed.setIfInBounds i true) (a.put oi.dst v) w)
  (hi:ops[i]?=some oi:=by rfl) (hB:takeB md ops n listed i=true:=by kernel_rfl) (hw:Region.wanted oi (yielded ops a.tmps)=true:=by first | kernel_rfl | rfl)
  (hy:∀ W,S W→(execOp a.eval oi).run P W=.ok (.value v) W:=by (intro W hW;(try dsimp only at hW);go_simp;try with_reducible rfl))
  (hQ:∀ c a w,Q (.panic c) (a.put oi.dst v) w→Q (.panic c) a w:=by exact fun _ _ _ h=>h):wpT P md ops Q S n (fuel+1) listed a w:=
 wpT_take i hi hB hQ hS (Or.inl ⟨hw,hy⟩) h
theorem wpT_one {n:Nat} (i:Nat) {oi:Oper} {fuel:Nat} {listed:Array Bool} {a:Act} {w:World} (hi:ops[i]?=some oi) (hr:Region.ready md ops listed=[i])
  (h:∀ K':Act→World→Prop,Shut (∀ a w,(i < n→S w)→wpT P md ops Q S n fuel (listed.setIfInBounds i true) a w→K' a w)→if Region.wanted oi (yielded ops a.tmps)=true then Oper.wp P oi a w K' Q else K' (a.put oi.dst undef) w):
  wpT P md ops Q S n (fuel+1) listed a w:=by
 refine ⟨fun h0=>(by rw[hr] at h0;cases h0),fun j hj=>?_⟩;rw[hr] at hj
 obtain rfl:j=i:=by simpa using hj
 exact wpOp_step hi fun K' hK=>h K' fun a w hS hW=>hK a w ⟨hS,hW⟩
theorem wpT_two {n:Nat} (i j:Nat) {oi oj:Oper} {fuel:Nat} {listed:Array Bool} {a:Act} {w:World} (hi:ops[i]?=some oi) (hj:ops[j]?=some oj) (hr:Region.ready md ops listed=[i,j])
  (h1:∀ K':Act→World→Prop,Shut (∀ a w,(i < n→S w)→wpT P md ops Q S n fuel (listed.setIfInBounds i true) a w→K' a w)→if Region.wanted oi (yielded ops a.tmps)=true then Oper.wp P oi a w K' Q else K' (a.put oi.dst undef) w)
  (h2:∀ K':Act→World→Prop,Shut (∀ a w,(j < n→S w)→wpT P md ops Q S n fuel (listed.setIfInBounds j true) a w→K' a w)→if Region.wanted oj (yielded ops a.tmps)=true then Oper.wp P oj a w K' Q else K' (a.put oj.dst undef) w):
  wpT P md ops Q S n (fuel+1) listed a w:=by
 refine ⟨fun h0=>(by rw[h0] at hr;cases hr),fun k hk=>?_⟩;rw[hr] at hk
 have:k=i∨k=j:=by simpa using hk
 rcases this with rfl | rfl
 ·exact wpOp_step hi fun K' hK=>h1 K' fun a w hS hW=>hK a w ⟨hS,hW⟩
 ·exact wpOp_step hj fun K' hK=>h2 K' fun a w hS hW=>hK a w ⟨hS,hW⟩
theorem wpT_three {n:Nat} (i j k:Nat) {oi oj ok:Oper} {fuel:Nat} {listed:Array Bool} {a:Act} {w:World} (hi:ops[i]?=some oi) (hj:ops[j]?=some oj) (hk:ops[k]?=some ok) (hr:Region.ready md ops listed=[i,j,k])
  (h1:∀ K':Act→World→Prop,Shut (∀ a w,(i < n→S w)→wpT P md ops Q S n fuel (listed.setIfInBounds i true) a w→K' a w)→if Region.wanted oi (yielded ops a.tmps)=true then Oper.wp P oi a w K' Q else K' (a.put oi.dst undef) w)
  (h2:∀ K':Act→World→Prop,Shut (∀ a w,(j < n→S w)→wpT P md ops Q S n fuel (listed.setIfInBounds j true) a w→K' a w)→if Region.wanted oj (yielded ops a.tmps)=true then Oper.wp P oj a w K' Q else K' (a.put oj.dst undef) w)
  (h3:∀ K':Act→World→Prop,Shut (∀ a w,(k < n→S w)→wpT P md ops Q S n fuel (listed.setIfInBounds k true) a w→K' a w)→if Region.wanted ok (yielded ops a.tmps)=true then Oper.wp P ok a w K' Q else K' (a.put ok.dst undef) w):
  wpT P md ops Q S n (fuel+1) listed a w:=by
 refine ⟨fun h0=>(by rw[h0] at hr;cases hr),fun m hm=>?_⟩;rw[hr] at hm
 have:m=i∨m=j∨m=k:=by simpa using hm
 rcases this with rfl | rfl | rfl
 ·exact wpOp_step hi fun K' hK=>h1 K' fun a w hS hW=>hK a w ⟨hS,hW⟩
 ·exact wpOp_step hj fun K' hK=>h2 K' fun a w hS hW=>hK a w ⟨hS,hW⟩
 ·exact wpOp_step hk fun K' hK=>h3 K' fun a w hS hW=>hK a w ⟨hS,hW⟩
theorem wpT_seq {n:Nat}:∀ (l:List Oper) (k:Nat) (listed:Array Bool) (a:Act) (w:World),n≤k→(∀ j,l[j]?=ops[k+j]?)→
  Region.seqB md ops l.length k listed=true→wpList P ops Q l a w→wpT P md ops Q S n l.length listed a w
 | [],_,_,_,_,_,_,hB,h=>⟨by simpa[Region.seqB] using hB,h⟩
 | o::l,k,listed,a,w,hk,hl,hB,h=>by
  have h0:ops[k]?=some o:=by simpa using (hl 0).symm
  simp only[List.length_cons,Region.seqB,Bool.and_eq_true,decide_eq_true_eq]at hB;refine ⟨fun h1=>(by rw[hB.1] at h1;cases h1),fun i hi=>?_⟩;rw[hB.1] at hi
  obtain rfl:i=k:=by simpa using hi
  have hw:wpOp P ops Q i (wpList P ops Q l) a w:=by unfold wpOp;simp only[h0];exact h
  exact wpOp_mono (fun a' w' h'=>⟨fun h=>by omega,wpT_seq l (i+1) _ a' w' (by omega) (fun j=>by have:=hl (j+1);simpa[Nat.add_assoc,Nat.add_comm 1 j] using this) hB.2 h'⟩) hw
theorem wpT_tail {n fuel:Nat}{listed:Array Bool}{a:Act}{w:World}(hf:(ops.toList.drop n).length=fuel)(hB:Region.seqB md ops (ops.toList.drop n).length n listed=true)(h:wpList P ops Q (ops.toList.drop n) a w):wpT P md ops Q S n fuel listed a w:=by
 subst hf;exact wpT_seq _ n listed a w (Nat.le_refl _) (fun j=>by simp[List.getElem?_drop]) hB h
theorem wp_region_T {id:Nat}{a:Act}{w:World}(n:Nat)(S:World→Prop)(N:Nat)(L:Array Bool)(hN:ops.size=N)(hL:Array.replicate N false=L)(hm:P.follows .mixedOrders=true)(h:wpT P .any ops Q S n N L a w.drew):(Code.region id ops true).wp P Q a w:=by
 subst hN hL;exact wp_region_any hm (wpAny_of_T _ _ _ _ h)
end
end Go.Proofs.YtnjonlnemagomaaGreatDoor
