/- Part B06. -/
import Derived.Deep.RegionHeld3
import Derived.Test.YtnjonlnemagomaaGreatDoorB05
namespace Go.Proofs.YtnjonlnemagomaaGreatDoor
open Go.RowKit Big
open Go.Lib (hid)
set_option maxRecDepth 100000
set_option maxHeartbeats 8000000
theorem y50 {x y:Int}{k:Nat}(hk:k=x.natAbs*y.natAbs):signed (decide (x < 0) != decide (y < 0)) k=x*y:=by
 subst hk;unfold signed;rcases Int.lt_or_le x 0 with hx | hx <;> rcases Int.lt_or_le y 0 with hy | hy
 ·have e1:(x.natAbs:Int)= -x:=by omega
  have e2:(y.natAbs:Int)= -y:=by omega
  simp only[hx,hy,Int.natCast_mul,e1,e2];simp[Int.neg_mul,Int.mul_neg]
 ·have e1:(x.natAbs:Int)= -x:=by omega
  have e2:(y.natAbs:Int)=y:=by omega
  have hy':¬y < 0:=by omega
  simp only[hx,hy',Int.natCast_mul,e1,e2];simp[Int.neg_mul]
 ·have e1:(x.natAbs:Int)=x:=by omega
  have e2:(y.natAbs:Int)= -y:=by omega
  have hx':¬x < 0:=by omega
  simp only[hx',hy,Int.natCast_mul,e1,e2];simp[Int.mul_neg]
 ·have e1:(x.natAbs:Int)=x:=by omega
  have e2:(y.natAbs:Int)=y:=by omega
  have hy':¬y < 0:=by omega
  have hx':¬x < 0:=by omega
  simp only[hx',hy',Int.natCast_mul,e1,e2];simp
theorem new3 {w:World}{o o' o'':Obj}:New w (((w.alloc o).alloc o').alloc o''):=(((New.refl w).alloc o).alloc o').alloc o''
theorem yms {w:World}{o o' o'':Obj}{n:Nat}:New w ((((w.alloc o).alloc o').alloc o'').drewN n):=new3.drewN n
theorem sel0 {a b:World}(h:New a b):New a b:=h
theorem sel1 {a b:World}{n:Nat}(h:New (a.drewN n) b):New a b:=((New.refl a).drewN n).trans h
theorem y0u (va vb:Value)(x y:Int)(w:World)(hx:y06 w va x)(hy:y06 w vb y)(bx:Bd x)(by':Bd y):Calls Tryz.prog 164 #[va,vb] w (y0l w (x*y)):=by
 have q1:=y4d;have HX:=hid hx;have HY:=hid hy;have BX:=hid bx;have BY:=hid by';clear bx by';rcases hx with ⟨rfl,lo,hi⟩ | ⟨b,off,n,cap,f,s,rfl,hs,hw,h0,hv,hz⟩
 ·rcases hy with ⟨rfl,lo',hi'⟩ | ⟨b',off',n',cap',f',s',rfl,hs',hw',h0',hv',hz'⟩
  ·obtain ⟨hh,ll,hlo,hhi,hml,hmul⟩:=y8o x.natAbs y.natAbs (by unfold W64;omega) (by unfold W64;omega);have s1:=fun w=>(y81 x w lo hi).mono fun e w' ⟨h1,h2⟩=>(⟨h1,h2.symm⟩:e=_/\w'=w);have s2:=fun w=>(y81 y w lo' hi').mono fun e w' ⟨h1,h2⟩=>(⟨h1,h2.symm⟩:e=_/\w'=w);have hmul:=fun w=>(hmul w).mono fun e w' ⟨h1,h2⟩=>(⟨h1,h2.symm⟩:e=_/\w'=w);have S1:=hid s1;have S2:=hid s2;have HM:=hid hml;have HMC:=hid hmul;clear s1 s2 hml hmul lo hi lo' hi';go_enter Tryz.func164,Tryz.ntmps164;go_wp2_with fail
   go_quiet ((first
    | (go_at_call_of 216 (Value.int .i64 x);exact Calls.quiet_of_same (S1.out _))
    | (go_at_call_of 216 (Value.int .i64 y);exact Calls.quiet_of_same (S2.out _))
    | (go_at_call 215;exact Calls.quiet_of_same (HMC.out _))))
   by_cases hs:hh=0/\ll<=9223372036854775807
   ·obtain ⟨rfl,hl⟩:=hs
    have hl':(ll:Int)<=9223372036854775807:=by omega
    have hk:ll=x.natAbs*y.natAbs:=by have:=HM.out;omega
    have hsg:signed (!(decide (x < 0)==decide (y < 0))) ll=x*y:=y50 hk;have HP:=hid fun w' (hn:New w w') (s:Int) (hs:s=signed (!(decide (x < 0)==decide (y < 0))) ll)=>y52 hn (s:=s) (by rw[hs];unfold signed;split <;> omega) (by rw[hs];unfold signed;split <;> omega) (x*y) (by rw[hs,hsg]);clear hl hk hsg;by_cases hd:decide (x < 0)=decide (y < 0)
    ·have hd1:(decide (x < 0)==decide (y < 0))=true:=by rw[hd];simp
     have hc:IntKind.i64.wrap (ll:Int)=(ll:Int):=by rw[IntKind.wrap_i64];omega
     clear hd;go_wp2_with fail;have ho:=(Own2.alloc ((w.alloc (.cells #[.int .i64 x,.slice none 0 0] 113)).alloc (.cells #[.int .i64 y,.slice none 0 0] 113)) _ 113 (.int .i64 0) (.slice none 0 0) (y1s w _ _)).new ((New.refl _).drewN nq);have d0:=(ho.set0 (.int .i64 ll)).cells.1;have e1:=((ho.set0 (.int .i64 ll)).set1 (.slice none 0 0)).cells.2.1;refine bodyPost_ret (v:=.agg #[.int .i64 ll,.slice none 0 0]) (by simp[results,Tryz.results164,go_sem,d0,e1]) rfl ?_;exact HP.out _ ((yms.setCell (by simp;omega) _).setCell (by simp;omega) _) _ (by rw[hd1];rfl)
    ·have hd1:(decide (x < 0)==decide (y < 0))=false:=by simpa using hd
     have hc:IntKind.i64.wrap (ll:Int)=(ll:Int):=by rw[IntKind.wrap_i64];omega
     clear hd;go_wp2_with fail;have ho:=(Own2.alloc ((w.alloc (.cells #[.int .i64 x,.slice none 0 0] 113)).alloc (.cells #[.int .i64 y,.slice none 0 0] 113)) _ 113 (.int .i64 0) (.slice none 0 0) (y1s w _ _)).new ((New.refl _).drewN nq);have d0:=(ho.set0 (.int .i64 (-(ll:Int)))).cells.1;have e1:=((ho.set0 (.int .i64 (-(ll:Int)))).set1 (.slice none 0 0)).cells.2.1;refine bodyPost_ret (v:=.agg #[.int .i64 (-(ll:Int)),.slice none 0 0]) (by simp[results,Tryz.results164,go_sem,d0,e1]) rfl ?_;exact HP.out _ ((yms.setCell (by simp;omega) _).setCell (by simp;omega) _) _ (by rw[hd1];rfl)
   ·clear HM;by_cases h0:hh=0
    ·have hl':¬(ll:Int)<=9223372036854775807:=by omega
     subst h0;clear hs;go_wp2_with fail;refine (y0d _ x _ (HX.out.new yms)).mono ?_;rintro e w1 ⟨va,n1,f1,rfl,hn,hw,hv⟩;have hn:=sel1 hn;have ho:=(Own2.alloc _ _ 113 (.int .i64 0) (.slice none 0 0) (y1s w _ _)).new hn;have hN:=new3.trans hn;have hob:=((Own2.alloc _ _ 113 _ _ (size_alloc w _)).new ((New.refl _).alloc _)).new hn;obtain ⟨i0,i1, -, -⟩:=hob.cells;have HO:=hid ho;have HW:=hid hw;have HV:=hid hv;have HN:=hid hN;clear hn hw hv ho hN hob;go_wp2_with fail;clear i0 i1;refine (y0d _ y _ (HY.out.new HN.out)).mono ?_;rintro e w2 ⟨vb,n2,f2,rfl,hn,hw,hv⟩;have hw1:=HW.out.new hn;have la:=hw1.le BX.out HV.out;have lb:=hw.le BY.out hv;have ho:=HO.out.new hn;have hN:=HN.out.trans hn;have HW1:=hid hw1;have HW2:=hid hw;have HV2:=hid hv;have HO2:=hid ho;have HN2:=hid hN;clear hn hw hv ho hN hw1 HO HW HN;go_wp2_with fail;refine (y3s va vb n1 n2 f1 f2 _ la lb HW1.out HW2.out).mono ?_;rintro e w3 ⟨vc,n3,f3,hn,rfl,hw,hv⟩;have hs3:signed (!(decide (x < 0)==decide (y < 0))) (vf W64 f3 n3)=x*y:=y50 (by rw[hv,HV.out,HV2.out]);have ho:=HO2.out.new hn;have hN:=HN2.out.trans hn;have HW3:=hid hw;have HS3:=hid hs3;have HO3:=hid ho;have HN3:=hid hN;clear hn hw hv ho hN hs3 HO2 HN2;go_wp2_with fail;refine (y0k _ vc n3 f3 _ HW3.out).mono ?_;rintro e w4 ⟨v',rfl,hn,hi⟩;rw[HS3.out] at hi;have ho2:=HO3.out.new hn;have hN2:=HN3.out.trans hn;clear hn;obtain ⟨c0,c1,c2,c3⟩:=ho2.cells;obtain ⟨s',a',l',c',rfl⟩:=hi.shape;have ho3:=ho2.set0 (.int .i64 s');obtain ⟨d0,d1, -,d3⟩:=ho3.cells;have D0:=hid d0;clear d0;obtain ⟨-,e1, -, -⟩:=(ho3.set1 (.slice a' l' c')).cells;have E1:=hid e1;clear ho3 e1;have HP:=hid (y0t hN2 hi ho2 (by omega));clear hi ho2 hN2;go_wp2_with fail;refine bodyPost_ret (v:=.agg #[.int .i64 s',.slice a' l' c']) (by simp[results,Tryz.results164,go_sem,D0.out,E1.out]) rfl ?_;exact HP.out
    ·have h0':((hh:Int)==0)=false:=by simp;omega
     clear hs h0;go_wp2_with fail;refine (y0d _ x _ (HX.out.new yms)).mono ?_;rintro e w1 ⟨va,n1,f1,rfl,hn,hw,hv⟩;have hn:=sel1 hn;have ho:=(Own2.alloc _ _ 113 (.int .i64 0) (.slice none 0 0) (y1s w _ _)).new hn;have hN:=new3.trans hn;have hob:=((Own2.alloc _ _ 113 _ _ (size_alloc w _)).new ((New.refl _).alloc _)).new hn;obtain ⟨i0,i1, -, -⟩:=hob.cells;have HO:=hid ho;have HW:=hid hw;have HV:=hid hv;have HN:=hid hN;clear hn hw hv ho hN hob;go_wp2_with fail;clear i0 i1;refine (y0d _ y _ (HY.out.new HN.out)).mono ?_;rintro e w2 ⟨vb,n2,f2,rfl,hn,hw,hv⟩;have hw1:=HW.out.new hn;have la:=hw1.le BX.out HV.out;have lb:=hw.le BY.out hv;have ho:=HO.out.new hn;have hN:=HN.out.trans hn;have HW1:=hid hw1;have HW2:=hid hw;have HV2:=hid hv;have HO2:=hid ho;have HN2:=hid hN;clear hn hw hv ho hN hw1 HO HW HN;go_wp2_with fail;refine (y3s va vb n1 n2 f1 f2 _ la lb HW1.out HW2.out).mono ?_;rintro e w3 ⟨vc,n3,f3,hn,rfl,hw,hv⟩;have hs3:signed (!(decide (x < 0)==decide (y < 0))) (vf W64 f3 n3)=x*y:=y50 (by rw[hv,HV.out,HV2.out]);have ho:=HO2.out.new hn;have hN:=HN2.out.trans hn;have HW3:=hid hw;have HS3:=hid hs3;have HO3:=hid ho;have HN3:=hid hN;clear hn hw hv ho hN hs3 HO2 HN2;go_wp2_with fail;refine (y0k _ vc n3 f3 _ HW3.out).mono ?_;rintro e w4 ⟨v',rfl,hn,hi⟩;rw[HS3.out] at hi;have ho2:=HO3.out.new hn;have hN2:=HN3.out.trans hn;clear hn;obtain ⟨c0,c1,c2,c3⟩:=ho2.cells;obtain ⟨s',a',l',c',rfl⟩:=hi.shape;have ho3:=ho2.set0 (.int .i64 s');obtain ⟨d0,d1, -,d3⟩:=ho3.cells;have D0:=hid d0;clear d0;obtain ⟨-,e1, -, -⟩:=(ho3.set1 (.slice a' l' c')).cells;have E1:=hid e1;clear ho3 e1;have HP:=hid (y0t hN2 hi ho2 (by omega));clear hi ho2 hN2;go_wp2_with fail;refine bodyPost_ret (v:=.agg #[.int .i64 s',.slice a' l' c']) (by simp[results,Tryz.results164,go_sem,D0.out,E1.out]) rfl ?_;exact HP.out
  ·clear lo hi hs' hw' h0' hv' hz';go_enter Tryz.func164,Tryz.ntmps164;go_wp2_with fail;refine (y0d _ x _ (HX.out.new new3)).mono ?_;rintro e w1 ⟨va,n1,f1,rfl,hn,hw,hv⟩;have hn:=sel0 hn;have ho:=(Own2.alloc _ _ 113 (.int .i64 0) (.slice none 0 0) (y1s w _ _)).new hn;have hN:=new3.trans hn;have hob:=((Own2.alloc _ _ 113 _ _ (size_alloc w _)).new ((New.refl _).alloc _)).new hn;obtain ⟨i0,i1, -, -⟩:=hob.cells;have HO:=hid ho;have HW:=hid hw;have HV:=hid hv;have HN:=hid hN;clear hn hw hv ho hN hob;go_wp2_with fail;clear i0 i1;refine (y0d _ y _ (HY.out.new HN.out)).mono ?_;rintro e w2 ⟨vb,n2,f2,rfl,hn,hw,hv⟩;have hw1:=HW.out.new hn;have la:=hw1.le BX.out HV.out;have lb:=hw.le BY.out hv;have ho:=HO.out.new hn;have hN:=HN.out.trans hn;have HW1:=hid hw1;have HW2:=hid hw;have HV2:=hid hv;have HO2:=hid ho;have HN2:=hid hN;clear hn hw hv ho hN hw1 HO HW HN;go_wp2_with fail;refine (y3s va vb n1 n2 f1 f2 _ la lb HW1.out HW2.out).mono ?_;rintro e w3 ⟨vc,n3,f3,hn,rfl,hw,hv⟩;have hs3:signed (!(decide (x < 0)==decide (y < 0))) (vf W64 f3 n3)=x*y:=y50 (by rw[hv,HV.out,HV2.out]);have ho:=HO2.out.new hn;have hN:=HN2.out.trans hn;have HW3:=hid hw;have HS3:=hid hs3;have HO3:=hid ho;have HN3:=hid hN;clear hn hw hv ho hN hs3 HO2 HN2;go_wp2_with fail;refine (y0k _ vc n3 f3 _ HW3.out).mono ?_;rintro e w4 ⟨v',rfl,hn,hi⟩;rw[HS3.out] at hi;have ho2:=HO3.out.new hn;have hN2:=HN3.out.trans hn;clear hn;obtain ⟨c0,c1,c2,c3⟩:=ho2.cells;obtain ⟨s',a',l',c',rfl⟩:=hi.shape;have ho3:=ho2.set0 (.int .i64 s');obtain ⟨d0,d1, -,d3⟩:=ho3.cells;have D0:=hid d0;clear d0;obtain ⟨-,e1, -, -⟩:=(ho3.set1 (.slice a' l' c')).cells;have E1:=hid e1;clear ho3 e1;have HP:=hid (y0t hN2 hi ho2 (by omega));clear hi ho2 hN2;go_wp2_with fail;refine bodyPost_ret (v:=.agg #[.int .i64 s',.slice a' l' c']) (by simp[results,Tryz.results164,go_sem,D0.out,E1.out]) rfl ?_;exact HP.out
 ·clear hs hw h0 hv hz hy;obtain ⟨s',a',l',c',rfl⟩:=HY.out.shape;go_enter Tryz.func164,Tryz.ntmps164;go_wp2_with fail;refine (y0d _ x _ (HX.out.new new3)).mono ?_;rintro e w1 ⟨va,n1,f1,rfl,hn,hw,hv⟩;have hn:=sel0 hn;have ho:=(Own2.alloc _ _ 113 (.int .i64 0) (.slice none 0 0) (y1s w _ _)).new hn;have hN:=new3.trans hn;have hob:=((Own2.alloc _ _ 113 _ _ (size_alloc w _)).new ((New.refl _).alloc _)).new hn;obtain ⟨i0,i1, -, -⟩:=hob.cells;have HO:=hid ho;have HW:=hid hw;have HV:=hid hv;have HN:=hid hN;clear hn hw hv ho hN hob;go_wp2_with fail;clear i0 i1;refine (y0d _ y _ (HY.out.new HN.out)).mono ?_;rintro e w2 ⟨vb,n2,f2,rfl,hn,hw,hv⟩;have hw1:=HW.out.new hn;have la:=hw1.le BX.out HV.out;have lb:=hw.le BY.out hv;have ho:=HO.out.new hn;have hN:=HN.out.trans hn;have HW1:=hid hw1;have HW2:=hid hw;have HV2:=hid hv;have HO2:=hid ho;have HN2:=hid hN;clear hn hw hv ho hN hw1 HO HW HN;go_wp2_with fail;refine (y3s va vb n1 n2 f1 f2 _ la lb HW1.out HW2.out).mono ?_;rintro e w3 ⟨vc,n3,f3,hn,rfl,hw,hv⟩;have hs3:signed (!(decide (x < 0)==decide (y < 0))) (vf W64 f3 n3)=x*y:=y50 (by rw[hv,HV.out,HV2.out]);have ho:=HO2.out.new hn;have hN:=HN2.out.trans hn;have HW3:=hid hw;have HS3:=hid hs3;have HO3:=hid ho;have HN3:=hid hN;clear hn hw hv ho hN hs3 HO2 HN2;go_wp2_with fail;refine (y0k _ vc n3 f3 _ HW3.out).mono ?_;rintro e w4 ⟨v',rfl,hn,hi⟩;rw[HS3.out] at hi;have ho2:=HO3.out.new hn;have hN2:=HN3.out.trans hn;clear hn;obtain ⟨c0,c1,c2,c3⟩:=ho2.cells;obtain ⟨s',a',l',c',rfl⟩:=hi.shape;have ho3:=ho2.set0 (.int .i64 s');obtain ⟨d0,d1, -,d3⟩:=ho3.cells;have D0:=hid d0;clear d0;obtain ⟨-,e1, -, -⟩:=(ho3.set1 (.slice a' l' c')).cells;have E1:=hid e1;clear ho3 e1;have HP:=hid (y0t hN2 hi ho2 (by omega));clear hi ho2 hN2;go_wp2_with fail;refine bodyPost_ret (v:=.agg #[.int .i64 s',.slice a' l' c']) (by simp[results,Tryz.results164,go_sem,D0.out,E1.out]) rfl ?_;exact HP.out
theorem New.undrew {a b:World}(h:New a.drew b):New a b:=((New.refl a).drew).trans h
def NotU (v:Value):Prop:=∀ x:Int,v≠.int .u64 x
theorem NotU.slice (a:Option Addr)(l c:Nat):NotU (.slice a l c):=fun _ h=>by cases h
theorem NotU.i64 (n:Int):NotU (.int .i64 n):=fun _ h=>by cases h
theorem NotU.string (s:ByteArray):NotU (.string s):=fun _ h=>by cases h
theorem NotU.bool (b:Bool):NotU (.bool b):=fun _ h=>by cases h
theorem NotU.float (k:FloatKind)(b:Nat):NotU (.float k b):=fun _ h=>by cases h
theorem NotU.pointer (a:Option Addr):NotU (.pointer a):=fun _ h=>by cases h
theorem NotU.map (a:Option Nat):NotU (.map a):=fun _ h=>by cases h
theorem NotU.func (f:Fn)(a b:Array Value):NotU (.func f a b):=fun _ h=>by cases h
def y6u (w:World)(B:Nat):Prop:=B < w.heap.size/\∀ o x,w.cell? ⟨B,o,none⟩≠some (.int .u64 x)
theorem y6u.new {a b:World}{B:Nat}(h:y6u a B)(hn:New a b):y6u b B:=
 ⟨Nat.lt_of_lt_of_le h.1 hn.size,fun o x=>by rw[hn.cells B o h.1];exact h.2 o x⟩
theorem yfi (w:World)(cs:Array Value)(t:TypeId)(hc:∀ v,v∈cs->NotU v):y6u (w.alloc (.cells cs t)) w.heap.size:=by
 refine ⟨by rw[<-size_alloc];omega,fun o x h=>?_⟩;have:(w.alloc (.cells cs t)).cell? ⟨w.heap.size,o,none⟩=cs[o]?:=World.cell?_alloc_new w cs t o;rw[this] at h;exact hc _ (Array.mem_of_getElem? h) x rfl
theorem cell?_setCell_or (w:World)(p q:Addr)(u v:Value)(h:(w.setCell p u).cell? q=some v):v=u\/w.cell? q=some v:=by
 by_cases e:p=q
 ·subst e
  cases hc:w.cell? p with
  | some x=>
   rw[World.cell?_setCell_same' w p u (by rw[hc];rfl)] at h;exact .inl (Option.some.inj h).symm
  | none=>
   obtain ⟨x,hx⟩:∃ x,w.heap[p.block]?=x:=⟨_,rfl⟩;simp only[World.cell?,World.setCell,Array.getElem?_modify,if_true,hx] at h hc
   cases x with
   | none=>simp at h
   | some o=>
    cases o with
    | cells c t f=>
     simp only[Option.map_some]at h hc;split at h
     ·simp at h
     ·rename_i hs;rw[if_neg hs] at hc;simp only[Array.getElem?_setIfInBounds] at h
      have:¬p.off < c.size:=by
       have:c.size<=p.off:=by simpa using hc
       omega
      simp[this]at h
    | _=>simp at h
 ·right
  rwa [World.cell?_setCell_other (h:=e)] at h
theorem y6u.set {w:World}{B:Nat}(h:y6u w B)(p:Addr){u:Value}(hu:NotU u):y6u (w.setCell p u) B:=by
 refine ⟨by simpa using h.1,fun o x hc=>?_⟩;rcases cell?_setCell_or w p _ u _ hc with h1 | h1
 ·exact hu x h1.symm
 ·exact h.2 o x h1
theorem Rd.set {w:World}{a:Option Addr}{n:Nat}{f:Nat->Nat}(h:Rd w a .u64 n f){p:Addr}(hp:y6u w p.block)(u:Value):Rd (w.setCell p u) a .u64 n f:=fun i hi=>by
 obtain ⟨b,off,e,hc⟩:=h i hi;refine ⟨b,off,e,?_⟩
 have:p.block≠b:=by
  rintro rfl;exact hp.2 _ _ hc
 rw[World.cell?_setCell_far _ _ _ _ (by exact this)];exact hc
theorem y06.set {w:World}{v:Value}{z:Int}(h:y06 w v z){p:Addr}(hp:y6u w p.block)(u:Value):y06 (w.setCell p u) v z:=by
 rcases h with ⟨h,lo,hi⟩ | ⟨b,off,n,cap,f,s,h,hs,hw,h0,hv,hz⟩
 ·exact .small h lo hi
 ·obtain ⟨a,cap',h1,h2,h3⟩:=hw;exact .big b off n cap f s h hs ⟨a,cap',h1,h2.set hp u,h3⟩ h0 hv hz
theorem Box.noDig {w:World}{B:Nat}{t:TypeId}{cs:Array Value}(h:Box w B t cs)(hc:∀ v,v∈cs->NotU v):y6u w B:=
 ⟨h.lt,fun o x e=>by
  rw[h.cell o]at e
  exact hc _ (Array.mem_of_getElem? e) x rfl⟩
theorem Box.noDig2 {w:World}{B:Nat}{t:TypeId}{s:Int}{a:Option Addr}{l c:Nat}(h:Box w B t #[.int .i64 s,.slice a l c]):y6u w B:=
 h.noDig fun v hv=>by
  simp at hv;rcases hv with rfl | rfl
  ·exact .i64 s
  ·exact .slice a l c
theorem Box.noDig4 {w:World}{B:Nat}{t:TypeId}{s:Int}{a:Option Addr}{l c:Nat}{s':Int}{a':Option Addr}{l' c':Nat}(h:Box w B t #[.int .i64 s,.slice a l c,.int .i64 s',.slice a' l' c']):y6u w B:=
 h.noDig fun v hv=>by
  simp at hv;rcases hv with rfl | rfl | rfl | rfl
  ·exact .i64 s
  ·exact .slice a l c
  ·exact .i64 s'
  ·exact .slice a' l' c'
theorem y06.put2 {w:World}{v:Value}{z:Int}(h:y06 w v z){B:Nat}{t:TypeId}{s:Int}{a:Option Addr}{l c:Nat}(hb:Box w B t #[.int .i64 s,.slice a l c])(n:Int)(b:Option Addr)(m k:Nat):
  y06 ((w.setCell ⟨B,0,none⟩ (.int .i64 n)).setCell ⟨B,1,none⟩ (.slice b m k)) v z:=
 (h.set (p:=⟨B,0,none⟩) hb.noDig2 _).set (p:=⟨B,1,none⟩) (hb.noDig2.set _ (.i64 n)) _
theorem y06.put4 {w:World}{v:Value}{z:Int}(h:y06 w v z){B:Nat}{t:TypeId}{s s':Int}{a a':Option Addr}{l c l' c':Nat}(hb:Box w B t #[.int .i64 s,.slice a l c,.int .i64 s',.slice a' l' c'])(n n':Int)(b b':Option Addr)(m k m' k':Nat):
  y06 ((((w.setCell ⟨B,0,none⟩ (.int .i64 n)).setCell ⟨B,1,none⟩ (.slice b m k)).setCell ⟨B,2,none⟩ (.int .i64 n')).setCell ⟨B,3,none⟩ (.slice b' m' k')) v z:=
 (((h.set (p:=⟨B,0,none⟩) hb.noDig4 _).set (p:=⟨B,1,none⟩) (hb.noDig4.set _ (.i64 n)) _).set (p:=⟨B,2,none⟩) ((hb.noDig4.set _ (.i64 n)).set _ (.slice b m k)) _).set (p:=⟨B,3,none⟩) (((hb.noDig4.set _ (.i64 n)).set _ (.slice b m k)).set _ (.i64 n')) _
theorem New.put2 {a w:World}(h:New a w){B:Nat}(hB:a.heap.size<=B)(u u':Value):New a ((w.setCell ⟨B,0,none⟩ u).setCell ⟨B,1,none⟩ u'):=(h.setCell hB _).setCell hB _
theorem New.put4 {a w:World}(h:New a w){B:Nat}(hB:a.heap.size<=B)(u u' v v':Value):New a ((((w.setCell ⟨B,0,none⟩ u).setCell ⟨B,1,none⟩ u').setCell ⟨B,2,none⟩ v).setCell ⟨B,3,none⟩ v'):=(((h.setCell hB _).setCell hB _).setCell hB _).setCell hB _
theorem Bd.le {z z':Int}(h:Bd z)(hl:z'.natAbs<=z.natAbs):Bd z':=by
 obtain ⟨k,h1,h2⟩:=h;exact ⟨k,h1,by omega⟩
theorem Bd.small {z:Int}(lo: -9223372036854775808<=z)(hi:z<=9223372036854775807):Bd z:=⟨64,by omega,by
 have:(2:Nat)^64=18446744073709551616:=by decide
 omega⟩
theorem Box.other2 {w:World}{B B':Nat}{t:TypeId}{cs:Array Value}(h:Box w B t cs)(hp:B'≠B)(u u':Value):Box ((w.setCell ⟨B',0,none⟩ u).setCell ⟨B',1,none⟩ u') B t cs:=
 (h.other (p:=⟨B',0,none⟩) hp u).other (p:=⟨B',1,none⟩) hp u'
theorem Box.away {w:World}{B B':Nat}{t t':TypeId}{cs cs':Array Value}(h:Box w B t cs)(_h':Box w B' t' cs')(hp:B'≠B)(u u':Value):Box ((w.setCell ⟨B',0,none⟩ u).setCell ⟨B',1,none⟩ u') B t cs:=
 h.other2 hp u u'
theorem New.putAt {a w:World}(h:New a w){B:Nat}{t:TypeId}{cs:Array Value}(_hb:Box w B t cs)(hB:a.heap.size<=B)(u u':Value):New a ((w.setCell ⟨B,0,none⟩ u).setCell ⟨B,1,none⟩ u'):=h.put2 hB u u'
end Go.Proofs.YtnjonlnemagomaaGreatDoor
