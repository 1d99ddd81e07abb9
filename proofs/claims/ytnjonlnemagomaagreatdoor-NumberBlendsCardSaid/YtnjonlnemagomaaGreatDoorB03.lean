/- Part B03. -/
import Derived.Lib.ItoaNum
import Derived.Deep.DeepCutAuto
import Derived.Deep.CutBlock
import Derived.Test.YtnjonlnemagomaaGreatDoorB02
namespace Go.Proofs.YtnjonlnemagomaaGreatDoor
open Go.RowKit Big Tryz
open Go.Lib (hid)
set_option maxRecDepth 100000
set_option maxHeartbeats 8000000
set_option linter.all false
theorem half_prod {q yn0:Nat}(h:q≤B32+1)(h0:yn0 < B32):∃ p:Nat,p=q*yn0∧IntKind.u64.wrap ((q:Int)*yn0)=p:=by
 have aa:q*yn0≤4294967297*4294967295:=Nat.mul_le_mul (by unfold B32 at h;omega) (by unfold B32 at h0;omega);exact ⟨_,rfl,by rw[←Int.natCast_mul,wrap_u64_nat,Nat.mod_eq_of_lt (by unfold W64;omega)]⟩
theorem half_start {X d v yn1 yn0:Nat}(hv:v=yn1*B32+yn0)(h0:yn0 < B32)(h1:B32≤2*yn1)(h1':yn1 < B32)(hu:X < v)(hd:d < B32):
  ∃ q r:Nat,(X:Int) / yn1=q∧(q:Int) < 18446744073709551616∧IntKind.u64.wrap ((X:Int) - IntKind.u64.wrap ((q:Int)*yn1))=r∧Half X d v yn1 yn0 q r:=by
 have hs:=Half.start hv h0 h1 h1' hu hd
 have aa:v < W64:=by rw[hv];unfold B32 W64 at *;omega
 refine ⟨X / yn1,X - X / yn1*yn1,by rw[Int.natCast_ediv],by have:=hs.le;unfold B32 at this;omega,?_,hs⟩;have e:=Nat.div_mul_le_self X yn1;rw[←Int.natCast_mul,wrap_u64_nat,Nat.mod_eq_of_lt (by omega),←Int.ofNat_sub e,wrap_u64_nat,Nat.mod_eq_of_lt (by omega)]
def DivPost (w:World)(U V un1 un0 s:Nat)(e:Ending)(w':World):Prop:=w=w'∧∃ a b z:Nat,e=.returned (.tuple #[.int .u64 ((a:Int)*4294967296+b),.int .u64 z])∧Done U un1 V a∧
 z=((U*B32+un1 - a*V)*B32+un0 - b*V) / 2^s∧Done (U*B32+un1 - a*V) un0 V b
theorem div64_walk (hi lo y s V yn1 yn0 U T un1 un0 q0 r0:Nat) (w:World) (_hlo:lo < W64) (hy:y < W64) (hlt:hi < y) (hi0:0 < hi) (hs:s < 64)
  (hlz:∀ W,Calls prog 256 #[.int .u64 y] W fun e w'=>e=.returned (.int .i64 s)∧W=w')
  (e1:IntKind.u64.wrap ((y:Int)*2^s)=(V:Int)) (e2:(V:Int) / 4294967296=yn1) (e3:bits .and .u64 (V:Int) 4294967295=yn0)
  (e4:bits .or .u64 (IntKind.u64.wrap ((hi:Int)*2^s)) ((lo:Int) / 2^(64 - s))=U) (e5:IntKind.u64.wrap ((lo:Int)*2^s)=T)
  (e6:(T:Int) / 4294967296=un1) (e7:bits .and .u64 (T:Int) 4294967295=un0) (e8:(U:Int) / yn1=q0) (hq0:(q0:Int) < 18446744073709551616) (e9:IntKind.u64.wrap ((U:Int) - IntKind.u64.wrap ((q0:Int)*yn1))=r0)
  (hV:V < W64) (hv:V=yn1*B32+yn0) (h0:yn0 < B32) (h1:B32≤2*yn1) (h1':yn1 < B32) (hu:U < V) (hd:un1 < B32) (hd0:un0 < B32) (ai:Half U un1 V yn1 yn0 q0 r0):
  Calls prog 255 #[.int .u64 hi,.int .u64 lo,.int .u64 y] w (DivPost w U V un1 un0 s):=by
 have g1:((y:Int)==0)=false:=by simp;omega
 have g2:((hi:Int)==0)=false:=by simp;omega
 have g3:¬((y:Int)≤hi):=by omega
 have g4:(0:Int) < yn1:=by unfold B32 at h1;omega
 refine zh3 ?_ hlz hv hs;clear hlz hv;intro ap HV ak;go_in;go_wp2_with (go_at_call 256;refine (ap _).mono ?_;rintro e w' ⟨rfl,rfl⟩)
 go_loop [15,16] (fun a b=>∃ q r:Nat,a=.int .u64 q∧b=.int .u64 r∧Half U un1 V yn1 yn0 q r) (fun a _=>(intOf a).toNat)
 case atStart=>first | exact ⟨q0,r0,rfl,rfl,ai⟩ | skip
 case round=>
  obtain ⟨q,r,rfl,rfl,hh⟩:=hrel;have HH:=hid hh;have ah:=hh.le;have am:=hh.small;clear hh ai e1 e2 e3 e4 e5 e6 e7 e8 e9 hlt hi0 hs g1 g2 g3 hq0 ap;obtain ⟨p,hp,ep⟩:=half_prod ah h0;have HP:=hid hp;clear hp
  have an:(un1:Int) < 4294967296:=by unfold B32 at hd;omega
  have ao:(r:Int) < 4294967296:=by unfold B32 at am;omega
  have aq:(yn1:Int) < 4294967296:=by unfold B32 at h1';omega
  have aj:(q:Int)≤4294967297:=by unfold B32 at ah;omega
  by_cases c1:4294967296≤q
  ·have cc:B32≤q∨B32*r+un1 < q*yn0:=.inl c1
   have d1:(4294967296:Int)≤q:=by omega
   clear c1;obtain ⟨n1,n2,n3⟩:=HH.out.next HV.out h0 hu hd cc;have N2:=hid n2;have N3:=hid n3;clear n2 n3 cc HH HP;obtain ⟨k,rfl⟩:∃ k,q=k+1:=⟨q - 1,by omega⟩
   have ad:((k+1:Nat):Int)=(k:Int)+1:=by omega
   simp only[ad]at d1 ep aj;rw[ad];clear ad;by_cases c3:r+yn1 < B32
   ·have d3:¬(4294967296:Int)≤(r:Int)+yn1:=by unfold B32 at c3;omega
    go_wp2;go_round
    case rel=>exact ⟨k,r+yn1,by go_num,by go_num,N2.out c3⟩
    case measure=>simp[intOf]
   ·have d3:(4294967296:Int)≤(r:Int)+yn1:=by unfold B32 at c3;omega
    obtain ⟨qf,ac⟩:∃ qf,qf=k:=⟨_,rfl⟩;subst ac;have aa:Done U un1 V qf:=N3.out (by omega);clear N2 N3;obtain ⟨X,hX⟩:∃ X,X=U*B32+un1 - qf*V:=⟨_,rfl⟩;have eX:=un21_in (Nat.lt_trans hu hV) hd hV aa;rw[←hX] at eX
    have ae:X < V:=by rw[hX];exact aa.rest
    obtain ⟨q1,r1,f1,f2,f3,ai⟩:=half_start HV h0 h1 h1' ae hd0;refine zh3 ?_ hX ai aa;clear hX ai aa;intro HX al af;go_wp2
    go_loop [18,16] (fun a b=>∃ q r:Nat,a=.int .u64 q∧b=.int .u64 r∧Half X un0 V yn1 yn0 q r) (fun a _=>(intOf a).toNat)
    case atStart=>exact ⟨q1,r1,rfl,rfl,al⟩
    case round=>
     obtain ⟨qq,rr,rfl,rfl,hh⟩:=hrel;have HH:=hid hh;have ah:=hh.le;have am:=hh.small;clear hh al f1 f3 eX ep;obtain ⟨p,hp,ep⟩:=half_prod ah h0;have HP:=hid hp;clear hp
     have an:(un0:Int) < 4294967296:=by unfold B32 at hd0;omega
     have ao:(rr:Int) < 4294967296:=by unfold B32 at am;omega
     have aj:(qq:Int)≤4294967297:=by unfold B32 at ah;omega
     by_cases c1:4294967296≤qq
     ·have cc:B32≤qq∨B32*rr+un0 < qq*yn0:=.inl c1
      have d1:(4294967296:Int)≤qq:=by omega
      clear c1;obtain ⟨n1,n2,n3⟩:=HH.out.next HV.out h0 ae hd0 cc;have N2:=hid n2;have N3:=hid n3;clear n2 n3 cc HH HP;obtain ⟨k,rfl⟩:∃ k,qq=k+1:=⟨qq - 1,by omega⟩
      have ad:((k+1:Nat):Int)=(k:Int)+1:=by omega
      simp only[ad]at d1 ep aj;rw[ad];clear ad;by_cases c3:rr+yn1 < B32
      ·have d3:¬(4294967296:Int)≤(rr:Int)+yn1:=by unfold B32 at c3;omega
       go_wp2;go_round
       case rel=>exact ⟨k,rr+yn1,by go_num,by go_num,N2.out c3⟩
       case measure=>simp[intOf]
      ·have d3:(4294967296:Int)≤(rr:Int)+yn1:=by unfold B32 at c3;omega
       obtain ⟨qe,ab⟩:∃ qe,qe=k:=⟨_,rfl⟩;subst ab;have aa:Done X un0 V qe:=N3.out (by omega);clear N2 N3;have ac:=af.out.lt hu hd;have ab:=aa.lt ae hd0
       have b1:(qf:Int) < 4294967296:=by unfold B32 at ac;omega
       have b2:(qe:Int) < 4294967296:=by unfold B32 at ab;omega
       obtain ⟨Y,hY⟩:∃ Y,Y=X*B32+un0 - qe*V:=⟨_,rfl⟩;have eY:=un21_in (Nat.lt_trans ae hV) hd0 hV aa;rw[←hY] at eY;obtain ⟨Z,hZ⟩:∃ Z,Z=Y / 2^s:=⟨_,rfl⟩
       have eZ:(Y:Int) / 2^min s 64=Z:=by rw[hZ,Nat.min_eq_left (Nat.le_of_lt ak.out),Int.natCast_ediv,Int.natCast_pow];rfl
       refine zh3 ?_ hY hZ aa;clear hY hZ aa ac ab;intro HY HZ ag;go_wp2;go_ret2;exact ⟨rfl,qf,qe,Z,rfl,af,by rw[HZ.out,HY.out,HX.out],by rw[←HX.out];exact ag.out⟩
     ·have d1:¬(4294967296:Int)≤qq:=by omega
      by_cases c2:4294967296*rr+un0 < p
      ·have cc:B32≤qq∨B32*rr+un0 < qq*yn0:=.inr (by rw[←HP.out];exact c2)
       have d2:4294967296*(rr:Int)+un0 < p:=by omega
       clear c1 c2;obtain ⟨n1,n2,n3⟩:=HH.out.next HV.out h0 ae hd0 cc;replace n2:=hid n2;replace n3:=hid n3;clear cc HH HP;obtain ⟨k,rfl⟩:∃ k,qq=k+1:=⟨qq - 1,by omega⟩
       have ad:((k+1:Nat):Int)=(k:Int)+1:=by omega
       simp only[ad]at d1 ep aj;rw[ad];clear ad;by_cases c3:rr+yn1 < B32
       ·have d3:¬(4294967296:Int)≤(rr:Int)+yn1:=by unfold B32 at c3;omega
        go_wp2;go_round
        case rel=>exact ⟨k,rr+yn1,by go_num,by go_num,n2.out c3⟩
        case measure=>simp[intOf]
       ·have d3:(4294967296:Int)≤(rr:Int)+yn1:=by unfold B32 at c3;omega
        obtain ⟨qe,ab⟩:∃ qe,qe=k:=⟨_,rfl⟩;subst ab;have aa:Done X un0 V qe:=n3.out (by omega);clear n2 n3;have ac:=af.out.lt hu hd;have ab:=aa.lt ae hd0
        have b1:(qf:Int) < 4294967296:=by unfold B32 at ac;omega
        have b2:(qe:Int) < 4294967296:=by unfold B32 at ab;omega
        obtain ⟨Y,hY⟩:∃ Y,Y=X*B32+un0 - qe*V:=⟨_,rfl⟩;have eY:=un21_in (Nat.lt_trans ae hV) hd0 hV aa;rw[←hY] at eY;obtain ⟨Z,hZ⟩:∃ Z,Z=Y / 2^s:=⟨_,rfl⟩
        have eZ:(Y:Int) / 2^min s 64=Z:=by rw[hZ,Nat.min_eq_left (Nat.le_of_lt ak.out),Int.natCast_ediv,Int.natCast_pow];rfl
        refine zh3 ?_ hY hZ aa;clear hY hZ aa ac ab;intro HY HZ ag;go_wp2;go_ret2;exact ⟨rfl,qf,qe,Z,rfl,af,by rw[HZ.out,HY.out,HX.out],by rw[←HX.out];exact ag.out⟩
      ·have d2:¬4294967296*(rr:Int)+un0 < p:=by omega
       obtain ⟨qe,ab⟩:∃ qe,qe=qq:=⟨_,rfl⟩;subst ab;have aa:Done X un0 V qe:=HH.out.fits HV.out (by rw[←HP.out];unfold B32;omega);clear c1 c2 HH HP;have ac:=af.out.lt hu hd;have ab:=aa.lt ae hd0
       have b1:(qf:Int) < 4294967296:=by unfold B32 at ac;omega
       have b2:(qe:Int) < 4294967296:=by unfold B32 at ab;omega
       obtain ⟨Y,hY⟩:∃ Y,Y=X*B32+un0 - qe*V:=⟨_,rfl⟩;have eY:=un21_in (Nat.lt_trans ae hV) hd0 hV aa;rw[←hY] at eY;obtain ⟨Z,hZ⟩:∃ Z,Z=Y / 2^s:=⟨_,rfl⟩
       have eZ:(Y:Int) / 2^min s 64=Z:=by rw[hZ,Nat.min_eq_left (Nat.le_of_lt ak.out),Int.natCast_ediv,Int.natCast_pow];rfl
       refine zh3 ?_ hY hZ aa;clear hY hZ aa ac ab;intro HY HZ ag;go_wp2;go_ret2;exact ⟨rfl,qf,qe,Z,rfl,af,by rw[HZ.out,HY.out,HX.out],by rw[←HX.out];exact ag.out⟩
  ·have d1:¬(4294967296:Int)≤q:=by omega
   by_cases c2:4294967296*r+un1 < p
   ·have cc:B32≤q∨B32*r+un1 < q*yn0:=.inr (by rw[←HP.out];exact c2)
    have d2:4294967296*(r:Int)+un1 < p:=by omega
    clear c1 c2;obtain ⟨n1,n2,n3⟩:=HH.out.next HV.out h0 hu hd cc;have N2:=hid n2;have N3:=hid n3;clear n2 n3 cc HH HP;obtain ⟨k,rfl⟩:∃ k,q=k+1:=⟨q - 1,by omega⟩
    have ad:((k+1:Nat):Int)=(k:Int)+1:=by omega
    simp only[ad]at d1 ep aj;rw[ad];clear ad;by_cases c3:r+yn1 < B32
    ·have d3:¬(4294967296:Int)≤(r:Int)+yn1:=by unfold B32 at c3;omega
     go_wp2;go_round
     case rel=>exact ⟨k,r+yn1,by go_num,by go_num,N2.out c3⟩
     case measure=>simp[intOf]
    ·have d3:(4294967296:Int)≤(r:Int)+yn1:=by unfold B32 at c3;omega
     obtain ⟨qf,ac⟩:∃ qf,qf=k:=⟨_,rfl⟩;subst ac;have aa:Done U un1 V qf:=N3.out (by omega);clear N2 N3;obtain ⟨X,hX⟩:∃ X,X=U*B32+un1 - qf*V:=⟨_,rfl⟩;have eX:=un21_in (Nat.lt_trans hu hV) hd hV aa;rw[←hX] at eX
     have ae:X < V:=by rw[hX];exact aa.rest
     obtain ⟨q1,r1,f1,f2,f3,ai⟩:=half_start HV h0 h1 h1' ae hd0;refine zh3 ?_ hX ai aa;clear hX ai aa;intro HX al af;go_wp2
     go_loop [18,16] (fun a b=>∃ q r:Nat,a=.int .u64 q∧b=.int .u64 r∧Half X un0 V yn1 yn0 q r) (fun a _=>(intOf a).toNat)
     case atStart=>exact ⟨q1,r1,rfl,rfl,al⟩
     case round=>
      obtain ⟨qq,rr,rfl,rfl,hh⟩:=hrel;have HH:=hid hh;have ah:=hh.le;have am:=hh.small;clear hh al f1 f3 eX ep;obtain ⟨p,hp,ep⟩:=half_prod ah h0;have HP:=hid hp;clear hp
      have an:(un0:Int) < 4294967296:=by unfold B32 at hd0;omega
      have ao:(rr:Int) < 4294967296:=by unfold B32 at am;omega
      have aj:(qq:Int)≤4294967297:=by unfold B32 at ah;omega
      by_cases c1:4294967296≤qq
      ·have cc:B32≤qq∨B32*rr+un0 < qq*yn0:=.inl c1
       have d1:(4294967296:Int)≤qq:=by omega
       clear c1;obtain ⟨n1,n2,n3⟩:=HH.out.next HV.out h0 ae hd0 cc;have N2:=hid n2;have N3:=hid n3;clear n2 n3 cc HH HP;obtain ⟨k,rfl⟩:∃ k,qq=k+1:=⟨qq - 1,by omega⟩
       have ad:((k+1:Nat):Int)=(k:Int)+1:=by omega
       simp only[ad]at d1 ep aj;rw[ad];clear ad;by_cases c3:rr+yn1 < B32
       ·have d3:¬(4294967296:Int)≤(rr:Int)+yn1:=by unfold B32 at c3;omega
        go_wp2;go_round
        case rel=>exact ⟨k,rr+yn1,by go_num,by go_num,N2.out c3⟩
        case measure=>simp[intOf]
       ·have d3:(4294967296:Int)≤(rr:Int)+yn1:=by unfold B32 at c3;omega
        obtain ⟨qe,ab⟩:∃ qe,qe=k:=⟨_,rfl⟩;subst ab;have aa:Done X un0 V qe:=N3.out (by omega);clear N2 N3;have ac:=af.out.lt hu hd;have ab:=aa.lt ae hd0
        have b1:(qf:Int) < 4294967296:=by unfold B32 at ac;omega
        have b2:(qe:Int) < 4294967296:=by unfold B32 at ab;omega
        obtain ⟨Y,hY⟩:∃ Y,Y=X*B32+un0 - qe*V:=⟨_,rfl⟩;have eY:=un21_in (Nat.lt_trans ae hV) hd0 hV aa;rw[←hY] at eY;obtain ⟨Z,hZ⟩:∃ Z,Z=Y / 2^s:=⟨_,rfl⟩
        have eZ:(Y:Int) / 2^min s 64=Z:=by rw[hZ,Nat.min_eq_left (Nat.le_of_lt ak.out),Int.natCast_ediv,Int.natCast_pow];rfl
        refine zh3 ?_ hY hZ aa;clear hY hZ aa ac ab;intro HY HZ ag;go_wp2;go_ret2;exact ⟨rfl,qf,qe,Z,rfl,af,by rw[HZ.out,HY.out,HX.out],by rw[←HX.out];exact ag.out⟩
      ·have d1:¬(4294967296:Int)≤qq:=by omega
       by_cases c2:4294967296*rr+un0 < p
       ·have cc:B32≤qq∨B32*rr+un0 < qq*yn0:=.inr (by rw[←HP.out];exact c2)
        have d2:4294967296*(rr:Int)+un0 < p:=by omega
        clear c1 c2;obtain ⟨n1,n2,n3⟩:=HH.out.next HV.out h0 ae hd0 cc;replace n2:=hid n2;replace n3:=hid n3;clear cc HH HP;obtain ⟨k,rfl⟩:∃ k,qq=k+1:=⟨qq - 1,by omega⟩
        have ad:((k+1:Nat):Int)=(k:Int)+1:=by omega
        simp only[ad]at d1 ep aj;rw[ad];clear ad;by_cases c3:rr+yn1 < B32
        ·have d3:¬(4294967296:Int)≤(rr:Int)+yn1:=by unfold B32 at c3;omega
         go_wp2;go_round
         case rel=>exact ⟨k,rr+yn1,by go_num,by go_num,n2.out c3⟩
         case measure=>simp[intOf]
        ·have d3:(4294967296:Int)≤(rr:Int)+yn1:=by unfold B32 at c3;omega
         obtain ⟨qe,ab⟩:∃ qe,qe=k:=⟨_,rfl⟩;subst ab;have aa:Done X un0 V qe:=n3.out (by omega);clear n2 n3;have ac:=af.out.lt hu hd;have ab:=aa.lt ae hd0
         have b1:(qf:Int) < 4294967296:=by unfold B32 at ac;omega
         have b2:(qe:Int) < 4294967296:=by unfold B32 at ab;omega
         obtain ⟨Y,hY⟩:∃ Y,Y=X*B32+un0 - qe*V:=⟨_,rfl⟩;have eY:=un21_in (Nat.lt_trans ae hV) hd0 hV aa;rw[←hY] at eY;obtain ⟨Z,hZ⟩:∃ Z,Z=Y / 2^s:=⟨_,rfl⟩
         have eZ:(Y:Int) / 2^min s 64=Z:=by rw[hZ,Nat.min_eq_left (Nat.le_of_lt ak.out),Int.natCast_ediv,Int.natCast_pow];rfl
         refine zh3 ?_ hY hZ aa;clear hY hZ aa ac ab;intro HY HZ ag;go_wp2;go_ret2;exact ⟨rfl,qf,qe,Z,rfl,af,by rw[HZ.out,HY.out,HX.out],by rw[←HX.out];exact ag.out⟩
       ·have d2:¬4294967296*(rr:Int)+un0 < p:=by omega
        obtain ⟨qe,ab⟩:∃ qe,qe=qq:=⟨_,rfl⟩;subst ab;have aa:Done X un0 V qe:=HH.out.fits HV.out (by rw[←HP.out];unfold B32;omega);clear c1 c2 HH HP;have ac:=af.out.lt hu hd;have ab:=aa.lt ae hd0
        have b1:(qf:Int) < 4294967296:=by unfold B32 at ac;omega
        have b2:(qe:Int) < 4294967296:=by unfold B32 at ab;omega
        obtain ⟨Y,hY⟩:∃ Y,Y=X*B32+un0 - qe*V:=⟨_,rfl⟩;have eY:=un21_in (Nat.lt_trans ae hV) hd0 hV aa;rw[←hY] at eY;obtain ⟨Z,hZ⟩:∃ Z,Z=Y / 2^s:=⟨_,rfl⟩
        have eZ:(Y:Int) / 2^min s 64=Z:=by rw[hZ,Nat.min_eq_left (Nat.le_of_lt ak.out),Int.natCast_ediv,Int.natCast_pow];rfl
        refine zh3 ?_ hY hZ aa;clear hY hZ aa ac ab;intro HY HZ ag;go_wp2;go_ret2;exact ⟨rfl,qf,qe,Z,rfl,af,by rw[HZ.out,HY.out,HX.out],by rw[←HX.out];exact ag.out⟩
   ·have d2:¬4294967296*(r:Int)+un1 < p:=by omega
    obtain ⟨qf,ac⟩:∃ qf,qf=q:=⟨_,rfl⟩;subst ac;have aa:Done U un1 V qf:=HH.out.fits HV.out (by rw[←HP.out];unfold B32;omega);clear c1 c2 HH HP;obtain ⟨X,hX⟩:∃ X,X=U*B32+un1 - qf*V:=⟨_,rfl⟩;have eX:=un21_in (Nat.lt_trans hu hV) hd hV aa;rw[←hX] at eX
    have ae:X < V:=by rw[hX];exact aa.rest
    obtain ⟨q1,r1,f1,f2,f3,ai⟩:=half_start HV h0 h1 h1' ae hd0;refine zh3 ?_ hX ai aa;clear hX ai aa;intro HX al af;go_wp2
    go_loop [18,16] (fun a b=>∃ q r:Nat,a=.int .u64 q∧b=.int .u64 r∧Half X un0 V yn1 yn0 q r) (fun a _=>(intOf a).toNat)
    case atStart=>exact ⟨q1,r1,rfl,rfl,al⟩
    case round=>
     obtain ⟨qq,rr,rfl,rfl,hh⟩:=hrel;have HH:=hid hh;have ah:=hh.le;have am:=hh.small;clear hh al f1 f3 eX ep;obtain ⟨p,hp,ep⟩:=half_prod ah h0;replace hp:=hid hp
     have an:(un0:Int) < 4294967296:=by unfold B32 at hd0;omega
     have ao:(rr:Int) < 4294967296:=by unfold B32 at am;omega
     have aj:(qq:Int)≤4294967297:=by unfold B32 at ah;omega
     by_cases c1:4294967296≤qq
     ·have cc:B32≤qq∨B32*rr+un0 < qq*yn0:=.inl c1
      have d1:(4294967296:Int)≤qq:=by omega
      clear c1;obtain ⟨n1,n2,n3⟩:=HH.out.next HV.out h0 ae hd0 cc;have N2:=hid n2;have N3:=hid n3;clear n2 n3 cc HH hp;obtain ⟨k,rfl⟩:∃ k,qq=k+1:=⟨qq - 1,by omega⟩
      have ad:((k+1:Nat):Int)=(k:Int)+1:=by omega
      simp only[ad]at d1 ep aj;rw[ad];clear ad;by_cases c3:rr+yn1 < B32
      ·have d3:¬(4294967296:Int)≤(rr:Int)+yn1:=by unfold B32 at c3;omega
       go_wp2;go_round
       case rel=>exact ⟨k,rr+yn1,by go_num,by go_num,N2.out c3⟩
       case measure=>simp[intOf]
      ·have d3:(4294967296:Int)≤(rr:Int)+yn1:=by unfold B32 at c3;omega
       obtain ⟨qe,ab⟩:∃ qe,qe=k:=⟨_,rfl⟩;subst ab;have aa:Done X un0 V qe:=N3.out (by omega);clear N2 N3;have ac:=af.out.lt hu hd;have ab:=aa.lt ae hd0
       have b1:(qf:Int) < 4294967296:=by unfold B32 at ac;omega
       have b2:(qe:Int) < 4294967296:=by unfold B32 at ab;omega
       obtain ⟨Y,hY⟩:∃ Y,Y=X*B32+un0 - qe*V:=⟨_,rfl⟩;have eY:=un21_in (Nat.lt_trans ae hV) hd0 hV aa;rw[←hY] at eY;obtain ⟨Z,hZ⟩:∃ Z,Z=Y / 2^s:=⟨_,rfl⟩
       have eZ:(Y:Int) / 2^min s 64=Z:=by rw[hZ,Nat.min_eq_left (Nat.le_of_lt ak.out),Int.natCast_ediv,Int.natCast_pow];rfl
       refine zh3 ?_ hY hZ aa;clear hY hZ aa ac ab;intro HY HZ ag;go_wp2;go_ret2;exact ⟨rfl,qf,qe,Z,rfl,af,by rw[HZ.out,HY.out,HX.out],by rw[←HX.out];exact ag.out⟩
     ·have d1:¬(4294967296:Int)≤qq:=by omega
      by_cases c2:4294967296*rr+un0 < p
      ·have cc:B32≤qq∨B32*rr+un0 < qq*yn0:=.inr (by rw[←hp.out];exact c2)
       have d2:4294967296*(rr:Int)+un0 < p:=by omega
       clear c1 c2;obtain ⟨n1,n2,n3⟩:=HH.out.next HV.out h0 ae hd0 cc;replace n2:=hid n2;replace n3:=hid n3;clear cc HH hp;obtain ⟨k,rfl⟩:∃ k,qq=k+1:=⟨qq - 1,by omega⟩
       have ad:((k+1:Nat):Int)=(k:Int)+1:=by omega
       simp only[ad]at d1 ep aj;rw[ad];clear ad;by_cases c3:rr+yn1 < B32
       ·have d3:¬(4294967296:Int)≤(rr:Int)+yn1:=by unfold B32 at c3;omega
        go_wp2;go_round
        case rel=>exact ⟨k,rr+yn1,by go_num,by go_num,n2.out c3⟩
        case measure=>simp[intOf]
       ·have d3:(4294967296:Int)≤(rr:Int)+yn1:=by unfold B32 at c3;omega
        obtain ⟨qe,ab⟩:∃ qe,qe=k:=⟨_,rfl⟩;subst ab;have aa:Done X un0 V qe:=n3.out (by omega);clear n2 n3;have ac:=af.out.lt hu hd;have ab:=aa.lt ae hd0
        have b1:(qf:Int) < 4294967296:=by unfold B32 at ac;omega
        have b2:(qe:Int) < 4294967296:=by unfold B32 at ab;omega
        obtain ⟨Y,hY⟩:∃ Y,Y=X*B32+un0 - qe*V:=⟨_,rfl⟩;have eY:=un21_in (Nat.lt_trans ae hV) hd0 hV aa;rw[←hY] at eY;obtain ⟨Z,hZ⟩:∃ Z,Z=Y / 2^s:=⟨_,rfl⟩
        have eZ:(Y:Int) / 2^min s 64=Z:=by rw[hZ,Nat.min_eq_left (Nat.le_of_lt ak.out),Int.natCast_ediv,Int.natCast_pow];rfl
        refine zh3 ?_ hY hZ aa;clear hY hZ aa ac ab;intro HY HZ ag;go_wp2;go_ret2;exact ⟨rfl,qf,qe,Z,rfl,af,by rw[HZ.out,HY.out,HX.out],by rw[←HX.out];exact ag.out⟩
      ·have d2:¬4294967296*(rr:Int)+un0 < p:=by omega
       obtain ⟨qe,ab⟩:∃ qe,qe=qq:=⟨_,rfl⟩;subst ab;have aa:Done X un0 V qe:=HH.out.fits HV.out (by rw[←hp.out];unfold B32;omega);clear c1 c2 HH hp;have ac:=af.out.lt hu hd;have ab:=aa.lt ae hd0
       have b1:(qf:Int) < 4294967296:=by unfold B32 at ac;omega
       have b2:(qe:Int) < 4294967296:=by unfold B32 at ab;omega
       obtain ⟨Y,hY⟩:∃ Y,Y=X*B32+un0 - qe*V:=⟨_,rfl⟩;have eY:=un21_in (Nat.lt_trans ae hV) hd0 hV aa;rw[←hY] at eY;obtain ⟨Z,hZ⟩:∃ Z,Z=Y / 2^s:=⟨_,rfl⟩
       have eZ:(Y:Int) / 2^min s 64=Z:=by rw[hZ,Nat.min_eq_left (Nat.le_of_lt ak.out),Int.natCast_ediv,Int.natCast_pow];rfl
       refine zh3 ?_ hY hZ aa;clear hY hZ aa ac ab;intro HY HZ ag;go_wp2;go_ret2;exact ⟨rfl,qf,qe,Z,rfl,af,by rw[HZ.out,HY.out,HX.out],by rw[←HX.out];exact ag.out⟩
theorem bitLen_bounds {x:Nat}(h:x < W64)(h0:x≠0):1≤Lib.bitLen x∧Lib.bitLen x≤64∧2^(Lib.bitLen x - 1)≤x∧x < 2^Lib.bitLen x:=by
 obtain ⟨a,b,c⟩:=Lib.bitLenAux_bounds 64 x h h0;exact ⟨a,Lib.bitLen_le x 64 (Nat.le_refl _) h,b,c⟩
theorem lz_calls (x:Nat)(h:x < W64)(h0:x≠0):∃ s:Nat,s < 64∧2^63≤x*2^s∧x*2^s < W64∧
  ∀ w,Calls prog 256 #[.int .u64 x] w fun e w'=>e=.returned (.int .i64 s)∧w=w':=by
 obtain ⟨a,b,c,d⟩:=bitLen_bounds h h0;refine ⟨64 - Lib.bitLen x,by omega,?_,?_,fun w=>?_⟩
 ·have:=Nat.mul_le_mul_right (2^(64 - Lib.bitLen x)) c;rw[←Nat.pow_add,show Lib.bitLen x - 1+(64 - Lib.bitLen x)=63 by omega] at this;exact this
 ·have:=Nat.mul_lt_mul_of_pos_right d (Nat.pow_pos (n:=64 - Lib.bitLen x) (show 0 < 2 by omega));rw[←Nat.pow_add,show Lib.bitLen x+(64 - Lib.bitLen x)=64 by omega] at this;exact this
 ·refine (Tryz.bits_LeadingZeros64 x w (by omega) (by unfold W64 at h;omega)).mono fun e w' ⟨h1,h2⟩=>⟨?_,h2.symm⟩;rw[h1];simp only[Int.toNat_natCast];congr 2;omega
theorem len_calls (x:Nat)(h:x < W64)(w:World):Calls prog 191 #[.int .u64 x] w fun e w'=>e=.returned (.int .i64 (Lib.bitLen x))∧w=w':=by
 refine (Tryz.bits_Len64 x w (by omega) (by unfold W64 at h;omega)).mono fun e w' ⟨h1,h2⟩=>⟨?_,h2.symm⟩;rw[h1];simp only[Int.toNat_natCast]
theorem div64_glue {hi lo y s V U T un1 un0 a b:Nat} (hVe:V=y*2^s) (hUT:U*W64+T=(hi*W64+lo)*2^s) (hT:T=un1*B32+un0)
  (h1:Done U un1 V a) (h2:Done (U*B32+un1 - a*V) un0 V b):
  (a*B32+b)*y+((U*B32+un1 - a*V)*B32+un0 - b*V) / 2^s=hi*W64+lo∧((U*B32+un1 - a*V)*B32+un0 - b*V) / 2^s < y:=by
 have g1:=h1.le;have g2:=h2.le;have g3:=h2.rest;have hp:0 < 2^s:=Nat.pow_pos (by omega)
 have e1:(U*B32+un1 - a*V)*B32=U*B32*B32+un1*B32 - a*V*B32:=by rw[Nat.sub_mul,Nat.add_mul]
 have e2:a*V*B32≤(U*B32+un1)*B32:=Nat.mul_le_mul_right _ g1
 have e3:U*B32*B32=U*W64:=by rw[Nat.mul_assoc,show B32*B32=W64 from rfl]
 have e4:(U*B32+un1)*B32=U*W64+un1*B32:=by rw[Nat.add_mul,e3]
 have e5:(a*B32+b)*V=a*V*B32+b*V:=by rw[Nat.add_mul,Nat.mul_right_comm]
 obtain ⟨Y,hY⟩:∃ Y,Y=(U*B32+un1 - a*V)*B32+un0 - b*V:=⟨_,rfl⟩;rw[←hY] at g3⊢
 have e6:(a*B32+b)*V+Y=(hi*W64+lo)*2^s:=by omega
 have e7:(a*B32+b)*V=(a*B32+b)*y*2^s:=by rw[hVe,Nat.mul_assoc]
 rw[e7]at e6
 have e8:Y=(hi*W64+lo - (a*B32+b)*y)*2^s:=by rw[Nat.sub_mul];omega
 have e9:(a*B32+b)*y≤hi*W64+lo:=by
  have:(a*B32+b)*y*2^s≤(hi*W64+lo)*2^s:=by omega
  exact Nat.le_of_mul_le_mul_right this hp
 rw[e8,Nat.mul_div_cancel _ hp];refine ⟨by omega,?_⟩;rw[e8,hVe] at g3;exact Nat.lt_of_mul_lt_mul_right g3
theorem div64_low (lo y:Nat)(w:World)(hlo:lo < W64)(hy:y < W64)(h0:0 < y):
  Calls prog 255 #[.int .u64 0,.int .u64 lo,.int .u64 y] w fun e w'=>(∃ m,w'=w.drewN m)∧e=.returned (.tuple #[.int .u64 (lo / y:Nat),.int .u64 (lo % y:Nat)]):=by
 have g1:((y:Int)==0)=false:=by simp;omega
 have aa:(0:Int) < y:=by omega
 unfold W64 at *;go_in;go_wp2
 go_quiet (fail)
 go_wp2;go_ret2
 have e1:IntKind.u64.wrap ((lo:Int) / (y:Int))=((lo / y:Nat):Int):=by
  have:=Nat.div_le_self lo y;rw[←Int.natCast_ediv,wrap_u64_nat,Nat.mod_eq_of_lt (by unfold W64;omega)]
 have e2:((lo:Int) % (y:Int))=((lo % y:Nat):Int):=by rw[Int.natCast_emod]
 refine ⟨⟨_,rfl⟩,?_⟩;show Ending.returned (Value.tuple #[.int .u64 (IntKind.u64.wrap ((lo:Int) / (y:Int))),.int .u64 ((lo:Int) % (y:Int))])=_;rw[e1,e2]
theorem div64_calls (hi lo y:Nat)(hlo:lo < W64)(hy:y < W64)(hlt:hi < y)(w:World):∃ q r:Nat,q < W64∧r < y∧q*y+r=hi*W64+lo∧
  Calls prog 255 #[.int .u64 hi,.int .u64 lo,.int .u64 y] w fun e w'=>e=.returned (.tuple #[.int .u64 q,.int .u64 r])∧∃ m,w'=w.drewN m:=by
 by_cases h0:hi=0
 ·subst h0;refine ⟨lo / y,lo % y,Nat.lt_of_le_of_lt (Nat.div_le_self _ _) hlo,Nat.mod_lt _ (by omega),?_,(div64_low lo y w hlo hy (by omega)).mono fun e w' ⟨h1,h2⟩=>⟨h2,h1⟩⟩;have:=Nat.div_add_mod lo y;rw[Nat.mul_comm (lo / y)];omega
 ·obtain ⟨s,hs,ae,aa,an⟩:=lz_calls y hy (by omega);obtain ⟨V,hV⟩:∃ V,V=y*2^s:=⟨_,rfl⟩;rw[←hV] at ae aa;have hp:0 < 2^s:=Nat.pow_pos (by omega)
  have au:hi*2^s+2^s≤V:=by
   have:=Nat.mul_le_mul_right (2^s) (show hi+1≤y from hlt);rw[Nat.add_mul,Nat.one_mul] at this;rw[hV];exact this
  have ar:lo*2^s / W64 < 2^s:=by
   rw[Nat.div_lt_iff_lt_mul (by decide),Nat.mul_comm];exact Nat.mul_lt_mul_of_pos_left hlo hp
  obtain ⟨U,hU⟩:∃ U,U=hi*2^s+lo*2^s / W64:=⟨_,rfl⟩;obtain ⟨T,hT⟩:∃ T,T=lo*2^s % W64:=⟨_,rfl⟩
  have ac:T < W64:=by rw[hT];exact Nat.mod_lt _ (by decide)
  have ad:U < V:=by omega
  have hv:V=V / B32*B32+V % B32:=by have:=Nat.div_add_mod V B32;rw[Nat.mul_comm] at this;omega
  have ah:V % B32 < B32:=Nat.mod_lt _ (by decide)
  have ai:B32≤2*(V / B32):=by unfold B32;omega
  have ab:V / B32 < B32:=by unfold B32 W64 at *;omega
  have ag:T / B32 < B32:=by unfold B32 W64 at *;omega
  have ap:T % B32 < B32:=Nat.mod_lt _ (by decide);obtain ⟨q0,r0,f1,f2,f3,ao⟩:=half_start hv ah ai ab ad ag
  have am:U*W64+T=(hi*W64+lo)*2^s:=by
   have h1:=Nat.div_add_mod (lo*2^s) W64;rw[←hT] at h1
   have h2:(hi*W64+lo)*2^s=hi*2^s*W64+lo*2^s:=by rw[Nat.add_mul,Nat.mul_right_comm]
   rw[h2,hU,Nat.add_mul,Nat.mul_comm (lo*2^s / W64)];omega
  have aq:∀ a b z:Nat,Done U (T / B32) V a→Done (U*B32+T / B32 - a*V) (T % B32) V b→z=((U*B32+T / B32 - a*V)*B32+T % B32 - b*V) / 2^s→(a*B32+b)*y+z=hi*W64+lo∧z < y:=fun a b z d1 d2 hz=>by
   rw[hz];exact div64_glue hV am (by have:=Nat.div_add_mod T B32;rw[Nat.mul_comm];omega) d1 d2
  have ak:=div64_walk hi lo y s V (V / B32) (V % B32) U T (T / B32) (T % B32) q0 r0 w hlo hy hlt (by omega) hs an
   (by rw[hV];exact shl_in (by rw[←hV];exact aa)) (by rw[Int.natCast_ediv];rfl) (bits_mask32 V aa) (by rw[hU];exact join_high hs hlo (by omega)) (by rw[hT];exact shl_mod)
   (by rw[Int.natCast_ediv];rfl) (bits_mask32 T ac) f1 f2 f3 aa hv ah ai ab ad ag ap ao
  have al:∃ q r:Nat,q*y+r=hi*W64+lo∧r < y:=⟨(hi*W64+lo) / y,(hi*W64+lo) % y,by have:=Nat.div_add_mod (hi*W64+lo) y;rw[Nat.mul_comm] at this;exact this,Nat.mod_lt _ (by omega)⟩;obtain ⟨q,r,af,hr⟩:=al
  have aj:∀ q' r',q'*y+r'=hi*W64+lo→r' < y→q'=q∧r'=r:=fun q' r' h1 h2=>by
   have e1:(q'*y+r') / y=q':=by rw[Nat.mul_comm,Nat.mul_add_div (by omega),Nat.div_eq_of_lt h2];omega
   have e2:(q*y+r) / y=q:=by rw[Nat.mul_comm,Nat.mul_add_div (by omega),Nat.div_eq_of_lt hr];omega
   have:q'=q:=by rw[←e1,←e2,h1,af]
   subst this;exact ⟨rfl,by omega⟩
  refine ⟨q,r,?_,hr,af,ak.mono fun e w' ⟨h1,a,b,z,h2,h3,h4,h5⟩=>⟨?_,0,by rw[←h1];rfl⟩⟩
  ·have:q*y < W64*y:=by
    have:(hi+1)*W64≤y*W64:=Nat.mul_le_mul_right _ hlt;rw[Nat.add_mul,Nat.mul_comm y] at this;omega
   exact Nat.lt_of_mul_lt_mul_right this
  ·obtain ⟨k1,k2⟩:=aq a b z h3 h5 h4;obtain ⟨e1,rfl⟩:=aj _ _ k1 k2;rw[h2,←e1];congr 3
theorem div64_calls' (hi lo y:Nat)(hlo:lo < W64)(hy:y < W64)(hlt:hi < y):∃ q r:Nat,q < W64∧r < y∧q*y+r=hi*W64+lo∧
  ∀ w,Calls prog 255 #[.int .u64 hi,.int .u64 lo,.int .u64 y] w fun e w'=>e=.returned (.tuple #[.int .u64 q,.int .u64 r])∧∃ m,w'=w.drewN m:=by
 have ab:0 < y:=by omega
 obtain ⟨q,hq⟩:∃ q,q=(hi*W64+lo) / y:=⟨_,rfl⟩;obtain ⟨r,hr⟩:∃ r,r=(hi*W64+lo) % y:=⟨_,rfl⟩
 have aa:∀ q' r',q'*y+r'=hi*W64+lo→r' < y→q'=q∧r'=r:=fun q' r' h1 h2=>by
  rw[hq,hr,←h1,Nat.mul_comm,Nat.mul_add_div ab,Nat.div_eq_of_lt h2,Nat.mul_add_mod,Nat.mod_eq_of_lt h2];exact ⟨by omega,rfl⟩
 obtain ⟨q1,r1,a1,a2,a3,_⟩:=div64_calls hi lo y hlo hy hlt default;obtain ⟨rfl,rfl⟩:=aa q1 r1 a3 a2;refine ⟨q1,r1,a1,a2,a3,fun w=>?_⟩;obtain ⟨q2,r2,_,c2,c3,c4⟩:=div64_calls hi lo y hlo hy hlt w;obtain ⟨rfl,rfl⟩:=aa q2 r2 c3 c2;exact c4
def But (B:Nat)(w w':World):Prop:=w.grownBy w' (some B)
theorem But.refl (B:Nat)(w:World):But B w w:=⟨rfl,rfl,rfl,Nat.le_refl _,fun _ _ _=>rfl⟩
theorem But.drewN {B:Nat}{w w':World}(h:But B w w')(n:Nat):But B w (w'.drewN n):=⟨h.os,h.tape,h.output,h.size,h.block⟩
theorem But.drew {B:Nat}{w w':World}(h:But B w w'):But B w w'.drew:=⟨h.os,h.tape,h.output,h.size,h.block⟩
theorem But.setCell {B:Nat}{w w':World}(h:But B w w')(i:Nat)(u:Value):But B w (w'.setCell ⟨B,i,none⟩ u):=
 ⟨h.os,h.tape,h.output,by simpa[World.setCell] using h.size,fun k hk hne=>(Below.heap_setCell w' ⟨B,i,none⟩ u k (by rintro rfl;exact hne rfl)).trans (h.block k hk hne)⟩
theorem But.cell {B:Nat}{w w':World}(h:But B w w'){p:Addr}{v:Value}(hc:w.cell? p=some v)(hne:p.block≠B):w'.cell? p=some v:=
 (World.cell?_of_block (w:=w) (h.block p.block (lt_of_cell hc) (by intro e;injection e with e;exact hne e))).trans hc
theorem But.new {B:Nat}{w w':World}(h:But B w w'){w0:World}(h0:New w0 w)(hB:w0.heap.size≤B):New w0 w':=Below.grown h0 h h0.size (fun k hk=>by injection hk with hk;omega)
structure OnWay (u v:Nat→Nat)(k h r ov:Nat):Prop where
 hov:ov≤1
 hr:r < W64
 hh:h < W64
 rest:h*v (k+1)+(r+W64*ov)=u (k+2)*W64+u (k+1)
 ge:vf W64 u (k+3) < (h+1)*vf W64 v (k+2)
structure Fit (u v:Nat→Nat)(k h:Nat):Prop where
 hh:h < W64
 ge:vf W64 u (k+3) < (h+1)*vf W64 v (k+2)
 le:h*vf W64 v (k+2)≤vf W64 u (k+3)+vf W64 v (k+2)
section
variable {u v:Nat→Nat} {k h r ov:Nat} (hu:∀ i,i < k+3→u i < W64) (hv:∀ i,i < k+2→v i < W64) (hv0:v (k+1)≠0)
theorem top_le (hlt:vf W64 (fun i=>u (1+i)) (k+2) < vf W64 v (k+2))(hv:∀ i,i < k+2→v i < W64):u (k+2)≤v (k+1):=by
 rcases Nat.lt_or_ge (v (k+1)) (u (k+2)) with h | h
 ·exfalso;rw[vf_succ _ v,vf_succ,show 1+(k+1)=k+2 by omega] at hlt;have h1:vf W64 v (k+1) < W64^(k+1):=vf_lt fun i hi=>hv i (by omega);have h2:(v (k+1)+1)*W64^(k+1)≤u (k+2)*W64^(k+1):=Nat.mul_le_mul_right _ h;rw[Nat.add_mul,Nat.one_mul] at h2;omega
 ·exact h
theorem all_lt (hlt:vf W64 (fun i=>u (1+i)) (k+2) < vf W64 v (k+2))(hu:∀ i,i < k+3→u i < W64):vf W64 u (k+3) < W64*vf W64 v (k+2):=by
 have e:vf W64 u (k+3)=u 0+W64*vf W64 (fun i=>u (i+1)) (k+2):=vf_head W64 u (k+2)
 have e2:(fun i=>u (i+1))=fun i=>u (1+i):=funext fun i=>by rw[Nat.add_comm]
 rw[e,e2];have h1:=hu 0 (by omega);have h2:W64*(vf W64 (fun i=>u (1+i)) (k+2)+1)≤W64*vf W64 v (k+2):=Nat.mul_le_mul_left _ hlt;rw[Nat.mul_add,Nat.mul_one] at h2;omega
include hu in
theorem OnWay.equal (hlt:vf W64 (fun i=>u (1+i)) (k+2) < vf W64 v (k+2))(heq:u (k+2)=v (k+1))(hr:r < W64)(ho:ov≤1)(hs:r+W64*ov=u (k+1)+v (k+1)):
  OnWay u v k 18446744073709551615 r ov:=by
 refine ⟨ho,hr,by decide,?_,?_⟩
 ·rw[hs,heq];unfold W64;omega
 ·have:=all_lt (k:=k) hlt hu;exact this
include hu hv hv0 in
theorem OnWay.divided (hr:r < v (k+1))(hh:h < W64)(hs:h*v (k+1)+r=u (k+2)*W64+u (k+1)):OnWay u v k h r 0:=by
 have aa:=hv (k+1) (by omega);refine ⟨by omega,by omega,hh,by omega,?_⟩;have h1:=first_ge (B:=W64) (n:=k) (by decide) hu hv0
 have e:(u (k+2)*W64+u (k+1)) / v (k+1)=h:=by
  rw[←hs,Nat.mul_comm,Nat.mul_add_div (by omega),Nat.div_eq_of_lt hr,Nat.add_zero]
 rw[e]at h1;exact h1
include hv hv0 in
theorem OnWay.over (o:OnWay u v k h r 1):Fit u v k h:=by
 refine ⟨o.hh,o.ge,guess_pass (B:=W64) (n:=k) hv hv0 o.hh ?_⟩;exact test_over o.rest (by omega) o.hh (hv k (by omega))
include hv hv0 in
theorem OnWay.pass (o:OnWay u v k h r 0)(ht:h*v k≤r*W64+u k):Fit u v k h:=by
 refine ⟨o.hh,o.ge,guess_pass (B:=W64) (n:=k) hv hv0 o.hh ?_⟩;have:=o.rest;rw[←test_iff (r:=r) (by omega)];exact ht
include hu hv0 in
theorem OnWay.fail (o:OnWay u v k h r 0)(ht:r*W64+u k < h*v k){r' ov':Nat}(hr:r' < W64)(ho:ov'≤1)(hs:r'+W64*ov'=r+v (k+1)):0 < h∧OnWay u v k (h - 1) r' ov':=by
 have h0:=o.rest
 have h1:=guess_fail (B:=W64) (n:=k) (h:=h) (u:=u) (v:=v) (by decide) hu hv0 (by
  have:=(test_iff (B:=W64) (T2:=u (k+2)*W64+u (k+1)) (vt:=v (k+1)) (v2:=v k) (u2:=u k) (h:=h) (r:=r) (by omega));rcases Nat.lt_or_ge ((u (k+2)*W64+u (k+1))*W64+u k) (h*(v (k+1)*W64+v k)) with h2 | h2
  ·exact h2
  ·exact absurd (this.2 h2) (by omega))
 obtain ⟨hp,aa⟩:=h1;refine ⟨hp,ho,hr,by have:=o.hh;omega,?_,aa⟩;obtain ⟨n,rfl⟩:∃ n,h=n+1:=⟨h - 1,by omega⟩;rw[Nat.add_mul,Nat.one_mul] at h0;simp only[Nat.add_sub_cancel];omega
end
theorem msub_digit {p u g:Nat→Nat} {j i t bb cc d lo b' c':Nat} (h:vf W64 (fun i=>p (j+i)) i+t*vf W64 g i=vf W64 u i+(bb+cc)*W64^i)
  (hp:lo+W64*c'=t*g i+cc) (hs:d+lo+bb=u i+W64*b'):
  vf W64 (fun x=>upd p (j+i) d (j+x)) (i+1)+t*vf W64 g (i+1)=vf W64 u (i+1)+(b'+c')*W64^(i+1):=by
 refine msub_step (b:=bb) (c:=cc) (lo:=lo) ?_ hp ?_
 ·rw[←h];congr 1;exact vf_congr fun x hx=>upd_other _ _ (by omega)
 ·simp only[upd_same];exact hs
theorem msub_last {p u:Nat→Nat}{j n bb cc d b' t V:Nat}(h:vf W64 (fun i=>p (j+i)) n+t*V=vf W64 u n+(bb+cc)*W64^n)(hs:d+cc+bb=u n+W64*b'):
  vf W64 (fun x=>upd p (j+n) d (j+x)) (n+1)+t*V=vf W64 u (n+1)+b'*W64^(n+1):=by
 have e:vf W64 (fun x=>upd p (j+n) d (j+x)) n=vf W64 (fun i=>p (j+i)) n:=vf_congr fun x hx=>upd_other _ _ (by omega)
 have h2:(d+cc+bb)*W64^n=(u n+W64*b')*W64^n:=by rw[hs]
 rw[Nat.add_mul,Nat.add_mul,Nat.add_mul]at h2;rw[Nat.add_mul] at h;rw[vf_succ _ u,vf_succ,e,upd_same,Nat.pow_succ,Nat.mul_comm (W64^n) W64,←Nat.mul_assoc,Nat.mul_comm b'];omega
theorem back_digit {p q g:Nat→Nat}{j i cc d c':Nat}(h:vf W64 (fun i=>p (j+i)) i+cc*W64^i=vf W64 (fun i=>q (j+i)) i+vf W64 g i)(hs:d+W64*c'=q (j+i)+g i+cc):
  vf W64 (fun x=>upd p (j+i) d (j+x)) (i+1)+c'*W64^(i+1)=vf W64 (fun i=>q (j+i)) (i+1)+vf W64 g (i+1):=by
 refine add_step (c:=cc) ?_ ?_
 ·rw[←h];congr 1;exact vf_congr fun x hx=>upd_other _ _ (by omega)
 ·simp only[upd_same];exact hs
theorem msub_last0 {p u:Nat→Nat}{j n bb cc d b' t V:Nat}(h:vf W64 (fun i=>p (j+i)) n+t*V=vf W64 u n+(bb+cc)*W64^n)(hs:d+cc+bb=u n+W64*b')(hz:b'=0):
  vf W64 (fun x=>upd p (j+n) d (j+x)) (n+1)+t*V=vf W64 u (n+1):=by
 have:=msub_last h hs;rw[hz] at this;generalize W64^(n+1)=P at this;omega
theorem msub_last1 {p u:Nat→Nat}{j n bb cc d b' t V:Nat}(h:vf W64 (fun i=>p (j+i)) n+t*V=vf W64 u n+(bb+cc)*W64^n)(hs:d+cc+bb=u n+W64*b')(hz:b'=1):
  vf W64 (fun x=>upd p (j+n) d (j+x)) (n+1)+t*V=vf W64 u (n+1)+W64^(n+1):=by
 have:=msub_last h hs;rw[hz] at this;generalize W64^(n+1)=P at this⊢;omega
theorem back_last {A cc pt D S:Nat}(h:A+(cc+pt)*D=S)(hA:A < D)(hS:W64*D≤S)(hp:pt < W64)(hc:cc≤1):cc+pt=W64∧A=S - W64*D:=by
 have h1:cc+pt=W64:=by
  rcases Nat.lt_or_ge (cc+pt) W64 with h2 | h2
  ·exfalso;have:=Nat.mul_le_mul_right D (show cc+pt+1≤W64 from h2);rw[Nat.add_mul,Nat.one_mul] at this;omega
  ·omega
 rw[h1]at h;exact ⟨h1,by omega⟩
def StepPost (w:World)(B N j k:Nat)(o g:Nat→Nat)(e:Ending)(w':World):Prop:=∃ (q:Nat) (p:Nat→Nat),e=.returned (.int .u64 q)∧q < W64∧But B w w'∧Row w' B 198 .u64 N p∧(∀ i,p i < W64)∧
 (∀ i,(i < j∨j+k+3≤i)→p i=o i)∧vf W64 (fun i=>p (j+i)) (k+3)+q*vf W64 g (k+2)=vf W64 (fun i=>o (j+i)) (k+3)∧vf W64 (fun i=>p (j+i)) (k+3) < vf W64 g (k+2)
theorem ret_u64 {a b:Int}(h:a=b):Ending.returned (.int .u64 a)=.returned (.int .u64 b):=by rw[h]
def tailN:Nat→Code→Code
 | 0,c=>c
 | n+1,.seq _ b=>tailN n b
 | _,c=>c
noncomputable def stepCode (n:Nat):Code:=tailN n ((Tryz.f258.body).getD .skip)
structure StepIn (w:World)(B N j k c b2 o2:Nat)(o g u:Nat→Nat):Prop where
 hN:j+(k+3)≤N
 hN2:N≤2000003
 hcc:k+3≤c
 hne:b2≠B
 ha:∀ i,i < k+2→w.cell? ⟨b2,o2+i,none⟩=some (.int .u64 (g i))
 hol:∀ i,o i < W64
 hgl:∀ i,i < k+2→g i < W64
 hg0:g (k+1)≠0
 hu:u=fun i=>o (j+i)
 hlt:vf W64 (fun i=>u (1+i)) (k+2) < vf W64 g (k+2)
theorem StepIn.hul {w:World}{B N j k c b2 o2:Nat}{o g u:Nat→Nat}(X:StepIn w B N j k c b2 o2 o g u)(i:Nat):u i < W64:=by rw[X.hu];exact X.hol _
theorem StepIn.at {w:World}{B N j k c b2 o2:Nat}{o g u:Nat→Nat}(X:StepIn w B N j k c b2 o2 o g u)(i:Nat):o (j+i)=u i:=by rw[X.hu]
structure Borrowed (j k h:Nat)(o p g u:Nat→Nat):Prop where
 lt:∀ i,p i < W64
 out:∀ i,(i < j∨j+k+3≤i)→p i=o i
 val:vf W64 (fun i=>p (j+i)) (k+3)+h*vf W64 g (k+2)=vf W64 u (k+3)+W64^(k+3)
theorem step_back (B j c N k b2 o2 ca h:Nat) (o g u p:Nat→Nat) (w wc:World) (v2 v3 v4 v7 v8 v9 v10 v11 v12 v13 v14 v15 v16 v17 v18 v19 v20 v21 v22 v23 v24 v25 v26 v27 v28 v29 v30 v31 v32 v33 v34 v35 v36 v37 v38 v39 v40 v41 v42 v43 v44 v45 v46 v47 v48 v49 v50 v51 v52 v53 v54 v55 v56 v57 v58 v59 v60 v61 v62 v63 v64 v65 v66 v67 v68 v69 v70 v71 v72 v73 v74 v75 v76 v77 v78 v79 v80 v81 v82 v83 v84 v85 v86 v87 v88 v89 v90 v91 v92 v93 v94 v95 v96 v97 v98 v99 v100 v101 v102 v103 v104 v105 v106 v107 v108 v109 v110 v111 v112 v113 v114 v115 v116 v117 v118 v119 v120 v121 v122 v123 v124 v125 v126 v127 v128 v129 v130 v131 v132 v133 v134 v135 v136 v137 v138 v139 v140 v141 v142 v143 v144 v145 v146 v147 v148 v149 v150 v151 v152 v153 v154 v155 v156 v157 v158 v159 v160 v161 v162 v163 v164 v165 v166 v167 v168 v169 v170 v171 v172 v173 v174 v175 v176 v177 v178 v179 v180 v181 v182 v183 v184 v185:Value)
  (X:StepIn w B N j k c b2 o2 o g u) (ab:Fit u g k h) (aa:Borrowed j k h o p g u) (hb:But B w wc) (hr:Row wc B 198 .u64 N p):
  Code.wp prog (stepCode 10) (bodyPost prog Tryz.f258 (StepPost w B N j k o g)) ⟨#[.slice (some ⟨B,j,none⟩) (k+3) c,.slice (some ⟨b2,o2,none⟩) (k+2) ca,v2,v3,v4,.int .i64 ((k:Int)+2),.int .u64 h,v7,v8,v9,v10,v11,v12,v13,v14,v15,v16,v17,v18,v19,v20,v21,v22,v23,v24,v25,v26,v27,v28,v29,v30,v31,v32,v33,v34,v35,v36,v37,v38,v39,v40,v41,v42,v43,v44,v45,v46,v47,v48,v49,v50,v51,v52,v53,v54,v55,v56,v57,v58,v59,v60,v61,v62,v63,v64,v65,v66,v67,v68,v69,v70,v71,v72,v73,v74,v75,v76,v77,v78,v79,v80,v81,v82,v83,v84,v85,v86,v87,v88,v89,v90,v91,v92,v93,v94,v95,v96,v97,v98,v99,v100,v101,v102,v103,v104,v105,v106,v107,v108,v109,v110,v111,v112,v113,v114,v115,v116,v117,v118,v119,v120,v121,v122,v123,v124,v125,v126,v127,v128,v129,v130,v131,v132,v133,v134,v135,v136,v137,v138,v139,v140,v141,v142,v143,v144,v145,v146,v147,v148,v149,v150,v151,v152,v153,v154,v155,v156,v157,v158,v159,v160,v161,v162,v163,v164,v165,v166,v167,v168,v169,v170,v171,v172,v173,v174,v175,v176,v177,v178,v179,v180,v181,v182,v183,v184,v185],[]⟩ wc:=by
 have HX:=hid X;have au:=X.hne;have hN:=X.hN;have az:=X.hN2;have a0:=X.hcc;replace ab:=hid ab;replace aa:=hid aa;clear X
 conv=>arg 2;whnf
 go_wp2_with fail
 go_loopw [17,157] (fun sc si wx=>∃ (kk cc:Nat) (q:Nat→Nat),kk≤k+2∧si=.int .i64 kk∧sc=.int .u64 cc∧cc≤1∧But B w wx∧Row wx B 198 .u64 N q∧(∀ i,q i < W64)∧
  (∀ i,(i < j∨j+kk≤i)→q i=p i)∧vf W64 (fun i=>q (j+i)) kk+cc*W64^kk=vf W64 (fun i=>p (j+i)) kk+vf W64 g kk) (fun _ si _=>k+2 - (intOf si).toNat)
 case atStart=>exact ⟨0,0,p,by omega,rfl,rfl,by omega,hb,hr,aa.out.lt,fun _ _=>rfl,by simp[vf_zero]⟩
 case round=>
  clear hb hr;obtain ⟨kk,cc,q,ar,rfl,rfl,af,hb,hr,ac,am,ah⟩:=hrel;refine zh3 ?_ ah ac am;clear ah am;intro HV HQ ad;by_cases hlt:kk < k+2
  ·have e1:=hb.cell (HX.out.ha kk hlt) au;have aq:=HX.out.hgl kk hlt;have f1:=hr.cell (i:=j+kk) (by omega);have ff:=hr.frozen (j+kk);have av:=ac (j+kk);obtain ⟨d,c',hd,ap,hs,aj⟩:=add64_ex (q (j+kk)) (g kk) cc av aq af;refine zh3 ?_ hs hb hr;clear hs hb hr ac;intro HS HB HR;go_wp2_with fail
   go_region
   go_wp2_with fail;clear aj e1 f1 ff;go_roundw
   case rel=>
    refine ⟨kk+1,c',upd q (j+kk) d,by omega,by go_num,rfl,ap,(HB.out.setCell _ _).drew,(HR.out.set _ _).drew,upd_lt HQ.out hd,fun i hi=>?_,?_⟩
    ·rw[upd_other _ _ (by omega)];exact ad i (by omega)
    ·have aw:q (j+kk)=p (j+kk):=ad.out _ (by omega);exact back_digit (q:=p) HV (by rw[←aw];exact HS.out)
   case measure=>simp[intOf];omega
  ·obtain rfl:kk=k+2:=by omega
   have ak:q (j+(k+2))=p (j+(k+2)):=ad.out _ (by omega);have al:=aa.out.lt (j+(k+2))
   have hP:W64^(k+3)=W64*W64^(k+2):=by rw[Nat.pow_succ,Nat.mul_comm]
   obtain ⟨m1,m2,m3,m4⟩:=msub_back aa.val (vf_lt fun i _=>aa.lt _) ab.le;have hO:vf W64 (fun i=>p (j+i)) (k+3)=vf W64 (fun i=>p (j+i)) (k+2)+p (j+(k+2))*W64^(k+2):=vf_succ _ _ _
   obtain ⟨b1,ai⟩:=back_last (A:=vf W64 (fun i=>q (j+i)) (k+2)) (cc:=cc) (pt:=p (j+(k+2))) (D:=W64^(k+2)) (S:=vf W64 (fun i=>p (j+i)) (k+3)+vf W64 g (k+2))
    (by have:=HV.out;rw[Nat.add_mul,hO];omega) (vf_lt fun i _=>ac _) (by rw[←hP];exact m2) al af
   have ay:IntKind.u64.wrap ((q (j+(k+2)):Int)+cc)=0:=by
    rw[ak,←Int.natCast_add,wrap_u64_nat,Nat.add_comm,b1];rfl
   have f1:=hr.cell (i:=j+(k+2)) (by omega);have ff:=hr.frozen (j+(k+2))
   have ax:(1:Int)≤h:=by omega
   have ag:vf W64 (fun x=>upd q (j+(k+2)) 0 (j+x)) (k+3)=vf W64 (fun i=>p (j+i)) (k+3)+vf W64 g (k+2) - W64^(k+3):=by
    rw[vf_succ,upd_same,Nat.zero_mul,Nat.add_zero,hP,←ai];exact vf_congr fun x hx=>upd_other _ _ (by omega)
   have hh:=ab.out.hh;refine zh5 ?_ ag m3 m4 hb hr;clear ag m1 m2 m3 m4 hO b1 ai ak al hP hb hr ac hlt ar;intro ae an ao HB HR;unfold W64 at hh;go_wp2_with fail;go_ret;refine ⟨h - 1,upd q (j+(k+2)) 0,ret_u64 (by omega),by unfold W64;omega,HB.out.setCell _ _,row_int HR.out rfl,upd_lt HQ.out (by decide),fun i hi=>?_,?_,?_⟩
   ·rw[upd_other _ _ (by omega),ad.out i (by omega)];exact aa.out.out i hi
   ·rw[ae.out,an.out];congr 1;rw[HX.out.hu]
   ·rw[ae.out];exact ao
theorem step_sub (B j c N k b2 o2 ca h:Nat) (o g u:Nat→Nat) (w wc:World) (v2 v3 v4 v7 v8 v9 v10 v11 v12 v13 v14 v15 v16 v17 v18 v19 v20 v21 v22 v23 v24 v25 v26 v27 v28 v29 v30 v31 v32 v33 v34 v35 v36 v37 v38 v39 v40 v41 v42 v43 v44 v45 v46 v47 v48 v49 v50 v51 v52 v53 v54 v55 v56 v57 v58 v59 v60 v61 v62 v63 v64 v65 v66 v67 v68 v69 v70 v71 v72 v73 v74 v75 v76 v77 v78 v79 v80 v81 v82 v83 v84 v85 v86 v87 v88 v89 v90 v91 v92 v93 v94 v95 v96 v97 v98 v99 v100 v101 v102 v103 v104 v105 v106 v107 v108 v109 v110 v111 v112 v113 v114 v115 v116 v117 v118 v119 v120 v121 v122 v123 v124 v125 v126 v127 v128 v129 v130 v131 v132 v133 v134 v135 v136 v137 v138 v139 v140 v141 v142 v143 v144 v145 v146 v147 v148 v149 v150 v151 v152 v153 v154 v155 v156 v157 v158 v159 v160 v161 v162 v163 v164 v165 v166 v167 v168 v169 v170 v171 v172 v173 v174 v175 v176 v177 v178 v179 v180 v181 v182 v183 v184 v185:Value)
  (X:StepIn w B N j k c b2 o2 o g u) (hfit:Fit u g k h) (hb:But B w wc) (hr:Row wc B 198 .u64 N o):
  Code.wp prog (stepCode 6) (bodyPost prog Tryz.f258 (StepPost w B N j k o g)) ⟨#[.slice (some ⟨B,j,none⟩) (k+3) c,.slice (some ⟨b2,o2,none⟩) (k+2) ca,v2,v3,v4,.int .i64 ((k:Int)+2),.int .u64 h,v7,v8,v9,v10,v11,v12,v13,v14,v15,v16,v17,v18,v19,v20,v21,v22,v23,v24,v25,v26,v27,v28,v29,v30,v31,v32,v33,v34,v35,v36,v37,v38,v39,v40,v41,v42,v43,v44,v45,v46,v47,v48,v49,v50,v51,v52,v53,v54,v55,v56,v57,v58,v59,v60,v61,v62,v63,v64,v65,v66,v67,v68,v69,v70,v71,v72,v73,v74,v75,v76,v77,v78,v79,v80,v81,v82,v83,v84,v85,v86,v87,v88,v89,v90,v91,v92,v93,v94,v95,v96,v97,v98,v99,v100,v101,v102,v103,v104,v105,v106,v107,v108,v109,v110,v111,v112,v113,v114,v115,v116,v117,v118,v119,v120,v121,v122,v123,v124,v125,v126,v127,v128,v129,v130,v131,v132,v133,v134,v135,v136,v137,v138,v139,v140,v141,v142,v143,v144,v145,v146,v147,v148,v149,v150,v151,v152,v153,v154,v155,v156,v157,v158,v159,v160,v161,v162,v163,v164,v165,v166,v167,v168,v169,v170,v171,v172,v173,v174,v175,v176,v177,v178,v179,v180,v181,v182,v183,v184,v185],[]⟩ wc:=by
 have HX:=hid X;have a6:=X.hne;have hN:=X.hN;have a9:=X.hN2;have ba:=X.hcc;have HF:=hid hfit;have hh:=hfit.hh;unfold W64 at hh;clear X hfit
 conv=>arg 2;whnf
 go_wp2_with fail
 go_loopw [11,12,105] (fun sb sc si wx=>∃ (kk bb cc:Nat) (p:Nat→Nat),kk≤k+2∧si=.int .i64 kk∧sb=.int .u64 bb∧sc=.int .u64 cc∧bb≤1∧cc < W64∧But B w wx∧Row wx B 198 .u64 N p∧(∀ i,p i < W64)∧
  (∀ i,(i < j∨j+kk≤i)→p i=o i)∧vf W64 (fun i=>p (j+i)) kk+h*vf W64 g kk=vf W64 u kk+(bb+cc)*W64^kk) (fun _ _ si _=>k+2 - (intOf si).toNat)
 case atStart=>exact ⟨0,0,0,o,by omega,rfl,rfl,rfl,by omega,by decide,hb,hr,HX.out.hol,fun _ _=>rfl,by simp[vf_zero]⟩
 case round=>
  clear hb hr;obtain ⟨kk,bb,cc,p,bf,rfl,rfl,rfl,au,af,hb,hr,ay,az,ak⟩:=hrel;refine zh3 ?_ ak ay az;clear ak ay az;intro HV HP ac;by_cases hlt:kk < k+2
  ·have e1:=hb.cell (HX.out.ha kk hlt) a6;have aw:=HX.out.hgl kk hlt;have f1:=hr.cell (i:=j+kk) (by omega);have ff:=hr.frozen (j+kk)
   have ag:p (j+kk)=u kk:=by rw[ac.out _ (by omega),HX.out.at]
   rw[ag]at f1;have a7:=HX.out.hul kk;clear ag;obtain ⟨hi,lo,a5,bc,ax,aj⟩:=mul64_ex h (g kk) hh aw;obtain ⟨d1,c1,av,a8,a0,aq⟩:=add64_ex0 lo cc a5 af;obtain ⟨d,b',hd,ar,ad,ae,ab⟩:=sub64_nat a7 av au;have aa:=sub64 (u kk) d1 bb (by omega) (by omega) (by unfold W64 at av;omega) (by omega) (by omega);simp only[ad,ae] at aa
   have ai:hi+c1 < W64:=by
    have h3:h*g kk≤18446744073709551615*18446744073709551615:=Nat.mul_le_mul (by omega) (by unfold W64 at aw;omega);unfold W64 at *;omega
   refine zh7 ?_ ax aj a0 ab hb hr ai;clear ax aj a0 ab hb hr ad ae ai;intro HM a1 a2 a3 HB HR ah;go_wp2_with (go_at_call 215;refine (a1 _).mono ?_;rintro e w' ⟨rfl,rfl⟩);clear aa aq e1 f1 ff;go_roundw
   case rel=>
    refine ⟨kk+1,b',hi+c1,upd p (j+kk) d,by omega,by go_num,rfl,by first | go_num | (rw[←Int.natCast_add,wrap_u64_nat,Nat.mod_eq_of_lt ah.out]),ar,ah.out,HB.out.setCell _ _,HR.out.set _ _,upd_lt HP.out hd,fun i be=>?_,?_⟩
    ·rw[upd_other _ _ (by omega)];exact ac i (by omega)
    ·refine msub_digit HV ?_ a3;have e2:=a2.out;have e3:=HM.out;unfold W64 at *;omega
   case measure=>simp[intOf];omega
  ·obtain rfl:kk=k+2:=by omega
   have ag:p (j+(k+2))=u (k+2):=by rw[ac.out _ (by omega),HX.out.at]
   have f1:=hr.cell (i:=j+(k+2)) (by omega);have ff:=hr.frozen (j+(k+2));have a4:=HX.out.hul (k+2);rw[ag] at f1;clear ag;obtain ⟨d,b',hd,ar,ad,ae,ab⟩:=sub64_nat (y:=cc) a4 af au;have aa:=sub64 (u (k+2)) cc bb (by omega) (by omega) (by unfold W64 at af;omega) (by omega) (by omega);simp only[ad,ae] at aa;have ao:=msub_last0 HV.out ab;have ap:=msub_last1 HV.out ab;refine zh4 ?_ ao ap (hb.setCell (j+(k+2)) (.int .u64 d)) (hr.set (j+(k+2)) d);clear ab hb hr ad ae ao ap hlt;intro al am HB HR;by_cases hz:b'=0
   ·have HL:=hid (al hz);clear al am;subst hz;go_wp2_with fail;go_ret;refine ⟨h,_,rfl,HF.hh,HB,HR,upd_lt HP hd,fun i hi=>?_,?_,?_⟩
    ·rw[upd_other _ _ (by omega)];exact ac i (by omega)
    ·have:=HL.out;rw[HX.out.hu] at this;exact this
    ·exact msub_ok HL HF.ge
   ·obtain rfl:b'=1:=by omega
    have an:Borrowed j k h o (upd p (j+(k+2)) d) g u:=⟨upd_lt HP.out hd,fun i hi=>by rw[upd_other _ _ (by omega)];exact ac.out i (by omega),by
     exact am rfl⟩
    replace an:=hid an;clear al am;go_upto_if 154 with (fail)
    go_step
    go_step
    go_step
    go_step
    exact step_back B j c N k b2 o2 ca h o g u _ w _ _ _ _ _ _ _ _ _ _ _ _ _ _ _ _ _ _ _ _ _ _ _ _ _ _ _ _ _ _ _ _ _ _ _ _ _ _ _ _ _ _ _ _ _ _ _ _ _ _ _ _ _ _ _ _ _ _ _ _ _ _ _ _ _ _ _ _ _ _ _ _ _ _ _ _ _ _ _ _ _ _ _ _ _ _ _ _ _ _ _ _ _ _ _ _ _ _ _ _ _ _ _ _ _ _ _ _ _ _ _ _ _ _ _ _ _ _ _ _ _ _ _ _ _ _ _ _ _ _ _ _ _ _ _ _ _ _ _ _ _ _ _ _ _ _ _ _ _ _ _ _ _ _ _ _ _ _ _ _ _ _ _ _ _ _ _ _ _ _ _ _ _ _ _ _ _ _ _ _ _ _ _ HX HF an HB HR
theorem step_any (B j c N k b2 o2 ca:Nat)(o g u:Nat→Nat)(w:World)(X:StepIn w B N j k c b2 o2 o g u)(ac:Row w B 198 .u64 N o):
  Calls prog 258 #[.slice (some ⟨B,j,none⟩) (k+3) c,.slice (some ⟨b2,o2,none⟩) (k+2) ca] w (StepPost w B N j k o g):=by
 have ak:=X.hne;have hN:=X.hN;have a5:=X.hN2;have a6:=X.hcc;have a4:=top_le X.hlt X.hgl
 have az:=X.hul k;have ai:=X.hul (k+1);have a0:=X.hul (k+2)
 have an:=X.hgl k (by omega);have af:=X.hgl (k+1) (by omega)
 have aw:=ac.cell (i:=j+(k+2)) (by omega);have ax:=ac.cell (i:=j+(k+1)) (by omega);have h1:=X.ha (k+1) (by omega);rw[X.at] at aw ax;replace X:=hid X;replace ac:=hid ac;unfold W64 at az ai a0 an af;go_in;go_wp2_with fail
 go_quiet (fail)
 have hb:But B w (w.drewN nq):=(But.refl B w).drewN nq;have hr:=ac.out.drewN nq;generalize w.drewN nq=w1 at *;have e1:=hb.cell h1 ak;have f0:=hr.cell (i:=j+(k+2)) (by omega);have f1:=hr.cell (i:=j+(k+1)) (by omega);rw[X.out.at] at f0 f1;have HB:=hid hb;have HR:=hid hr;clear hb hr aw ax h1;go_upto_if 30 with (fail)
 go_cut [6,7,8] (fun sq sr so wx=>∃ h r ov:Nat,sq=.int .u64 h∧sr=.int .u64 r∧so=.int .u64 ov∧OnWay u g k h r ov∧But B w wx∧Row wx B 198 .u64 N o)
 case first=>
  go_wp2_with fail
  ·have a1:g (k+1)≤u (k+2):=by assumption
   have aj:u (k+2)=g (k+1):=by omega
   obtain ⟨d,ov,hd,ar,hs,am⟩:=add64_ex0 (u (k+1)) (g (k+1)) ai af;have HS:=hid hs;replace aj:=hid aj;clear hs
   go_quiet (fail)
   go_wp2_with fail
   go_meet
   exact ⟨_,d,ov,rfl,rfl,rfl,OnWay.equal (fun i _=>X.hul i) X.hlt aj hd ar HS,HB.drewN _,HR.drewN _⟩
  ·have a1:¬g (k+1)≤u (k+2):=by assumption
   have ap:u (k+2) < g (k+1):=by omega
   obtain ⟨h,r,hh,hr,hs,ad⟩:=div64_calls' (u (k+2)) (u (k+1)) (g (k+1)) ai af ap;replace hs:=hid hs;replace ad:=hid ad
   go_quiet ((go_at_call 255;exact Calls.quiet_of (ad _)))
   go_wp2_with fail
   go_meet
   exact ⟨h,r,0,rfl,rfl,rfl,OnWay.divided (fun i _=>X.hul i) X.hgl X.hg0 hr hh hs,HB.drewN _,HR.drewN _⟩
 case rest=>
  obtain ⟨h,r,ov,rfl,rfl,rfl,ab,hb,hr⟩:=hcut;clear HB HR e1 f0 f1
  go_upto_block 0 with (fail)
  go_cut [6] (fun sq wx=>∃ h:Nat,sq=.int .u64 h∧Fit u g k h∧But B w wx∧Row wx B 198 .u64 N o)
  case first=>
   go_wp2_with fail;go_loopw [6,7,8] (fun sq sr so wx=>∃ h r ov:Nat,sq=.int .u64 h∧sr=.int .u64 r∧so=.int .u64 ov∧OnWay u g k h r ov∧But B w wx∧Row wx B 198 .u64 N o) (fun sq _ so _=>(1 - (intOf so).toNat)+(intOf sq).toNat)
   case atStart=>exact ⟨h,r,ov,rfl,rfl,rfl,ab,hb,hr⟩
   case round=>
    clear ab hb hr;obtain ⟨h,r,ov,rfl,rfl,rfl,ab,hb,hr⟩:=hrel;have HW:=hid ab;have ar:=ab.hov;have hh:=ab.hh;have av:=ab.hr;unfold W64 at hh av;clear ab;have e1:=hb.cell (X.out.ha (k+1) (by omega)) ak;have e0:=hb.cell (X.out.ha k (by omega)) ak;have f2:=hr.cell (i:=j+k) (by omega);rw[X.out.at] at f2;by_cases c0:ov=0
    ·subst c0;obtain ⟨hi,lo,a3,a2,aq,ag⟩:=mul64_ex h (g k) hh an;obtain ⟨d,ay,hd,ah,hs,am⟩:=add64_ex0 r (g (k+1)) av af;refine zh5 ?_ aq ag hs hb hr;clear aq ag hs hb hr;intro HM ae HS HB HR;unfold W64 at a3 a2;rcases Nat.lt_trichotomy hi r with c1 | c1 | c1
     ·go_wp2_with (go_at_call 215;refine (ae _).mono ?_;rintro e w' ⟨rfl,rfl⟩)
      go_meet
      exact ⟨h,rfl,HW.pass X.hgl X.hg0 (by rw[←HM.out];unfold W64;omega),HB,HR⟩
     ·subst c1;by_cases c2:lo≤u k
      ·go_wp2_with (go_at_call 215;refine (ae _).mono ?_;rintro e w' ⟨rfl,rfl⟩)
       go_meet
       exact ⟨h,rfl,HW.pass X.hgl X.hg0 (by rw[←HM.out];unfold W64;omega),HB,HR⟩
      ·obtain ⟨au,aa⟩:=HW.out.fail (fun i _=>X.out.hul i) X.out.hg0 (by rw[←HM.out];unfold W64;omega) hd ah HS.out;replace aa:=hid aa
       have al:(1:Int)≤h:=by omega
       go_wp2_with (go_at_call 215;refine (ae _).mono ?_;rintro e w' ⟨rfl,rfl⟩);go_roundw
       case rel=>exact ⟨h - 1,d,ay,by go_num,rfl,rfl,aa.out,HB.out,HR.out⟩
       case measure=>simp[intOf];omega
     ·have c2:((hi:Int)==(r:Int))=false:=by simp;omega
      have c3:¬hi < r:=by omega
      obtain ⟨au,aa⟩:=HW.out.fail (fun i _=>X.out.hul i) X.out.hg0 (by rw[←HM.out];unfold W64;omega) hd ah HS.out;replace aa:=hid aa
      have al:(1:Int)≤h:=by omega
      go_wp2_with (go_at_call 215;refine (ae _).mono ?_;rintro e w' ⟨rfl,rfl⟩);go_roundw
      case rel=>exact ⟨h - 1,d,ay,by go_num,rfl,rfl,aa.out,HB.out,HR.out⟩
      case measure=>simp[intOf];omega
    ·obtain rfl:ov=1:=by omega
     go_wp2_with fail
     go_meet
     exact ⟨h,rfl,HW.over X.hgl X.hg0,hb,hr⟩
  case rest=>
   clear ab hb hr;obtain ⟨h,rfl,ao,hb,hr⟩:=hcut
   go_step
   exact step_sub B j c N k b2 o2 ca h o g u w _ _ _ _ _ _ _ _ _ _ _ _ _ _ _ _ _ _ _ _ _ _ _ _ _ _ _ _ _ _ _ _ _ _ _ _ _ _ _ _ _ _ _ _ _ _ _ _ _ _ _ _ _ _ _ _ _ _ _ _ _ _ _ _ _ _ _ _ _ _ _ _ _ _ _ _ _ _ _ _ _ _ _ _ _ _ _ _ _ _ _ _ _ _ _ _ _ _ _ _ _ _ _ _ _ _ _ _ _ _ _ _ _ _ _ _ _ _ _ _ _ _ _ _ _ _ _ _ _ _ _ _ _ _ _ _ _ _ _ _ _ _ _ _ _ _ _ _ _ _ _ _ _ _ _ _ _ _ _ _ _ _ _ _ _ _ _ _ _ _ _ _ _ _ _ _ _ _ _ _ _ _ _ X ao hb hr
def trimLen (f : Nat → Nat) : Nat → Nat
  | 0 => 0
  | n + 1 => if f n = 0 then trimLen f n else n + 1
theorem trimLen_eq {f : Nat → Nat} {len n : Nat} (h1 : n ≤ len) (h2 : ∀ i, n ≤ i → i < len → f i = 0) (h3 : n = 0 ∨ f (n - 1) ≠ 0) : trimLen f len = n := by
  induction len with
  | zero => rw [trimLen]; omega
  | succ len ih =>
    rw [trimLen]
    by_cases h : n = len + 1
    · subst h
      rw [if_neg (by rcases h3 with h3 | h3; · omega
                     · simpa using h3)]
    · rw [if_pos (h2 len (by omega) (by omega))]
      exact ih (by omega) fun i hi hl => h2 i hi (by omega)
theorem trimLen_le (f : Nat → Nat) (len : Nat) : trimLen f len ≤ len := by
  induction len with
  | zero => exact Nat.le_refl _
  | succ len ih => rw [trimLen]; split <;> omega
theorem trimLen_canon {f : Nat → Nat} {B len : Nat} (hlt : ∀ i, i < len → f i < B) : Canon B f (trimLen f len) ∧ vf B f (trimLen f len) = vf B f len := by
  induction len with
  | zero => exact ⟨⟨fun i hi => by simp [trimLen] at hi, fun h => absurd rfl h⟩, rfl⟩
  | succ len ih =>
    rw [trimLen]
    split
    · rename_i h
      obtain ⟨a, b⟩ := ih fun i hi => hlt i (by omega)
      exact ⟨a, by rw [b, vf_succ, h, Nat.zero_mul, Nat.add_zero]⟩
    · rename_i h
      exact ⟨⟨hlt, fun _ => by simpa using h⟩, rfl⟩
theorem trim_val (a : Option Addr) (len cap : Nat) (f : Nat → Nat) (w : World) (hl : len ≤ cap) (hcap : cap ≤ 281474976710656) (ha : a = none → cap = 0) (hr : Rd w a .u64 len f) :
    Calls prog 226 #[.slice a len cap] w fun e w' => e = .returned (.slice a (trimLen f len) cap) ∧ w' = w :=
  (trim_any a len cap f w hl hcap ha hr).mono fun e w' ⟨h1, n, h2, h3, h4, h5⟩ => ⟨by rw [h2, trimLen_eq h3 h4 h5], h1.symm⟩
theorem wds_trim {w : World} {b cap len : Nat} {f : Nat → Nat} {off : Nat} (hl : len ≤ cap) (hcap : cap ≤ 281474976710656) (hr : Rd w (some ⟨b, off, none⟩) .u64 len f) (hlt : ∀ i, i < len → f i < W64) :
    Wds w (.slice (some ⟨b, off, none⟩) (trimLen f len) cap) (trimLen f len) f :=
  ⟨_, cap, ⟨rfl, Nat.le_trans (trimLen_le f len) hl, hcap, by simp⟩, hr.le (trimLen_le f len), (trimLen_canon hlt).1⟩
def DivMod (w : World) (A B : Nat) (e : Ending) (w' : World) : Prop := ∃ (vq vr : Value) (m n : Nat) (f g : Nat → Nat), e = .returned (.tuple #[vq, vr]) ∧ New w w' ∧ Wds w' vq m f ∧ Wds w' vr n g ∧
  vf W64 f m * B + vf W64 g n = A ∧ vf W64 g n < B
theorem divide_less (va vb : Value) (m n : Nat) (f g : Nat → Nat) (w : World) (ha : Wds w va m f) (hb : Wds w vb n g) (hlt : vf W64 f m < vf W64 g n) :
    Calls prog 224 #[va, vb] w (DivMod w (vf W64 f m) (vf W64 g n)) := by
  have hc : cmpNat (vf W64 f m) (vf W64 g n) = -1 := by unfold cmpNat; rw [if_pos hlt]
  have HC := hid hc
  have HL := hid hlt
  clear hc hlt
  go_in
  go_wp2_with fail
  refine (compareWords_calls va vb m n f g w ha hb).mono ?_
  rintro e w' ⟨hn, rfl⟩
  rw [HC.out]
  have HN := hid hn
  clear hn
  go_wp2_with fail
  go_ret2
  exact ⟨_, _, 0, m, fun _ => 0, f, rfl, HN, ⟨none, 0, ⟨rfl, Nat.le_refl _, by omega, fun _ => rfl⟩, Rd.zero _ _ _ _, ⟨fun i hi => by omega, fun h => absurd rfl h⟩⟩, ha.new HN, by rw [vf_zero, Nat.zero_mul, Nat.zero_add], HL.out⟩
theorem div1_digit {q f:Nat→Nat}{kk m y rr r' d:Nat}(h0:kk≠0)(hm:kk≤m)(h:vf W64 (fun i=>q (kk+i)) (m - kk)*y+rr=vf W64 (fun i=>f (kk+i)) (m - kk))(hs:d*y+r'=rr*W64+f (kk - 1)):
  vf W64 (fun i=>upd q (kk - 1) d (kk - 1+i)) (m - (kk - 1))*y+r'=vf W64 (fun i=>f (kk - 1+i)) (m - (kk - 1)):=by
 obtain ⟨i,rfl⟩:∃ i,kk=i+1:=⟨kk - 1,by omega⟩;simp only[Nat.add_sub_cancel] at hs⊢;refine div1_step (q:=upd q i d) (by omega) (r:=rr) ?_ ?_
 ·rw[←h];congr 2;exact vf_congr fun x hx=>upd_other _ _ (by omega)
 ·rw[upd_same];exact hs
theorem divide_one (a b:Option Addr) (m ca cb:Nat) (f g:Nat→Nat) (w:World) (hm:m≤1000000) (hm0:0 < m) (h1a:m≤ca) (h1b:ca≤281474976710656) (h1c:a=none→ca=0) (h2a:1≤cb) (h2b:cb≤281474976710656) (h2c:b=none→cb=0)
  (ha:Rd w a .u64 m f) (hb:Rd w b .u64 1 g) (cf:Canon W64 f m) (cg:Canon W64 g 1) (hge:vf W64 g 1≤vf W64 f m):
  Calls prog 224 #[.slice a m ca,.slice b 1 cb] w (DivMod w (vf W64 f m) (vf W64 g 1)):=by
 have ah:=fun W=>run_make_row' (P:=prog) 111 198 (.int .u64 0) 8 underlying111 info_u64 rfl .i64 .i64 m (by omega) (by omega) W;obtain ⟨r,a1,hr⟩:∃ r:Int,0≤r∧cmpNat (vf W64 f m) (vf W64 g 1)=r:=⟨_,by unfold cmpNat;rw[if_neg (by omega)];split <;> omega,rfl⟩;have aw:=hid ah;have ax:=hid hr;have a3:g 0≠0:=cg.top (by omega);have al:g 0 < W64:=cg.lt 0 (by omega)
 have a2:¬r < 0:=by omega
 replace cf:=hid cf;replace cg:=hid cg;clear ah hr hge a1;go_in;go_wp2_with fail;refine (compareWords_calls _ _ m 1 f g w ⟨a,ca,⟨rfl,h1a,h1b,h1c⟩,ha,cf⟩ ⟨b,cb,⟨rfl,h2a,h2b,h2c⟩,hb,cg⟩).mono ?_;rintro e w1 ⟨hn,rfl⟩;rw[ax.out];have ha:=ha.new hn;have hb:=hb.new hn;replace hn:=hid hn;have ah:=aw.out;go_wp2_with fail;clear ah;obtain ⟨B,hB⟩:∃ B,B=w1.heap.size:=⟨_,rfl⟩;have ac:=Row.made w1 .u64 m 198;have ae:New w1 (w1.alloc (.cells (madeCells #[.int .u64 0] m) 198)):=(New.refl w1).alloc _;rw[←hB] at ac⊢;generalize w1.alloc (.cells (madeCells #[.int .u64 0] m) 198)=w2 at ac ae⊢;replace hB:=hid hB
 go_loopw [7,8] (fun sr si wx=>∃ (kk rr:Nat) (q:Nat→Nat),kk≤m∧si=.int .i64 ((kk:Int) - 1)∧sr=.int .u64 rr∧rr < g 0∧New w1 wx∧Row wx B 198 .u64 m q∧(∀ i,q i < W64)∧
  vf W64 (fun i=>q (kk+i)) (m - kk)*g 0+rr=vf W64 (fun i=>f (kk+i)) (m - kk)) (fun _ si _=>(intOf si+1).toNat)
 case atStart=>exact ⟨m,0,fun _=>0,Nat.le_refl _,rfl,rfl,by omega,ae,ac,fun _=>by simp[W64],by rw[Nat.sub_self,vf_zero,vf_zero,Nat.zero_mul]⟩
 case round=>
  clear ac ae;obtain ⟨kk,rr,q,az,rfl,rfl,ai,ab,aa,af,ad⟩:=hrel;replace ad:=hid ad;replace af:=hid af;by_cases hk0:kk=0
  ·subst hk0;simp only[Nat.zero_add,Nat.sub_zero] at ad;go_wp2_with fail;refine (trim_val _ m m q _ (Nat.le_refl _) (by omega) (by simp) aa.rd).mono ?_;rintro e w3 ⟨rfl,rfl⟩;go_wp2_with fail
   have ak:Row (w3.alloc (.cells #[.int .u64 rr] 198)) w3.heap.size 198 .u64 1 fun _=>rr:=World.rowIs_alloc w3 #[.int .u64 rr] 198 _ (fun i hi=>by
    have:i=0:=by simpa using hi
    subst this;rfl)
   have ap:=hn.out.trans (ab.alloc (.cells #[.int .u64 rr] 198));have ag:=aa.alloc (.cells #[.int .u64 rr] 198);refine (trim_val _ 1 1 (fun _=>rr) _ (Nat.le_refl _) (by omega) (by simp) ak.rd).mono ?_;rintro e w4 ⟨rfl,av⟩;have hw:=hid (wds_trim (Nat.le_refl _) (by omega) ag.rd (fun i _=>af i));have au:=hid (wds_trim (Nat.le_refl _) (by omega) ak.rd (fun i _=>Nat.lt_trans ai al));have hv:=hid (trimLen_canon (B:=W64) (f:=q) (len:=m) fun i _=>af i).2;have ar:=hid (trimLen_canon (B:=W64) (f:=fun _=>rr) (len:=1) fun i _=>Nat.lt_trans ai al).2;have aq:=hid ap;rw[←av] at hw au aq;clear ak ag ap av aa ab;go_wp2_with fail;go_ret2
   have e1:vf W64 (fun _=>rr) 1=rr:=by simp[vf]
   have e2:vf W64 g 1=g 0:=by simp[vf]
   refine ⟨_,_,_,_,q,fun _=>rr,rfl,aq.out,hw.out,au.out,?_,?_⟩
   ·rw[hv.out,ar.out,e1,e2];exact ad
   ·rw[ar.out,e1,e2];exact ai
  ·obtain ⟨b1,o1,rfl,e1⟩:=(ha.new ab) (kk - 1) (by omega);obtain ⟨b2,o2,rfl,e2⟩:=(hb.new ab) 0 (by omega);simp only[Nat.add_zero] at e2;have ay:=cf.out.lt (kk - 1) (by omega);have f1:=aa.cell (i:=kk - 1) (by omega);have ff:=aa.frozen (kk - 1);obtain ⟨d,r',hd,a0,hs,aj⟩:=div64_calls' rr (f (kk - 1)) (g 0) ay al ai;refine zh4 ?_ hs aj ab aa;clear hs aj ab aa ha hb;intro HS am an ao;go_wp2_with fail
   go_region_with (go_at_call 255;refine (am _).mono ?_;rintro e w' ⟨rfl,mm,rfl⟩)
   all_goals go_wp2_with fail
   all_goals clear e1 e2 f1 ff
   all_goals
    go_roundw
    case rel=>
     exact ⟨kk - 1,r',upd q (kk - 1) d,by omega,by go_num,rfl,a0,(an.out.drewN _).setCell (by rw[←hB.out];exact Nat.le_refl _) _,(ao.out.drewN _).set _ _,upd_lt af.out hd,div1_digit hk0 az ad.out HS.out⟩
    case measure=>simp[intOf];omega
noncomputable def divideCode (n:Nat):Code:=tailN n ((Tryz.f224.body).getD .skip)
theorem w64_split' {s:Nat}(hs:s < 64):W64=2^s*2^(64 - s):=by rw[Nat.mul_comm];exact w64_split hs
def backDigit (s:Nat)(o:Nat→Nat)(i:Nat):Nat:=o i / 2^s+o (i+1)*2^(64 - s) % W64
theorem back_mod {s y:Nat}(hs:s < 64):y*2^(64 - s) % W64=y % 2^s*2^(64 - s):=by rw[w64_split' hs,Nat.mul_mod_mul_right]
theorem back_or {s x y:Nat}(hs:s < 64)(hs0:s≠0)(hx:x < W64):bits .or .u64 ((x:Int) / 2^s) (IntKind.u64.wrap ((y:Int)*2^(64 - s)))=((x / 2^s+y*2^(64 - s) % W64:Nat):Int):=by
 have hc:x / 2^s < 2^(64 - s):=by
  rw[Nat.div_lt_iff_lt_mul (Nat.pow_pos (by omega)),←w64_split hs];exact hx
 have:=shl_or (s:=64 - s) (x:=y) (c:=x / 2^s) (by omega) hc;rw[Nat.add_comm] at this;rw[←this];congr 1
theorem backDigit_lt {s:Nat}{o:Nat→Nat}(hs:s < 64)(ho:∀ i,o i < W64)(i:Nat):backDigit s o i < W64:=by
 unfold backDigit
 have hc:o i / 2^s < 2^(64 - s):=by
  rw[Nat.div_lt_iff_lt_mul (Nat.pow_pos (by omega)),←w64_split hs];exact ho i
 have h2:(o (i+1) % 2^s+1)*2^(64 - s)≤2^s*2^(64 - s):=Nat.mul_le_mul_right _ (Nat.mod_lt _ (Nat.pow_pos (by omega)));rw[Nat.add_mul,Nat.one_mul,←w64_split' hs] at h2;rw[back_mod hs];omega
theorem backDigit_sum {s:Nat}{o:Nat→Nat}(hs:s < 64)(n:Nat):vf W64 (backDigit s o) n*2^s+o 0 % 2^s=vf W64 o n+o n % 2^s*W64^n:=by
 induction n with
 | zero=>simp[vf_zero]
 | succ n ih=>
  have e1:backDigit s o n*2^s+o n % 2^s=o n+W64*(o (n+1) % 2^s):=by
   unfold backDigit;rw[back_mod hs,Nat.add_mul,Nat.mul_assoc (o (n+1) % 2^s),←w64_split hs,Nat.mul_comm W64];have:=Nat.div_add_mod (o n) (2^s);rw[Nat.mul_comm (o n / 2^s)];omega
  have e2:(backDigit s o n*2^s+o n % 2^s)*W64^n=(o n+W64*(o (n+1) % 2^s))*W64^n:=by rw[e1]
  rw[Nat.add_mul,Nat.add_mul]at e2;rw[vf_succ,vf_succ,Nat.add_mul,Nat.pow_succ,Nat.mul_right_comm (backDigit s o n)];rw[Nat.mul_comm (W64^n) W64,←Nat.mul_assoc,Nat.mul_comm (o (n+1) % 2^s) W64];omega
theorem backDigit_val {s A B Q n:Nat}{o:Nat→Nat}(hs:s < 64)(hon:o n=0)(hval:vf W64 o n+B*2^s*Q=A*2^s)(hlt:vf W64 o n < B*2^s):
  Q*B+vf W64 (backDigit s o) n=A∧vf W64 (backDigit s o) n < B:=by
 have hp:0 < 2^s:=Nat.pow_pos (by omega);have h1:=backDigit_sum (o:=o) hs n;rw[hon,Nat.zero_mod,Nat.zero_mul,Nat.add_zero] at h1
 have h0:o 0 % 2^s=0:=by
  have e:(vf W64 (backDigit s o) n*2^s+o 0 % 2^s+B*Q*2^s) % 2^s=A*2^s % 2^s:=by rw[h1,←hval,Nat.mul_right_comm]
  rw[Nat.mul_mod_left,Nat.add_mul_mod_self_right,Nat.mul_add_mod_self_right,Nat.mod_mod]at e;exact e
 rw[h0,Nat.add_zero]at h1;rw[←h1] at hval hlt;rw[Nat.mul_right_comm,←Nat.add_mul] at hval;have h2:=Nat.eq_of_mul_eq_mul_right hp hval;exact ⟨by rw[Nat.mul_comm Q];omega,Nat.lt_of_mul_lt_mul_right hlt⟩
theorem divide_back (B2 B3 m n mq s:Nat) (o qf:Nat→Nat) (w wc:World) (A B:Nat) (v0 v1 v2 v3 v4 v5 v6 v7 v8 v10 v14 v15 v16 v17 v18 v19 v20 v21 v22 v23 v24 v25 v26 v27 v28 v29 v30 v31 v32 v33 v34 v35 v36 v37 v38 v39 v40 v41 v42 v43 v44 v45 v46 v47 v48 v49 v50 v51 v52 v53 v54 v55 v56 v57 v58 v59 v60 v61 v62 v63 v64 v65 v66 v67 v68 v69 v70 v71 v72 v73 v74 v75 v76 v77 v78 v79 v80 v81 v82 v83 v84 v85 v86 v87 v88 v89 v90 v91 v92 v93 v94 v95 v96 v97 v98 v99 v100 v101 v102 v103 v104 v105 v106 v107 v108 v109 v110 v111 v112 v113 v114 v115 v116 v117 v118 v119 v120 v121 v122 v123 v124 v125 v126 v127 v128 v129 v130 v131 v132 v133 v134 v135 v136:Value) (hs:s < 64) (hm:m≤1000000) (hnm:n≤m) (hmq:mq≤1000001) (hne:B2≠B3) (hB:w.heap.size≤B2)
  (aa:New w wc) (ab:Row wc B2 198 .u64 (m+1) o) (ac:Row wc B3 198 .u64 mq qf) (hol:∀ i,o i < W64) (hql:∀ i,qf i < W64) (hon:o n=0)
  (hval:vf W64 o n+B*2^s*vf W64 qf mq=A*2^s) (hlt:vf W64 o n < B*2^s):
  Code.wp prog (divideCode 9) (bodyPost prog Tryz.f224 (DivMod w A B)) ⟨#[v0,v1,v2,v3,v4,v5,v6,v7,v8,.int .i64 s,v10,.slice (some ⟨B2,0,none⟩) (m+1) (m+1),.int .i64 n,.slice (some ⟨B3,0,none⟩) mq mq,v14,v15,v16,v17,v18,v19,v20,v21,v22,v23,v24,v25,v26,v27,v28,v29,v30,v31,v32,v33,v34,v35,v36,v37,v38,v39,v40,v41,v42,v43,v44,v45,v46,v47,v48,v49,v50,v51,v52,v53,v54,v55,v56,v57,v58,v59,v60,v61,v62,v63,v64,v65,v66,v67,v68,v69,v70,v71,v72,v73,v74,v75,v76,v77,v78,v79,v80,v81,v82,v83,v84,v85,v86,v87,v88,v89,v90,v91,v92,v93,v94,v95,v96,v97,v98,v99,v100,v101,v102,v103,v104,v105,v106,v107,v108,v109,v110,v111,v112,v113,v114,v115,v116,v117,v118,v119,v120,v121,v122,v123,v124,v125,v126,v127,v128,v129,v130,v131,v132,v133,v134,v135,v136],[]⟩ wc:=by
 refine zh5 ?_ hol hql hon hval hlt;clear hol hql hon hval hlt;intro ak aj am HV al
 conv=>arg 2;whnf
 by_cases hs0:s=0
 ·subst hs0;go_wp2_with fail;go_loopw [97] (fun si wx=>∃ (i:Nat) (p:Nat→Nat),i≤n∧si=.int .i64 i∧New w wx∧Row wx B2 198 .u64 (m+1) p∧Row wx B3 198 .u64 mq qf∧(∀ j,p j=o j)) (fun si _=>n - (intOf si).toNat)
  case atStart=>exact ⟨0,o,Nat.zero_le _,rfl,aa,ab,ac,fun _=>rfl⟩
  case round=>
   clear aa ab ac;obtain ⟨i,p,hi,rfl,aa,ab,ac,ae⟩:=hrel;replace ae:=hid ae;by_cases hin:i < n
   ·have f1:=ab.cell (i:=i) (by omega);have ff:=ab.frozen i;refine zh3 ?_ aa ab ac;clear aa ab ac;intro ad af ag;go_wp2_with fail;clear f1 ff;go_roundw
    case rel=>
     exact ⟨i+1,upd p i (p i),by omega,by go_num,ad.out.setCell hB _,row_int af.out (by simp),ag.out.other (Ne.symm hne) _,fun j=>by rw[←ae.out j];unfold upd;split <;> simp[*]⟩
    case measure=>simp[intOf];omega
   ·obtain rfl:i=n:=by omega
    clear hin;refine zh3 ?_ aa ab ac;clear aa ab ac;intro ad af ag
    have gs:(i:Int)≤(m:Int)+1:=by omega
    go_wp2_with fail;have t1:=fun W (hW:Row W B3 198 .u64 mq qf)=>trim_val (some ⟨B3,0,none⟩) mq mq qf W (Nat.le_refl _) (by omega) (by simp) hW.rd;have t2:=fun W (hW:Row W B2 198 .u64 (m+1) p)=>trim_val (some ⟨B2,0,none⟩) i (m+1) p W (by omega) (by omega) (by simp) (hW.rd.le (by omega));replace t1:=hid t1;replace t2:=hid t2
    go_quiet ((first | (go_at_call_of 226 (Value.slice (some ⟨B3,0,none⟩) mq mq);exact Calls.quiet_of_same (t1 _ (ag.drewN _))) | (go_at_call 226;exact Calls.quiet_of_same (t2 _ (af.drewN _)))))
    go_wp2_with fail;go_ret2;have h2:vf W64 p i=vf W64 o i:=vf_congr fun j _=>ae.out j
    have ai:∀ j,p j < W64:=fun j=>by rw[ae.out j];exact ak.out j
    have c1:=trimLen_canon (B:=W64) (f:=qf) (len:=mq) fun j _=>aj.out j;have c2:=trimLen_canon (B:=W64) (f:=p) (len:=i) fun j _=>ai j;have v0:=HV.out;have v1:=al.out;simp only[Nat.pow_zero,Nat.mul_one] at v0 v1;refine ⟨_,_,_,_,qf,p,rfl,ad.drewN _,wds_trim (Nat.le_refl _) (by omega) (ag.drewN _).rd (fun j _=>aj j),wds_trim (by omega) (by omega) ((af.drewN _).rd.le (by omega)) (fun j _=>ai j),?_,?_⟩
    ·rw[c1.2,c2.2,h2,Nat.mul_comm];omega
    ·rw[c2.2,h2];exact v1
 ·have an:(0:Int) < s:=by omega
  go_wp2_with fail;go_loopw [97] (fun si wx=>∃ (i:Nat) (p:Nat→Nat),i≤n∧si=.int .i64 i∧New w wx∧Row wx B2 198 .u64 (m+1) p∧Row wx B3 198 .u64 mq qf∧(∀ j,i≤j→p j=o j)∧(∀ j,j < i→p j=backDigit s o j)) (fun si _=>n - (intOf si).toNat)
  case atStart=>exact ⟨0,o,Nat.zero_le _,rfl,aa,ab,ac,fun _ _=>rfl,fun j hj=>by omega⟩
  case round=>
   clear aa ab ac;obtain ⟨i,p,hi,rfl,aa,ab,ac,ae,ah⟩:=hrel;replace ae:=hid ae;replace ah:=hid ah;by_cases hin:i < n
   ·have f1:=ab.cell (i:=i) (by omega);have f2:=ab.cell (i:=i+1) (by omega);have ff:=ab.frozen i;rw[ae.out i (by omega)] at f1;rw[ae.out (i+1) (by omega)] at f2
    have g1:(i:Int)+1 < (m:Int)+1:=by omega
    refine zh3 ?_ aa ab ac;clear aa ab ac;intro ad af ag;go_wp2_with fail
    go_region
    go_wp2_with fail;clear f1 f2 ff;go_roundw
    case rel=>
     have e1:((o i:Int) / 2^s)=((o i / 2^s:Nat):Int):=by rw[Int.natCast_ediv,Int.natCast_pow];rfl
     refine ⟨i+1,upd (upd p i (o i / 2^s)) i (backDigit s o i),by omega,by go_num,((ad.out.setCell hB _).setCell hB _).drew,Row.drew (row_int (row_int af.out e1) (back_or hs hs0 (ak.out i))),Row.drew ((ag.out.other (Ne.symm hne) _).other (Ne.symm hne) _),fun j hj=>?_,fun j hj=>?_⟩
     ·rw[upd_other _ _ (by omega),upd_other _ _ (by omega)];exact ae j (by omega)
     ·by_cases e:j=i
      ·rw[e,upd_same]
      ·rw[upd_other _ _ e,upd_other _ _ e];exact ah j (by omega)
    case measure=>simp[intOf];omega
   ·obtain rfl:i=n:=by omega
    clear hin;refine zh3 ?_ aa ab ac;clear aa ab ac;intro ad af ag
    have gs:(i:Int)≤(m:Int)+1:=by omega
    go_wp2_with fail;have t1:=fun W (hW:Row W B3 198 .u64 mq qf)=>trim_val (some ⟨B3,0,none⟩) mq mq qf W (Nat.le_refl _) (by omega) (by simp) hW.rd;have t2:=fun W (hW:Row W B2 198 .u64 (m+1) p)=>trim_val (some ⟨B2,0,none⟩) i (m+1) p W (by omega) (by omega) (by simp) (hW.rd.le (by omega));replace t1:=hid t1;replace t2:=hid t2
    go_quiet ((first | (go_at_call_of 226 (Value.slice (some ⟨B3,0,none⟩) mq mq);exact Calls.quiet_of_same (t1 _ (ag.drewN _))) | (go_at_call 226;exact Calls.quiet_of_same (t2 _ (af.drewN _)))))
    go_wp2_with fail;go_ret2;have h2:vf W64 p i=vf W64 (backDigit s o) i:=vf_congr fun j hj=>ah.out j hj
    have ai:∀ j,j < i→p j < W64:=fun j hj=>by rw[ah.out j hj];exact backDigit_lt hs ak.out j
    have c1:=trimLen_canon (B:=W64) (f:=qf) (len:=mq) fun j _=>aj.out j;have c2:=trimLen_canon (B:=W64) (f:=p) (len:=i) ai;obtain ⟨v0,v1⟩:=backDigit_val hs am HV al;refine ⟨_,_,_,_,qf,p,rfl,ad.drewN _,wds_trim (Nat.le_refl _) (by omega) (ag.drewN _).rd (fun j _=>aj j),wds_trim (by omega) (by omega) ((af.drewN _).rd.le (by omega)) ai,?_,?_⟩
    ·rw[c1.2,c2.2,h2];exact v0
    ·rw[c2.2,h2];exact v1
structure Dv (W m k mq jj A V:Nat)(g o qf:Nat→Nat):Prop where
 ol:∀ i,o i < W
 ql:∀ i,qf i < W
 val:vf W o (m+1)+V*W^jj*vf W (fun i=>qf (jj+i)) (mq - jj)=A
 low:vf W (fun i=>o (jj+i)) (k+2) < V
 z:∀ i,jj+(k+2)≤i→i < m+1→o i=0
theorem vf_top0 {W:Nat}{h:Nat→Nat}{n:Nat}(h0:h n=0):vf W h (n+1)=vf W h n:=by rw[vf_succ,h0,Nat.zero_mul,Nat.add_zero]
theorem shifted_any {W K M k B x:Nat} {g h:Nat→Nat} (hgl:∀ i,i < k+2→g i < W) (hB:B=vf W g (k+2)) (hx:g (k+1)=x) (hM:0 < M) (hK:0 < K) (hn:K≤x*M) (h2:(x+1)*M≤W)
  (hl:∀ j,h j < W) (hv:vf W h (k+3)=B*M):
  h (k+2)=0∧h (k+1)≠0∧vf W h (k+2)=B*M∧K*W^(k+1)≤B*M:=by
 have h0:vf W g (k+1) < W^(k+1):=vf_lt fun i hi=>hgl i (by omega)
 have h1:B=vf W g (k+1)+x*W^(k+1):=by rw[hB,vf_succ,hx]
 generalize hP:W^(k+1)=P at h0 h1⊢
 have aa:W^(k+2)=W*P:=by rw[Nat.pow_succ,hP,Nat.mul_comm]
 have h3:(B+1)*M≤W*P:=by
  have a:(B+1)≤(x+1)*P:=by rw[Nat.add_mul,Nat.one_mul];omega
  have b:=Nat.mul_le_mul_right M a;rw[Nat.mul_right_comm] at b;exact Nat.le_trans b (Nat.mul_le_mul_right P h2)
 have h4:K*P≤B*M:=by
  have a:x*P≤B:=by omega
  have b:=Nat.mul_le_mul_right M a;rw[Nat.mul_right_comm] at b;exact Nat.le_trans (Nat.mul_le_mul_right P hn) b
 rw[Nat.add_mul,Nat.one_mul]at h3
 have h5:h (k+2)=0:=by
  rcases Nat.eq_zero_or_pos (h (k+2)) with h6 | h6
  ·exact h6
  ·exfalso;rw[vf_succ,aa] at hv;have:=Nat.le_mul_of_pos_left (W*P) h6;omega
 have h7:vf W h (k+2)=B*M:=by rw[←hv,←vf_top0 h5]
 refine ⟨h5,fun h8=>?_,h7,h4⟩
 have h7:vf W h (k+1)=B*M:=by rw[←h7,←vf_top0 h8]
 have h9:vf W h (k+1) < W^(k+1):=vf_lt fun i _=>hl i;rw[hP,h7] at h9;have ab:=Nat.le_mul_of_pos_left P hK;omega
theorem Dv.start {W m k mq A V M K:Nat}{f g o:Nat→Nat}(hW:0 < W)(hMK:M≤K)(hM0:0 < M)(hm:m+1=mq+(k+2))(hfl:∀ i,i < m→f i < W)(hA:A=vf W f m)(ho:∀ i,o i < W)(hv:vf W o (m+1)=A*M)(hV:K*W^(k+1)≤V):
  Dv W m k mq mq (A*M) V g o (fun _=>0):=by
 refine ⟨ho,fun _=>hW,?_,?_,fun i h1 h2=>by omega⟩
 ·rw[Nat.sub_self,vf_zero,Nat.mul_zero,Nat.add_zero,hv]
 ·rcases Nat.lt_or_ge (vf W (fun i=>o (mq+i)) (k+2)) V with h | h
  ·exact h
  ·exfalso;have h1:=vf_add W o mq (k+2);rw[←hm,hv] at h1;have h2:=Nat.mul_le_mul_left (W^mq) (Nat.le_trans hV h);rw[Nat.mul_left_comm,←Nat.pow_add] at h2;rw[show mq+(k+1)=m by omega] at h2;have h3:vf W f m < W^m:=vf_lt hfl;rw[←hA] at h3;have h4:(A+1)*M≤W^m*M:=Nat.mul_le_mul_right _ h3;have h5:W^m*M≤W^m*K:=Nat.mul_le_mul_left _ hMK;rw[Nat.mul_comm (W^m) K] at h5;rw[Nat.add_mul,Nat.one_mul] at h4;generalize K*W^m=P at h2 h5;omega
theorem vf_three {W:Nat}{f:Nat→Nat}{j n r:Nat}:vf W f (j+n+r)=vf W f j+W^j*vf W (fun i=>f (j+i)) n+W^(j+n)*vf W (fun i=>f (j+n+i)) r:=by
 rw[vf_add,vf_add]
theorem Dv.step {W m k mq j A V q:Nat} {g o p qf:Nat→Nat} (D:Dv W m k mq (j+1) A V g o qf) (hm:m+1=mq+(k+2)) (hj:j < mq) (hVW:V≤W^(k+2)) (hq:q < W) (hp:∀ i,p i < W)
  (hout:∀ i,(i < j∨j+k+3≤i)→p i=o i) (hval:vf W (fun i=>p (j+i)) (k+3)+q*V=vf W (fun i=>o (j+i)) (k+3)) (hlt:vf W (fun i=>p (j+i)) (k+3) < V):
  Dv W m k mq j A V g p (upd qf j q):=by
 refine ⟨hp,upd_lt D.ql hq,?_,?_,?_⟩
 ·obtain ⟨r,hr⟩:∃ r,m+1=j+(k+3)+r:=Nat.exists_eq_add_of_le (by omega);have h1:=D.val;rw[hr,vf_three] at h1⊢;have e1:vf W p j=vf W o j:=vf_congr fun i hi=>hout i (Or.inl hi);have e2:vf W (fun i=>p (j+(k+3)+i)) r=vf W (fun i=>o (j+(k+3)+i)) r:=vf_congr fun i hi=>hout _ (Or.inr (by omega))
  have e3:vf W (fun i=>upd qf j q (j+i)) (mq - j)=q+W*vf W (fun i=>qf (j+1+i)) (mq - (j+1)):=by
   rw[show mq - j=(mq - (j+1))+1 by omega,vf_head];congr 1
   ·exact upd_same _ _ _
   ·congr 1
    exact vf_congr fun i _=>by rw[upd_other _ _ (by omega)];congr 1;omega
  have h2:W^j*(vf W (fun i=>p (j+i)) (k+3)+q*V)=W^j*vf W (fun i=>o (j+i)) (k+3):=by rw[hval]
  rw[Nat.mul_add]at h2;rw[e1,e2,e3,←h1,←h2,Nat.mul_add,Nat.pow_succ]
  have h3:W^j*(q*V)=V*W^j*q:=by rw[Nat.mul_comm q,←Nat.mul_assoc,Nat.mul_comm V]
  have h4:V*W^j*(W*vf W (fun i=>qf (j+1+i)) (mq - (j+1)))=V*(W^j*W)*vf W (fun i=>qf (j+1+i)) (mq - (j+1)):=by
   simp only[Nat.mul_assoc]
  rw[h3,h4];omega
 ·refine Nat.lt_of_le_of_lt ?_ hlt;rw[vf_succ];exact Nat.le_add_right _ _
 ·intro i h1 h2;by_cases h3:i=j+(k+2)
  ·subst h3;rcases Nat.eq_zero_or_pos (p (j+(k+2))) with h4 | h4
   ·exact h4
   ·exfalso;have h5:vf W (fun i=>p (j+i)) (k+3)=vf W (fun i=>p (j+i)) (k+2)+p (j+(k+2))*W^(k+2):=vf_succ _ _ _;have h6:=Nat.mul_le_mul_right (W^(k+2)) h4;rw[Nat.succ_eq_add_one,Nat.zero_add,Nat.one_mul] at h6;generalize W^(k+2)=P at *;omega
  ·rw[hout i (Or.inr (by omega))];exact D.z i (by omega) h2
theorem Dv.finish {W m k mq A V:Nat}{g o qf:Nat→Nat}(D:Dv W m k mq 0 A V g o qf)(hm:m+1=mq+(k+2))(hmq:0 < mq):o (k+2)=0∧vf W o (k+2)+V*vf W qf mq=A∧vf W o (k+2) < V:=by
 have h1:=D.val;have h2:=D.low;simp only[Nat.zero_add,Nat.sub_zero,Nat.pow_zero,Nat.mul_one] at h1 h2;rw[vf_pad (m:=k+2) (by omega) fun i h3 h4=>D.z i (by omega) h4] at h1;exact ⟨D.z _ (by omega) (by omega),h1,h2⟩
end Go.Proofs.YtnjonlnemagomaaGreatDoor
