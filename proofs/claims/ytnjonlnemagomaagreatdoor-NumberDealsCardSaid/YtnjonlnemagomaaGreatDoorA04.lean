/- Part A04. -/
import Derived.Lib.ItoaNum
import Derived.Deep.DeepCutAuto
import Derived.Deep.CutBlock
import Derived.Test.YtnjonlnemagomaaGreatDoorA03
namespace Go.Proofs.YtnjonlnemagomaaGreatDoor
open Go.RowKit Big
open Go.Lib (hid)
set_option maxRecDepth 100000
set_option maxHeartbeats 8000000
theorem half_prod {q yn0:Nat}(h:q≤B32+1)(h0:yn0 < B32):∃ p:Nat,p=q*yn0∧IntKind.u64.wrap ((q:Int)*yn0)=p:=by
 have hp1:q*yn0≤4294967297*4294967295:=Nat.mul_le_mul (by unfold B32 at h;omega) (by unfold B32 at h0;omega);exact ⟨_,rfl,by rw[←Int.natCast_mul,wrap_u64_nat,Nat.mod_eq_of_lt (by unfold W64;omega)]⟩
theorem half_start {X d v yn1 yn0:Nat}(hv:v=yn1*B32+yn0)(h0:yn0 < B32)(h1:B32≤2*yn1)(h1':yn1 < B32)(hu:X < v)(hd:d < B32):
  ∃ q r:Nat,(X:Int) / yn1=q∧(q:Int) < 18446744073709551616∧IntKind.u64.wrap ((X:Int) - IntKind.u64.wrap ((q:Int)*yn1))=r∧Half X d v yn1 yn0 q r:=by
 have hs:=Half.start hv h0 h1 h1' hu hd
 have hvw:v < W64:=by rw[hv];unfold B32 W64 at *;omega
 refine ⟨X / yn1,X - X / yn1*yn1,by rw[Int.natCast_ediv],by have:=hs.le;unfold B32 at this;omega,?_,hs⟩;have e:=Nat.div_mul_le_self X yn1;rw[←Int.natCast_mul,wrap_u64_nat,Nat.mod_eq_of_lt (by omega),←Int.ofNat_sub e,wrap_u64_nat,Nat.mod_eq_of_lt (by omega)]
def DivPost (w:World)(U V un1 un0 s:Nat)(e:Ending)(w':World):Prop:=w=w'∧∃ a b z:Nat,e=.returned (.tuple #[.int .u64 ((a:Int)*4294967296+b),.int .u64 z])∧Done U un1 V a∧
 z=((U*B32+un1 - a*V)*B32+un0 - b*V) / 2^s∧Done (U*B32+un1 - a*V) un0 V b
theorem div64_walk (hi lo y s V yn1 yn0 U T un1 un0 q0 r0:Nat) (w:World) (_hlo:lo < W64) (_hy:y < W64) (hlt:hi < y) (hi0:0 < hi) (hs:s < 64)
  (hlz:∀ W,Calls Tryz.prog 256 #[.int .u64 y] W fun e w'=>e=.returned (.int .i64 s)∧W=w')
  (e1:IntKind.u64.wrap ((y:Int)*2^s)=(V:Int)) (e2:(V:Int) / 4294967296=yn1) (e3:bits .and .u64 (V:Int) 4294967295=yn0)
  (e4:bits .or .u64 (IntKind.u64.wrap ((hi:Int)*2^s)) ((lo:Int) / 2^(64 - s))=U) (e5:IntKind.u64.wrap ((lo:Int)*2^s)=T)
  (e6:(T:Int) / 4294967296=un1) (e7:bits .and .u64 (T:Int) 4294967295=un0) (e8:(U:Int) / yn1=q0) (hq0:(q0:Int) < 18446744073709551616) (e9:IntKind.u64.wrap ((U:Int) - IntKind.u64.wrap ((q0:Int)*yn1))=r0)
  (hV:V < W64) (hv:V=yn1*B32+yn0) (h0:yn0 < B32) (h1:B32≤2*yn1) (h1':yn1 < B32) (hu:U < V) (hd:un1 < B32) (hd0:un0 < B32) (hst:Half U un1 V yn1 yn0 q0 r0):
  Calls Tryz.prog 255 #[.int .u64 hi,.int .u64 lo,.int .u64 y] w (DivPost w U V un1 un0 s):=by
 have g1:((y:Int)==0)=false:=by simp;omega
 have g2:((hi:Int)==0)=false:=by simp;omega
 have g3:¬((y:Int)≤hi):=by omega
 have g4:(0:Int) < yn1:=by unfold B32 at h1;omega
 have HLZ:=hid hlz;have HV:=hid hv;have HS0:=hid hs;clear hlz hv;go_enter Tryz.func255,Tryz.ntmps255;go_wp2_with (go_at_call 256;refine (HLZ.out _).mono ?_;rintro e w' ⟨rfl,rfl⟩)
 go_loop [15,16] (fun a b=>∃ q r:Nat,a=.int .u64 q∧b=.int .u64 r∧Half U un1 V yn1 yn0 q r) (fun a _=>(intOf a).toNat)
 case atStart=>first | exact ⟨q0,r0,rfl,rfl,hst⟩ | skip
 case round=>
  obtain ⟨q,r,rfl,rfl,hh⟩:=hrel;have HH:=hid hh;have hql:=hh.le;have hrs:=hh.small;clear hh hst e1 e2 e3 e4 e5 e6 e7 e8 e9 hlt hi0 hs g1 g2 g3 hq0 HLZ;obtain ⟨p,hp,ep⟩:=half_prod hql h0;have HP:=hid hp;clear hp
  have hx1:(un1:Int) < 4294967296:=by unfold B32 at hd;omega
  have hx2:(r:Int) < 4294967296:=by unfold B32 at hrs;omega
  have hx3:(yn1:Int) < 4294967296:=by unfold B32 at h1';omega
  have hx4:(q:Int)≤4294967297:=by unfold B32 at hql;omega
  by_cases c1:4294967296≤q
  ·have cc:B32≤q∨B32*r+un1 < q*yn0:=.inl c1
   have d1:(4294967296:Int)≤q:=by omega
   clear c1;obtain ⟨n1,n2,n3⟩:=HH.out.next HV.out h0 hu hd cc;have N2:=hid n2;have N3:=hid n3;clear n2 n3 cc HH HP;obtain ⟨k,rfl⟩:∃ k,q=k+1:=⟨q - 1,by omega⟩
   have hk1:((k+1:Nat):Int)=(k:Int)+1:=by omega
   simp only[hk1]at d1 ep hx4;rw[hk1];clear hk1;by_cases c3:r+yn1 < B32
   ·have d3:¬(4294967296:Int)≤(r:Int)+yn1:=by unfold B32 at c3;omega
    go_wp2;go_round
    case rel=>exact ⟨k,r+yn1,by go_num,by go_num,N2.out c3⟩
    case measure=>simp[intOf]
   ·have d3:(4294967296:Int)≤(r:Int)+yn1:=by unfold B32 at c3;omega
    obtain ⟨qf,hqf⟩:∃ qf,qf=k:=⟨_,rfl⟩;subst hqf;have hdone:Done U un1 V qf:=N3.out (by omega);clear N2 N3;obtain ⟨X,hX⟩:∃ X,X=U*B32+un1 - qf*V:=⟨_,rfl⟩;have eX:=un21_in (Nat.lt_trans hu hV) hd hV hdone;rw[←hX] at eX
    have hXV:X < V:=by rw[hX];exact hdone.rest
    obtain ⟨q1,r1,f1,f2,f3,hst⟩:=half_start HV.out h0 h1 h1' hXV hd0;have HX:=hid hX;have HST:=hid hst;have HDN:=hid hdone;clear hX hst hdone;go_wp2
    go_loop [18,16] (fun a b=>∃ q r:Nat,a=.int .u64 q∧b=.int .u64 r∧Half X un0 V yn1 yn0 q r) (fun a _=>(intOf a).toNat)
    case atStart=>exact ⟨q1,r1,rfl,rfl,HST.out⟩
    case round=>
     obtain ⟨qq,rr,rfl,rfl,hh⟩:=hrel;have HH:=hid hh;have hql:=hh.le;have hrs:=hh.small;clear hh HST f1 f3 eX ep;obtain ⟨p,hp,ep⟩:=half_prod hql h0;have HP:=hid hp;clear hp
     have hx1:(un0:Int) < 4294967296:=by unfold B32 at hd0;omega
     have hx2:(rr:Int) < 4294967296:=by unfold B32 at hrs;omega
     have hx4:(qq:Int)≤4294967297:=by unfold B32 at hql;omega
     by_cases c1:4294967296≤qq
     ·have cc:B32≤qq∨B32*rr+un0 < qq*yn0:=.inl c1
      have d1:(4294967296:Int)≤qq:=by omega
      clear c1;obtain ⟨n1,n2,n3⟩:=HH.out.next HV.out h0 hXV hd0 cc;have N2:=hid n2;have N3:=hid n3;clear n2 n3 cc HH HP;obtain ⟨k,rfl⟩:∃ k,qq=k+1:=⟨qq - 1,by omega⟩
      have hk1:((k+1:Nat):Int)=(k:Int)+1:=by omega
      simp only[hk1]at d1 ep hx4;rw[hk1];clear hk1;by_cases c3:rr+yn1 < B32
      ·have d3:¬(4294967296:Int)≤(rr:Int)+yn1:=by unfold B32 at c3;omega
       go_wp2;go_round
       case rel=>exact ⟨k,rr+yn1,by go_num,by go_num,N2.out c3⟩
       case measure=>simp[intOf]
      ·have d3:(4294967296:Int)≤(rr:Int)+yn1:=by unfold B32 at c3;omega
       obtain ⟨qe,hqe⟩:∃ qe,qe=k:=⟨_,rfl⟩;subst hqe;have hdone:Done X un0 V qe:=N3.out (by omega);clear N2 N3;have hqf:=HDN.out.lt hu hd;have hqe:=hdone.lt hXV hd0
       have b1:(qf:Int) < 4294967296:=by unfold B32 at hqf;omega
       have b2:(qe:Int) < 4294967296:=by unfold B32 at hqe;omega
       obtain ⟨Y,hY⟩:∃ Y,Y=X*B32+un0 - qe*V:=⟨_,rfl⟩;have eY:=un21_in (Nat.lt_trans hXV hV) hd0 hV hdone;rw[←hY] at eY;obtain ⟨Z,hZ⟩:∃ Z,Z=Y / 2^s:=⟨_,rfl⟩
       have eZ:(Y:Int) / 2^min s 64=Z:=by rw[hZ,Nat.min_eq_left (Nat.le_of_lt HS0.out),Int.natCast_ediv,Int.natCast_pow];rfl
       have HY:=hid hY;have HZ:=hid hZ;have HDE:=hid hdone;clear hY hZ hdone hqf hqe;go_wp2;go_ret2;exact ⟨rfl,qf,qe,Z,rfl,HDN.out,by rw[HZ.out,HY.out,HX.out],by rw[←HX.out];exact HDE.out⟩
     ·have d1:¬(4294967296:Int)≤qq:=by omega
      by_cases c2:4294967296*rr+un0 < p
      ·have cc:B32≤qq∨B32*rr+un0 < qq*yn0:=.inr (by rw[←HP.out];exact c2)
       have d2:4294967296*(rr:Int)+un0 < p:=by omega
       clear c1 c2;obtain ⟨n1,n2,n3⟩:=HH.out.next HV.out h0 hXV hd0 cc;have N2:=hid n2;have N3:=hid n3;clear n2 n3 cc HH HP;obtain ⟨k,rfl⟩:∃ k,qq=k+1:=⟨qq - 1,by omega⟩
       have hk1:((k+1:Nat):Int)=(k:Int)+1:=by omega
       simp only[hk1]at d1 ep hx4;rw[hk1];clear hk1;by_cases c3:rr+yn1 < B32
       ·have d3:¬(4294967296:Int)≤(rr:Int)+yn1:=by unfold B32 at c3;omega
        go_wp2;go_round
        case rel=>exact ⟨k,rr+yn1,by go_num,by go_num,N2.out c3⟩
        case measure=>simp[intOf]
       ·have d3:(4294967296:Int)≤(rr:Int)+yn1:=by unfold B32 at c3;omega
        obtain ⟨qe,hqe⟩:∃ qe,qe=k:=⟨_,rfl⟩;subst hqe;have hdone:Done X un0 V qe:=N3.out (by omega);clear N2 N3;have hqf:=HDN.out.lt hu hd;have hqe:=hdone.lt hXV hd0
        have b1:(qf:Int) < 4294967296:=by unfold B32 at hqf;omega
        have b2:(qe:Int) < 4294967296:=by unfold B32 at hqe;omega
        obtain ⟨Y,hY⟩:∃ Y,Y=X*B32+un0 - qe*V:=⟨_,rfl⟩;have eY:=un21_in (Nat.lt_trans hXV hV) hd0 hV hdone;rw[←hY] at eY;obtain ⟨Z,hZ⟩:∃ Z,Z=Y / 2^s:=⟨_,rfl⟩
        have eZ:(Y:Int) / 2^min s 64=Z:=by rw[hZ,Nat.min_eq_left (Nat.le_of_lt HS0.out),Int.natCast_ediv,Int.natCast_pow];rfl
        have HY:=hid hY;have HZ:=hid hZ;have HDE:=hid hdone;clear hY hZ hdone hqf hqe;go_wp2;go_ret2;exact ⟨rfl,qf,qe,Z,rfl,HDN.out,by rw[HZ.out,HY.out,HX.out],by rw[←HX.out];exact HDE.out⟩
      ·have d2:¬4294967296*(rr:Int)+un0 < p:=by omega
       obtain ⟨qe,hqe⟩:∃ qe,qe=qq:=⟨_,rfl⟩;subst hqe;have hdone:Done X un0 V qe:=HH.out.fits HV.out (by rw[←HP.out];unfold B32;omega);clear c1 c2 HH HP;have hqf:=HDN.out.lt hu hd;have hqe:=hdone.lt hXV hd0
       have b1:(qf:Int) < 4294967296:=by unfold B32 at hqf;omega
       have b2:(qe:Int) < 4294967296:=by unfold B32 at hqe;omega
       obtain ⟨Y,hY⟩:∃ Y,Y=X*B32+un0 - qe*V:=⟨_,rfl⟩;have eY:=un21_in (Nat.lt_trans hXV hV) hd0 hV hdone;rw[←hY] at eY;obtain ⟨Z,hZ⟩:∃ Z,Z=Y / 2^s:=⟨_,rfl⟩
       have eZ:(Y:Int) / 2^min s 64=Z:=by rw[hZ,Nat.min_eq_left (Nat.le_of_lt HS0.out),Int.natCast_ediv,Int.natCast_pow];rfl
       have HY:=hid hY;have HZ:=hid hZ;have HDE:=hid hdone;clear hY hZ hdone hqf hqe;go_wp2;go_ret2;exact ⟨rfl,qf,qe,Z,rfl,HDN.out,by rw[HZ.out,HY.out,HX.out],by rw[←HX.out];exact HDE.out⟩
  ·have d1:¬(4294967296:Int)≤q:=by omega
   by_cases c2:4294967296*r+un1 < p
   ·have cc:B32≤q∨B32*r+un1 < q*yn0:=.inr (by rw[←HP.out];exact c2)
    have d2:4294967296*(r:Int)+un1 < p:=by omega
    clear c1 c2;obtain ⟨n1,n2,n3⟩:=HH.out.next HV.out h0 hu hd cc;have N2:=hid n2;have N3:=hid n3;clear n2 n3 cc HH HP;obtain ⟨k,rfl⟩:∃ k,q=k+1:=⟨q - 1,by omega⟩
    have hk1:((k+1:Nat):Int)=(k:Int)+1:=by omega
    simp only[hk1]at d1 ep hx4;rw[hk1];clear hk1;by_cases c3:r+yn1 < B32
    ·have d3:¬(4294967296:Int)≤(r:Int)+yn1:=by unfold B32 at c3;omega
     go_wp2;go_round
     case rel=>exact ⟨k,r+yn1,by go_num,by go_num,N2.out c3⟩
     case measure=>simp[intOf]
    ·have d3:(4294967296:Int)≤(r:Int)+yn1:=by unfold B32 at c3;omega
     obtain ⟨qf,hqf⟩:∃ qf,qf=k:=⟨_,rfl⟩;subst hqf;have hdone:Done U un1 V qf:=N3.out (by omega);clear N2 N3;obtain ⟨X,hX⟩:∃ X,X=U*B32+un1 - qf*V:=⟨_,rfl⟩;have eX:=un21_in (Nat.lt_trans hu hV) hd hV hdone;rw[←hX] at eX
     have hXV:X < V:=by rw[hX];exact hdone.rest
     obtain ⟨q1,r1,f1,f2,f3,hst⟩:=half_start HV.out h0 h1 h1' hXV hd0;have HX:=hid hX;have HST:=hid hst;have HDN:=hid hdone;clear hX hst hdone;go_wp2
     go_loop [18,16] (fun a b=>∃ q r:Nat,a=.int .u64 q∧b=.int .u64 r∧Half X un0 V yn1 yn0 q r) (fun a _=>(intOf a).toNat)
     case atStart=>exact ⟨q1,r1,rfl,rfl,HST.out⟩
     case round=>
      obtain ⟨qq,rr,rfl,rfl,hh⟩:=hrel;have HH:=hid hh;have hql:=hh.le;have hrs:=hh.small;clear hh HST f1 f3 eX ep;obtain ⟨p,hp,ep⟩:=half_prod hql h0;have HP:=hid hp;clear hp
      have hx1:(un0:Int) < 4294967296:=by unfold B32 at hd0;omega
      have hx2:(rr:Int) < 4294967296:=by unfold B32 at hrs;omega
      have hx4:(qq:Int)≤4294967297:=by unfold B32 at hql;omega
      by_cases c1:4294967296≤qq
      ·have cc:B32≤qq∨B32*rr+un0 < qq*yn0:=.inl c1
       have d1:(4294967296:Int)≤qq:=by omega
       clear c1;obtain ⟨n1,n2,n3⟩:=HH.out.next HV.out h0 hXV hd0 cc;have N2:=hid n2;have N3:=hid n3;clear n2 n3 cc HH HP;obtain ⟨k,rfl⟩:∃ k,qq=k+1:=⟨qq - 1,by omega⟩
       have hk1:((k+1:Nat):Int)=(k:Int)+1:=by omega
       simp only[hk1]at d1 ep hx4;rw[hk1];clear hk1;by_cases c3:rr+yn1 < B32
       ·have d3:¬(4294967296:Int)≤(rr:Int)+yn1:=by unfold B32 at c3;omega
        go_wp2;go_round
        case rel=>exact ⟨k,rr+yn1,by go_num,by go_num,N2.out c3⟩
        case measure=>simp[intOf]
       ·have d3:(4294967296:Int)≤(rr:Int)+yn1:=by unfold B32 at c3;omega
        obtain ⟨qe,hqe⟩:∃ qe,qe=k:=⟨_,rfl⟩;subst hqe;have hdone:Done X un0 V qe:=N3.out (by omega);clear N2 N3;have hqf:=HDN.out.lt hu hd;have hqe:=hdone.lt hXV hd0
        have b1:(qf:Int) < 4294967296:=by unfold B32 at hqf;omega
        have b2:(qe:Int) < 4294967296:=by unfold B32 at hqe;omega
        obtain ⟨Y,hY⟩:∃ Y,Y=X*B32+un0 - qe*V:=⟨_,rfl⟩;have eY:=un21_in (Nat.lt_trans hXV hV) hd0 hV hdone;rw[←hY] at eY;obtain ⟨Z,hZ⟩:∃ Z,Z=Y / 2^s:=⟨_,rfl⟩
        have eZ:(Y:Int) / 2^min s 64=Z:=by rw[hZ,Nat.min_eq_left (Nat.le_of_lt HS0.out),Int.natCast_ediv,Int.natCast_pow];rfl
        have HY:=hid hY;have HZ:=hid hZ;have HDE:=hid hdone;clear hY hZ hdone hqf hqe;go_wp2;go_ret2;exact ⟨rfl,qf,qe,Z,rfl,HDN.out,by rw[HZ.out,HY.out,HX.out],by rw[←HX.out];exact HDE.out⟩
      ·have d1:¬(4294967296:Int)≤qq:=by omega
       by_cases c2:4294967296*rr+un0 < p
       ·have cc:B32≤qq∨B32*rr+un0 < qq*yn0:=.inr (by rw[←HP.out];exact c2)
        have d2:4294967296*(rr:Int)+un0 < p:=by omega
        clear c1 c2;obtain ⟨n1,n2,n3⟩:=HH.out.next HV.out h0 hXV hd0 cc;have N2:=hid n2;have N3:=hid n3;clear n2 n3 cc HH HP;obtain ⟨k,rfl⟩:∃ k,qq=k+1:=⟨qq - 1,by omega⟩
        have hk1:((k+1:Nat):Int)=(k:Int)+1:=by omega
        simp only[hk1]at d1 ep hx4;rw[hk1];clear hk1;by_cases c3:rr+yn1 < B32
        ·have d3:¬(4294967296:Int)≤(rr:Int)+yn1:=by unfold B32 at c3;omega
         go_wp2;go_round
         case rel=>exact ⟨k,rr+yn1,by go_num,by go_num,N2.out c3⟩
         case measure=>simp[intOf]
        ·have d3:(4294967296:Int)≤(rr:Int)+yn1:=by unfold B32 at c3;omega
         obtain ⟨qe,hqe⟩:∃ qe,qe=k:=⟨_,rfl⟩;subst hqe;have hdone:Done X un0 V qe:=N3.out (by omega);clear N2 N3;have hqf:=HDN.out.lt hu hd;have hqe:=hdone.lt hXV hd0
         have b1:(qf:Int) < 4294967296:=by unfold B32 at hqf;omega
         have b2:(qe:Int) < 4294967296:=by unfold B32 at hqe;omega
         obtain ⟨Y,hY⟩:∃ Y,Y=X*B32+un0 - qe*V:=⟨_,rfl⟩;have eY:=un21_in (Nat.lt_trans hXV hV) hd0 hV hdone;rw[←hY] at eY;obtain ⟨Z,hZ⟩:∃ Z,Z=Y / 2^s:=⟨_,rfl⟩
         have eZ:(Y:Int) / 2^min s 64=Z:=by rw[hZ,Nat.min_eq_left (Nat.le_of_lt HS0.out),Int.natCast_ediv,Int.natCast_pow];rfl
         have HY:=hid hY;have HZ:=hid hZ;have HDE:=hid hdone;clear hY hZ hdone hqf hqe;go_wp2;go_ret2;exact ⟨rfl,qf,qe,Z,rfl,HDN.out,by rw[HZ.out,HY.out,HX.out],by rw[←HX.out];exact HDE.out⟩
       ·have d2:¬4294967296*(rr:Int)+un0 < p:=by omega
        obtain ⟨qe,hqe⟩:∃ qe,qe=qq:=⟨_,rfl⟩;subst hqe;have hdone:Done X un0 V qe:=HH.out.fits HV.out (by rw[←HP.out];unfold B32;omega);clear c1 c2 HH HP;have hqf:=HDN.out.lt hu hd;have hqe:=hdone.lt hXV hd0
        have b1:(qf:Int) < 4294967296:=by unfold B32 at hqf;omega
        have b2:(qe:Int) < 4294967296:=by unfold B32 at hqe;omega
        obtain ⟨Y,hY⟩:∃ Y,Y=X*B32+un0 - qe*V:=⟨_,rfl⟩;have eY:=un21_in (Nat.lt_trans hXV hV) hd0 hV hdone;rw[←hY] at eY;obtain ⟨Z,hZ⟩:∃ Z,Z=Y / 2^s:=⟨_,rfl⟩
        have eZ:(Y:Int) / 2^min s 64=Z:=by rw[hZ,Nat.min_eq_left (Nat.le_of_lt HS0.out),Int.natCast_ediv,Int.natCast_pow];rfl
        have HY:=hid hY;have HZ:=hid hZ;have HDE:=hid hdone;clear hY hZ hdone hqf hqe;go_wp2;go_ret2;exact ⟨rfl,qf,qe,Z,rfl,HDN.out,by rw[HZ.out,HY.out,HX.out],by rw[←HX.out];exact HDE.out⟩
   ·have d2:¬4294967296*(r:Int)+un1 < p:=by omega
    obtain ⟨qf,hqf⟩:∃ qf,qf=q:=⟨_,rfl⟩;subst hqf;have hdone:Done U un1 V qf:=HH.out.fits HV.out (by rw[←HP.out];unfold B32;omega);clear c1 c2 HH HP;obtain ⟨X,hX⟩:∃ X,X=U*B32+un1 - qf*V:=⟨_,rfl⟩;have eX:=un21_in (Nat.lt_trans hu hV) hd hV hdone;rw[←hX] at eX
    have hXV:X < V:=by rw[hX];exact hdone.rest
    obtain ⟨q1,r1,f1,f2,f3,hst⟩:=half_start HV.out h0 h1 h1' hXV hd0;have HX:=hid hX;have HST:=hid hst;have HDN:=hid hdone;clear hX hst hdone;go_wp2
    go_loop [18,16] (fun a b=>∃ q r:Nat,a=.int .u64 q∧b=.int .u64 r∧Half X un0 V yn1 yn0 q r) (fun a _=>(intOf a).toNat)
    case atStart=>exact ⟨q1,r1,rfl,rfl,HST.out⟩
    case round=>
     obtain ⟨qq,rr,rfl,rfl,hh⟩:=hrel;have HH:=hid hh;have hql:=hh.le;have hrs:=hh.small;clear hh HST f1 f3 eX ep;obtain ⟨p,hp,ep⟩:=half_prod hql h0;have HP:=hid hp;clear hp
     have hx1:(un0:Int) < 4294967296:=by unfold B32 at hd0;omega
     have hx2:(rr:Int) < 4294967296:=by unfold B32 at hrs;omega
     have hx4:(qq:Int)≤4294967297:=by unfold B32 at hql;omega
     by_cases c1:4294967296≤qq
     ·have cc:B32≤qq∨B32*rr+un0 < qq*yn0:=.inl c1
      have d1:(4294967296:Int)≤qq:=by omega
      clear c1;obtain ⟨n1,n2,n3⟩:=HH.out.next HV.out h0 hXV hd0 cc;have N2:=hid n2;have N3:=hid n3;clear n2 n3 cc HH HP;obtain ⟨k,rfl⟩:∃ k,qq=k+1:=⟨qq - 1,by omega⟩
      have hk1:((k+1:Nat):Int)=(k:Int)+1:=by omega
      simp only[hk1]at d1 ep hx4;rw[hk1];clear hk1;by_cases c3:rr+yn1 < B32
      ·have d3:¬(4294967296:Int)≤(rr:Int)+yn1:=by unfold B32 at c3;omega
       go_wp2;go_round
       case rel=>exact ⟨k,rr+yn1,by go_num,by go_num,N2.out c3⟩
       case measure=>simp[intOf]
      ·have d3:(4294967296:Int)≤(rr:Int)+yn1:=by unfold B32 at c3;omega
       obtain ⟨qe,hqe⟩:∃ qe,qe=k:=⟨_,rfl⟩;subst hqe;have hdone:Done X un0 V qe:=N3.out (by omega);clear N2 N3;have hqf:=HDN.out.lt hu hd;have hqe:=hdone.lt hXV hd0
       have b1:(qf:Int) < 4294967296:=by unfold B32 at hqf;omega
       have b2:(qe:Int) < 4294967296:=by unfold B32 at hqe;omega
       obtain ⟨Y,hY⟩:∃ Y,Y=X*B32+un0 - qe*V:=⟨_,rfl⟩;have eY:=un21_in (Nat.lt_trans hXV hV) hd0 hV hdone;rw[←hY] at eY;obtain ⟨Z,hZ⟩:∃ Z,Z=Y / 2^s:=⟨_,rfl⟩
       have eZ:(Y:Int) / 2^min s 64=Z:=by rw[hZ,Nat.min_eq_left (Nat.le_of_lt HS0.out),Int.natCast_ediv,Int.natCast_pow];rfl
       have HY:=hid hY;have HZ:=hid hZ;have HDE:=hid hdone;clear hY hZ hdone hqf hqe;go_wp2;go_ret2;exact ⟨rfl,qf,qe,Z,rfl,HDN.out,by rw[HZ.out,HY.out,HX.out],by rw[←HX.out];exact HDE.out⟩
     ·have d1:¬(4294967296:Int)≤qq:=by omega
      by_cases c2:4294967296*rr+un0 < p
      ·have cc:B32≤qq∨B32*rr+un0 < qq*yn0:=.inr (by rw[←HP.out];exact c2)
       have d2:4294967296*(rr:Int)+un0 < p:=by omega
       clear c1 c2;obtain ⟨n1,n2,n3⟩:=HH.out.next HV.out h0 hXV hd0 cc;have N2:=hid n2;have N3:=hid n3;clear n2 n3 cc HH HP;obtain ⟨k,rfl⟩:∃ k,qq=k+1:=⟨qq - 1,by omega⟩
       have hk1:((k+1:Nat):Int)=(k:Int)+1:=by omega
       simp only[hk1]at d1 ep hx4;rw[hk1];clear hk1;by_cases c3:rr+yn1 < B32
       ·have d3:¬(4294967296:Int)≤(rr:Int)+yn1:=by unfold B32 at c3;omega
        go_wp2;go_round
        case rel=>exact ⟨k,rr+yn1,by go_num,by go_num,N2.out c3⟩
        case measure=>simp[intOf]
       ·have d3:(4294967296:Int)≤(rr:Int)+yn1:=by unfold B32 at c3;omega
        obtain ⟨qe,hqe⟩:∃ qe,qe=k:=⟨_,rfl⟩;subst hqe;have hdone:Done X un0 V qe:=N3.out (by omega);clear N2 N3;have hqf:=HDN.out.lt hu hd;have hqe:=hdone.lt hXV hd0
        have b1:(qf:Int) < 4294967296:=by unfold B32 at hqf;omega
        have b2:(qe:Int) < 4294967296:=by unfold B32 at hqe;omega
        obtain ⟨Y,hY⟩:∃ Y,Y=X*B32+un0 - qe*V:=⟨_,rfl⟩;have eY:=un21_in (Nat.lt_trans hXV hV) hd0 hV hdone;rw[←hY] at eY;obtain ⟨Z,hZ⟩:∃ Z,Z=Y / 2^s:=⟨_,rfl⟩
        have eZ:(Y:Int) / 2^min s 64=Z:=by rw[hZ,Nat.min_eq_left (Nat.le_of_lt HS0.out),Int.natCast_ediv,Int.natCast_pow];rfl
        have HY:=hid hY;have HZ:=hid hZ;have HDE:=hid hdone;clear hY hZ hdone hqf hqe;go_wp2;go_ret2;exact ⟨rfl,qf,qe,Z,rfl,HDN.out,by rw[HZ.out,HY.out,HX.out],by rw[←HX.out];exact HDE.out⟩
      ·have d2:¬4294967296*(rr:Int)+un0 < p:=by omega
       obtain ⟨qe,hqe⟩:∃ qe,qe=qq:=⟨_,rfl⟩;subst hqe;have hdone:Done X un0 V qe:=HH.out.fits HV.out (by rw[←HP.out];unfold B32;omega);clear c1 c2 HH HP;have hqf:=HDN.out.lt hu hd;have hqe:=hdone.lt hXV hd0
       have b1:(qf:Int) < 4294967296:=by unfold B32 at hqf;omega
       have b2:(qe:Int) < 4294967296:=by unfold B32 at hqe;omega
       obtain ⟨Y,hY⟩:∃ Y,Y=X*B32+un0 - qe*V:=⟨_,rfl⟩;have eY:=un21_in (Nat.lt_trans hXV hV) hd0 hV hdone;rw[←hY] at eY;obtain ⟨Z,hZ⟩:∃ Z,Z=Y / 2^s:=⟨_,rfl⟩
       have eZ:(Y:Int) / 2^min s 64=Z:=by rw[hZ,Nat.min_eq_left (Nat.le_of_lt HS0.out),Int.natCast_ediv,Int.natCast_pow];rfl
       have HY:=hid hY;have HZ:=hid hZ;have HDE:=hid hdone;clear hY hZ hdone hqf hqe;go_wp2;go_ret2;exact ⟨rfl,qf,qe,Z,rfl,HDN.out,by rw[HZ.out,HY.out,HX.out],by rw[←HX.out];exact HDE.out⟩
theorem bitLen_bounds {x:Nat}(h:x < W64)(h0:x≠0):1≤Lib.bitLen x∧Lib.bitLen x≤64∧2^(Lib.bitLen x - 1)≤x∧x < 2^Lib.bitLen x:=by
 obtain ⟨a,b,c⟩:=Lib.bitLenAux_bounds 64 x h h0;exact ⟨a,Lib.bitLen_le x 64 (Nat.le_refl _) h,b,c⟩
theorem lz_calls (x:Nat)(h:x < W64)(h0:x≠0):∃ s:Nat,s < 64∧2^63≤x*2^s∧x*2^s < W64∧
  ∀ w,Calls Tryz.prog 256 #[.int .u64 x] w fun e w'=>e=.returned (.int .i64 s)∧w=w':=by
 obtain ⟨a,b,c,d⟩:=bitLen_bounds h h0;refine ⟨64 - Lib.bitLen x,by omega,?_,?_,fun w=>?_⟩
 ·have:=Nat.mul_le_mul_right (2^(64 - Lib.bitLen x)) c;rw[←Nat.pow_add,show Lib.bitLen x - 1+(64 - Lib.bitLen x)=63 by omega] at this;exact this
 ·have:=Nat.mul_lt_mul_of_pos_right d (Nat.pow_pos (n:=64 - Lib.bitLen x) (show 0 < 2 by omega));rw[←Nat.pow_add,show Lib.bitLen x+(64 - Lib.bitLen x)=64 by omega] at this;exact this
 ·refine (Tryz.bits_LeadingZeros64 x w (by omega) (by unfold W64 at h;omega)).mono fun e w' ⟨h1,h2⟩=>⟨?_,h2.symm⟩;rw[h1];simp only[Int.toNat_natCast];congr 2;omega
theorem len_calls (x:Nat)(h:x < W64)(w:World):Calls Tryz.prog 191 #[.int .u64 x] w fun e w'=>e=.returned (.int .i64 (Lib.bitLen x))∧w=w':=by
 refine (Tryz.bits_Len64 x w (by omega) (by unfold W64 at h;omega)).mono fun e w' ⟨h1,h2⟩=>⟨?_,h2.symm⟩;rw[h1];simp only[Int.toNat_natCast]
theorem div64_glue {hi lo y s V U T un1 un0 a b:Nat} (hVe:V=y*2^s) (hUT:U*W64+T=(hi*W64+lo)*2^s) (hT:T=un1*B32+un0)
  (h1:Done U un1 V a) (h2:Done (U*B32+un1 - a*V) un0 V b):
  (a*B32+b)*y+((U*B32+un1 - a*V)*B32+un0 - b*V) / 2^s=hi*W64+lo∧((U*B32+un1 - a*V)*B32+un0 - b*V) / 2^s < y:=by
 have g1:=h1.le;have g2:=h2.le;have g3:=h2.rest;have hp:0 < 2^s:=Nat.pow_pos (by omega)
 have e1:(U*B32+un1 - a*V)*B32=U*B32*B32+un1*B32 - a*V*B32:=by rw[Nat.sub_mul,Nat.add_mul]
 have e2:a*V*B32≤(U*B32+un1)*B32:=Nat.mul_le_mul_right _ g1
 have e3:U*B32*B32=U*W64:=by rw[Nat.mul_assoc,show B32*B32=W64 from rfl]
 have e4:(U*B32+un1)*B32=U*W64+un1*B32:=by rw[Nat.add_mul,e3]
 have e5:(a*B32+b)*V=a*V*B32+b*V:=by rw[Nat.add_mul,Nat.mul_right_comm]
 obtain ⟨Y,hY⟩:∃ Y,Y=(U*B32+un1 - a*V)*B32+un0 - b*V:=⟨_,rfl⟩;rw[←hY] at g3⊢
 have e6:(a*B32+b)*V+Y=(hi*W64+lo)*2^s:=by omega
 have e7:(a*B32+b)*V=(a*B32+b)*y*2^s:=by rw[hVe,Nat.mul_assoc]
 rw[e7]at e6
 have e8:Y=(hi*W64+lo - (a*B32+b)*y)*2^s:=by rw[Nat.sub_mul];omega
 have e9:(a*B32+b)*y≤hi*W64+lo:=by
  have:(a*B32+b)*y*2^s≤(hi*W64+lo)*2^s:=by omega
  exact Nat.le_of_mul_le_mul_right this hp
 rw[e8,Nat.mul_div_cancel _ hp];refine ⟨by omega,?_⟩;rw[e8,hVe] at g3;exact Nat.lt_of_mul_lt_mul_right g3
theorem div64_low (lo y:Nat)(w:World)(hlo:lo < W64)(hy:y < W64)(h0:0 < y):
  Calls Tryz.prog 255 #[.int .u64 0,.int .u64 lo,.int .u64 y] w fun e w'=>(∃ m,w'=w.drewN m)∧e=.returned (.tuple #[.int .u64 (lo / y:Nat),.int .u64 (lo % y:Nat)]):=by
 have g1:((y:Int)==0)=false:=by simp;omega
 have hy':(0:Int) < y:=by omega
 unfold W64 at *;go_enter Tryz.func255,Tryz.ntmps255;go_wp2
 go_quiet (fail)
 go_wp2;go_ret2
 have e1:IntKind.u64.wrap ((lo:Int) / (y:Int))=((lo / y:Nat):Int):=by
  have:=Nat.div_le_self lo y;rw[←Int.natCast_ediv,wrap_u64_nat,Nat.mod_eq_of_lt (by unfold W64;omega)]
 have e2:((lo:Int) % (y:Int))=((lo % y:Nat):Int):=by rw[Int.natCast_emod]
 refine ⟨⟨_,rfl⟩,?_⟩;show Ending.returned (Value.tuple #[.int .u64 (IntKind.u64.wrap ((lo:Int) / (y:Int))),.int .u64 ((lo:Int) % (y:Int))])=_;rw[e1,e2]
theorem div64_calls (hi lo y:Nat)(hlo:lo < W64)(hy:y < W64)(hlt:hi < y)(w:World):∃ q r:Nat,q < W64∧r < y∧q*y+r=hi*W64+lo∧
  Calls Tryz.prog 255 #[.int .u64 hi,.int .u64 lo,.int .u64 y] w fun e w'=>e=.returned (.tuple #[.int .u64 q,.int .u64 r])∧∃ m,w'=w.drewN m:=by
 by_cases h0:hi=0
 ·subst h0;refine ⟨lo / y,lo % y,Nat.lt_of_le_of_lt (Nat.div_le_self _ _) hlo,Nat.mod_lt _ (by omega),?_,(div64_low lo y w hlo hy (by omega)).mono fun e w' ⟨h1,h2⟩=>⟨h2,h1⟩⟩;have:=Nat.div_add_mod lo y;rw[Nat.mul_comm (lo / y)];omega
 ·obtain ⟨s,hs,hlow,hup,hlz⟩:=lz_calls y hy (by omega);obtain ⟨V,hV⟩:∃ V,V=y*2^s:=⟨_,rfl⟩;rw[←hV] at hlow hup;have hp:0 < 2^s:=Nat.pow_pos (by omega)
  have hhs:hi*2^s+2^s≤V:=by
   have:=Nat.mul_le_mul_right (2^s) (show hi+1≤y from hlt);rw[Nat.add_mul,Nat.one_mul] at this;rw[hV];exact this
  have hcar:lo*2^s / W64 < 2^s:=by
   rw[Nat.div_lt_iff_lt_mul (by decide),Nat.mul_comm];exact Nat.mul_lt_mul_of_pos_left hlo hp
  obtain ⟨U,hU⟩:∃ U,U=hi*2^s+lo*2^s / W64:=⟨_,rfl⟩;obtain ⟨T,hT⟩:∃ T,T=lo*2^s % W64:=⟨_,rfl⟩
  have hTlt:T < W64:=by rw[hT];exact Nat.mod_lt _ (by decide)
  have hUV:U < V:=by omega
  have hv:V=V / B32*B32+V % B32:=by have:=Nat.div_add_mod V B32;rw[Nat.mul_comm] at this;omega
  have hv0:V % B32 < B32:=Nat.mod_lt _ (by decide)
  have hv1:B32≤2*(V / B32):=by unfold B32;omega
  have hv1':V / B32 < B32:=by unfold B32 W64 at *;omega
  have ht1:T / B32 < B32:=by unfold B32 W64 at *;omega
  have ht0:T % B32 < B32:=Nat.mod_lt _ (by decide);obtain ⟨q0,r0,f1,f2,f3,hst⟩:=half_start hv hv0 hv1 hv1' hUV ht1
  have hUT:U*W64+T=(hi*W64+lo)*2^s:=by
   have h1:=Nat.div_add_mod (lo*2^s) W64;rw[←hT] at h1
   have h2:(hi*W64+lo)*2^s=hi*2^s*W64+lo*2^s:=by rw[Nat.add_mul,Nat.mul_right_comm]
   rw[h2,hU,Nat.add_mul,Nat.mul_comm (lo*2^s / W64)];omega
  have key:∀ a b z:Nat,Done U (T / B32) V a→Done (U*B32+T / B32 - a*V) (T % B32) V b→z=((U*B32+T / B32 - a*V)*B32+T % B32 - b*V) / 2^s→(a*B32+b)*y+z=hi*W64+lo∧z < y:=fun a b z d1 d2 hz=>by
   rw[hz];exact div64_glue hV hUT (by have:=Nat.div_add_mod T B32;rw[Nat.mul_comm];omega) d1 d2
  have walk:=div64_walk hi lo y s V (V / B32) (V % B32) U T (T / B32) (T % B32) q0 r0 w hlo hy hlt (by omega) hs hlz
   (by rw[hV];exact shl_in (by rw[←hV];exact hup)) (by rw[Int.natCast_ediv];rfl) (bits_mask32 V hup) (by rw[hU];exact join_high hs hlo (by omega)) (by rw[hT];exact shl_mod)
   (by rw[Int.natCast_ediv];rfl) (bits_mask32 T hTlt) f1 f2 f3 hup hv hv0 hv1 hv1' hUV ht1 ht0 hst
  have exq:∃ q r:Nat,q*y+r=hi*W64+lo∧r < y:=⟨(hi*W64+lo) / y,(hi*W64+lo) % y,by have:=Nat.div_add_mod (hi*W64+lo) y;rw[Nat.mul_comm] at this;exact this,Nat.mod_lt _ (by omega)⟩;obtain ⟨q,r,hqr,hr⟩:=exq
  have uniq:∀ q' r',q'*y+r'=hi*W64+lo→r' < y→q'=q∧r'=r:=fun q' r' h1 h2=>by
   have e1:(q'*y+r') / y=q':=by rw[Nat.mul_comm,Nat.mul_add_div (by omega),Nat.div_eq_of_lt h2];omega
   have e2:(q*y+r) / y=q:=by rw[Nat.mul_comm,Nat.mul_add_div (by omega),Nat.div_eq_of_lt hr];omega
   have:q'=q:=by rw[←e1,←e2,h1,hqr]
   subst this;exact ⟨rfl,by omega⟩
  refine ⟨q,r,?_,hr,hqr,walk.mono fun e w' ⟨h1,a,b,z,h2,h3,h4,h5⟩=>⟨?_,0,by rw[←h1];rfl⟩⟩
  ·have:q*y < W64*y:=by
    have:(hi+1)*W64≤y*W64:=Nat.mul_le_mul_right _ hlt;rw[Nat.add_mul,Nat.mul_comm y] at this;omega
   exact Nat.lt_of_mul_lt_mul_right this
  ·obtain ⟨k1,k2⟩:=key a b z h3 h5 h4;obtain ⟨e1,rfl⟩:=uniq _ _ k1 k2;rw[h2,←e1];congr 3
theorem div64_calls' (hi lo y:Nat)(hlo:lo < W64)(hy:y < W64)(hlt:hi < y):∃ q r:Nat,q < W64∧r < y∧q*y+r=hi*W64+lo∧
  ∀ w,Calls Tryz.prog 255 #[.int .u64 hi,.int .u64 lo,.int .u64 y] w fun e w'=>e=.returned (.tuple #[.int .u64 q,.int .u64 r])∧∃ m,w'=w.drewN m:=by
 have hpos:0 < y:=by omega
 obtain ⟨q,hq⟩:∃ q,q=(hi*W64+lo) / y:=⟨_,rfl⟩;obtain ⟨r,hr⟩:∃ r,r=(hi*W64+lo) % y:=⟨_,rfl⟩
 have uniq:∀ q' r',q'*y+r'=hi*W64+lo→r' < y→q'=q∧r'=r:=fun q' r' h1 h2=>by
  rw[hq,hr,←h1,Nat.mul_comm,Nat.mul_add_div hpos,Nat.div_eq_of_lt h2,Nat.mul_add_mod,Nat.mod_eq_of_lt h2];exact ⟨by omega,rfl⟩
 obtain ⟨q1,r1,a1,a2,a3,_⟩:=div64_calls hi lo y hlo hy hlt default;obtain ⟨rfl,rfl⟩:=uniq q1 r1 a3 a2;refine ⟨q1,r1,a1,a2,a3,fun w=>?_⟩;obtain ⟨q2,r2,_,c2,c3,c4⟩:=div64_calls hi lo y hlo hy hlt w;obtain ⟨rfl,rfl⟩:=uniq q2 r2 c3 c2;exact c4
def But (B:Nat)(w w':World):Prop:=w.grownBy w' (some B)
theorem But.refl (B:Nat)(w:World):But B w w:=⟨rfl,rfl,rfl,Nat.le_refl _,fun _ _ _=>rfl⟩
theorem But.drewN {B:Nat}{w w':World}(h:But B w w')(n:Nat):But B w (w'.drewN n):=⟨h.os,h.tape,h.output,h.size,h.block⟩
theorem But.drew {B:Nat}{w w':World}(h:But B w w'):But B w w'.drew:=⟨h.os,h.tape,h.output,h.size,h.block⟩
theorem But.setCell {B:Nat}{w w':World}(h:But B w w')(i:Nat)(u:Value):But B w (w'.setCell ⟨B,i,none⟩ u):=
 ⟨h.os,h.tape,h.output,by simpa[World.setCell] using h.size,fun k hk hne=>(Below.heap_setCell w' ⟨B,i,none⟩ u k (by rintro rfl;exact hne rfl)).trans (h.block k hk hne)⟩
theorem But.cell {B:Nat}{w w':World}(h:But B w w'){p:Addr}{v:Value}(hc:w.cell? p=some v)(hne:p.block≠B):w'.cell? p=some v:=
 (World.cell?_of_block (w:=w) (h.block p.block (lt_of_cell hc) (by intro e;injection e with e;exact hne e))).trans hc
theorem But.new {B:Nat}{w w':World}(h:But B w w'){w0:World}(h0:New w0 w)(hB:w0.heap.size≤B):New w0 w':=Below.grown h0 h h0.size (fun k hk=>by injection hk with hk;omega)
structure OnWay (u v:Nat→Nat)(k h r ov:Nat):Prop where
 hov:ov≤1
 hr:r < W64
 hh:h < W64
 rest:h*v (k+1)+(r+W64*ov)=u (k+2)*W64+u (k+1)
 ge:vf W64 u (k+3) < (h+1)*vf W64 v (k+2)
structure Fit (u v:Nat→Nat)(k h:Nat):Prop where
 hh:h < W64
 ge:vf W64 u (k+3) < (h+1)*vf W64 v (k+2)
 le:h*vf W64 v (k+2)≤vf W64 u (k+3)+vf W64 v (k+2)
section
variable {u v:Nat→Nat} {k h r ov:Nat} (hu:∀ i,i < k+3→u i < W64) (hv:∀ i,i < k+2→v i < W64) (hv0:v (k+1)≠0)
theorem top_le (hlt:vf W64 (fun i=>u (1+i)) (k+2) < vf W64 v (k+2))(hv:∀ i,i < k+2→v i < W64):u (k+2)≤v (k+1):=by
 rcases Nat.lt_or_ge (v (k+1)) (u (k+2)) with h | h
 ·exfalso;rw[vf_succ _ v,vf_succ,show 1+(k+1)=k+2 by omega] at hlt;have h1:vf W64 v (k+1) < W64^(k+1):=vf_lt fun i hi=>hv i (by omega);have h2:(v (k+1)+1)*W64^(k+1)≤u (k+2)*W64^(k+1):=Nat.mul_le_mul_right _ h;rw[Nat.add_mul,Nat.one_mul] at h2;omega
 ·exact h
theorem all_lt (hlt:vf W64 (fun i=>u (1+i)) (k+2) < vf W64 v (k+2))(hu:∀ i,i < k+3→u i < W64):vf W64 u (k+3) < W64*vf W64 v (k+2):=by
 have e:vf W64 u (k+3)=u 0+W64*vf W64 (fun i=>u (i+1)) (k+2):=vf_head W64 u (k+2)
 have e2:(fun i=>u (i+1))=fun i=>u (1+i):=funext fun i=>by rw[Nat.add_comm]
 rw[e,e2];have h1:=hu 0 (by omega);have h2:W64*(vf W64 (fun i=>u (1+i)) (k+2)+1)≤W64*vf W64 v (k+2):=Nat.mul_le_mul_left _ hlt;rw[Nat.mul_add,Nat.mul_one] at h2;omega
include hu in
theorem OnWay.equal (hlt:vf W64 (fun i=>u (1+i)) (k+2) < vf W64 v (k+2))(heq:u (k+2)=v (k+1))(hr:r < W64)(ho:ov≤1)(hs:r+W64*ov=u (k+1)+v (k+1)):
  OnWay u v k 18446744073709551615 r ov:=by
 refine ⟨ho,hr,by decide,?_,?_⟩
 ·rw[hs,heq];unfold W64;omega
 ·have:=all_lt (k:=k) hlt hu;exact this
include hu hv hv0 in
theorem OnWay.divided (hr:r < v (k+1))(hh:h < W64)(hs:h*v (k+1)+r=u (k+2)*W64+u (k+1)):OnWay u v k h r 0:=by
 have hvt:=hv (k+1) (by omega);refine ⟨by omega,by omega,hh,by omega,?_⟩;have h1:=first_ge (B:=W64) (n:=k) (by decide) hu hv0
 have e:(u (k+2)*W64+u (k+1)) / v (k+1)=h:=by
  rw[←hs,Nat.mul_comm,Nat.mul_add_div (by omega),Nat.div_eq_of_lt hr,Nat.add_zero]
 rw[e]at h1;exact h1
include hv hv0 in
theorem OnWay.over (o:OnWay u v k h r 1):Fit u v k h:=by
 refine ⟨o.hh,o.ge,guess_pass (B:=W64) (n:=k) hv hv0 o.hh ?_⟩;exact test_over o.rest (by omega) o.hh (hv k (by omega))
include hv hv0 in
theorem OnWay.pass (o:OnWay u v k h r 0)(ht:h*v k≤r*W64+u k):Fit u v k h:=by
 refine ⟨o.hh,o.ge,guess_pass (B:=W64) (n:=k) hv hv0 o.hh ?_⟩;have:=o.rest;rw[←test_iff (r:=r) (by omega)];exact ht
include hu hv0 in
theorem OnWay.fail (o:OnWay u v k h r 0)(ht:r*W64+u k < h*v k){r' ov':Nat}(hr:r' < W64)(ho:ov'≤1)(hs:r'+W64*ov'=r+v (k+1)):0 < h∧OnWay u v k (h - 1) r' ov':=by
 have h0:=o.rest
 have h1:=guess_fail (B:=W64) (n:=k) (h:=h) (u:=u) (v:=v) (by decide) hu hv0 (by
  have:=(test_iff (B:=W64) (T2:=u (k+2)*W64+u (k+1)) (vt:=v (k+1)) (v2:=v k) (u2:=u k) (h:=h) (r:=r) (by omega));rcases Nat.lt_or_ge ((u (k+2)*W64+u (k+1))*W64+u k) (h*(v (k+1)*W64+v k)) with h2 | h2
  ·exact h2
  ·exact absurd (this.2 h2) (by omega))
 obtain ⟨hp,hge⟩:=h1;refine ⟨hp,ho,hr,by have:=o.hh;omega,?_,hge⟩;obtain ⟨n,rfl⟩:∃ n,h=n+1:=⟨h - 1,by omega⟩;rw[Nat.add_mul,Nat.one_mul] at h0;simp only[Nat.add_sub_cancel];omega
end
theorem msub_digit {p u g:Nat→Nat} {j i t bb cc d lo b' c':Nat} (h:vf W64 (fun i=>p (j+i)) i+t*vf W64 g i=vf W64 u i+(bb+cc)*W64^i)
  (hp:lo+W64*c'=t*g i+cc) (hs:d+lo+bb=u i+W64*b'):
  vf W64 (fun x=>upd p (j+i) d (j+x)) (i+1)+t*vf W64 g (i+1)=vf W64 u (i+1)+(b'+c')*W64^(i+1):=by
 refine msub_step (b:=bb) (c:=cc) (lo:=lo) ?_ hp ?_
 ·rw[←h];congr 1;exact vf_congr fun x hx=>upd_other _ _ (by omega)
 ·simp only[upd_same];exact hs
theorem msub_last {p u:Nat→Nat}{j n bb cc d b' t V:Nat}(h:vf W64 (fun i=>p (j+i)) n+t*V=vf W64 u n+(bb+cc)*W64^n)(hs:d+cc+bb=u n+W64*b'):
  vf W64 (fun x=>upd p (j+n) d (j+x)) (n+1)+t*V=vf W64 u (n+1)+b'*W64^(n+1):=by
 have e:vf W64 (fun x=>upd p (j+n) d (j+x)) n=vf W64 (fun i=>p (j+i)) n:=vf_congr fun x hx=>upd_other _ _ (by omega)
 have h2:(d+cc+bb)*W64^n=(u n+W64*b')*W64^n:=by rw[hs]
 rw[Nat.add_mul,Nat.add_mul,Nat.add_mul]at h2;rw[Nat.add_mul] at h;rw[vf_succ _ u,vf_succ,e,upd_same,Nat.pow_succ,Nat.mul_comm (W64^n) W64,←Nat.mul_assoc,Nat.mul_comm b'];omega
theorem back_digit {p q g:Nat→Nat}{j i cc d c':Nat}(h:vf W64 (fun i=>p (j+i)) i+cc*W64^i=vf W64 (fun i=>q (j+i)) i+vf W64 g i)(hs:d+W64*c'=q (j+i)+g i+cc):
  vf W64 (fun x=>upd p (j+i) d (j+x)) (i+1)+c'*W64^(i+1)=vf W64 (fun i=>q (j+i)) (i+1)+vf W64 g (i+1):=by
 refine add_step (c:=cc) ?_ ?_
 ·rw[←h];congr 1;exact vf_congr fun x hx=>upd_other _ _ (by omega)
 ·simp only[upd_same];exact hs
theorem msub_last0 {p u:Nat→Nat}{j n bb cc d b' t V:Nat}(h:vf W64 (fun i=>p (j+i)) n+t*V=vf W64 u n+(bb+cc)*W64^n)(hs:d+cc+bb=u n+W64*b')(hz:b'=0):
  vf W64 (fun x=>upd p (j+n) d (j+x)) (n+1)+t*V=vf W64 u (n+1):=by
 have:=msub_last h hs;rw[hz] at this;generalize W64^(n+1)=P at this;omega
theorem msub_last1 {p u:Nat→Nat}{j n bb cc d b' t V:Nat}(h:vf W64 (fun i=>p (j+i)) n+t*V=vf W64 u n+(bb+cc)*W64^n)(hs:d+cc+bb=u n+W64*b')(hz:b'=1):
  vf W64 (fun x=>upd p (j+n) d (j+x)) (n+1)+t*V=vf W64 u (n+1)+W64^(n+1):=by
 have:=msub_last h hs;rw[hz] at this;generalize W64^(n+1)=P at this⊢;omega
theorem back_last {A cc pt D S:Nat}(h:A+(cc+pt)*D=S)(hA:A < D)(hS:W64*D≤S)(hp:pt < W64)(hc:cc≤1):cc+pt=W64∧A=S - W64*D:=by
 have h1:cc+pt=W64:=by
  rcases Nat.lt_or_ge (cc+pt) W64 with h2 | h2
  ·exfalso;have:=Nat.mul_le_mul_right D (show cc+pt+1≤W64 from h2);rw[Nat.add_mul,Nat.one_mul] at this;omega
  ·omega
 rw[h1]at h;exact ⟨h1,by omega⟩
def StepPost (w:World)(B N j k:Nat)(o g:Nat→Nat)(e:Ending)(w':World):Prop:=∃ (q:Nat) (p:Nat→Nat),e=.returned (.int .u64 q)∧q < W64∧But B w w'∧Row w' B 198 .u64 N p∧(∀ i,p i < W64)∧
 (∀ i,(i < j∨j+k+3≤i)→p i=o i)∧vf W64 (fun i=>p (j+i)) (k+3)+q*vf W64 g (k+2)=vf W64 (fun i=>o (j+i)) (k+3)∧vf W64 (fun i=>p (j+i)) (k+3) < vf W64 g (k+2)
theorem ret_u64 {a b:Int}(h:a=b):Ending.returned (.int .u64 a)=.returned (.int .u64 b):=by rw[h]
def tailN:Nat→Code→Code
 | 0,c=>c
 | n+1,.seq _ b=>tailN n b
 | _,c=>c
noncomputable def stepCode (n:Nat):Code:=tailN n ((Tryz.f258.body).getD .skip)
structure StepIn (w:World)(B N j k c b2 o2:Nat)(o g u:Nat→Nat):Prop where
 hN:j+(k+3)≤N
 hN2:N≤2000003
 hcc:k+3≤c
 hne:b2≠B
 ha:∀ i,i < k+2→w.cell? ⟨b2,o2+i,none⟩=some (.int .u64 (g i))
 hol:∀ i,o i < W64
 hgl:∀ i,i < k+2→g i < W64
 hg0:g (k+1)≠0
 hu:u=fun i=>o (j+i)
 hlt:vf W64 (fun i=>u (1+i)) (k+2) < vf W64 g (k+2)
theorem StepIn.hul {w:World}{B N j k c b2 o2:Nat}{o g u:Nat→Nat}(X:StepIn w B N j k c b2 o2 o g u)(i:Nat):u i < W64:=by rw[X.hu];exact X.hol _
theorem StepIn.at {w:World}{B N j k c b2 o2:Nat}{o g u:Nat→Nat}(X:StepIn w B N j k c b2 o2 o g u)(i:Nat):o (j+i)=u i:=by rw[X.hu]
structure Borrowed (j k h:Nat)(o p g u:Nat→Nat):Prop where
 lt:∀ i,p i < W64
 out:∀ i,(i < j∨j+k+3≤i)→p i=o i
 val:vf W64 (fun i=>p (j+i)) (k+3)+h*vf W64 g (k+2)=vf W64 u (k+3)+W64^(k+3)
theorem step_back (B j c N k b2 o2 ca h:Nat) (o g u p:Nat→Nat) (w wc:World) (v2 v3 v4 v7 v8 v9 v10 v11 v12 v13 v14 v15 v16 v17 v18 v19 v20 v21 v22 v23 v24 v25 v26 v27 v28 v29 v30 v31 v32 v33 v34 v35 v36 v37 v38 v39 v40 v41 v42 v43 v44 v45 v46 v47 v48 v49 v50 v51 v52 v53 v54 v55 v56 v57 v58 v59 v60 v61 v62 v63 v64 v65 v66 v67 v68 v69 v70 v71 v72 v73 v74 v75 v76 v77 v78 v79 v80 v81 v82 v83 v84 v85 v86 v87 v88 v89 v90 v91 v92 v93 v94 v95 v96 v97 v98 v99 v100 v101 v102 v103 v104 v105 v106 v107 v108 v109 v110 v111 v112 v113 v114 v115 v116 v117 v118 v119 v120 v121 v122 v123 v124 v125 v126 v127 v128 v129 v130 v131 v132 v133 v134 v135 v136 v137 v138 v139 v140 v141 v142 v143 v144 v145 v146 v147 v148 v149 v150 v151 v152 v153 v154 v155 v156 v157 v158 v159 v160 v161 v162 v163 v164 v165 v166 v167 v168 v169 v170 v171 v172 v173 v174 v175 v176 v177 v178 v179 v180 v181 v182 v183 v184 v185:Value)
  (X:StepIn w B N j k c b2 o2 o g u) (hfit:Fit u g k h) (hbr:Borrowed j k h o p g u) (hb:But B w wc) (hr:Row wc B 198 .u64 N p):
  Code.wp Tryz.prog (stepCode 10) (bodyPost Tryz.prog Tryz.f258 (StepPost w B N j k o g)) ⟨#[.slice (some ⟨B,j,none⟩) (k+3) c,.slice (some ⟨b2,o2,none⟩) (k+2) ca,v2,v3,v4,.int .i64 ((k:Int)+2),.int .u64 h,v7,v8,v9,v10,v11,v12,v13,v14,v15,v16,v17,v18,v19,v20,v21,v22,v23,v24,v25,v26,v27,v28,v29,v30,v31,v32,v33,v34,v35,v36,v37,v38,v39,v40,v41,v42,v43,v44,v45,v46,v47,v48,v49,v50,v51,v52,v53,v54,v55,v56,v57,v58,v59,v60,v61,v62,v63,v64,v65,v66,v67,v68,v69,v70,v71,v72,v73,v74,v75,v76,v77,v78,v79,v80,v81,v82,v83,v84,v85,v86,v87,v88,v89,v90,v91,v92,v93,v94,v95,v96,v97,v98,v99,v100,v101,v102,v103,v104,v105,v106,v107,v108,v109,v110,v111,v112,v113,v114,v115,v116,v117,v118,v119,v120,v121,v122,v123,v124,v125,v126,v127,v128,v129,v130,v131,v132,v133,v134,v135,v136,v137,v138,v139,v140,v141,v142,v143,v144,v145,v146,v147,v148,v149,v150,v151,v152,v153,v154,v155,v156,v157,v158,v159,v160,v161,v162,v163,v164,v165,v166,v167,v168,v169,v170,v171,v172,v173,v174,v175,v176,v177,v178,v179,v180,v181,v182,v183,v184,v185],[]⟩ wc:=by
 have HX:=hid X;have hne:=X.hne;have hN:=X.hN;have hN2:=X.hN2;have hcc:=X.hcc;have HF:=hid hfit;have HBR:=hid hbr;clear X hfit hbr
 conv=>arg 2;whnf
 go_wp2_with fail
 go_loopw [17,157] (fun sc si wx=>∃ (kk cc:Nat) (q:Nat→Nat),kk≤k+2∧si=.int .i64 kk∧sc=.int .u64 cc∧cc≤1∧But B w wx∧Row wx B 198 .u64 N q∧(∀ i,q i < W64)∧
  (∀ i,(i < j∨j+kk≤i)→q i=p i)∧vf W64 (fun i=>q (j+i)) kk+cc*W64^kk=vf W64 (fun i=>p (j+i)) kk+vf W64 g kk) (fun _ si _=>k+2 - (intOf si).toNat)
 case atStart=>exact ⟨0,0,p,by omega,rfl,rfl,by omega,hb,hr,HBR.out.lt,fun _ _=>rfl,by simp[vf_zero]⟩
 case round=>
  clear hb hr;obtain ⟨kk,cc,q,hkk,rfl,rfl,hcc',hb,hr,hql,hqo,hval⟩:=hrel;have HV:=hid hval;have HQ:=hid hql;have HQO:=hid hqo;clear hval hqo;by_cases hlt:kk < k+2
  ·have e1:=hb.cell (HX.out.ha kk hlt) hne;have hg1:=HX.out.hgl kk hlt;have f1:=hr.cell (i:=j+kk) (by omega);have ff:=hr.frozen (j+kk);have hq1:=hql (j+kk);obtain ⟨d,c',hd,hc',hs,hadd⟩:=add64_ex (q (j+kk)) (g kk) cc hq1 hg1 hcc';have HS:=hid hs;have HB:=hid hb;have HR:=hid hr;clear hs hb hr hql;go_wp2_with fail
   go_region
   go_wp2_with fail;clear hadd e1 f1 ff;go_roundw
   case rel=>
    refine ⟨kk+1,c',upd q (j+kk) d,by omega,by go_num,rfl,hc',(HB.out.setCell _ _).drew,(HR.out.set _ _).drew,upd_lt HQ.out hd,fun i hi=>?_,?_⟩
    ·rw[upd_other _ _ (by omega)];exact HQO.out i (by omega)
    ·have hq2:q (j+kk)=p (j+kk):=HQO.out _ (by omega);exact back_digit (q:=p) HV.out (by rw[←hq2];exact HS.out)
   case measure=>simp[intOf];omega
  ·obtain rfl:kk=k+2:=by omega
   have hp1:q (j+(k+2))=p (j+(k+2)):=HQO.out _ (by omega);have hpl:=HBR.out.lt (j+(k+2))
   have hP:W64^(k+3)=W64*W64^(k+2):=by rw[Nat.pow_succ,Nat.mul_comm]
   obtain ⟨m1,m2,m3,m4⟩:=msub_back HBR.out.val (vf_lt fun i _=>HBR.out.lt _) HF.out.le;have hO:vf W64 (fun i=>p (j+i)) (k+3)=vf W64 (fun i=>p (j+i)) (k+2)+p (j+(k+2))*W64^(k+2):=vf_succ _ _ _
   obtain ⟨b1,b2'⟩:=back_last (A:=vf W64 (fun i=>q (j+i)) (k+2)) (cc:=cc) (pt:=p (j+(k+2))) (D:=W64^(k+2)) (S:=vf W64 (fun i=>p (j+i)) (k+3)+vf W64 g (k+2))
    (by have:=HV.out;rw[Nat.add_mul,hO];omega) (vf_lt fun i _=>hql _) (by rw[←hP];exact m2) hpl hcc'
   have hsum:IntKind.u64.wrap ((q (j+(k+2)):Int)+cc)=0:=by
    rw[hp1,←Int.natCast_add,wrap_u64_nat,Nat.add_comm,b1];rfl
   have f1:=hr.cell (i:=j+(k+2)) (by omega);have ff:=hr.frozen (j+(k+2))
   have hpos:(1:Int)≤h:=by omega
   have hfin:vf W64 (fun x=>upd q (j+(k+2)) 0 (j+x)) (k+3)=vf W64 (fun i=>p (j+i)) (k+3)+vf W64 g (k+2) - W64^(k+3):=by
    rw[vf_succ,upd_same,Nat.zero_mul,Nat.add_zero,hP,←b2'];exact vf_congr fun x hx=>upd_other _ _ (by omega)
   have hh:=HF.out.hh;have HFIN:=hid hfin;have HM3:=hid m3;have HM4:=hid m4;have HB:=hid hb;have HR:=hid hr;clear hfin m1 m2 m3 m4 hO b1 b2' hp1 hpl hP hb hr hql hlt hkk;unfold W64 at hh;go_wp2_with fail;go_ret;refine ⟨h - 1,upd q (j+(k+2)) 0,ret_u64 (by omega),by unfold W64;omega,HB.out.setCell _ _,row_int HR.out rfl,upd_lt HQ.out (by decide),fun i hi=>?_,?_,?_⟩
   ·rw[upd_other _ _ (by omega),HQO.out i (by omega)];exact HBR.out.out i hi
   ·rw[HFIN.out,HM3.out];congr 1;rw[HX.out.hu]
   ·rw[HFIN.out];exact HM4.out
end Go.Proofs.YtnjonlnemagomaaGreatDoor
