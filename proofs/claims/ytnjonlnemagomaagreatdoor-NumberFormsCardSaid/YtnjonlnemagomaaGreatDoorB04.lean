/- Part B04. -/
import Derived.Deep.DeepCutAuto
import Derived.Deep.CutBlock
import Derived.Test.YtnjonlnemagomaaGreatDoorB03
namespace Go.Proofs.YtnjonlnemagomaaGreatDoor
open Go.RowKit Big
open Go.Lib (hid)
set_option maxRecDepth 100000
set_option maxHeartbeats 8000000
def But (B:Nat)(w w':World):Prop:=w.grownBy w' (some B)
theorem But.refl (B:Nat)(w:World):But B w w:=⟨rfl,rfl,rfl,Nat.le_refl _,fun _ _ _=>rfl⟩
theorem But.drewN {B:Nat}{w w':World}(h:But B w w')(n:Nat):But B w (w'.drewN n):=⟨h.os,h.tape,h.output,h.size,h.block⟩
theorem But.drew {B:Nat}{w w':World}(h:But B w w'):But B w w'.drew:=⟨h.os,h.tape,h.output,h.size,h.block⟩
theorem But.setCell {B:Nat}{w w':World}(h:But B w w')(i:Nat)(u:Value):But B w (w'.setCell ⟨B,i,none⟩ u):=
 ⟨h.os,h.tape,h.output,by simpa[World.setCell] using h.size,fun k hk hne=>(Below.heap_setCell w' ⟨B,i,none⟩ u k (by rintro rfl;exact hne rfl)).trans (h.block k hk hne)⟩
theorem But.cell {B:Nat}{w w':World}(h:But B w w'){p:Addr}{v:Value}(hc:w.cell? p=some v)(hne:p.block≠B):w'.cell? p=some v:=
 (World.cell?_of_block (w:=w) (h.block p.block (lt_of_cell hc) (by intro e;injection e with e;exact hne e))).trans hc
theorem But.new {B:Nat}{w w':World}(h:But B w w'){w0:World}(h0:New w0 w)(hB:w0.heap.size<=B):New w0 w':=Below.grown h0 h h0.size (fun k hk=>by injection hk with hk;omega)
structure y6o (u v:Nat->Nat)(k h r ov:Nat):Prop where
 hov:ov<=1
 hr:r < W64
 hh:h < W64
 rest:h*v (k+1)+(r+W64*ov)=u (k+2)*W64+u (k+1)
 ge:vf W64 u (k+3) < (h+1)*vf W64 v (k+2)
structure Fit (u v:Nat->Nat)(k h:Nat):Prop where
 hh:h < W64
 ge:vf W64 u (k+3) < (h+1)*vf W64 v (k+2)
 le:h*vf W64 v (k+2)<=vf W64 u (k+3)+vf W64 v (k+2)
section
variable {u v:Nat->Nat} {k h r ov:Nat} (hu:∀ i,i < k+3->u i < W64) (hv:∀ i,i < k+2->v i < W64) (hv0:v (k+1)≠0)
theorem ypg (hlt:vf W64 (fun i=>u (1+i)) (k+2) < vf W64 v (k+2))(hv:∀ i,i < k+2->v i < W64):u (k+2)<=v (k+1):=by
 rcases Nat.lt_or_ge (v (k+1)) (u (k+2)) with h | h
 ·exfalso;rw[y03 _ v,y03,show 1+(k+1)=k+2 by omega] at hlt;have h1:vf W64 v (k+1) < W64^(k+1):=y4t fun i hi=>hv i (by omega);have h2:(v (k+1)+1)*W64^(k+1)<=u (k+2)*W64^(k+1):=Nat.mul_le_mul_right _ h;rw[Nat.add_mul,Nat.one_mul] at h2;omega
 ·exact h
theorem ypl (hlt:vf W64 (fun i=>u (1+i)) (k+2) < vf W64 v (k+2))(hu:∀ i,i < k+3->u i < W64):vf W64 u (k+3) < W64*vf W64 v (k+2):=by
 have e:vf W64 u (k+3)=u 0+W64*vf W64 (fun i=>u (i+1)) (k+2):=y7x W64 u (k+2)
 have e2:(fun i=>u (i+1))=fun i=>u (1+i):=funext fun i=>by rw[Nat.add_comm]
 rw[e,e2];have h1:=hu 0 (by omega);have h2:W64*(vf W64 (fun i=>u (1+i)) (k+2)+1)<=W64*vf W64 v (k+2):=Nat.mul_le_mul_left _ hlt;rw[Nat.mul_add,Nat.mul_one] at h2;omega
include hu in
theorem y6o.equal (hlt:vf W64 (fun i=>u (1+i)) (k+2) < vf W64 v (k+2))(heq:u (k+2)=v (k+1))(hr:r < W64)(ho:ov<=1)(hs:r+W64*ov=u (k+1)+v (k+1)):
  y6o u v k 18446744073709551615 r ov:=by
 refine ⟨ho,hr,by decide,?_,?_⟩
 ·rw[hs,heq];unfold W64;omega
 ·have:=ypl (k:=k) hlt hu;exact this
include hu hv hv0 in
theorem y6o.divided (hr:r < v (k+1))(hh:h < W64)(hs:h*v (k+1)+r=u (k+2)*W64+u (k+1)):y6o u v k h r 0:=by
 have hvt:=hv (k+1) (by omega);refine ⟨by omega,by omega,hh,by omega,?_⟩;have h1:=yg9 (B:=W64) (n:=k) (by decide) hu hv0
 have e:(u (k+2)*W64+u (k+1)) / v (k+1)=h:=by
  rw[<-hs,Nat.mul_comm,Nat.mul_add_div (by omega),Nat.div_eq_of_lt hr,Nat.add_zero]
 rw[e]at h1;exact h1
include hv hv0 in
theorem y6o.over (o:y6o u v k h r 1):Fit u v k h:=by
 refine ⟨o.hh,o.ge,y69 (B:=W64) (n:=k) hv hv0 o.hh ?_⟩;exact yd6 o.rest (by omega) o.hh (hv k (by omega))
include hv hv0 in
theorem y6o.pass (o:y6o u v k h r 0)(ht:h*v k<=r*W64+u k):Fit u v k h:=by
 refine ⟨o.hh,o.ge,y69 (B:=W64) (n:=k) hv hv0 o.hh ?_⟩;have:=o.rest;rw[<-y78 (r:=r) (by omega)];exact ht
include hu hv0 in
theorem y6o.fail (o:y6o u v k h r 0)(ht:r*W64+u k < h*v k){r' ov':Nat}(hr:r' < W64)(ho:ov'<=1)(hs:r'+W64*ov'=r+v (k+1)):0 < h/\y6o u v k (h - 1) r' ov':=by
 have h0:=o.rest
 have h1:=yai (B:=W64) (n:=k) (h:=h) (u:=u) (v:=v) (by decide) hu hv0 (by
  have:=(y78 (B:=W64) (T2:=u (k+2)*W64+u (k+1)) (vt:=v (k+1)) (v2:=v k) (u2:=u k) (h:=h) (r:=r) (by omega));rcases Nat.lt_or_ge ((u (k+2)*W64+u (k+1))*W64+u k) (h*(v (k+1)*W64+v k)) with h2 | h2
  ·exact h2
  ·exact absurd (this.2 h2) (by omega))
 obtain ⟨hp,hge⟩:=h1;refine ⟨hp,ho,hr,by have:=o.hh;omega,?_,hge⟩;obtain ⟨n,rfl⟩:∃ n,h=n+1:=⟨h - 1,by omega⟩;rw[Nat.add_mul,Nat.one_mul] at h0;simp only[Nat.add_sub_cancel];omega
end
theorem yio {p u g:Nat->Nat} {j i t bb cc d lo b' c':Nat} (h:vf W64 (fun i=>p (j+i)) i+t*vf W64 g i=vf W64 u i+(bb+cc)*W64^i)
  (hp:lo+W64*c'=t*g i+cc) (hs:d+lo+bb=u i+W64*b'):
  vf W64 (fun x=>upd p (j+i) d (j+x)) (i+1)+t*vf W64 g (i+1)=vf W64 u (i+1)+(b'+c')*W64^(i+1):=by
 refine ykl (b:=bb) (c:=cc) (lo:=lo) ?_ hp ?_
 ·rw[<-h];congr 1;exact y0s fun x hx=>y0a _ _ (by omega)
 ·simp only[upd_same];exact hs
theorem yem {p u:Nat->Nat}{j n bb cc d b' t V:Nat}(h:vf W64 (fun i=>p (j+i)) n+t*V=vf W64 u n+(bb+cc)*W64^n)(hs:d+cc+bb=u n+W64*b'):
  vf W64 (fun x=>upd p (j+n) d (j+x)) (n+1)+t*V=vf W64 u (n+1)+b'*W64^(n+1):=by
 have e:vf W64 (fun x=>upd p (j+n) d (j+x)) n=vf W64 (fun i=>p (j+i)) n:=y0s fun x hx=>y0a _ _ (by omega)
 have h2:(d+cc+bb)*W64^n=(u n+W64*b')*W64^n:=by rw[hs]
 rw[Nat.add_mul,Nat.add_mul,Nat.add_mul]at h2;rw[Nat.add_mul] at h;rw[y03 _ u,y03,e,upd_same,Nat.pow_succ,Nat.mul_comm (W64^n) W64,<-Nat.mul_assoc,Nat.mul_comm b'];omega
theorem yib {p q g:Nat->Nat}{j i cc d c':Nat}(h:vf W64 (fun i=>p (j+i)) i+cc*W64^i=vf W64 (fun i=>q (j+i)) i+vf W64 g i)(hs:d+W64*c'=q (j+i)+g i+cc):
  vf W64 (fun x=>upd p (j+i) d (j+x)) (i+1)+c'*W64^(i+1)=vf W64 (fun i=>q (j+i)) (i+1)+vf W64 g (i+1):=by
 refine y8m (c:=cc) ?_ ?_
 ·rw[<-h];congr 1;exact y0s fun x hx=>y0a _ _ (by omega)
 ·simp only[upd_same];exact hs
theorem yhl {p u:Nat->Nat}{j n bb cc d b' t V:Nat}(h:vf W64 (fun i=>p (j+i)) n+t*V=vf W64 u n+(bb+cc)*W64^n)(hs:d+cc+bb=u n+W64*b')(hz:b'=0):
  vf W64 (fun x=>upd p (j+n) d (j+x)) (n+1)+t*V=vf W64 u (n+1):=by
 have:=yem h hs;rw[hz] at this;generalize W64^(n+1)=P at this;omega
theorem yhx {p u:Nat->Nat}{j n bb cc d b' t V:Nat}(h:vf W64 (fun i=>p (j+i)) n+t*V=vf W64 u n+(bb+cc)*W64^n)(hs:d+cc+bb=u n+W64*b')(hz:b'=1):
  vf W64 (fun x=>upd p (j+n) d (j+x)) (n+1)+t*V=vf W64 u (n+1)+W64^(n+1):=by
 have:=yem h hs;rw[hz] at this;generalize W64^(n+1)=P at this⊢;omega
theorem yl4 {A cc pt D S:Nat}(h:A+(cc+pt)*D=S)(hA:A < D)(hS:W64*D<=S)(hp:pt < W64)(hc:cc<=1):cc+pt=W64/\A=S - W64*D:=by
 have h1:cc+pt=W64:=by
  rcases Nat.lt_or_ge (cc+pt) W64 with h2 | h2
  ·exfalso;have:=Nat.mul_le_mul_right D (show cc+pt+1<=W64 from h2);rw[Nat.add_mul,Nat.one_mul] at this;omega
  ·omega
 rw[h1]at h;exact ⟨h1,by omega⟩
def ybi (w:World)(B N j k:Nat)(o g:Nat->Nat)(e:Ending)(w':World):Prop:=∃ (q:Nat) (p:Nat->Nat),e=.returned (.int .u64 q)/\q < W64/\But B w w'/\Row w' B 198 .u64 N p/\(∀ i,p i < W64)/\
 (∀ i,(i < j\/j+k+3<=i)->p i=o i)/\vf W64 (fun i=>p (j+i)) (k+3)+q*vf W64 g (k+2)=vf W64 (fun i=>o (j+i)) (k+3)/\vf W64 (fun i=>p (j+i)) (k+3) < vf W64 g (k+2)
theorem yfo {a b:Int}(h:a=b):Ending.returned (.int .u64 a)=.returned (.int .u64 b):=by rw[h]
def ylq:Nat->Code->Code
 | 0,c=>c
 | n+1,.seq _ b=>ylq n b
 | _,c=>c
noncomputable def ygp (n:Nat):Code:=ylq n ((Tryz.f258.body).getD .skip)
structure y84 (w:World)(B N j k c b2 o2:Nat)(o g u:Nat->Nat):Prop where
 hN:j+(k+3)<=N
 hN2:N<=2000003
 hcc:k+3<=c
 hne:b2≠B
 ha:∀ i,i < k+2->w.cell? ⟨b2,o2+i,none⟩=some (.int .u64 (g i))
 hol:∀ i,o i < W64
 hgl:∀ i,i < k+2->g i < W64
 hg0:g (k+1)≠0
 hu:u=fun i=>o (j+i)
 hlt:vf W64 (fun i=>u (1+i)) (k+2) < vf W64 g (k+2)
theorem y84.hul {w:World}{B N j k c b2 o2:Nat}{o g u:Nat->Nat}(X:y84 w B N j k c b2 o2 o g u)(i:Nat):u i < W64:=by rw[X.hu];exact X.hol _
theorem y84.at {w:World}{B N j k c b2 o2:Nat}{o g u:Nat->Nat}(X:y84 w B N j k c b2 o2 o g u)(i:Nat):o (j+i)=u i:=by rw[X.hu]
structure ygw (j k h:Nat)(o p g u:Nat->Nat):Prop where
 lt:∀ i,p i < W64
 out:∀ i,(i < j\/j+k+3<=i)->p i=o i
 val:vf W64 (fun i=>p (j+i)) (k+3)+h*vf W64 g (k+2)=vf W64 u (k+3)+W64^(k+3)
theorem yks (B j c N k b2 o2 ca h:Nat) (o g u p:Nat->Nat) (w wc:World) (v2 v3 v4 v7 v8 v9 v10 v11 v12 v13 v14 v15 v16 v17 v18 v19 v20 v21 v22 v23 v24 v25 v26 v27 v28 v29 v30 v31 v32 v33 v34 v35 v36 v37 v38 v39 v40 v41 v42 v43 v44 v45 v46 v47 v48 v49 v50 v51 v52 v53 v54 v55 v56 v57 v58 v59 v60 v61 v62 v63 v64 v65 v66 v67 v68 v69 v70 v71 v72 v73 v74 v75 v76 v77 v78 v79 v80 v81 v82 v83 v84 v85 v86 v87 v88 v89 v90 v91 v92 v93 v94 v95 v96 v97 v98 v99 v100 v101 v102 v103 v104 v105 v106 v107 v108 v109 v110 v111 v112 v113 v114 v115 v116 v117 v118 v119 v120 v121 v122 v123 v124 v125 v126 v127 v128 v129 v130 v131 v132 v133 v134 v135 v136 v137 v138 v139 v140 v141 v142 v143 v144 v145 v146 v147 v148 v149 v150 v151 v152 v153 v154 v155 v156 v157 v158 v159 v160 v161 v162 v163 v164 v165 v166 v167 v168 v169 v170 v171 v172 v173 v174 v175 v176 v177 v178 v179 v180 v181 v182 v183 v184 v185:Value)
  (X:y84 w B N j k c b2 o2 o g u) (hfit:Fit u g k h) (hbr:ygw j k h o p g u) (hb:But B w wc) (hr:Row wc B 198 .u64 N p):
  Code.wp Tryz.prog (ygp 10) (bodyPost Tryz.prog Tryz.f258 (ybi w B N j k o g)) ⟨#[.slice (some ⟨B,j,none⟩) (k+3) c,.slice (some ⟨b2,o2,none⟩) (k+2) ca,v2,v3,v4,.int .i64 ((k:Int)+2),.int .u64 h,v7,v8,v9,v10,v11,v12,v13,v14,v15,v16,v17,v18,v19,v20,v21,v22,v23,v24,v25,v26,v27,v28,v29,v30,v31,v32,v33,v34,v35,v36,v37,v38,v39,v40,v41,v42,v43,v44,v45,v46,v47,v48,v49,v50,v51,v52,v53,v54,v55,v56,v57,v58,v59,v60,v61,v62,v63,v64,v65,v66,v67,v68,v69,v70,v71,v72,v73,v74,v75,v76,v77,v78,v79,v80,v81,v82,v83,v84,v85,v86,v87,v88,v89,v90,v91,v92,v93,v94,v95,v96,v97,v98,v99,v100,v101,v102,v103,v104,v105,v106,v107,v108,v109,v110,v111,v112,v113,v114,v115,v116,v117,v118,v119,v120,v121,v122,v123,v124,v125,v126,v127,v128,v129,v130,v131,v132,v133,v134,v135,v136,v137,v138,v139,v140,v141,v142,v143,v144,v145,v146,v147,v148,v149,v150,v151,v152,v153,v154,v155,v156,v157,v158,v159,v160,v161,v162,v163,v164,v165,v166,v167,v168,v169,v170,v171,v172,v173,v174,v175,v176,v177,v178,v179,v180,v181,v182,v183,v184,v185],[]⟩ wc:=by
 have HX:=hid X;have hne:=X.hne;have hN:=X.hN;have hN2:=X.hN2;have hcc:=X.hcc;have HF:=hid hfit;have HBR:=hid hbr;clear X hfit hbr
 conv=>arg 2;whnf
 go_wp2_with fail
 go_loopw [17,157] (fun sc si wx=>∃ (kk cc:Nat) (q:Nat->Nat),kk<=k+2/\si=.int .i64 kk/\sc=.int .u64 cc/\cc<=1/\But B w wx/\Row wx B 198 .u64 N q/\(∀ i,q i < W64)/\
  (∀ i,(i < j\/j+kk<=i)->q i=p i)/\vf W64 (fun i=>q (j+i)) kk+cc*W64^kk=vf W64 (fun i=>p (j+i)) kk+vf W64 g kk) (fun _ si _=>k+2 - (intOf si).toNat)
 case atStart=>exact ⟨0,0,p,by omega,rfl,rfl,by omega,hb,hr,HBR.out.lt,fun _ _=>rfl,by simp[y14]⟩
 case round=>
  clear hb hr;obtain ⟨kk,cc,q,hkk,rfl,rfl,hcc',hb,hr,hql,hqo,hval⟩:=hrel;have HV:=hid hval;have HQ:=hid hql;have HQO:=hid hqo;clear hval hqo;by_cases hlt:kk < k+2
  ·have e1:=hb.cell (HX.out.ha kk hlt) hne;have hg1:=HX.out.hgl kk hlt;have f1:=hr.cell (i:=j+kk) (by omega);have ff:=hr.frozen (j+kk);have hq1:=hql (j+kk);obtain ⟨d,c',hd,hc',hs,hadd⟩:=ygq (q (j+kk)) (g kk) cc hq1 hg1 hcc';have HS:=hid hs;have HB:=hid hb;have HR:=hid hr;clear hs hb hr hql;go_wp2_with fail
   go_region
   go_wp2_with fail;clear hadd e1 f1 ff;go_roundw
   case rel=>
    refine ⟨kk+1,c',upd q (j+kk) d,by omega,by go_num,rfl,hc',(HB.out.setCell _ _).drew,(HR.out.set _ _).drew,y2a HQ.out hd,fun i hi=>?_,?_⟩
    ·rw[y0a _ _ (by omega)];exact HQO.out i (by omega)
    ·have hq2:q (j+kk)=p (j+kk):=HQO.out _ (by omega);exact yib (q:=p) HV.out (by rw[<-hq2];exact HS.out)
   case measure=>simp[intOf];omega
  ·obtain rfl:kk=k+2:=by omega
   have hp1:q (j+(k+2))=p (j+(k+2)):=HQO.out _ (by omega);have hpl:=HBR.out.lt (j+(k+2))
   have hP:W64^(k+3)=W64*W64^(k+2):=by rw[Nat.pow_succ,Nat.mul_comm]
   obtain ⟨m1,m2,m3,m4⟩:=yk7 HBR.out.val (y4t fun i _=>HBR.out.lt _) HF.out.le;have hO:vf W64 (fun i=>p (j+i)) (k+3)=vf W64 (fun i=>p (j+i)) (k+2)+p (j+(k+2))*W64^(k+2):=y03 _ _ _
   obtain ⟨b1,b2'⟩:=yl4 (A:=vf W64 (fun i=>q (j+i)) (k+2)) (cc:=cc) (pt:=p (j+(k+2))) (D:=W64^(k+2)) (S:=vf W64 (fun i=>p (j+i)) (k+3)+vf W64 g (k+2))
    (by have:=HV.out;rw[Nat.add_mul,hO];omega) (y4t fun i _=>hql _) (by rw[<-hP];exact m2) hpl hcc'
   have hsum:IntKind.u64.wrap ((q (j+(k+2)):Int)+cc)=0:=by
    rw[hp1,<-Int.natCast_add,y1k,Nat.add_comm,b1];rfl
   have f1:=hr.cell (i:=j+(k+2)) (by omega);have ff:=hr.frozen (j+(k+2))
   have hpos:(1:Int)<=h:=by omega
   have hfin:vf W64 (fun x=>upd q (j+(k+2)) 0 (j+x)) (k+3)=vf W64 (fun i=>p (j+i)) (k+3)+vf W64 g (k+2) - W64^(k+3):=by
    rw[y03,upd_same,Nat.zero_mul,Nat.add_zero,hP,<-b2'];exact y0s fun x hx=>y0a _ _ (by omega)
   have hh:=HF.out.hh;have HFIN:=hid hfin;have HM3:=hid m3;have HM4:=hid m4;have HB:=hid hb;have HR:=hid hr;clear hfin m1 m2 m3 m4 hO b1 b2' hp1 hpl hP hb hr hql hlt hkk;unfold W64 at hh;go_wp2_with fail;go_ret;refine ⟨h - 1,upd q (j+(k+2)) 0,yfo (by omega),by unfold W64;omega,HB.out.setCell _ _,y5b HR.out rfl,y2a HQ.out (by decide),fun i hi=>?_,?_,?_⟩
   ·rw[y0a _ _ (by omega),HQO.out i (by omega)];exact HBR.out.out i hi
   ·rw[HFIN.out,HM3.out];congr 1;rw[HX.out.hu]
   ·rw[HFIN.out];exact HM4.out
theorem ymz (B j c N k b2 o2 ca h:Nat) (o g u:Nat->Nat) (w wc:World) (v2 v3 v4 v7 v8 v9 v10 v11 v12 v13 v14 v15 v16 v17 v18 v19 v20 v21 v22 v23 v24 v25 v26 v27 v28 v29 v30 v31 v32 v33 v34 v35 v36 v37 v38 v39 v40 v41 v42 v43 v44 v45 v46 v47 v48 v49 v50 v51 v52 v53 v54 v55 v56 v57 v58 v59 v60 v61 v62 v63 v64 v65 v66 v67 v68 v69 v70 v71 v72 v73 v74 v75 v76 v77 v78 v79 v80 v81 v82 v83 v84 v85 v86 v87 v88 v89 v90 v91 v92 v93 v94 v95 v96 v97 v98 v99 v100 v101 v102 v103 v104 v105 v106 v107 v108 v109 v110 v111 v112 v113 v114 v115 v116 v117 v118 v119 v120 v121 v122 v123 v124 v125 v126 v127 v128 v129 v130 v131 v132 v133 v134 v135 v136 v137 v138 v139 v140 v141 v142 v143 v144 v145 v146 v147 v148 v149 v150 v151 v152 v153 v154 v155 v156 v157 v158 v159 v160 v161 v162 v163 v164 v165 v166 v167 v168 v169 v170 v171 v172 v173 v174 v175 v176 v177 v178 v179 v180 v181 v182 v183 v184 v185:Value)
  (X:y84 w B N j k c b2 o2 o g u) (hfit:Fit u g k h) (hb:But B w wc) (hr:Row wc B 198 .u64 N o):
  Code.wp Tryz.prog (ygp 6) (bodyPost Tryz.prog Tryz.f258 (ybi w B N j k o g)) ⟨#[.slice (some ⟨B,j,none⟩) (k+3) c,.slice (some ⟨b2,o2,none⟩) (k+2) ca,v2,v3,v4,.int .i64 ((k:Int)+2),.int .u64 h,v7,v8,v9,v10,v11,v12,v13,v14,v15,v16,v17,v18,v19,v20,v21,v22,v23,v24,v25,v26,v27,v28,v29,v30,v31,v32,v33,v34,v35,v36,v37,v38,v39,v40,v41,v42,v43,v44,v45,v46,v47,v48,v49,v50,v51,v52,v53,v54,v55,v56,v57,v58,v59,v60,v61,v62,v63,v64,v65,v66,v67,v68,v69,v70,v71,v72,v73,v74,v75,v76,v77,v78,v79,v80,v81,v82,v83,v84,v85,v86,v87,v88,v89,v90,v91,v92,v93,v94,v95,v96,v97,v98,v99,v100,v101,v102,v103,v104,v105,v106,v107,v108,v109,v110,v111,v112,v113,v114,v115,v116,v117,v118,v119,v120,v121,v122,v123,v124,v125,v126,v127,v128,v129,v130,v131,v132,v133,v134,v135,v136,v137,v138,v139,v140,v141,v142,v143,v144,v145,v146,v147,v148,v149,v150,v151,v152,v153,v154,v155,v156,v157,v158,v159,v160,v161,v162,v163,v164,v165,v166,v167,v168,v169,v170,v171,v172,v173,v174,v175,v176,v177,v178,v179,v180,v181,v182,v183,v184,v185],[]⟩ wc:=by
 have HX:=hid X;have hne:=X.hne;have hN:=X.hN;have hN2:=X.hN2;have hcc:=X.hcc;have HF:=hid hfit;have hh:=hfit.hh;unfold W64 at hh;clear X hfit
 conv=>arg 2;whnf
 go_wp2_with fail
 go_loopw [11,12,105] (fun sb sc si wx=>∃ (kk bb cc:Nat) (p:Nat->Nat),kk<=k+2/\si=.int .i64 kk/\sb=.int .u64 bb/\sc=.int .u64 cc/\bb<=1/\cc < W64/\But B w wx/\Row wx B 198 .u64 N p/\(∀ i,p i < W64)/\
  (∀ i,(i < j\/j+kk<=i)->p i=o i)/\vf W64 (fun i=>p (j+i)) kk+h*vf W64 g kk=vf W64 u kk+(bb+cc)*W64^kk) (fun _ _ si _=>k+2 - (intOf si).toNat)
 case atStart=>exact ⟨0,0,0,o,by omega,rfl,rfl,rfl,by omega,by decide,hb,hr,HX.out.hol,fun _ _=>rfl,by simp[y14]⟩
 case round=>
  clear hb hr;obtain ⟨kk,bb,cc,p,hkk,rfl,rfl,rfl,hbb,hcc',hb,hr,hpl,hpo,hval⟩:=hrel;have HV:=hid hval;have HP:=hid hpl;have HPO:=hid hpo;clear hval hpl hpo;by_cases hlt:kk < k+2
  ·have e1:=hb.cell (HX.out.ha kk hlt) hne;have hg1:=HX.out.hgl kk hlt;have f1:=hr.cell (i:=j+kk) (by omega);have ff:=hr.frozen (j+kk)
   have hpu:p (j+kk)=u kk:=by rw[HPO.out _ (by omega),HX.out.at]
   rw[hpu]at f1;have hu1:=HX.out.hul kk;clear hpu;obtain ⟨hi,lo,hlo,hhi,hml,hmul⟩:=y8o h (g kk) hh hg1;obtain ⟨d1,c1,hd1,hc1',hs1,hadd⟩:=y5w lo cc hlo hcc';obtain ⟨d,b',hd,hb',es1,es2,hs2⟩:=y77 hu1 hd1 hbb;have hsub:=ym2 (u kk) d1 bb (by omega) (by omega) (by unfold W64 at hd1;omega) (by omega) (by omega);simp only[es1,es2] at hsub
   have hcar:hi+c1 < W64:=by
    have h3:h*g kk<=18446744073709551615*18446744073709551615:=Nat.mul_le_mul (by omega) (by unfold W64 at hg1;omega);unfold W64 at *;omega
   have HM:=hid hml;have HMC:=hid hmul;have HS1:=hid hs1;have HS2:=hid hs2;have HB:=hid hb;have HR:=hid hr;have HCAR:=hid hcar;clear hml hmul hs1 hs2 hb hr es1 es2 hcar;go_wp2_with (go_at_call 215;refine (HMC.out _).mono ?_;rintro e w' ⟨rfl,rfl⟩);clear hsub hadd e1 f1 ff;go_roundw
   case rel=>
    refine ⟨kk+1,b',hi+c1,upd p (j+kk) d,by omega,by go_num,rfl,by first | go_num | (rw[<-Int.natCast_add,y1k,Nat.mod_eq_of_lt HCAR.out]),hb',HCAR.out,HB.out.setCell _ _,HR.out.set _ _,y2a HP.out hd,fun i hi'=>?_,?_⟩
    ·rw[y0a _ _ (by omega)];exact HPO.out i (by omega)
    ·refine yio HV.out ?_ HS2.out;have e2:=HS1.out;have e3:=HM.out;unfold W64 at *;omega
   case measure=>simp[intOf];omega
  ·obtain rfl:kk=k+2:=by omega
   have hpu:p (j+(k+2))=u (k+2):=by rw[HPO.out _ (by omega),HX.out.at]
   have f1:=hr.cell (i:=j+(k+2)) (by omega);have ff:=hr.frozen (j+(k+2));have hb2:=HX.out.hul (k+2);rw[hpu] at f1;clear hpu;obtain ⟨d,b',hd,hb',es1,es2,hs2⟩:=y77 (y:=cc) hb2 hcc' hbb;have hsub:=ym2 (u (k+2)) cc bb (by omega) (by omega) (by unfold W64 at hcc';omega) (by omega) (by omega);simp only[es1,es2] at hsub;have h0':=yhl HV.out hs2;have h1':=yhx HV.out hs2;have HL0:=hid h0';have HL1:=hid h1';have HB:=hid (hb.setCell (j+(k+2)) (.int .u64 d));have HR:=hid (hr.set (j+(k+2)) d);clear hs2 hb hr es1 es2 h0' h1' hlt;by_cases hz:b'=0
   ·have HL:=hid (HL0.out hz);clear HL0 HL1;subst hz;go_wp2_with fail;go_ret;refine ⟨h,_,rfl,HF.out.hh,HB.out,HR.out,y2a HP.out hd,fun i hi=>?_,?_,?_⟩
    ·rw[y0a _ _ (by omega)];exact HPO.out i (by omega)
    ·have:=HL.out;rw[HX.out.hu] at this;exact this
    ·exact yl8 HL.out HF.out.ge
   ·obtain rfl:b'=1:=by omega
    have hbr:ygw j k h o (upd p (j+(k+2)) d) g u:=⟨y2a HP.out hd,fun i hi=>by rw[y0a _ _ (by omega)];exact HPO.out i (by omega),by
     exact HL1.out rfl⟩
    have HBRR:=hid hbr;clear hbr;clear HL0 HL1;go_upto_if 154 with (fail)
    go_step
    go_step
    go_step
    go_step
    exact yks B j c N k b2 o2 ca h o g u _ w _ _ _ _ _ _ _ _ _ _ _ _ _ _ _ _ _ _ _ _ _ _ _ _ _ _ _ _ _ _ _ _ _ _ _ _ _ _ _ _ _ _ _ _ _ _ _ _ _ _ _ _ _ _ _ _ _ _ _ _ _ _ _ _ _ _ _ _ _ _ _ _ _ _ _ _ _ _ _ _ _ _ _ _ _ _ _ _ _ _ _ _ _ _ _ _ _ _ _ _ _ _ _ _ _ _ _ _ _ _ _ _ _ _ _ _ _ _ _ _ _ _ _ _ _ _ _ _ _ _ _ _ _ _ _ _ _ _ _ _ _ _ _ _ _ _ _ _ _ _ _ _ _ _ _ _ _ _ _ _ _ _ _ _ _ _ _ _ _ _ _ _ _ _ _ _ _ _ _ _ _ _ _ HX.out HF.out HBRR.out HB.out HR.out
theorem ymr (B j c N k b2 o2 ca:Nat)(o g u:Nat->Nat)(w:World)(X:y84 w B N j k c b2 o2 o g u)(hrow:Row w B 198 .u64 N o):
  Calls Tryz.prog 258 #[.slice (some ⟨B,j,none⟩) (k+3) c,.slice (some ⟨b2,o2,none⟩) (k+2) ca] w (ybi w B N j k o g):=by
 have hne:=X.hne;have hN:=X.hN;have hN2:=X.hN2;have hcc:=X.hcc;have htop:=ypg X.hlt X.hgl
 have hb0:=X.hul k;have hb1:=X.hul (k+1);have hb2:=X.hul (k+2)
 have hc0:=X.hgl k (by omega);have hc1:=X.hgl (k+1) (by omega)
 have hz0:=hrow.cell (i:=j+(k+2)) (by omega);have hz1:=hrow.cell (i:=j+(k+1)) (by omega);have h1:=X.ha (k+1) (by omega);rw[X.at] at hz0 hz1;have HX:=hid X;have HROW:=hid hrow;clear X hrow;unfold W64 at hb0 hb1 hb2 hc0 hc1;go_enter Tryz.func258,Tryz.ntmps258;go_wp2_with fail
 go_quiet (fail)
 have hb:But B w (w.drewN nq):=(But.refl B w).drewN nq;have hr:=HROW.out.drewN nq;generalize w.drewN nq=w1 at *;have e1:=hb.cell h1 hne;have f0:=hr.cell (i:=j+(k+2)) (by omega);have f1:=hr.cell (i:=j+(k+1)) (by omega);rw[HX.out.at] at f0 f1;have HB:=hid hb;have HR:=hid hr;clear hb hr hz0 hz1 h1;go_upto_if 30 with (fail)
 go_cut [6,7,8] (fun sq sr so wx=>∃ h r ov:Nat,sq=.int .u64 h/\sr=.int .u64 r/\so=.int .u64 ov/\y6o u g k h r ov/\But B w wx/\Row wx B 198 .u64 N o)
 case first=>
  go_wp2_with fail
  ·have hge:g (k+1)<=u (k+2):=by assumption
   have heq:u (k+2)=g (k+1):=by omega
   obtain ⟨d,ov,hd,hov,hs,hadd⟩:=y5w (u (k+1)) (g (k+1)) hb1 hc1;have HS:=hid hs;have HEQ:=hid heq;clear hs heq
   go_quiet (fail)
   go_wp2_with fail
   go_meet
   exact ⟨_,d,ov,rfl,rfl,rfl,y6o.equal (fun i _=>HX.out.hul i) HX.out.hlt HEQ.out hd hov HS.out,HB.out.drewN _,HR.out.drewN _⟩
  ·have hge:¬g (k+1)<=u (k+2):=by assumption
   have hgl':u (k+2) < g (k+1):=by omega
   obtain ⟨h,r,hh,hr,hs,hdiv⟩:=y5q (u (k+2)) (u (k+1)) (g (k+1)) hb1 hc1 hgl';have HS:=hid hs;have HDIV:=hid hdiv;clear hs hdiv
   go_quiet ((go_at_call 255;exact Calls.quiet_of (HDIV.out _)))
   go_wp2_with fail
   go_meet
   exact ⟨h,r,0,rfl,rfl,rfl,y6o.divided (fun i _=>HX.out.hul i) HX.out.hgl HX.out.hg0 hr hh HS.out,HB.out.drewN _,HR.out.drewN _⟩
 case rest=>
  obtain ⟨h,r,ov,rfl,rfl,rfl,how,hb,hr⟩:=hcut;clear HB HR e1 f0 f1
  go_upto_block 0 with (fail)
  go_cut [6] (fun sq wx=>∃ h:Nat,sq=.int .u64 h/\Fit u g k h/\But B w wx/\Row wx B 198 .u64 N o)
  case first=>
   go_wp2_with fail;go_loopw [6,7,8] (fun sq sr so wx=>∃ h r ov:Nat,sq=.int .u64 h/\sr=.int .u64 r/\so=.int .u64 ov/\y6o u g k h r ov/\But B w wx/\Row wx B 198 .u64 N o) (fun sq _ so _=>(1 - (intOf so).toNat)+(intOf sq).toNat)
   case atStart=>exact ⟨h,r,ov,rfl,rfl,rfl,how,hb,hr⟩
   case round=>
    clear how hb hr;obtain ⟨h,r,ov,rfl,rfl,rfl,how,hb,hr⟩:=hrel;have HW:=hid how;have hov:=how.hov;have hh:=how.hh;have hrr:=how.hr;unfold W64 at hh hrr;clear how;have e1:=hb.cell (HX.out.ha (k+1) (by omega)) hne;have e0:=hb.cell (HX.out.ha k (by omega)) hne;have f2:=hr.cell (i:=j+k) (by omega);rw[HX.out.at] at f2;by_cases c0:ov=0
    ·subst c0;obtain ⟨hi,lo,hlo,hhi,hml,hmul⟩:=y8o h (g k) hh hc0;obtain ⟨d,ov',hd,hov',hs,hadd⟩:=y5w r (g (k+1)) hrr hc1;have HM:=hid hml;have HMC:=hid hmul;have HS:=hid hs;have HB:=hid hb;have HR:=hid hr;clear hml hmul hs hb hr;unfold W64 at hlo hhi;rcases Nat.lt_trichotomy hi r with c1 | c1 | c1
     ·go_wp2_with (go_at_call 215;refine (HMC.out _).mono ?_;rintro e w' ⟨rfl,rfl⟩)
      go_meet
      exact ⟨h,rfl,HW.out.pass HX.out.hgl HX.out.hg0 (by rw[<-HM.out];unfold W64;omega),HB.out,HR.out⟩
     ·subst c1;by_cases c2:lo<=u k
      ·go_wp2_with (go_at_call 215;refine (HMC.out _).mono ?_;rintro e w' ⟨rfl,rfl⟩)
       go_meet
       exact ⟨h,rfl,HW.out.pass HX.out.hgl HX.out.hg0 (by rw[<-HM.out];unfold W64;omega),HB.out,HR.out⟩
      ·obtain ⟨hpos,hnext⟩:=HW.out.fail (fun i _=>HX.out.hul i) HX.out.hg0 (by rw[<-HM.out];unfold W64;omega) hd hov' HS.out;have HN:=hid hnext;clear hnext
       have hpos':(1:Int)<=h:=by omega
       go_wp2_with (go_at_call 215;refine (HMC.out _).mono ?_;rintro e w' ⟨rfl,rfl⟩);go_roundw
       case rel=>exact ⟨h - 1,d,ov',by go_num,rfl,rfl,HN.out,HB.out,HR.out⟩
       case measure=>simp[intOf];omega
     ·have c2:((hi:Int)==(r:Int))=false:=by simp;omega
      have c3:¬hi < r:=by omega
      obtain ⟨hpos,hnext⟩:=HW.out.fail (fun i _=>HX.out.hul i) HX.out.hg0 (by rw[<-HM.out];unfold W64;omega) hd hov' HS.out;have HN:=hid hnext;clear hnext
      have hpos':(1:Int)<=h:=by omega
      go_wp2_with (go_at_call 215;refine (HMC.out _).mono ?_;rintro e w' ⟨rfl,rfl⟩);go_roundw
      case rel=>exact ⟨h - 1,d,ov',by go_num,rfl,rfl,HN.out,HB.out,HR.out⟩
      case measure=>simp[intOf];omega
    ·obtain rfl:ov=1:=by omega
     go_wp2_with fail
     go_meet
     exact ⟨h,rfl,HW.out.over HX.out.hgl HX.out.hg0,hb,hr⟩
  case rest=>
   clear how hb hr;obtain ⟨h,rfl,hfit,hb,hr⟩:=hcut
   go_step
   exact ymz B j c N k b2 o2 ca h o g u w _ _ _ _ _ _ _ _ _ _ _ _ _ _ _ _ _ _ _ _ _ _ _ _ _ _ _ _ _ _ _ _ _ _ _ _ _ _ _ _ _ _ _ _ _ _ _ _ _ _ _ _ _ _ _ _ _ _ _ _ _ _ _ _ _ _ _ _ _ _ _ _ _ _ _ _ _ _ _ _ _ _ _ _ _ _ _ _ _ _ _ _ _ _ _ _ _ _ _ _ _ _ _ _ _ _ _ _ _ _ _ _ _ _ _ _ _ _ _ _ _ _ _ _ _ _ _ _ _ _ _ _ _ _ _ _ _ _ _ _ _ _ _ _ _ _ _ _ _ _ _ _ _ _ _ _ _ _ _ _ _ _ _ _ _ _ _ _ _ _ _ _ _ _ _ _ _ _ _ _ _ _ _ HX.out hfit hb hr
def trimLen (f : Nat -> Nat) : Nat -> Nat
  | 0 => 0
  | n + 1 => if f n = 0 then trimLen f n else n + 1
theorem yif {f : Nat -> Nat} {len n : Nat} (h1 : n <= len) (h2 : ∀ i, n <= i -> i < len -> f i = 0) (h3 : n = 0 \/ f (n - 1) ≠ 0) : trimLen f len = n := by
  induction len with
  | zero => rw [trimLen]; omega
  | succ len ih =>
    rw [trimLen]
    by_cases h : n = len + 1
    · subst h
      rw [if_neg (by rcases h3 with h3 | h3; · omega
                     · simpa using h3)]
    · rw [if_pos (h2 len (by omega) (by omega))]
      exact ih (by omega) fun i hi hl => h2 i hi (by omega)
theorem trimLen_le (f : Nat -> Nat) (len : Nat) : trimLen f len <= len := by
  induction len with
  | zero => exact Nat.le_refl _
  | succ len ih => rw [trimLen]; split <;> omega
theorem y1c {f : Nat -> Nat} {B len : Nat} (hlt : ∀ i, i < len -> f i < B) : Canon B f (trimLen f len) /\ vf B f (trimLen f len) = vf B f len := by
  induction len with
  | zero => exact ⟨⟨fun i hi => by simp [trimLen] at hi, fun h => absurd rfl h⟩, rfl⟩
  | succ len ih =>
    rw [trimLen]
    split
    · rename_i h
      obtain ⟨a, b⟩ := ih fun i hi => hlt i (by omega)
      exact ⟨a, by rw [b, y03, h, Nat.zero_mul, Nat.add_zero]⟩
    · rename_i h
      exact ⟨⟨hlt, fun _ => by simpa using h⟩, rfl⟩
theorem y46 (a : Option Addr) (len cap : Nat) (f : Nat -> Nat) (w : World) (hl : len <= cap) (hcap : cap <= 281474976710656) (ha : a = none -> cap = 0) (hr : Rd w a .u64 len f) :
    Calls Tryz.prog 226 #[.slice a len cap] w fun e w' => e = .returned (.slice a (trimLen f len) cap) /\ w' = w :=
  (ygs a len cap f w hl hcap ha hr).mono fun e w' ⟨h1, n, h2, h3, h4, h5⟩ => ⟨by rw [h2, yif h3 h4 h5], h1.symm⟩
theorem y4p {w : World} {b cap len : Nat} {f : Nat -> Nat} {off : Nat} (hl : len <= cap) (hcap : cap <= 281474976710656) (hr : Rd w (some ⟨b, off, none⟩) .u64 len f) (hlt : ∀ i, i < len -> f i < W64) :
    Wds w (.slice (some ⟨b, off, none⟩) (trimLen f len) cap) (trimLen f len) f :=
  ⟨_, cap, ⟨rfl, Nat.le_trans (trimLen_le f len) hl, hcap, by simp⟩, hr.le (trimLen_le f len), (y1c hlt).1⟩
def yeh (w : World) (A B : Nat) (e : Ending) (w' : World) : Prop := ∃ (vq vr : Value) (m n : Nat) (f g : Nat -> Nat), e = .returned (.tuple #[vq, vr]) /\ New w w' /\ Wds w' vq m f /\ Wds w' vr n g /\
  vf W64 f m * B + vf W64 g n = A /\ vf W64 g n < B
theorem yfa (va vb : Value) (m n : Nat) (f g : Nat -> Nat) (w : World) (ha : Wds w va m f) (hb : Wds w vb n g) (hlt : vf W64 f m < vf W64 g n) :
    Calls Tryz.prog 224 #[va, vb] w (yeh w (vf W64 f m) (vf W64 g n)) := by
  have hc : y1a (vf W64 f m) (vf W64 g n) = -1 := by unfold y1a; rw [if_pos hlt]
  have HC := hid hc
  have HL := hid hlt
  clear hc hlt
  go_enter Tryz.func224, Tryz.ntmps224
  go_wp2_with fail
  refine (y0n va vb m n f g w ha hb).mono ?_
  rintro e w' ⟨hn, rfl⟩
  rw [HC.out]
  have HN := hid hn
  clear hn
  go_wp2_with fail
  go_ret2
  exact ⟨_, _, 0, m, fun _ => 0, f, rfl, HN.out, ⟨none, 0, ⟨rfl, Nat.le_refl _, by omega, fun _ => rfl⟩, Rd.zero _ _ _ _, ⟨fun i hi => by omega, fun h => absurd rfl h⟩⟩, ha.new HN.out, by rw [y14, Nat.zero_mul, Nat.zero_add], HL.out⟩
theorem yb8 {q f:Nat->Nat}{kk m y rr r' d:Nat}(h0:kk≠0)(hm:kk<=m)(h:vf W64 (fun i=>q (kk+i)) (m - kk)*y+rr=vf W64 (fun i=>f (kk+i)) (m - kk))(hs:d*y+r'=rr*W64+f (kk - 1)):
  vf W64 (fun i=>upd q (kk - 1) d (kk - 1+i)) (m - (kk - 1))*y+r'=vf W64 (fun i=>f (kk - 1+i)) (m - (kk - 1)):=by
 obtain ⟨i,rfl⟩:∃ i,kk=i+1:=⟨kk - 1,by omega⟩;simp only[Nat.add_sub_cancel] at hs⊢;refine ye4 (q:=upd q i d) (by omega) (r:=rr) ?_ ?_
 ·rw[<-h];congr 2;exact y0s fun x hx=>y0a _ _ (by omega)
 ·rw[upd_same];exact hs
theorem yi7 (a b:Option Addr) (m ca cb:Nat) (f g:Nat->Nat) (w:World) (hm:m<=1000000) (hm0:0 < m) (h1a:m<=ca) (h1b:ca<=281474976710656) (h1c:a=none->ca=0) (h2a:1<=cb) (h2b:cb<=281474976710656) (h2c:b=none->cb=0)
  (ha:Rd w a .u64 m f) (hb:Rd w b .u64 1 g) (cf:Canon W64 f m) (cg:Canon W64 g 1) (hge:vf W64 g 1<=vf W64 f m):
  Calls Tryz.prog 224 #[.slice a m ca,.slice b 1 cb] w (yeh w (vf W64 f m) (vf W64 g 1)):=by
 have hmk:=fun W=>run_make_row' (P:=Tryz.prog) 111 198 (.int .u64 0) 8 Tryz.underlying111 y5c rfl .i64 .i64 m (by omega) (by omega) W;obtain ⟨r,hr0,hr⟩:∃ r:Int,0<=r/\y1a (vf W64 f m) (vf W64 g 1)=r:=⟨_,by unfold y1a;rw[if_neg (by omega)];split <;> omega,rfl⟩;have HMK:=hid hmk;have HRR:=hid hr;have hy0:g 0≠0:=cg.top (by omega);have hyl:g 0 < W64:=cg.lt 0 (by omega)
 have hr0':¬r < 0:=by omega
 have CF:=hid cf;have CG:=hid cg;clear hmk hr hge cf cg hr0;go_enter Tryz.func224,Tryz.ntmps224;go_wp2_with fail;refine (y0n _ _ m 1 f g w ⟨a,ca,⟨rfl,h1a,h1b,h1c⟩,ha,CF.out⟩ ⟨b,cb,⟨rfl,h2a,h2b,h2c⟩,hb,CG.out⟩).mono ?_;rintro e w1 ⟨hn,rfl⟩;rw[HRR.out];have ha:=ha.new hn;have hb:=hb.new hn;have HN:=hid hn;clear hn;have hmk:=HMK.out;go_wp2_with fail;clear hmk;obtain ⟨B,hB⟩:∃ B,B=w1.heap.size:=⟨_,rfl⟩;have hrow0:=Row.made w1 .u64 m 198;have hnew0:New w1 (w1.alloc (.cells (madeCells #[.int .u64 0] m) 198)):=(New.refl w1).alloc _;rw[<-hB] at hrow0⊢;generalize w1.alloc (.cells (madeCells #[.int .u64 0] m) 198)=w2 at hrow0 hnew0⊢;have HB:=hid hB;clear hB
 go_loopw [7,8] (fun sr si wx=>∃ (kk rr:Nat) (q:Nat->Nat),kk<=m/\si=.int .i64 ((kk:Int) - 1)/\sr=.int .u64 rr/\rr < g 0/\New w1 wx/\Row wx B 198 .u64 m q/\(∀ i,q i < W64)/\
  vf W64 (fun i=>q (kk+i)) (m - kk)*g 0+rr=vf W64 (fun i=>f (kk+i)) (m - kk)) (fun _ si _=>(intOf si+1).toNat)
 case atStart=>exact ⟨m,0,fun _=>0,Nat.le_refl _,rfl,rfl,by omega,hnew0,hrow0,fun _=>by simp[W64],by rw[Nat.sub_self,y14,y14,Nat.zero_mul]⟩
 case round=>
  clear hrow0 hnew0;obtain ⟨kk,rr,q,hkk,rfl,rfl,hrr,hnew,hrow,hql,hval⟩:=hrel;have HV:=hid hval;have HQ:=hid hql;clear hval hql;by_cases hk0:kk=0
  ·subst hk0;simp only[Nat.zero_add,Nat.sub_zero] at HV;go_wp2_with fail;refine (y46 _ m m q _ (Nat.le_refl _) (by omega) (by simp) hrow.rd).mono ?_;rintro e w3 ⟨rfl,rfl⟩;go_wp2_with fail
   have hr2:Row (w3.alloc (.cells #[.int .u64 rr] 198)) w3.heap.size 198 .u64 1 fun _=>rr:=World.rowIs_alloc w3 #[.int .u64 rr] 198 _ (fun i hi=>by
    have:i=0:=by simpa using hi
    subst this;rfl)
   have hn2:=HN.out.trans (hnew.alloc (.cells #[.int .u64 rr] 198));have hrow2:=hrow.alloc (.cells #[.int .u64 rr] 198);refine (y46 _ 1 1 (fun _=>rr) _ (Nat.le_refl _) (by omega) (by simp) hr2.rd).mono ?_;rintro e w4 ⟨rfl,hw4⟩;have hw:=hid (y4p (Nat.le_refl _) (by omega) hrow2.rd (fun i _=>HQ.out i));have hw':=hid (y4p (Nat.le_refl _) (by omega) hr2.rd (fun i _=>Nat.lt_trans hrr hyl));have hv:=hid (y1c (B:=W64) (f:=q) (len:=m) fun i _=>HQ.out i).2;have hv':=hid (y1c (B:=W64) (f:=fun _=>rr) (len:=1) fun i _=>Nat.lt_trans hrr hyl).2;have hn3:=hid hn2;rw[<-hw4] at hw hw' hn3;clear hr2 hrow2 hn2 hw4 hrow hnew;go_wp2_with fail;go_ret2
   have e1:vf W64 (fun _=>rr) 1=rr:=by simp[vf]
   have e2:vf W64 g 1=g 0:=by simp[vf]
   refine ⟨_,_,_,_,q,fun _=>rr,rfl,hn3.out,hw.out,hw'.out,?_,?_⟩
   ·rw[hv.out,hv'.out,e1,e2];exact HV.out
   ·rw[hv'.out,e1,e2];exact hrr
  ·obtain ⟨b1,o1,rfl,e1⟩:=(ha.new hnew) (kk - 1) (by omega);obtain ⟨b2,o2,rfl,e2⟩:=(hb.new hnew) 0 (by omega);simp only[Nat.add_zero] at e2;have hfl:=CF.out.lt (kk - 1) (by omega);have f1:=hrow.cell (i:=kk - 1) (by omega);have ff:=hrow.frozen (kk - 1);obtain ⟨d,r',hd,hr',hs,hdiv⟩:=y5q rr (f (kk - 1)) (g 0) hfl hyl hrr;have HS:=hid hs;have HDIV:=hid hdiv;have HNEW:=hid hnew;have HROW:=hid hrow;clear hs hdiv hnew hrow ha hb;go_wp2_with fail
   go_region_with (go_at_call 255;refine (HDIV.out _).mono ?_;rintro e w' ⟨rfl,mm,rfl⟩)
   all_goals go_wp2_with fail
   all_goals clear e1 e2 f1 ff
   all_goals
    go_roundw
    case rel=>
     exact ⟨kk - 1,r',upd q (kk - 1) d,by omega,by go_num,rfl,hr',(HNEW.out.drewN _).setCell (by rw[<-HB.out];exact Nat.le_refl _) _,(HROW.out.drewN _).set _ _,y2a HQ.out hd,yb8 hk0 hkk HV.out HS.out⟩
    case measure=>simp[intOf];omega
noncomputable def yh5 (n:Nat):Code:=ylq n ((Tryz.f224.body).getD .skip)
theorem yaq {s:Nat}(hs:s < 64):W64=2^s*2^(64 - s):=by rw[Nat.mul_comm];exact y2j hs
def y1v (s:Nat)(o:Nat->Nat)(i:Nat):Nat:=o i / 2^s+o (i+1)*2^(64 - s) % W64
theorem ygt {s y:Nat}(hs:s < 64):y*2^(64 - s) % W64=y % 2^s*2^(64 - s):=by rw[yaq hs,Nat.mul_mod_mul_right]
theorem yor {s x y:Nat}(hs:s < 64)(hs0:s≠0)(hx:x < W64):bits .or .u64 ((x:Int) / 2^s) (IntKind.u64.wrap ((y:Int)*2^(64 - s)))=((x / 2^s+y*2^(64 - s) % W64:Nat):Int):=by
 have hc:x / 2^s < 2^(64 - s):=by
  rw[Nat.div_lt_iff_lt_mul (Nat.pow_pos (by omega)),<-y2j hs];exact hx
 have:=yiw (s:=64 - s) (x:=y) (c:=x / 2^s) (by omega) hc;rw[Nat.add_comm] at this;rw[<-this];congr 1
theorem ycv {s:Nat}{o:Nat->Nat}(hs:s < 64)(ho:∀ i,o i < W64)(i:Nat):y1v s o i < W64:=by
 unfold y1v
 have hc:o i / 2^s < 2^(64 - s):=by
  rw[Nat.div_lt_iff_lt_mul (Nat.pow_pos (by omega)),<-y2j hs];exact ho i
 have h2:(o (i+1) % 2^s+1)*2^(64 - s)<=2^s*2^(64 - s):=Nat.mul_le_mul_right _ (Nat.mod_lt _ (Nat.pow_pos (by omega)));rw[Nat.add_mul,Nat.one_mul,<-yaq hs] at h2;rw[ygt hs];omega
theorem ycm {s:Nat}{o:Nat->Nat}(hs:s < 64)(n:Nat):vf W64 (y1v s o) n*2^s+o 0 % 2^s=vf W64 o n+o n % 2^s*W64^n:=by
 induction n with
 | zero=>simp[y14]
 | succ n ih=>
  have e1:y1v s o n*2^s+o n % 2^s=o n+W64*(o (n+1) % 2^s):=by
   unfold y1v;rw[ygt hs,Nat.add_mul,Nat.mul_assoc (o (n+1) % 2^s),<-y2j hs,Nat.mul_comm W64];have:=Nat.div_add_mod (o n) (2^s);rw[Nat.mul_comm (o n / 2^s)];omega
  have e2:(y1v s o n*2^s+o n % 2^s)*W64^n=(o n+W64*(o (n+1) % 2^s))*W64^n:=by rw[e1]
  rw[Nat.add_mul,Nat.add_mul]at e2;rw[y03,y03,Nat.add_mul,Nat.pow_succ,Nat.mul_right_comm (y1v s o n)];rw[Nat.mul_comm (W64^n) W64,<-Nat.mul_assoc,Nat.mul_comm (o (n+1) % 2^s) W64];omega
theorem ybk {s A B Q n:Nat}{o:Nat->Nat}(hs:s < 64)(hon:o n=0)(hval:vf W64 o n+B*2^s*Q=A*2^s)(hlt:vf W64 o n < B*2^s):
  Q*B+vf W64 (y1v s o) n=A/\vf W64 (y1v s o) n < B:=by
 have hp:0 < 2^s:=Nat.pow_pos (by omega);have h1:=ycm (o:=o) hs n;rw[hon,Nat.zero_mod,Nat.zero_mul,Nat.add_zero] at h1
 have h0:o 0 % 2^s=0:=by
  have e:(vf W64 (y1v s o) n*2^s+o 0 % 2^s+B*Q*2^s) % 2^s=A*2^s % 2^s:=by rw[h1,<-hval,Nat.mul_right_comm]
  rw[Nat.mul_mod_left,Nat.add_mul_mod_self_right,Nat.mul_add_mod_self_right,Nat.mod_mod]at e;exact e
 rw[h0,Nat.add_zero]at h1;rw[<-h1] at hval hlt;rw[Nat.mul_right_comm,<-Nat.add_mul] at hval;have h2:=Nat.eq_of_mul_eq_mul_right hp hval;exact ⟨by rw[Nat.mul_comm Q];omega,Nat.lt_of_mul_lt_mul_right hlt⟩
theorem yfk (B2 B3 m n mq s:Nat) (o qf:Nat->Nat) (w wc:World) (A B:Nat) (v0 v1 v2 v3 v4 v5 v6 v7 v8 v10 v14 v15 v16 v17 v18 v19 v20 v21 v22 v23 v24 v25 v26 v27 v28 v29 v30 v31 v32 v33 v34 v35 v36 v37 v38 v39 v40 v41 v42 v43 v44 v45 v46 v47 v48 v49 v50 v51 v52 v53 v54 v55 v56 v57 v58 v59 v60 v61 v62 v63 v64 v65 v66 v67 v68 v69 v70 v71 v72 v73 v74 v75 v76 v77 v78 v79 v80 v81 v82 v83 v84 v85 v86 v87 v88 v89 v90 v91 v92 v93 v94 v95 v96 v97 v98 v99 v100 v101 v102 v103 v104 v105 v106 v107 v108 v109 v110 v111 v112 v113 v114 v115 v116 v117 v118 v119 v120 v121 v122 v123 v124 v125 v126 v127 v128 v129 v130 v131 v132 v133 v134 v135 v136:Value) (hs:s < 64) (hm:m<=1000000) (hnm:n<=m) (hmq:mq<=1000001) (hne:B2≠B3) (hB:w.heap.size<=B2)
  (hnew:New w wc) (hr2:Row wc B2 198 .u64 (m+1) o) (hr3:Row wc B3 198 .u64 mq qf) (hol:∀ i,o i < W64) (hql:∀ i,qf i < W64) (hon:o n=0)
  (hval:vf W64 o n+B*2^s*vf W64 qf mq=A*2^s) (hlt:vf W64 o n < B*2^s):
  Code.wp Tryz.prog (yh5 9) (bodyPost Tryz.prog Tryz.f224 (yeh w A B)) ⟨#[v0,v1,v2,v3,v4,v5,v6,v7,v8,.int .i64 s,v10,.slice (some ⟨B2,0,none⟩) (m+1) (m+1),.int .i64 n,.slice (some ⟨B3,0,none⟩) mq mq,v14,v15,v16,v17,v18,v19,v20,v21,v22,v23,v24,v25,v26,v27,v28,v29,v30,v31,v32,v33,v34,v35,v36,v37,v38,v39,v40,v41,v42,v43,v44,v45,v46,v47,v48,v49,v50,v51,v52,v53,v54,v55,v56,v57,v58,v59,v60,v61,v62,v63,v64,v65,v66,v67,v68,v69,v70,v71,v72,v73,v74,v75,v76,v77,v78,v79,v80,v81,v82,v83,v84,v85,v86,v87,v88,v89,v90,v91,v92,v93,v94,v95,v96,v97,v98,v99,v100,v101,v102,v103,v104,v105,v106,v107,v108,v109,v110,v111,v112,v113,v114,v115,v116,v117,v118,v119,v120,v121,v122,v123,v124,v125,v126,v127,v128,v129,v130,v131,v132,v133,v134,v135,v136],[]⟩ wc:=by
 have HOL:=hid hol;have HQL:=hid hql;have HON:=hid hon;have HV:=hid hval;have HLT:=hid hlt;clear hol hql hon hval hlt
 conv=>arg 2;whnf
 by_cases hs0:s=0
 ·subst hs0;go_wp2_with fail;go_loopw [97] (fun si wx=>∃ (i:Nat) (p:Nat->Nat),i<=n/\si=.int .i64 i/\New w wx/\Row wx B2 198 .u64 (m+1) p/\Row wx B3 198 .u64 mq qf/\(∀ j,p j=o j)) (fun si _=>n - (intOf si).toNat)
  case atStart=>exact ⟨0,o,Nat.zero_le _,rfl,hnew,hr2,hr3,fun _=>rfl⟩
  case round=>
   clear hnew hr2 hr3;obtain ⟨i,p,hi,rfl,hnew,hr2,hr3,hpo⟩:=hrel;have HPO:=hid hpo;clear hpo;by_cases hin:i < n
   ·have f1:=hr2.cell (i:=i) (by omega);have ff:=hr2.frozen i;have HNEW:=hid hnew;have HR2:=hid hr2;have HR3:=hid hr3;clear hnew hr2 hr3;go_wp2_with fail;clear f1 ff;go_roundw
    case rel=>
     exact ⟨i+1,upd p i (p i),by omega,by go_num,HNEW.out.setCell hB _,y5b HR2.out (by simp),HR3.out.other (Ne.symm hne) _,fun j=>by rw[<-HPO.out j];unfold upd;split <;> simp[*]⟩
    case measure=>simp[intOf];omega
   ·obtain rfl:i=n:=by omega
    clear hin;have HNEW:=hid hnew;have HR2:=hid hr2;have HR3:=hid hr3;clear hnew hr2 hr3
    have gs:(i:Int)<=(m:Int)+1:=by omega
    go_wp2_with fail;have t1:=fun W (hW:Row W B3 198 .u64 mq qf)=>y46 (some ⟨B3,0,none⟩) mq mq qf W (Nat.le_refl _) (by omega) (by simp) hW.rd;have t2:=fun W (hW:Row W B2 198 .u64 (m+1) p)=>y46 (some ⟨B2,0,none⟩) i (m+1) p W (by omega) (by omega) (by simp) (hW.rd.le (by omega));have T1:=hid t1;have T2:=hid t2;clear t1 t2
    go_quiet ((first | (go_at_call_of 226 (Value.slice (some ⟨B3,0,none⟩) mq mq);exact Calls.quiet_of_same (T1.out _ (HR3.out.drewN _))) | (go_at_call 226;exact Calls.quiet_of_same (T2.out _ (HR2.out.drewN _)))))
    go_wp2_with fail;go_ret2;have h2:vf W64 p i=vf W64 o i:=y0s fun j _=>HPO.out j
    have hpl:∀ j,p j < W64:=fun j=>by rw[HPO.out j];exact HOL.out j
    have c1:=y1c (B:=W64) (f:=qf) (len:=mq) fun j _=>HQL.out j;have c2:=y1c (B:=W64) (f:=p) (len:=i) fun j _=>hpl j;have v0:=HV.out;have v1:=HLT.out;simp only[Nat.pow_zero,Nat.mul_one] at v0 v1;refine ⟨_,_,_,_,qf,p,rfl,HNEW.out.drewN _,y4p (Nat.le_refl _) (by omega) (HR3.out.drewN _).rd (fun j _=>HQL.out j),y4p (by omega) (by omega) ((HR2.out.drewN _).rd.le (by omega)) (fun j _=>hpl j),?_,?_⟩
    ·rw[c1.2,c2.2,h2,Nat.mul_comm];omega
    ·rw[c2.2,h2];exact v1
 ·have hs1:(0:Int) < s:=by omega
  go_wp2_with fail;go_loopw [97] (fun si wx=>∃ (i:Nat) (p:Nat->Nat),i<=n/\si=.int .i64 i/\New w wx/\Row wx B2 198 .u64 (m+1) p/\Row wx B3 198 .u64 mq qf/\(∀ j,i<=j->p j=o j)/\(∀ j,j < i->p j=y1v s o j)) (fun si _=>n - (intOf si).toNat)
  case atStart=>exact ⟨0,o,Nat.zero_le _,rfl,hnew,hr2,hr3,fun _ _=>rfl,fun j hj=>by omega⟩
  case round=>
   clear hnew hr2 hr3;obtain ⟨i,p,hi,rfl,hnew,hr2,hr3,hpo,hpd⟩:=hrel;have HPO:=hid hpo;have HPD:=hid hpd;clear hpo hpd;by_cases hin:i < n
   ·have f1:=hr2.cell (i:=i) (by omega);have f2:=hr2.cell (i:=i+1) (by omega);have ff:=hr2.frozen i;rw[HPO.out i (by omega)] at f1;rw[HPO.out (i+1) (by omega)] at f2
    have g1:(i:Int)+1 < (m:Int)+1:=by omega
    have HNEW:=hid hnew;have HR2:=hid hr2;have HR3:=hid hr3;clear hnew hr2 hr3;go_wp2_with fail
    go_region
    go_wp2_with fail;clear f1 f2 ff;go_roundw
    case rel=>
     have e1:((o i:Int) / 2^s)=((o i / 2^s:Nat):Int):=by rw[Int.natCast_ediv,Int.natCast_pow];rfl
     refine ⟨i+1,upd (upd p i (o i / 2^s)) i (y1v s o i),by omega,by go_num,((HNEW.out.setCell hB _).setCell hB _).drew,Row.drew (y5b (y5b HR2.out e1) (yor hs hs0 (HOL.out i))),Row.drew ((HR3.out.other (Ne.symm hne) _).other (Ne.symm hne) _),fun j hj=>?_,fun j hj=>?_⟩
     ·rw[y0a _ _ (by omega),y0a _ _ (by omega)];exact HPO.out j (by omega)
     ·by_cases e:j=i
      ·rw[e,upd_same]
      ·rw[y0a _ _ e,y0a _ _ e];exact HPD.out j (by omega)
    case measure=>simp[intOf];omega
   ·obtain rfl:i=n:=by omega
    clear hin;have HNEW:=hid hnew;have HR2:=hid hr2;have HR3:=hid hr3;clear hnew hr2 hr3
    have gs:(i:Int)<=(m:Int)+1:=by omega
    go_wp2_with fail;have t1:=fun W (hW:Row W B3 198 .u64 mq qf)=>y46 (some ⟨B3,0,none⟩) mq mq qf W (Nat.le_refl _) (by omega) (by simp) hW.rd;have t2:=fun W (hW:Row W B2 198 .u64 (m+1) p)=>y46 (some ⟨B2,0,none⟩) i (m+1) p W (by omega) (by omega) (by simp) (hW.rd.le (by omega));have T1:=hid t1;have T2:=hid t2;clear t1 t2
    go_quiet ((first | (go_at_call_of 226 (Value.slice (some ⟨B3,0,none⟩) mq mq);exact Calls.quiet_of_same (T1.out _ (HR3.out.drewN _))) | (go_at_call 226;exact Calls.quiet_of_same (T2.out _ (HR2.out.drewN _)))))
    go_wp2_with fail;go_ret2;have h2:vf W64 p i=vf W64 (y1v s o) i:=y0s fun j hj=>HPD.out j hj
    have hpl:∀ j,j < i->p j < W64:=fun j hj=>by rw[HPD.out j hj];exact ycv hs HOL.out j
    have c1:=y1c (B:=W64) (f:=qf) (len:=mq) fun j _=>HQL.out j;have c2:=y1c (B:=W64) (f:=p) (len:=i) hpl;obtain ⟨v0,v1⟩:=ybk hs HON.out HV.out HLT.out;refine ⟨_,_,_,_,qf,p,rfl,HNEW.out.drewN _,y4p (Nat.le_refl _) (by omega) (HR3.out.drewN _).rd (fun j _=>HQL.out j),y4p (by omega) (by omega) ((HR2.out.drewN _).rd.le (by omega)) hpl,?_,?_⟩
    ·rw[c1.2,c2.2,h2];exact v0
    ·rw[c2.2,h2];exact v1
structure Dv (W m k mq jj A V:Nat)(g o qf:Nat->Nat):Prop where
 ol:∀ i,o i < W
 ql:∀ i,qf i < W
 val:vf W o (m+1)+V*W^jj*vf W (fun i=>qf (jj+i)) (mq - jj)=A
 low:vf W (fun i=>o (jj+i)) (k+2) < V
 z:∀ i,jj+(k+2)<=i->i < m+1->o i=0
theorem yjc {W:Nat}{h:Nat->Nat}{n:Nat}(h0:h n=0):vf W h (n+1)=vf W h n:=by rw[y03,h0,Nat.zero_mul,Nat.add_zero]
theorem yfp {W K M k B x:Nat} {g h:Nat->Nat} (hgl:∀ i,i < k+2->g i < W) (hB:B=vf W g (k+2)) (hx:g (k+1)=x) (hM:0 < M) (hK:0 < K) (hn:K<=x*M) (h2:(x+1)*M<=W)
  (hl:∀ j,h j < W) (hv:vf W h (k+3)=B*M):
  h (k+2)=0/\h (k+1)≠0/\vf W h (k+2)=B*M/\K*W^(k+1)<=B*M:=by
 have h0:vf W g (k+1) < W^(k+1):=y4t fun i hi=>hgl i (by omega)
 have h1:B=vf W g (k+1)+x*W^(k+1):=by rw[hB,y03,hx]
 generalize hP:W^(k+1)=P at h0 h1⊢
 have hP2:W^(k+2)=W*P:=by rw[Nat.pow_succ,hP,Nat.mul_comm]
 have h3:(B+1)*M<=W*P:=by
  have a:(B+1)<=(x+1)*P:=by rw[Nat.add_mul,Nat.one_mul];omega
  have b:=Nat.mul_le_mul_right M a;rw[Nat.mul_right_comm] at b;exact Nat.le_trans b (Nat.mul_le_mul_right P h2)
 have h4:K*P<=B*M:=by
  have a:x*P<=B:=by omega
  have b:=Nat.mul_le_mul_right M a;rw[Nat.mul_right_comm] at b;exact Nat.le_trans (Nat.mul_le_mul_right P hn) b
 rw[Nat.add_mul,Nat.one_mul]at h3
 have h5:h (k+2)=0:=by
  rcases Nat.eq_zero_or_pos (h (k+2)) with h6 | h6
  ·exact h6
  ·exfalso;rw[y03,hP2] at hv;have:=Nat.le_mul_of_pos_left (W*P) h6;omega
 have h7:vf W h (k+2)=B*M:=by rw[<-hv,<-yjc h5]
 refine ⟨h5,fun h8=>?_,h7,h4⟩
 have h7:vf W h (k+1)=B*M:=by rw[<-h7,<-yjc h8]
 have h9:vf W h (k+1) < W^(k+1):=y4t fun i _=>hl i;rw[hP,h7] at h9;have h10:=Nat.le_mul_of_pos_left P hK;omega
theorem Dv.start {W m k mq A V M K:Nat}{f g o:Nat->Nat}(hW:0 < W)(hMK:M<=K)(hM0:0 < M)(hm:m+1=mq+(k+2))(hfl:∀ i,i < m->f i < W)(hA:A=vf W f m)(ho:∀ i,o i < W)(hv:vf W o (m+1)=A*M)(hV:K*W^(k+1)<=V):
  Dv W m k mq mq (A*M) V g o (fun _=>0):=by
 refine ⟨ho,fun _=>hW,?_,?_,fun i h1 h2=>by omega⟩
 ·rw[Nat.sub_self,y14,Nat.mul_zero,Nat.add_zero,hv]
 ·rcases Nat.lt_or_ge (vf W (fun i=>o (mq+i)) (k+2)) V with h | h
  ·exact h
  ·exfalso;have h1:=y8v W o mq (k+2);rw[<-hm,hv] at h1;have h2:=Nat.mul_le_mul_left (W^mq) (Nat.le_trans hV h);rw[Nat.mul_left_comm,<-Nat.pow_add] at h2;rw[show mq+(k+1)=m by omega] at h2;have h3:vf W f m < W^m:=y4t hfl;rw[<-hA] at h3;have h4:(A+1)*M<=W^m*M:=Nat.mul_le_mul_right _ h3;have h5:W^m*M<=W^m*K:=Nat.mul_le_mul_left _ hMK;rw[Nat.mul_comm (W^m) K] at h5;rw[Nat.add_mul,Nat.one_mul] at h4;generalize K*W^m=P at h2 h5;omega
theorem yln {W:Nat}{f:Nat->Nat}{j n r:Nat}:vf W f (j+n+r)=vf W f j+W^j*vf W (fun i=>f (j+i)) n+W^(j+n)*vf W (fun i=>f (j+n+i)) r:=by
 rw[y8v,y8v]
theorem Dv.step {W m k mq j A V q:Nat} {g o p qf:Nat->Nat} (D:Dv W m k mq (j+1) A V g o qf) (hm:m+1=mq+(k+2)) (hj:j < mq) (hVW:V<=W^(k+2)) (hq:q < W) (hp:∀ i,p i < W)
  (hout:∀ i,(i < j\/j+k+3<=i)->p i=o i) (hval:vf W (fun i=>p (j+i)) (k+3)+q*V=vf W (fun i=>o (j+i)) (k+3)) (hlt:vf W (fun i=>p (j+i)) (k+3) < V):
  Dv W m k mq j A V g p (upd qf j q):=by
 refine ⟨hp,y2a D.ql hq,?_,?_,?_⟩
 ·obtain ⟨r,hr⟩:∃ r,m+1=j+(k+3)+r:=Nat.exists_eq_add_of_le (by omega);have h1:=D.val;rw[hr,yln] at h1⊢;have e1:vf W p j=vf W o j:=y0s fun i hi=>hout i (Or.inl hi);have e2:vf W (fun i=>p (j+(k+3)+i)) r=vf W (fun i=>o (j+(k+3)+i)) r:=y0s fun i hi=>hout _ (Or.inr (by omega))
  have e3:vf W (fun i=>upd qf j q (j+i)) (mq - j)=q+W*vf W (fun i=>qf (j+1+i)) (mq - (j+1)):=by
   rw[show mq - j=(mq - (j+1))+1 by omega,y7x];congr 1
   ·exact upd_same _ _ _
   ·congr 1
    exact y0s fun i _=>by rw[y0a _ _ (by omega)];congr 1;omega
  have h2:W^j*(vf W (fun i=>p (j+i)) (k+3)+q*V)=W^j*vf W (fun i=>o (j+i)) (k+3):=by rw[hval]
  rw[Nat.mul_add]at h2;rw[e1,e2,e3,<-h1,<-h2,Nat.mul_add,Nat.pow_succ]
  have h3:W^j*(q*V)=V*W^j*q:=by rw[Nat.mul_comm q,<-Nat.mul_assoc,Nat.mul_comm V]
  have h4:V*W^j*(W*vf W (fun i=>qf (j+1+i)) (mq - (j+1)))=V*(W^j*W)*vf W (fun i=>qf (j+1+i)) (mq - (j+1)):=by
   simp only[Nat.mul_assoc]
  rw[h3,h4];omega
 ·refine Nat.lt_of_le_of_lt ?_ hlt;rw[y03];exact Nat.le_add_right _ _
 ·intro i h1 h2;by_cases h3:i=j+(k+2)
  ·subst h3;rcases Nat.eq_zero_or_pos (p (j+(k+2))) with h4 | h4
   ·exact h4
   ·exfalso;have h5:vf W (fun i=>p (j+i)) (k+3)=vf W (fun i=>p (j+i)) (k+2)+p (j+(k+2))*W^(k+2):=y03 _ _ _;have h6:=Nat.mul_le_mul_right (W^(k+2)) h4;rw[Nat.succ_eq_add_one,Nat.zero_add,Nat.one_mul] at h6;generalize W^(k+2)=P at *;omega
  ·rw[hout i (Or.inr (by omega))];exact D.z i (by omega) h2
theorem Dv.finish {W m k mq A V:Nat}{g o qf:Nat->Nat}(D:Dv W m k mq 0 A V g o qf)(hm:m+1=mq+(k+2))(hmq:0 < mq):o (k+2)=0/\vf W o (k+2)+V*vf W qf mq=A/\vf W o (k+2) < V:=by
 have h1:=D.val;have h2:=D.low;simp only[Nat.zero_add,Nat.sub_zero,Nat.pow_zero,Nat.mul_one] at h1 h2;rw[ydf (m:=k+2) (by omega) fun i h3 h4=>D.z i (by omega) h4] at h1;exact ⟨D.z _ (by omega) (by omega),h1,h2⟩
theorem yf8 {k s B x:Nat} {g h:Nat->Nat} (hgl:∀ i,i < k+2->g i < W64) (hB:B=vf W64 g (k+2)) (hx:g (k+1)=x) (hs:s < 64) (hn:2^63<=x*2^s) (hlt:x*2^s < W64)
  (hl:∀ j,h j < W64) (hv:vf W64 h (k+3)=B*2^s):
  h (k+2)=0/\h (k+1)≠0/\vf W64 h (k+2)=B*2^s/\2^63*W64^(k+1)<=B*2^s:=by
 have hx2:x < 2^(64 - s):=by
  rw[y2j hs]at hlt;exact Nat.lt_of_mul_lt_mul_right hlt
 have h2:(x+1)*2^s<=W64:=by rw[y2j hs];exact Nat.mul_le_mul_right _ hx2
 exact yfp hgl hB hx (Nat.pow_pos (by omega)) (by decide) hn h2 hl hv
theorem ykn {m k mq A V s:Nat}{f g o:Nat->Nat}(hs:s < 64)(hm:m+1=mq+(k+2))(hfl:∀ i,i < m->f i < W64)(hA:A=vf W64 f m)(ho:∀ i,o i < W64)(hv:vf W64 o (m+1)=A*2^s)(hV:2^63*W64^(k+1)<=V):
  Dv W64 m k mq mq (A*2^s) V g o (fun _=>0):=
 Dv.start (K:=2^63) (by decide) (Nat.pow_le_pow_right (by omega) (by omega)) (Nat.pow_pos (by omega)) hm hfl hA ho hv hV
end Go.Proofs.YtnjonlnemagomaaGreatDoor
