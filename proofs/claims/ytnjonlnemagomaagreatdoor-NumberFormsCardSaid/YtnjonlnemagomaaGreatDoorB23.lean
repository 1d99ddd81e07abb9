/- Part B23. -/
import Derived.Lib.AppendIntMem
import Derived.OwnWalk
import Derived.Laws.AppendOwn
import Derived.Deep.LoopGhost
import Derived.Test.YtnjonlnemagomaaGreatDoorB14
import Derived.Test.YtnjonlnemagomaaGreatDoorB18
namespace Go.Proofs.YtnjonlnemagomaaGreatDoor
open Go.RowKit Go.Sort Big
open Go.Lib (hid)
set_option maxRecDepth 100000
set_option maxHeartbeats 8000000
theorem yp2 (u:Nat)(w:World)(he:Env w)(hu64:u < 18446744073709551616):
  Calls Tryz.prog 260 #[.int .u64 u,.int .i64 10] w fun e w'=>e=.returned (.string ⟨(Lib.decDigits u).toArray⟩)/\New w w':=by
 have htab:=he.tab;clear he;by_cases hs:u < 100
 ·go_enter Tryz.func260,Tryz.ntmps260;go_wp2_with fail;refine (Tryz.internal_strconv_small u hs _).mono ?_;rintro e w' ⟨rfl,rfl⟩;go_wp2_with fail;go_ret;exact ⟨rfl,New.refl _⟩
 ·have hu1:1<=u:=by omega
  have hnd20:Lib.nDigits u<=20:=by have:=Lib.numDigits_eq u hu1 hu64;split at this <;> omega
  have hal:Tryz.prog.arrayLen 276=24:=by kernel_rfl
  have hel:Tryz.prog.underlying 276=some (.array 24 5):=by kernel_rfl
  have hsl:∀ W,(Instr.sliceAt 276 (.pointer (some ⟨w.heap.size,0,none⟩)) none (some (.int .i64 (Lib.nDigits u:Int))) none).run Tryz.prog W=.ok (.slice (some ⟨w.heap.size,0,none⟩) (Lib.nDigits u) 24) W:=fun W=>by
   rw[run_sliceAt_array_h W 276 ⟨w.heap.size,0,none⟩ (by simp[Program.arrayLen,Program.elem,hel]) .i64 (Lib.nDigits u:Int) (by omega) (by rw[hal];omega)];go_simp
  have hH0:=Lib.holds_zero0 w 276 (Lib.nDigits u) (by omega);have hfmt:=Tryz.internal_strconv_formatBase10 w.heap.size 0 24 u (Array.replicate (Lib.nDigits u) 0) (w.alloc (.cells Lib.zeros24 276)) hH0 (by rw[Array.size_replicate];exact Lib.lt_pow_nDigits u) hu64 (by rw[Array.size_replicate];omega);rw[Array.size_replicate] at hfmt;have HH0:=hid hH0;have HTB:=hid htab
  have iu:¬(u:Int) < 100:=by omega
  clear hH0 hal htab;go_enter Tryz.func260,Tryz.ntmps260;go_wp2_with fail;refine (Tryz.internal_strconv_numDigits u hu1 hu64 _ (Lib.tabIs_alloc HTB.out _)).mono ?_;rintro e w' ⟨rfl,rfl⟩;go_wp2_with fail;refine hfmt.mono ?_;rintro e w' ⟨rfl,k,v',dk,rfl,hF⟩
  have hcv:(convert 235 9 (.slice (some ⟨w.heap.size,0,none⟩) (Lib.nDigits u) 24)).run Tryz.prog ((putRow (fun (b:UInt8)=>Value.int .u8 (b.toNat:Int)) (w.alloc (.cells Lib.zeros24 276)) w.heap.size 0 dk).drewN k)=.ok (.string ⟨(Lib.decDigits u).toArray⟩) ((putRow (fun (b:UInt8)=>Value.int .u8 (b.toNat:Int)) (w.alloc (.cells Lib.zeros24 276)) w.heap.size 0 dk).drewN k):=by
   have h:=run_convert_bytes_back (P:=Tryz.prog) ((putRow (fun (b:UInt8)=>Value.int .u8 (b.toNat:Int)) (w.alloc (.cells Lib.zeros24 276)) w.heap.size 0 dk).drewN k) 235 9 5 ⟨w.heap.size,0,none⟩ 24 (Lib.decDigits u) Tryz.underlying235 Tryz.underlying5 Tryz.underlying9 (fun j hj=>by
    rw[Lib.row_is_numeral hF j hj,Lib.add_plain,World.cell?_drewN]
    exact cell?_putRow (fun (b:UInt8)=>Value.int .u8 (b.toNat:Int)) _ w.heap.size 0 _ dk HH0.out (by rw[hF.size,Array.size_replicate]) j (by rw[hF.size];rw[Lib.decDigits_length] at hj;exact hj))
   rw[Lib.decDigits_length]at h;exact h
  go_wp2_with fail;go_ret;obtain ⟨os,eo⟩:=Lib.fin_at w (.cells Lib.zeros24 276) dk k 0;exact ⟨rfl,by rw[eo];exact ygl w k os⟩
theorem yhb (u:Nat)(w:World)(he:Env w)(hu64:u < 18446744073709551616):
  Calls Tryz.prog 229 #[.int .u64 u,.int .i64 10] w fun e w'=>e=.returned (.string (bs (Lib.decDigits u)))/\New w w':=by
 have h:=yp2 u w he hu64;clear he;go_enter Tryz.func229,Tryz.ntmps229;go_wp2_with fail;refine h.mono ?_;rintro e w' ⟨rfl,hn⟩;go_wp2_with fail;go_ret;exact ⟨rfl,hn⟩
theorem yao (c:UInt8):∀ n:Nat,Lib.repeatL [c] n=List.replicate n c
 | 0=>rfl
 | n+1=>by rw[List.replicate_succ,<-yao c n];rfl
theorem y85 (k:Nat)(w:World)(hk:k<=100):
  Calls Tryz.prog 230 #[.string ⟨#[48]⟩,.int .i64 k] w fun e w'=>e=.returned (.string (bs (List.replicate k 48)))/\New w w':=
 (Tryz.strings_Repeat ⟨#[48]⟩ k w (by omega) (by show 1*k<=_;omega)).mono fun e w' ⟨h1,h2⟩=>⟨by rw[h1];show Ending.returned (.string ⟨(Lib.repeatL [48] k).toArray⟩)=_;rw[yao];rfl,h2⟩
theorem yff:(Tryz.prog.info? 9).map (fun i=>(i.zero,i.size,i.bytes))=some (some (.string ⟨#[]⟩),1,16):=by kernel_rfl
theorem yoj {w:World}{B x:Nat}{t:TypeId}(h:Box w B t #[.int .u64 (x:Int)])(h0:x≠0)(hx:x < W64):Wds w (.slice (some ⟨B,0,none⟩) 1 1) 1 fun _=>x:=by
 refine ⟨_,1,⟨rfl,Nat.le_refl _,by omega,by simp⟩,fun i hi=>?_,⟨fun _ _=>hx,fun _=>h0⟩⟩
 obtain rfl:i=0:=by omega
 exact ⟨B,0,rfl,by rw[h.cell];rfl⟩
theorem ymb {w w':World}{B b n:Nat}{e u T:TypeId}{v:Value}{xs:List Value}{c:Array Value}{fz:Nat × Nat}(h:w.ownsRow B e 1 v n xs)(hk:Lib.OthersKept u (some b) w w')(hb:w.heap[b]?=some (.cells c T fz))(hT:T≠e)(hu:e≠u):w'.ownsRow B e 1 v n xs:=by
 refine ⟨h.1,?_⟩;rcases h.2 with h2 | ⟨g,cap,cur,h1,h2,h3,h4⟩
 ·exact .inl h2
 ·refine .inr ⟨g,cap,cur,h1,h2,?_,h4⟩;refine hk g _ h3 (fun e1=>?_) (fun c fz e1=>?_)
  ·injection e1 with e1;subst e1;rw[hb] at h3;injection h3 with h3;injection h3 with _ h3 _;exact hT h3
  ·injection e1 with _ e1 _;exact hu e1
theorem yl9 {w:World}{v:Value}{n:Nat}{g:Nat->Nat}(h:Wds w v n g)(hv:vf W64 g n < 1000000000000000000):∃ (a:Option Addr) (c:Nat),v=.slice a n c/\((n=0/\vf W64 g n=0)\/(n=1/\∃ b off,a=some ⟨b,off,none⟩/\w.cell? ⟨b,off,none⟩=some (.int .u64 (vf W64 g n)))):=by
 obtain ⟨a,c,⟨rfl,h1,h2,h3⟩,hr,hc⟩:=h;refine ⟨a,c,rfl,?_⟩;rcases Nat.lt_or_ge n 2 with hn | hn
 ·rcases Nat.eq_zero_or_pos n with h0 | h0
  ·subst h0;exact .inl ⟨rfl,rfl⟩
  ·obtain rfl:n=1:=by omega
   obtain ⟨b,off,e,hcell⟩:=hr 0 (by omega)
   have hvf:vf W64 g 1=g 0:=by simp[vf]
   exact .inr ⟨rfl,b,off,e,by rw[hvf];exact hcell⟩
 ·exfalso;have h4:=hc.ge (by omega);have h5:W64^1<=W64^(n - 1):=Nat.pow_le_pow_right (by decide) (by omega);rw[Nat.pow_one] at h5
  have h6:W64=18446744073709551616:=by decide
  omega
def sgnL (b:Bool):List UInt8:=if b then [45] else []
def gVal (p:List UInt8):Value:=.string (bs p)
theorem ykt (va:Value)(z:Int)(w:World)(h:va=.agg #[.int .i64 z,.slice none 0 0])(lo: -9223372036854775808<=z)(hi:z<=9223372036854775807)(he:Env w):Calls Tryz.prog 190 #[va] w fun e w'=>e=.returned (.string ⟨(Lib.itoa z).toArray⟩)/\New w w':=by
 have q1:=y4d;subst h;have HE:=hid he;clear he;go_enter Tryz.func190,Tryz.ntmps190;go_wp2_with fail;obtain ⟨BA,HN⟩:=lay1 w 113 #[.int .i64 z,.slice none 0 0];refine (yie z _ (HE.out.new HN.out) lo hi).mono ?_;rintro e w2 ⟨rfl,hn⟩;replace HN:=tW HN hn;clear hn;go_wp2_with fail;go_ret;exact ⟨rfl,HN.out⟩
theorem ya1 {w:World}{v:Value}{m:Nat}{f:Nat->Nat}(h:Wds w v m f):Canon W64 f m:=by
 obtain ⟨a,c, -, -,h⟩:=h;exact h
theorem yl1 {f:Nat->Nat}{m:Nat}(h:Canon W64 f m)(hv:vf W64 f m < 2^40000):m<=1000000:=by
 rcases Nat.eq_zero_or_pos m with h0 | h0
 ·omega
 ·have h1:=Nat.lt_of_le_of_lt (h.ge (by omega)) hv;rw[show W64=2^64 by decide,<-Nat.pow_mul] at h1;have:=(Nat.pow_lt_pow_iff_right (by omega)).1 h1;omega
theorem yih {f:Nat->Nat}{m:Nat}(h:Canon W64 f m)(hv:vf W64 f m=0):m=0:=by
 rcases Nat.eq_zero_or_pos m with h0 | h0
 ·exact h0
 ·have h1:=h.ge (by omega);have h2:=Nat.one_le_pow (m - 1) W64 (by decide);omega
theorem GrpN.le {T g L:Nat}(h:GrpN T g L)(h0:g≠0):g<=T:=by
 have h1:=h.2 h0;have h2:=Nat.mul_le_mul_right g (Nat.one_le_pow L 2 (by omega));omega
theorem yci {w:World}{B n k:Nat}{e:TypeId}{v:Value}{xs:List Value}(h:w.ownsRow B e 1 v n xs)(hk:v.ownBlock=some k):k < w.heap.size:=by
 rcases h.2 with ⟨rfl, -⟩ | ⟨g,cap,cur,rfl,h2,h3, -⟩
 ·cases hk
 ·obtain rfl:g=k:=by injection hk
  rcases Nat.lt_or_ge g w.heap.size with h | h
  ·exact h
  ·rw[Array.getElem?_eq_none h] at h3;cases h3
theorem y73 {w w':World}{v:Value}{m:Nat}{f:Nat->Nat}{row:Option Nat}(h:Wds w v m f)(hg:w.grownBy w' row)(hne:∀ (b off:Nat) (p:Option Nat) (n c:Nat),v=.slice (some ⟨b,off,p⟩) n c->row≠some b):Wds w' v m f:=by
 obtain ⟨a,c,⟨rfl,h1,h2,h3⟩,hr,hc⟩:=h;refine ⟨a,c,⟨rfl,h1,h2,h3⟩,fun i hi=>?_,hc⟩;obtain ⟨b,off,rfl,hcell⟩:=hr i hi;refine ⟨b,off,rfl,?_⟩
 have hlt:b < w.heap.size:=by
  rcases Nat.lt_or_ge b w.heap.size with h | h
  ·exact h
  ·unfold World.cell? at hcell;rw[Array.getElem?_eq_none h] at hcell;cases hcell
 have hb:=hg.block b hlt (fun e=>hne b off none m c rfl e.symm);unfold World.cell? at hcell⊢;rw[hb];exact hcell
def BRel (w:World)(B8 b:Nat)(v6:Value)(ps:List (List UInt8))(sg:List UInt8)(k:Nat)(wx:World):Prop:=
 Lib.IsBuilderF 237 5 w.heap.size b (Lib.byteCells (sg ++ y2l ps k)) wx/\wx.ownsRow B8 9 1 v6 (ps.map gVal).length (ps.map gVal)/\New w wx
theorem BRel.write {w wx w':World} {B8 b k j:Nat} {v6:Value} {ps:List (List UInt8)} {sg sg':List UInt8} {s:ByteArray} (h:BRel w B8 b v6 ps sg k wx)
  (hat:Lib.BuilderAtF 237 5 w.heap.size b (.pointer (some ⟨b,0,none⟩)) (Lib.byteCells (sg ++ y2l ps k) ++ Lib.strCells s) w') (hbl:Below w.heap.size wx w') (hko:Lib.OthersKept 5 (some b) wx w')
  (e:sg ++ y2l ps k ++ s.data.toList=sg' ++ y2l ps j):BRel w B8 b v6 ps sg' j w':=by
 obtain ⟨h1,h2,h3⟩:=h;refine ⟨.inr ?_,?_,Below.trans h3 hbl⟩
 ·rw[Lib.strCells_eq,<-Lib.byteCells_append,e] at hat;exact hat
 ·obtain ⟨p, -,v,hbk, -⟩:∃ p,Lib.BuilderAtF 237 5 w.heap.size b p (Lib.byteCells (sg ++ y2l ps k)) wx:=by
   rcases h1 with h1 | h1
   ·exact ⟨_,h1⟩
   ·exact ⟨_,h1⟩
  exact ymb h2 hko hbk (by decide) (by decide)
theorem BRel.start {w wr:World}{B8:Nat}{v6:Value}{ps:List (List UInt8)}(hO:wr.ownsRow B8 9 1 v6 (ps.map gVal).length (ps.map gVal))(hN:New w wr):
  BRel w B8 wr.heap.size v6 ps [] ps.length (wr.alloc (.cells #[.pointer none,.slice none 0 0] 237)):=by
 refine ⟨.inl ⟨hN.size,.slice none 0 0,Box.alloc wr _ 237 #[.pointer none,.slice none 0 0] rfl,?_,by simp[Value.ownBlock]⟩,hO.alloc _,hN.alloc _⟩;rw[y7s,List.nil_append];exact World.ownsRowF_of (World.ownsRow_nil _ _ _ _)
def SRel (w8:World)(T g:Nat)(v4 v6:Value)(wr:World):Prop:=∃ (a:Option Addr) (m c:Nat) (fw:Nat->Nat) (ps:List (List UInt8)),v4=.slice a m c/\Hid (Wds wr v4 m fw/\vf W64 fw m=g)/\Hid (Grp T g ps)/\Hid (∀ p∈ps,p.length<=18)/\Hid (GrpN T g ps.length)/\Hid (wr.ownsRow w8.heap.size 9 1 v6 (ps.map gVal).length (ps.map gVal))/\Hid (New w8 wr)
theorem y4l (va:Value)(z:Int)(w:World)(hx:y06 w va z)(hb:BdK 40000 z)(he:Env w):Calls Tryz.prog 190 #[va] w fun e w'=>e=.returned (.string ⟨(Lib.itoa z).toArray⟩)/\New w w':=by
 have hX:=hx;rcases hx with ⟨rfl,lo,hi⟩ | ⟨b,off,n,cap,f,s,rfl,hs,hw,h0,hv,hz⟩
 ·exact ykt _ z w rfl lo hi he
 have hz0:z.natAbs≠0:=by rcases hs with rfl | rfl <;> omega
 obtain ⟨T,hT⟩:∃ T,z.natAbs=T:=⟨_,rfl⟩
 have htb:T < 2^40000:=by rw[<-hT];exact hb
 rw[hT]at hz0;obtain ⟨ng,hng⟩:∃ ng,decide (z < 0)=ng:=⟨_,rfl⟩
 have hout:∀ u,u=sgnL ng ++ Lib.decDigits T->Ending.returned (.string ⟨u.toArray⟩)=.returned (.string ⟨(Lib.itoa z).toArray⟩):=by
  rintro u rfl;rw[<-hng,<-hT];rcases Int.lt_or_le z 0 with h | h
  ·rw[decide_eq_true h]
   conv=>rhs;rw[show z= -(z.natAbs:Int) by omega,Big.itoa_neg (by omega)]
   rfl
  ·rw[decide_eq_false (by omega)]
   conv=>rhs;rw[show z=(z.natAbs:Int) by omega,Big.itoa_nonneg]
   rfl
 obtain ⟨i0,hi,hz0',hz1,hz2⟩:=info_parts yff;have q1:=y4d;clear hs hw h0 hv hz hb;have HX0:=hid hX;have HE:=hid he;have HTB:=hid htb;have HT0:=hid hz0;have HTT:=hid hT;have HNG:=hid hng;have HOUT:=hid hout;clear hX he htb hz0 hT hng hout;go_enter Tryz.func190,Tryz.ntmps190;go_wp2_with fail;obtain ⟨BA,HN⟩:=lay1 w 113 #[.int .i64 s,.slice (some ⟨b,off,none⟩) n cap];refine (y0d _ z _ (HX0.out.new HN.out)).mono ?_;rintro e w1 ⟨vw,n1,f1,rfl,hn,hwd,hvf⟩;rw[HNG.out];rw[HTT.out] at hvf;clear HX0 BA;replace HN:=tW HN hn;clear hn;have HWD:=hid hwd;have HVF:=hid hvf;clear hwd hvf
 obtain ⟨a1,c1,rfl⟩:∃ a c,vw=.slice a n1 c:=by
  obtain ⟨a,c,⟨e, -⟩, -⟩:=HWD.out;exact ⟨a,c,e⟩
 go_wp2_with fail;have HN0:=HN;clear HN;obtain ⟨BK,HN⟩:=lay1 w1 198 #[.int .u64 1000000000000000000];replace HWD:=hid (HWD.out.new HN.out);have HN_:=HN0.out.trans HN.out;clear HN HN0;have HN:=hid HN_;clear HN_;obtain ⟨w8,hw8⟩:∃ x,w1.alloc (.cells #[.int .u64 1000000000000000000] 198)=x:=⟨_,rfl⟩;rw[hw8] at BK HN HWD⊢;clear hw8;have hbase:∀ W,New w8 W->Wds W (.slice (some ⟨w1.heap.size,0,none⟩) 1 1) 1 (fun _=>1000000000000000000):=fun W h=>(yoj (x:=1000000000000000000) BK.out (by decide) (by decide)).new h;have hstart:SRel w8 T T (.slice a1 n1 c1) (.slice none 0 0) w8:=⟨a1,n1,c1,f1,[],rfl,hid ⟨HWD.out,HVF.out⟩,hid (Grp.start HT0.out),hid (fun p hp=>by cases hp),hid (GrpN.start T),hid (World.ownsRow_nil _ _ _ _),hid (New.refl _)⟩;have HN8:=HN;clear HN HWD HVF BK;have HBASE:=hid hbase;have HST:=hid hstart;clear hbase hstart
 go_loopg [4,6] T (fun g v4 v6 wr=>SRel w8 T g v4 v6 wr)
 case atStart=>exact HST.out
 case round=>
  clear HST;obtain ⟨a,m,c,fw,ps,rfl,HWV,HGR,HPL,HGN,HO,HN⟩:=hrel;obtain ⟨hwd,hvf⟩:=HWV.out;have hcan:=ya1 hwd;rcases Nat.eq_zero_or_pos gk with h0 | h0
  ·subst h0;obtain rfl:=yih hcan hvf;clear hwd hvf hcan HWV HTB HT0 HBASE;have hps:=HGR.out.end_;obtain ⟨N,hN⟩:∃ N,ps.length=N:=⟨_,rfl⟩
   have hNm:(ps.map gVal).length=N:=by rw[List.length_map];exact hN
   obtain ⟨a6,c6,hv6⟩:∃ a c,_=Value.slice a (ps.map gVal).length c:=by
    obtain ⟨a6,c6,e6, -⟩:=yde HO.out;exact ⟨a6,c6,e6⟩
   rw[hNm]at hv6;subst hv6;have hbr:=BRel.start HO.out (HN8.out.trans HN.out)
   have hN1:(N:Int)<=40001:=by have:=HGN.out.1;omega
   rw[hN]at hbr;clear hNm HGR HO HN;have HPS:=hid hps;have HNL:=hid hN;clear hps hN
   cases ng with
   | false=>
    have hbr:BRel w w8.heap.size wr.heap.size (.slice a6 N c6) ps (sgnL false) ps.length (wr.alloc (.cells #[.pointer none,.slice none 0 0] 237)):=by rw[HNL.out];exact hbr
    have HBR:=hid hbr;clear hbr;go_wp2_with fail;obtain ⟨w10,hw10⟩:∃ x,wr.alloc (.cells #[.pointer none,.slice none 0 0] 237)=x:=⟨_,rfl⟩;rw[hw10] at HBR⊢;clear hw10;obtain ⟨Bb,hBb⟩:∃ x,wr.heap.size=x:=⟨_,rfl⟩;rw[hBb] at HBR⊢;clear hBb;go_loopw [11] (fun i wx=>∃ k:Nat,k<=N/\i=.int .i64 ((k:Int) - 1)/\Hid (BRel w w8.heap.size Bb (.slice a6 N c6) ps (sgnL false) k wx)) (fun i _=>(RowKit.intOf i+1).toNat)
    case atStart=>
     have h:=HBR.out;rw[HNL.out] at h;exact ⟨N,Nat.le_refl _,rfl,hid h⟩
    case round=>
     clear HBR;obtain ⟨k,hk,rfl,HB2⟩:=hrel;rcases Nat.eq_zero_or_pos k with h0 | h0
     ·subst h0;go_wp2_with fail;refine (Tryz.Builder_String_any_k w.heap.size Bb _ _ HB2.out.1 HB2.out.2.2.size).mono ?_;rintro e w12 ⟨rfl, -,hbl, -⟩;have HNE:=hid (Below.trans HB2.out.2.2 hbl);clear hbl;go_wp2_with fail;go_ret;exact ⟨HOUT.out _ (by unfold y2l;rw[List.drop_zero,HPS.out]),HNE.out⟩
     ·obtain ⟨j,rfl⟩:∃ j,k=j+1:=⟨k - 1,by omega⟩
      have hjl:j < ps.length:=by rw[HNL.out];omega
      have e1:(((j+1:Nat):Int) - 1)=(j:Int):=by omega
      rw[e1];clear e1;obtain ⟨a7,c7,e7,hrd, -⟩:=yde HB2.out.2.1
      have e8:a6=a7:=by injection e7
      rw[<-e8]at hrd;obtain ⟨b7,o7,rfl,hce⟩:=hrd j (by rw[List.length_map];exact hjl);rw[List.getElem_map] at hce;have hcell:wr.cell? ⟨b7,o7+j,none⟩=some (.string (bs ps[j])):=hce;clear hce;obtain ⟨p,hp⟩:∃ p,ps[j]=p:=⟨_,rfl⟩
      have hpl:p.length<=18:=by rw[<-hp];exact HPL.out _ (List.getElem_mem _)
      rw[hp]at hcell
      have hji:(j:Int) < (N:Int):=by omega
      have hwr:=fun W h1 h2 h3=>y5m w.heap.size Bb (Lib.byteCells (sgnL false ++ y2l ps (j+1))) (bs p) W h1 h2 h3
      have hlen:(Lib.byteCells (sgnL false ++ y2l ps (j+1))).length+(bs p).size<=140737488355328:=by
       have h1:=yax HPL.out (j+1);have h2:=HGN.out.1
       have h3:(sgnL false).length<=1:=by decide
       rw[Lib.byteCells_length,y1d,List.length_append];omega
      have hnx:sgnL false ++ y2l ps (j+1) ++ (bs p).data.toList=sgnL false ++ y2l ps j:=by
       rw[ybv,y9e hjl,hp,List.append_assoc]
      clear hp hpl hrd e7 e8 hjl h0;have HWRT:=hid hwr;have HLEN:=hid hlen;have HNX:=hid hnx;clear hwr hlen hnx;go_wp2_with fail;refine (HWRT.out _ HB2.out.1 HLEN.out HB2.out.2.2.size).mono ?_;rintro e w12 ⟨rfl,hat,hbl,hko⟩;have HB3:=hid (HB2.out.write hat hbl hko HNX.out);clear hat hbl hko hcell;go_wp2_with fail;go_roundw
      case rel=>exact ⟨j,by omega,by go_num,HB3⟩
      case measure=>simp[RowKit.intOf]
   | true=>
    have hlen:(Lib.byteCells ([] ++ y2l ps N)).length+(⟨#[45]⟩:ByteArray).size<=140737488355328:=by
     rw[<-HNL.out,y7s];decide
    have HBR:=hid hbr;have HLEN:=hid hlen;clear hbr hlen;go_wp2_with fail;refine (y5m w.heap.size wr.heap.size _ ⟨#[45]⟩ _ HBR.out.1 HLEN.out HBR.out.2.2.size).mono ?_;rintro e w11 ⟨rfl,hat,hbl,hko⟩;have hbr:BRel w w8.heap.size wr.heap.size (.slice a6 N c6) ps (sgnL true) ps.length w11:=HBR.out.write hat hbl hko (by rw[HNL.out,<-HNL.out,y7s];rfl);clear hat hbl hko HBR HLEN;have HBR:=hid hbr;clear hbr;go_wp2_with fail;obtain ⟨w10,hw10⟩:∃ x,w11=x:=⟨_,rfl⟩;rw[hw10] at HBR⊢;clear hw10;obtain ⟨Bb,hBb⟩:∃ x,wr.heap.size=x:=⟨_,rfl⟩;rw[hBb] at HBR⊢;clear hBb;go_loopw [11] (fun i wx=>∃ k:Nat,k<=N/\i=.int .i64 ((k:Int) - 1)/\Hid (BRel w w8.heap.size Bb (.slice a6 N c6) ps (sgnL true) k wx)) (fun i _=>(RowKit.intOf i+1).toNat)
    case atStart=>
     have h:=HBR.out;rw[HNL.out] at h;exact ⟨N,Nat.le_refl _,rfl,hid h⟩
    case round=>
     clear HBR;obtain ⟨k,hk,rfl,HB2⟩:=hrel;rcases Nat.eq_zero_or_pos k with h0 | h0
     ·subst h0;go_wp2_with fail;refine (Tryz.Builder_String_any_k w.heap.size Bb _ _ HB2.out.1 HB2.out.2.2.size).mono ?_;rintro e w12 ⟨rfl, -,hbl, -⟩;have HNE:=hid (Below.trans HB2.out.2.2 hbl);clear hbl;go_wp2_with fail;go_ret;exact ⟨HOUT.out _ (by unfold y2l;rw[List.drop_zero,HPS.out]),HNE.out⟩
     ·obtain ⟨j,rfl⟩:∃ j,k=j+1:=⟨k - 1,by omega⟩
      have hjl:j < ps.length:=by rw[HNL.out];omega
      have e1:(((j+1:Nat):Int) - 1)=(j:Int):=by omega
      rw[e1];clear e1;obtain ⟨a7,c7,e7,hrd, -⟩:=yde HB2.out.2.1
      have e8:a6=a7:=by injection e7
      rw[<-e8]at hrd;obtain ⟨b7,o7,rfl,hce⟩:=hrd j (by rw[List.length_map];exact hjl);rw[List.getElem_map] at hce;have hcell:wr.cell? ⟨b7,o7+j,none⟩=some (.string (bs ps[j])):=hce;clear hce;obtain ⟨p,hp⟩:∃ p,ps[j]=p:=⟨_,rfl⟩
      have hpl:p.length<=18:=by rw[<-hp];exact HPL.out _ (List.getElem_mem _)
      rw[hp]at hcell
      have hji:(j:Int) < (N:Int):=by omega
      have hwr:=fun W h1 h2 h3=>y5m w.heap.size Bb (Lib.byteCells (sgnL true ++ y2l ps (j+1))) (bs p) W h1 h2 h3
      have hlen:(Lib.byteCells (sgnL true ++ y2l ps (j+1))).length+(bs p).size<=140737488355328:=by
       have h1:=yax HPL.out (j+1);have h2:=HGN.out.1
       have h3:(sgnL true).length<=1:=by decide
       rw[Lib.byteCells_length,y1d,List.length_append];omega
      have hnx:sgnL true ++ y2l ps (j+1) ++ (bs p).data.toList=sgnL true ++ y2l ps j:=by
       rw[ybv,y9e hjl,hp,List.append_assoc]
      clear hp hpl hrd e7 e8 hjl h0;have HWRT:=hid hwr;have HLEN:=hid hlen;have HNX:=hid hnx;clear hwr hlen hnx;go_wp2_with fail;refine (HWRT.out _ HB2.out.1 HLEN.out HB2.out.2.2.size).mono ?_;rintro e w12 ⟨rfl,hat,hbl,hko⟩;have HB3:=hid (HB2.out.write hat hbl hko HNX.out);clear hat hbl hko hcell;go_wp2_with fail;go_roundw
      case rel=>exact ⟨j,by omega,by go_num,HB3⟩
      case measure=>simp[RowKit.intOf]
  ·have hm0:0 < m:=by
    rcases Nat.eq_zero_or_pos m with h3 | h3
    ·subst h3;have h4:vf W64 fw 0=0:=rfl;omega
    ·exact h3
   have hml:=yl1 hcan (by rw[hvf];exact Nat.lt_of_le_of_lt (HGN.out.le (by omega)) HTB.out);have hdv:=yf0 _ _ m fw _ wr hml hwd (HBASE.out wr HN.out);rw[hvf,show vf W64 (fun _=>1000000000000000000) 1=1000000000000000000 by simp[vf]] at hdv
   have hmi:(0:Int) < (m:Int):=by omega
   have hmb:decide ((0:Int) < (m:Int))=true:=decide_eq_true hmi
   have hg0:gk≠0:=by omega
   clear hml hcan hwd hvf hm0 h0 HWV;have HDV:=hid hdv;have HG0:=hid hg0;clear hdv hg0;go_wp2_with fail;refine HDV.out.mono ?_;rintro e w2 ⟨vq,vr,mq,nr,fq,gr,rfl,hn,hwq,hwr,heq,hlt,hfq⟩;clear HDV hmi hmb
   obtain ⟨aq,cq,rfl⟩:∃ a c,vq=.slice a mq c:=by
    obtain ⟨a,c,⟨e, -⟩, -⟩:=hwq;exact ⟨a,c,e⟩
   obtain ⟨q,hq⟩:∃ q,vf W64 fq mq=q:=⟨_,rfl⟩;obtain ⟨r,hr⟩:∃ r,vf W64 gr nr=r:=⟨_,rfl⟩;rw[hq,hr] at heq;rw[hr] at hlt;obtain ⟨S,hS⟩:∃ S,bs (Lib.decDigits r)=S:=⟨_,rfl⟩
   have hSs:S.size<=18:=by rw[<-hS,y1d];exact yos hlt
   have HN1:=hid hn;have HWQ:=hid hwq;have HWR:=hid hwr;have HEQ:=hid heq;have HR18:=hid hlt;have HFQ:=hid hfq;have HVQ:=hid hq;have HVR:=hid hr;clear hn hwq hwr heq hlt hfq hq hr;rcases yl9 HWR.out (by rw[HVR.out];exact HR18.out) with ⟨ar,cr,rfl,⟨rfl,hv0⟩ | ⟨rfl,br,offr,rfl,hcell⟩⟩
   ·have hr0:r=0:=by rw[<-HVR.out];exact hv0
    have hss:bs (Lib.decDigits r)=⟨#[48]⟩:=by rw[hr0,y1f];rfl
    have hX:=New.refl w2;clear hr0 hv0 hS hSs;have HX:=hid hX;have HSS:=hid hss;clear hX hss;rcases Nat.eq_zero_or_pos mq with hmq | hmq
    ·subst hmq;have hq0:q=0:=HVQ.out.symm;subst hq0
     have hsv:([grpT 0 r]:List (List UInt8)).map gVal=[Value.string ⟨#[48]⟩]:=by
      rw[ygi];show [Value.string (bs (Lib.decDigits r))]=_;rw[HSS.out]
     have HSV:=hid hsv;clear hsv;have hz18:(grpT 0 r).length<=18:=yby HR18.out
     have hnp:∀ p∈ps ++ [grpT 0 r],p.length<=18:=fun p hp=>by
      rcases List.mem_append.1 hp with h | h
      ·exact HPL.out p h
      ·rw[List.mem_singleton] at h;rw[h];exact hz18
     have hng:=HGR.out.step HG0.out HEQ.out HR18.out;have hnn:=HGN.out.step HTB.out HG0.out HEQ.out;have hlt:=HGN.out.lt HTB.out HG0.out;have hO:=yc7 HO.out (HN1.out.trans HX.out);have hN:=HN.out.trans (HN1.out.trans HX.out);have HOR:=HO;have HLQ:=HEQ;clear HN HO HGR HGN HPL HR18 HEQ hz18;have HPL:=hid hnp;have HGR:=hid hng;have HGN:=hid hnn;have HLT:=hid hlt;have HO:=hid hO;have HN:=hid hN;clear hnp hng hnn hlt hO hN
     have h1:∀ u∈[Value.string ⟨#[48]⟩],u.oneCell'=true:=by intro u hu;simp at hu;rw[hu];rfl
     have H1:=hid h1;clear h1;go_wp2_with (at_builtin;refine wpList_append_own _ rfl _ _ 231 rfl w8.heap.size 9 i0 (.string ⟨#[]⟩) 1 16 Tryz.underlying231 hi hz0' hz1 hz2 rfl (by decide) _ _ _ rfl (HO.out.alloc _) ⟨w2.heap.size,0,none⟩ 1 1 [Value.string ⟨#[48]⟩] rfl rfl (y3i _ _ _) H1.out (by have:=HLT.out;unfold maxLen;rw[List.length_map];omega) (by have:=HLT.out;rw[List.length_map];omega) (by have:=HN.out.size;rw[<-size_alloc];omega) ?_);intro v' w9 hown' hgrow _;have hN1:=y11 HN.out HO.out hgrow
     have hO1:w9.ownsRow w8.heap.size 9 1 v' ((ps ++ [grpT 0 r]).map gVal).length ((ps ++ [grpT 0 r]).map gVal):=by
      rw[List.map_append,show ([grpT 0 r]:List (List UInt8)).map gVal=[Value.string ⟨#[48]⟩] from HSV.out];simpa using hown'
     have hw:=y73 ((HWQ.out.new HX.out).new ((New.refl w2).alloc _)) hgrow (fun b off p n c e h=>by
      have h1:=yci HOR.out h;have h2:=HFQ.out b off p n c e
      omega)
     clear hown' hgrow HN HO HX HN1;have HN:=hid hN1;have HO:=hid hO1;have HW:=hid hw;clear hN1 hO1 hw;go_wp2_with fail
     go_roundg 0
     case measure=>have h1:=HLQ.out;have h2:=HG0.out;omega
     case rel=>exact ⟨aq,_,cq,fq,ps ++ [grpT 0 r],rfl,hid ⟨HW.out,HVQ.out⟩,HGR,HPL,by rw[List.length_append];exact HGN,HO,HN⟩
    ·have hmi:(0:Int) < (mq:Int):=by omega
     have hmb:decide ((0:Int) < (mq:Int))=true:=decide_eq_true hmi
     have hq0:q≠0:=by
      have h1:=(ya1 HWQ.out).ge (by omega);have h2:=Nat.one_le_pow (mq - 1) W64 (by decide);rw[HVQ.out] at h1;omega
     have hrp:=fun W=>y85 (17) W (by omega);obtain ⟨R,hR⟩:∃ R,bs (List.replicate (17) 48)=R:=⟨_,rfl⟩
     have hRs:R.size=17:=by rw[<-hR,y1d,List.length_replicate]
     simp only[hR]at hrp
     skip
     have hsv:([grpT q r]:List (List UInt8)).map gVal=[Value.string (R ++ ⟨#[48]⟩)]:=by
      rw[ykg hq0 HR18.out];show [Value.string (bs (List.replicate _ 48 ++ Lib.decDigits r))]=_;rw[<-y2b,HSS.out,<-hR,<-y1d (Lib.decDigits r),HSS.out];rfl
     have hcat:¬9223372036854775807 < R.size+1:=by omega
     clear hR hRs hq0;have HSV:=hid hsv;have HRP:=hid hrp;clear hsv hrp;go_wp2_with fail;refine (HRP.out _).mono ?_;rintro e w4 ⟨rfl,hn⟩;have hx5:=HX.out.trans hn;clear HX hn HRP;have HX:=hid hx5;clear hx5;have hz18:(grpT q r).length<=18:=yby HR18.out
     have hnp:∀ p∈ps ++ [grpT q r],p.length<=18:=fun p hp=>by
      rcases List.mem_append.1 hp with h | h
      ·exact HPL.out p h
      ·rw[List.mem_singleton] at h;rw[h];exact hz18
     have hng:=HGR.out.step HG0.out HEQ.out HR18.out;have hnn:=HGN.out.step HTB.out HG0.out HEQ.out;have hlt:=HGN.out.lt HTB.out HG0.out;have hO:=yc7 HO.out (HN1.out.trans HX.out);have hN:=HN.out.trans (HN1.out.trans HX.out);have HOR:=HO;have HLQ:=HEQ;clear HN HO HGR HGN HPL HR18 HEQ hz18;have HPL:=hid hnp;have HGR:=hid hng;have HGN:=hid hnn;have HLT:=hid hlt;have HO:=hid hO;have HN:=hid hN;clear hnp hng hnn hlt hO hN
     have h1:∀ u∈[Value.string (R ++ ⟨#[48]⟩)],u.oneCell'=true:=by intro u hu;simp at hu;rw[hu];rfl
     have H1:=hid h1;clear h1;go_wp2_with (at_builtin;refine wpList_append_own _ rfl _ _ 231 rfl w8.heap.size 9 i0 (.string ⟨#[]⟩) 1 16 Tryz.underlying231 hi hz0' hz1 hz2 rfl (by decide) _ _ _ rfl (HO.out.alloc _) ⟨w4.heap.size,0,none⟩ 1 1 [Value.string (R ++ ⟨#[48]⟩)] rfl rfl (y3i _ _ _) H1.out (by have:=HLT.out;unfold maxLen;rw[List.length_map];omega) (by have:=HLT.out;rw[List.length_map];omega) (by have:=HN.out.size;rw[<-size_alloc];omega) ?_);intro v' w9 hown' hgrow _;have hN1:=y11 HN.out HO.out hgrow
     have hO1:w9.ownsRow w8.heap.size 9 1 v' ((ps ++ [grpT q r]).map gVal).length ((ps ++ [grpT q r]).map gVal):=by
      rw[List.map_append,show ([grpT q r]:List (List UInt8)).map gVal=[Value.string (R ++ ⟨#[48]⟩)] from HSV.out];simpa using hown'
     have hw:=y73 ((HWQ.out.new HX.out).new ((New.refl w4).alloc _)) hgrow (fun b off p n c e h=>by
      have h1:=yci HOR.out h;have h2:=HFQ.out b off p n c e
      omega)
     clear hown' hgrow HN HO HX HN1;have HN:=hid hN1;have HO:=hid hO1;have HW:=hid hw;clear hN1 hO1 hw;go_wp2_with fail
     go_roundg q
     case measure=>have h1:=HLQ.out;have h2:=HG0.out;omega
     case rel=>exact ⟨aq,_,cq,fq,ps ++ [grpT q r],rfl,hid ⟨HW.out,HVQ.out⟩,HGR,HPL,by rw[List.length_append];exact HGN,HO,HN⟩
   ·rw[HVR.out] at hcell;have HSS:=hid hS;clear hS;go_wp2_with fail;refine (yhb r _ (HE.out.new (HN8.out.trans (HN.out.trans HN1.out))) (by have:=HR18.out;omega)).mono ?_;rintro e w3 ⟨rfl,hX⟩;clear hcell;rw[HSS.out];have HX:=hid hX;clear hX;rcases Nat.eq_zero_or_pos mq with hmq | hmq
    ·subst hmq;have hq0:q=0:=HVQ.out.symm;subst hq0
     have hsv:([grpT 0 r]:List (List UInt8)).map gVal=[Value.string S]:=by
      rw[ygi];show [Value.string (bs (Lib.decDigits r))]=_;rw[HSS.out]
     have HSV:=hid hsv;clear hsv;have hz18:(grpT 0 r).length<=18:=yby HR18.out
     have hnp:∀ p∈ps ++ [grpT 0 r],p.length<=18:=fun p hp=>by
      rcases List.mem_append.1 hp with h | h
      ·exact HPL.out p h
      ·rw[List.mem_singleton] at h;rw[h];exact hz18
     have hng:=HGR.out.step HG0.out HEQ.out HR18.out;have hnn:=HGN.out.step HTB.out HG0.out HEQ.out;have hlt:=HGN.out.lt HTB.out HG0.out;have hO:=yc7 HO.out (HN1.out.trans HX.out);have hN:=HN.out.trans (HN1.out.trans HX.out);have HOR:=HO;have HLQ:=HEQ;clear HN HO HGR HGN HPL HR18 HEQ hz18;have HPL:=hid hnp;have HGR:=hid hng;have HGN:=hid hnn;have HLT:=hid hlt;have HO:=hid hO;have HN:=hid hN;clear hnp hng hnn hlt hO hN
     have h1:∀ u∈[Value.string S],u.oneCell'=true:=by intro u hu;simp at hu;rw[hu];rfl
     have H1:=hid h1;clear h1;go_wp2_with (at_builtin;refine wpList_append_own _ rfl _ _ 231 rfl w8.heap.size 9 i0 (.string ⟨#[]⟩) 1 16 Tryz.underlying231 hi hz0' hz1 hz2 rfl (by decide) _ _ _ rfl (HO.out.alloc _) ⟨w3.heap.size,0,none⟩ 1 1 [Value.string S] rfl rfl (y3i _ _ _) H1.out (by have:=HLT.out;unfold maxLen;rw[List.length_map];omega) (by have:=HLT.out;rw[List.length_map];omega) (by have:=HN.out.size;rw[<-size_alloc];omega) ?_);intro v' w9 hown' hgrow _;have hN1:=y11 HN.out HO.out hgrow
     have hO1:w9.ownsRow w8.heap.size 9 1 v' ((ps ++ [grpT 0 r]).map gVal).length ((ps ++ [grpT 0 r]).map gVal):=by
      rw[List.map_append,show ([grpT 0 r]:List (List UInt8)).map gVal=[Value.string S] from HSV.out];simpa using hown'
     have hw:=y73 ((HWQ.out.new HX.out).new ((New.refl w3).alloc _)) hgrow (fun b off p n c e h=>by
      have h1:=yci HOR.out h;have h2:=HFQ.out b off p n c e
      omega)
     clear hown' hgrow HN HO HX HN1;have HN:=hid hN1;have HO:=hid hO1;have HW:=hid hw;clear hN1 hO1 hw;go_wp2_with fail
     go_roundg 0
     case measure=>have h1:=HLQ.out;have h2:=HG0.out;omega
     case rel=>exact ⟨aq,_,cq,fq,ps ++ [grpT 0 r],rfl,hid ⟨HW.out,HVQ.out⟩,HGR,HPL,by rw[List.length_append];exact HGN,HO,HN⟩
    ·have hmi:(0:Int) < (mq:Int):=by omega
     have hmb:decide ((0:Int) < (mq:Int))=true:=decide_eq_true hmi
     have hq0:q≠0:=by
      have h1:=(ya1 HWQ.out).ge (by omega);have h2:=Nat.one_le_pow (mq - 1) W64 (by decide);rw[HVQ.out] at h1;omega
     have hrp:=fun W=>y85 (18 - S.size) W (by omega);obtain ⟨R,hR⟩:∃ R,bs (List.replicate (18 - S.size) 48)=R:=⟨_,rfl⟩
     have hRs:R.size=18 - S.size:=by rw[<-hR,y1d,List.length_replicate]
     simp only[hR]at hrp;simp only[show ((18 - S.size:Nat):Int)=18 - (S.size:Int) from by omega] at hrp
     have hsv:([grpT q r]:List (List UInt8)).map gVal=[Value.string (R ++ S)]:=by
      rw[ykg hq0 HR18.out];show [Value.string (bs (List.replicate _ 48 ++ Lib.decDigits r))]=_;rw[<-y2b,HSS.out,<-hR,<-y1d (Lib.decDigits r),HSS.out]
      skip
     have hcat:¬9223372036854775807 < R.size+S.size:=by omega
     clear hR hRs hq0;have HSV:=hid hsv;have HRP:=hid hrp;clear hsv hrp;go_wp2_with fail;refine (HRP.out _).mono ?_;rintro e w4 ⟨rfl,hn⟩;have hx5:=HX.out.trans hn;clear HX hn HRP;have HX:=hid hx5;clear hx5;have hz18:(grpT q r).length<=18:=yby HR18.out
     have hnp:∀ p∈ps ++ [grpT q r],p.length<=18:=fun p hp=>by
      rcases List.mem_append.1 hp with h | h
      ·exact HPL.out p h
      ·rw[List.mem_singleton] at h;rw[h];exact hz18
     have hng:=HGR.out.step HG0.out HEQ.out HR18.out;have hnn:=HGN.out.step HTB.out HG0.out HEQ.out;have hlt:=HGN.out.lt HTB.out HG0.out;have hO:=yc7 HO.out (HN1.out.trans HX.out);have hN:=HN.out.trans (HN1.out.trans HX.out);have HOR:=HO;have HLQ:=HEQ;clear HN HO HGR HGN HPL HR18 HEQ hz18;have HPL:=hid hnp;have HGR:=hid hng;have HGN:=hid hnn;have HLT:=hid hlt;have HO:=hid hO;have HN:=hid hN;clear hnp hng hnn hlt hO hN
     have h1:∀ u∈[Value.string (R ++ S)],u.oneCell'=true:=by intro u hu;simp at hu;rw[hu];rfl
     have H1:=hid h1;clear h1;go_wp2_with (at_builtin;refine wpList_append_own _ rfl _ _ 231 rfl w8.heap.size 9 i0 (.string ⟨#[]⟩) 1 16 Tryz.underlying231 hi hz0' hz1 hz2 rfl (by decide) _ _ _ rfl (HO.out.alloc _) ⟨w4.heap.size,0,none⟩ 1 1 [Value.string (R ++ S)] rfl rfl (y3i _ _ _) H1.out (by have:=HLT.out;unfold maxLen;rw[List.length_map];omega) (by have:=HLT.out;rw[List.length_map];omega) (by have:=HN.out.size;rw[<-size_alloc];omega) ?_);intro v' w9 hown' hgrow _;have hN1:=y11 HN.out HO.out hgrow
     have hO1:w9.ownsRow w8.heap.size 9 1 v' ((ps ++ [grpT q r]).map gVal).length ((ps ++ [grpT q r]).map gVal):=by
      rw[List.map_append,show ([grpT q r]:List (List UInt8)).map gVal=[Value.string (R ++ S)] from HSV.out];simpa using hown'
     have hw:=y73 ((HWQ.out.new HX.out).new ((New.refl w4).alloc _)) hgrow (fun b off p n c e h=>by
      have h1:=yci HOR.out h;have h2:=HFQ.out b off p n c e
      omega)
     clear hown' hgrow HN HO HX HN1;have HN:=hid hN1;have HO:=hid hO1;have HW:=hid hw;clear hN1 hO1 hw;go_wp2_with fail
     go_roundg q
     case measure=>have h1:=HLQ.out;have h2:=HG0.out;omega
     case rel=>exact ⟨aq,_,cq,fq,ps ++ [grpT q r],rfl,hid ⟨HW.out,HVQ.out⟩,HGR,HPL,by rw[List.length_append];exact HGN,HO,HN⟩
theorem yjo {k n:Nat}(hn:n < 2^k):(Lib.decDigits n).length<=k+1:=by
 rw[Lib.decDigits_length,y0w (by omega)];exact Nat.lt_of_lt_of_le hn (Nat.le_trans (Nat.pow_le_pow_left (by omega:2<=10) k) (Nat.pow_le_pow_right (by omega) (by omega)))
theorem yml {z:Int}{k:Nat}(h:BdK k z):(Lib.itoa z).length<=k+2:=by
 unfold BdK at h;rcases Int.lt_or_le z 0 with hz | hz
 ·obtain ⟨n,rfl⟩:∃ n:Nat,z= -(n:Int):=⟨z.natAbs,by omega⟩;rw[Big.itoa_neg (by omega),List.length_cons];have:=yjo (n:=n) (by simpa using h);omega
 ·obtain ⟨n,rfl⟩:∃ n:Nat,z=(n:Int):=⟨z.toNat,by omega⟩;rw[Big.itoa_nonneg];have:=yjo (n:=n) (by simpa using h);omega
theorem yeu {z:Int}(h:BdK 40000 z):(Lib.itoa z).length<=40002:=yml h
theorem y35 (va:Value)(q:Rat)(w:World)(hx:y07 w va q)(hs:FB 40000 q)(he:Env w):Calls Tryz.prog 126 #[va] w fun e w'=>e=.returned (.string ⟨(y02 q).toArray⟩)/\New w w':=by
 have hX:=hx;obtain ⟨s,a,l,c,s',a',l',c',rfl,h1,h2⟩:=hx;by_cases hd:q.den=1
 ·have ht:y02 q=Lib.itoa q.num:=by unfold y02;rw[if_pos hd]
  rw[ht];have d1:=decide_eq_true hd;have HX:=hid hX;have H1:=hid h1;have H2:=hid h2;have HS:=hid hs;have HE:=hid he;have HD:=hid hd;have HT:=hid ht;clear hX h1 h2 hs he hd ht;go_enter Tryz.func126,Tryz.ntmps126;go_wp2_with fail;obtain ⟨BA,HN⟩:=lay1 w 115 #[.int .i64 s,.slice a l c,.int .i64 s',.slice a' l' c'];refine (y3c _ q _ (HX.out.new HN.out)).mono ?_;rintro e w1 ⟨rfl,hn⟩;rw[d1];replace BA:=bW BA hn;replace HN:=tW HN hn;clear hn;obtain ⟨⟨pa0,pa1,pa2,pa3⟩,pa4,pa5,pa6,pa7,pa8⟩:=BA.out.four;go_wp2_with fail;refine (y4l _ q.num _ (H1.out.new HN.out) HS.out.num (HE.out.new HN.out)).mono ?_;rintro e w2 ⟨rfl,hn⟩;replace HN:=tW HN hn;clear hn;go_wp2_with fail;go_ret;exact ⟨rfl,HN.out⟩
 ·obtain ⟨A,hA⟩:∃ A,Lib.itoa q.num=A:=⟨_,rfl⟩;obtain ⟨B,hB⟩:∃ B,Lib.itoa (q.den:Int)=B:=⟨_,rfl⟩
  have hla:A.length<=40002:=by rw[<-hA];exact yeu hs.num
  have hlb:B.length<=40002:=by rw[<-hB];exact yeu hs.den
  have ht:y02 q=A ++ 47::B:=by
   unfold y02;rw[if_neg hd,<-hA,<-hB,Big.itoa_nonneg]
  rw[ht];have d1:=decide_eq_false hd
  have hq1:¬9223372036854775807 < A.length+1:=by omega
  have hq2:¬9223372036854775807 < A.length+1+B.length:=by omega
  have HX:=hid hX;have H1:=hid h1;have H2:=hid h2;have HS:=hid hs;have HE:=hid he;have HD:=hid hd;have HA:=hid hA;have HB:=hid hB;clear hX h1 h2 hs he hd hA hB;clear ht hla hlb;go_enter Tryz.func126,Tryz.ntmps126;go_wp2_with fail;obtain ⟨BA,HN⟩:=lay1 w 115 #[.int .i64 s,.slice a l c,.int .i64 s',.slice a' l' c'];refine (y3c _ q _ (HX.out.new HN.out)).mono ?_;rintro e w1 ⟨rfl,hn⟩;rw[d1];replace BA:=bW BA hn;replace HN:=tW HN hn;clear hn;obtain ⟨⟨pa0,pa1,pa2,pa3⟩,pa4,pa5,pa6,pa7,pa8⟩:=BA.out.four;go_wp2_with fail;clear pa0 pa1 pa2 pa3 pa4 pa5 pa6 pa7 pa8;refine y00 8 (fun W=>W.cell? ⟨w.heap.size,0,none⟩=some (.int .i64 s)/\W.cell? ⟨w.heap.size,1,none⟩=some (.slice a l c)/\W.cell? ⟨w.heap.size,2,none⟩=some (.int .i64 s')/\W.cell? ⟨w.heap.size,3,none⟩=some (.slice a' l' c')) 9 #[false,false,false,false,false,false,false,false,false] rfl (by kernel_rfl) (by kernel_rfl) ?_;refine tk 0 (by exact cW4 BA) ?_
  try simp only[PT]
  refine tk 1 (by exact cW4 BA) ?_
  try simp only[PT]
  refine tk 4 (by exact cW4 BA) ?_
  try simp only[PT]
  refine tk 5 (by exact cW4 BA) ?_
  try simp only[PT]
  refine tk1 2 fun K hK=>?_;go_simp;refine (y4l _ q.num _ (H1.out.new HN.out.drew) HS.out.num (HE.out.new HN.out.drew)).mono ?_;rintro e w2 ⟨rfl,hn⟩;rw[HA.out];have hn:=hn.undrew;replace BA:=bW BA hn;replace HN:=tW HN hn;clear hn;refine hK.out _ _ (fun _=>cW4 BA) ?_;clear hK K
  try simp only[PT]
  refine tk 3 (by exact cW4 BA) ?_
  try simp only[PT]
  refine tk1 6 fun K hK=>?_;go_simp;refine (y4l _ (q.den:Int) _ (H2.out.new HN.out) HS.out.den (HE.out.new HN.out)).mono ?_;rintro e w3 ⟨rfl,hn⟩;rw[HB.out];replace BA:=bW BA hn;replace HN:=tW HN hn;clear hn;refine hK.out _ _ (fun _=>cW4 BA) ?_;clear hK K
  try simp only[PT]
  refine tk 7 (by exact cW4 BA) ?_
  try simp only[PT]
  refine tlW ?_;obtain ⟨⟨pa0,pa1,pa2,pa3⟩,pa4,pa5,pa6,pa7,pa8⟩:=BA.out.four;go_wp2_with fail;go_ret;exact ⟨yhw (join3 A B 47),HN.out⟩
end Go.Proofs.YtnjonlnemagomaaGreatDoor
