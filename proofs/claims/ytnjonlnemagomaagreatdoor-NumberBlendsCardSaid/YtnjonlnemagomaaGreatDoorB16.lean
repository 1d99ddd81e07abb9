/- Part B16. -/
import Derived.Lib.AppendIntMem
import Derived.OwnWalk
import Derived.Laws.AppendOwn
import Derived.Deep.LoopGhost
import Derived.Test.YtnjonlnemagomaaGreatDoorB10
import Derived.Test.YtnjonlnemagomaaGreatDoorB12
namespace Go.Proofs.YtnjonlnemagomaaGreatDoor
open Go.RowKit Go.Sort Big Tryz
open Go.Lib (hid)
set_option maxRecDepth 100000
set_option maxHeartbeats 8000000
set_option linter.all false
theorem fmtU_in (u:Nat)(w:World)(he:Env w)(hu64:u < 18446744073709551616):
  Calls prog 260 #[.int .u64 u,.int .i64 10] w fun e w'=>e=.returned (.string ⟨(Lib.decDigits u).toArray⟩)∧New w w':=by
 have ab:=he.tab;clear he;by_cases hs:u < 100
 ·go_in;go_wp2_with fail;refine (Tryz.internal_strconv_small u hs _).mono ?_;rintro e w' ⟨rfl,rfl⟩;go_wp2_with fail;go_ret;exact ⟨rfl,New.refl _⟩
 ·have ae:1≤u:=by omega
  have ai:Lib.nDigits u≤20:=by have:=Lib.numDigits_eq u ae hu64;split at this <;> omega
  have ad:prog.arrayLen 276=24:=by kernel_rfl
  have ah:prog.underlying 276=some (.array 24 5):=by kernel_rfl
  have ak:∀ W,(Instr.sliceAt 276 (.pointer (some ⟨w.heap.size,0,none⟩)) none (some (.int .i64 (Lib.nDigits u:Int))) none).run prog W=.ok (.slice (some ⟨w.heap.size,0,none⟩) (Lib.nDigits u) 24) W:=fun W=>by
   rw[run_sliceAt_array_h W 276 ⟨w.heap.size,0,none⟩ (by simp[Program.arrayLen,Program.elem,ah]) .i64 (Lib.nDigits u:Int) (by omega) (by rw[ad];omega)];go_simp
  have ac:=Lib.holds_zero0 w 276 (Lib.nDigits u) (by omega);have aa:=Tryz.internal_strconv_formatBase10 w.heap.size 0 24 u (Array.replicate (Lib.nDigits u) 0) (w.alloc (.cells Lib.zeros24 276)) ac (by rw[Array.size_replicate];exact Lib.lt_pow_nDigits u) hu64 (by rw[Array.size_replicate];omega);rw[Array.size_replicate] at aa;have af:=hid ac;have ag:=hid ab
  have iu:¬(u:Int) < 100:=by omega
  clear ac ad ab;go_in;go_wp2_with fail;refine (Tryz.internal_strconv_numDigits u ae hu64 _ (Lib.tabIs_alloc ag _)).mono ?_;rintro e w' ⟨rfl,rfl⟩;go_wp2_with fail;refine aa.mono ?_;rintro e w' ⟨rfl,k,v',dk,rfl,hF⟩
  have aj:(convert 235 9 (.slice (some ⟨w.heap.size,0,none⟩) (Lib.nDigits u) 24)).run prog ((putRow (fun (b:UInt8)=>Value.int .u8 (b.toNat:Int)) (w.alloc (.cells Lib.zeros24 276)) w.heap.size 0 dk).drewN k)=.ok (.string ⟨(Lib.decDigits u).toArray⟩) ((putRow (fun (b:UInt8)=>Value.int .u8 (b.toNat:Int)) (w.alloc (.cells Lib.zeros24 276)) w.heap.size 0 dk).drewN k):=by
   have h:=run_convert_bytes_back (P:=prog) ((putRow (fun (b:UInt8)=>Value.int .u8 (b.toNat:Int)) (w.alloc (.cells Lib.zeros24 276)) w.heap.size 0 dk).drewN k) 235 9 5 ⟨w.heap.size,0,none⟩ 24 (Lib.decDigits u) underlying235 underlying5 underlying9 (fun j hj=>by
    rw[Lib.row_is_numeral hF j hj,Lib.add_plain,World.cell?_drewN]
    exact cell?_putRow (fun (b:UInt8)=>Value.int .u8 (b.toNat:Int)) _ w.heap.size 0 _ dk af (by rw[hF.size,Array.size_replicate]) j (by rw[hF.size];rw[Lib.decDigits_length] at hj;exact hj))
   rw[Lib.decDigits_length]at h;exact h
  go_wp2_with fail;go_ret;obtain ⟨os,eo⟩:=Lib.fin_at w (.cells Lib.zeros24 276) dk k 0;exact ⟨rfl,by rw[eo];exact new_grow w k os⟩
theorem fmtU_calls (u:Nat)(w:World)(he:Env w)(hu64:u < 18446744073709551616):
  Calls prog 229 #[.int .u64 u,.int .i64 10] w fun e w'=>e=.returned (.string (bs (Lib.decDigits u)))∧New w w':=by
 have h:=fmtU_in u w he hu64;clear he;go_in;go_wp2_with fail;refine h.mono ?_;rintro e w' ⟨rfl,hn⟩;go_wp2_with fail;go_ret;exact ⟨rfl,hn⟩
theorem repeat_one (c:UInt8):∀ n:Nat,Lib.repeatL [c] n=List.replicate n c
 | 0=>rfl
 | n+1=>by rw[List.replicate_succ,←repeat_one c n];rfl
theorem repeat_calls (k:Nat)(w:World)(hk:k≤100):
  Calls prog 230 #[.string ⟨#[48]⟩,.int .i64 k] w fun e w'=>e=.returned (.string (bs (List.replicate k 48)))∧New w w':=
 (Tryz.strings_Repeat ⟨#[48]⟩ k w (by omega) (by show 1*k≤_;omega)).mono fun e w' ⟨h1,h2⟩=>⟨by rw[h1];show Ending.returned (.string ⟨(Lib.repeatL [48] k).toArray⟩)=_;rw[repeat_one];rfl,h2⟩
theorem info_string:(prog.info? 9).map (fun i=>(i.zero,i.size,i.bytes))=some (some (.string ⟨#[]⟩),1,16):=by kernel_rfl
theorem wds_box {w:World}{B x:Nat}{t:TypeId}(h:Box w B t #[.int .u64 (x:Int)])(h0:x≠0)(hx:x < W64):Wds w (.slice (some ⟨B,0,none⟩) 1 1) 1 fun _=>x:=by
 refine ⟨_,1,⟨rfl,Nat.le_refl _,by omega,by simp⟩,fun i hi=>?_,⟨fun _ _=>hx,fun _=>h0⟩⟩
 obtain rfl:i=0:=by omega
 exact ⟨B,0,rfl,by rw[h.cell];rfl⟩
theorem own_kept {w w':World}{B b n:Nat}{e u T:TypeId}{v:Value}{xs:List Value}{c:Array Value}{fz:Nat × Nat}(h:w.ownsRow B e 1 v n xs)(hk:Lib.OthersKept u (some b) w w')(hb:w.heap[b]?=some (.cells c T fz))(hT:T≠e)(hu:e≠u):w'.ownsRow B e 1 v n xs:=by
 refine ⟨h.1,?_⟩;rcases h.2 with h2 | ⟨g,aa,ab,h1,h2,h3,h4⟩
 ·exact .inl h2
 ·refine .inr ⟨g,aa,ab,h1,h2,?_,h4⟩;refine hk g _ h3 (fun e1=>?_) (fun c fz e1=>?_)
  ·injection e1 with e1;subst e1;rw[hb] at h3;injection h3 with h3;injection h3 with _ h3 _;exact hT h3
  ·injection e1 with _ e1 _;exact hu e1
theorem few_words {w:World}{v:Value}{n:Nat}{g:Nat→Nat}(h:Wds w v n g)(hv:vf W64 g n < 1000000000000000000):∃ (a:Option Addr) (c:Nat),v=.slice a n c∧((n=0∧vf W64 g n=0)∨(n=1∧∃ b aa,a=some ⟨b,aa,none⟩∧w.cell? ⟨b,aa,none⟩=some (.int .u64 (vf W64 g n)))):=by
 obtain ⟨a,c,⟨rfl,h1,h2,h3⟩,hr,hc⟩:=h;refine ⟨a,c,rfl,?_⟩;rcases Nat.lt_or_ge n 2 with hn | hn
 ·rcases Nat.eq_zero_or_pos n with h0 | h0
  ·subst h0;exact .inl ⟨rfl,rfl⟩
  ·obtain rfl:n=1:=by omega
   obtain ⟨b,aa,e,ab⟩:=hr 0 (by omega)
   have ac:vf W64 g 1=g 0:=by simp[vf]
   exact .inr ⟨rfl,b,aa,e,by rw[ac];exact ab⟩
 ·exfalso;have h4:=hc.ge (by omega);have h5:W64^1≤W64^(n - 1):=Nat.pow_le_pow_right (by decide) (by omega);rw[Nat.pow_one] at h5
  have h6:W64=18446744073709551616:=by decide
  omega
def sgnL (b:Bool):List UInt8:=if b then [45] else []
def gVal (p:List UInt8):Value:=.string (bs p)
theorem string_sm (va:Value)(z:Int)(w:World)(h:va=.agg #[.int .i64 z,.slice none 0 0])(lo: -9223372036854775808≤z)(hi:z≤9223372036854775807)(he:Env w):Calls prog 190 #[va] w fun e w'=>e=.returned (.string ⟨(Lib.itoa z).toArray⟩)∧New w w':=by
 have q1:=eql_nil;subst h;replace he:=hid he;go_in;go_wp2_with fail;obtain ⟨BA,HN⟩:=lay1 w 113 #[.int .i64 z,.slice none 0 0];refine zM (itoa_calls z _ (he.out.new HN.out) lo hi) fun w2 hn=>?_;replace HN:=tW HN hn;clear hn;go_wp2_with fail;go_ret;exact ⟨rfl,HN.out⟩
theorem wds_canon {w:World}{v:Value}{m:Nat}{f:Nat→Nat}(h:Wds w v m f):Canon W64 f m:=by
 obtain ⟨a,c, -, -,h⟩:=h;exact h
theorem words_few {f:Nat→Nat}{m:Nat}(h:Canon W64 f m)(hv:vf W64 f m < 2^40000):m≤1000000:=by
 rcases Nat.eq_zero_or_pos m with h0 | h0
 ·omega
 ·have h1:=Nat.lt_of_le_of_lt (h.ge (by omega)) hv;rw[show W64=2^64 by decide,←Nat.pow_mul] at h1;have:=(Nat.pow_lt_pow_iff_right (by omega)).1 h1;omega
theorem words_zero {f:Nat→Nat}{m:Nat}(h:Canon W64 f m)(hv:vf W64 f m=0):m=0:=by
 rcases Nat.eq_zero_or_pos m with h0 | h0
 ·exact h0
 ·have h1:=h.ge (by omega);have h2:=Nat.one_le_pow (m - 1) W64 (by decide);omega
theorem GrpN.le {T g L:Nat}(h:GrpN T g L)(h0:g≠0):g≤T:=by
 have h1:=h.2 h0;have h2:=Nat.mul_le_mul_right g (Nat.one_le_pow L 2 (by omega));omega
theorem own_lt1 {w:World}{B n k:Nat}{e:TypeId}{v:Value}{xs:List Value}(h:w.ownsRow B e 1 v n xs)(hk:v.ownBlock=some k):k < w.heap.size:=by
 rcases h.2 with ⟨rfl, -⟩ | ⟨g,aa,ab,rfl,h2,h3, -⟩
 ·cases hk
 ·obtain rfl:g=k:=by injection hk
  rcases Nat.lt_or_ge g w.heap.size with h | h
  ·exact h
  ·rw[Array.getElem?_eq_none h] at h3;cases h3
theorem wds_grown {w w':World}{v:Value}{m:Nat}{f:Nat→Nat}{row:Option Nat}(h:Wds w v m f)(hg:w.grownBy w' row)(hne:∀ (b ab:Nat) (p:Option Nat) (n c:Nat),v=.slice (some ⟨b,ab,p⟩) n c→row≠some b):Wds w' v m f:=by
 obtain ⟨a,c,⟨rfl,h1,h2,h3⟩,hr,hc⟩:=h;refine ⟨a,c,⟨rfl,h1,h2,h3⟩,fun i hi=>?_,hc⟩;obtain ⟨b,ab,rfl,aa⟩:=hr i hi;refine ⟨b,ab,rfl,?_⟩
 have ac:b < w.heap.size:=by
  rcases Nat.lt_or_ge b w.heap.size with h | h
  ·exact h
  ·unfold World.cell? at aa;rw[Array.getElem?_eq_none h] at aa;cases aa
 have hb:=hg.block b ac (fun e=>hne b ab none m c rfl e.symm);unfold World.cell? at aa⊢;rw[hb];exact aa
def BRel (w:World)(B8 b:Nat)(v6:Value)(ps:List (List UInt8))(sg:List UInt8)(k:Nat)(wx:World):Prop:=
 Lib.IsBuilderF 237 5 w.heap.size b (Lib.byteCells (sg ++ grpOut ps k)) wx∧wx.ownsRow B8 9 1 v6 (ps.map gVal).length (ps.map gVal)∧New w wx
theorem BRel.write {w wx w':World} {B8 b k j:Nat} {v6:Value} {ps:List (List UInt8)} {sg sg':List UInt8} {s:ByteArray} (h:BRel w B8 b v6 ps sg k wx)
  (hat:Lib.BuilderAtF 237 5 w.heap.size b (.pointer (some ⟨b,0,none⟩)) (Lib.byteCells (sg ++ grpOut ps k) ++ Lib.strCells s) w') (hbl:Below w.heap.size wx w') (hko:Lib.OthersKept 5 (some b) wx w')
  (e:sg ++ grpOut ps k ++ s.data.toList=sg' ++ grpOut ps j):BRel w B8 b v6 ps sg' j w':=by
 obtain ⟨h1,h2,h3⟩:=h;refine ⟨.inr ?_,?_,Below.trans h3 hbl⟩
 ·rw[Lib.strCells_eq,←Lib.byteCells_append,e] at hat;exact hat
 ·obtain ⟨p, -,v,aa, -⟩:∃ p,Lib.BuilderAtF 237 5 w.heap.size b p (Lib.byteCells (sg ++ grpOut ps k)) wx:=by
   rcases h1 with h1 | h1
   ·exact ⟨_,h1⟩
   ·exact ⟨_,h1⟩
  exact own_kept h2 hko aa (by decide) (by decide)
theorem BRel.start {w wr:World}{B8:Nat}{v6:Value}{ps:List (List UInt8)}(hO:wr.ownsRow B8 9 1 v6 (ps.map gVal).length (ps.map gVal))(hN:New w wr):
  BRel w B8 wr.heap.size v6 ps [] ps.length (wr.alloc (.cells #[.pointer none,.slice none 0 0] 237)):=by
 refine ⟨.inl ⟨hN.size,.slice none 0 0,Box.alloc wr _ 237 #[.pointer none,.slice none 0 0] rfl,?_,by simp[Value.ownBlock]⟩,hO.alloc _,hN.alloc _⟩;rw[grpOut_end,List.nil_append];exact World.ownsRowF_of (World.ownsRow_nil _ _ _ _)
def SRel (w8:World)(T g:Nat)(v4 v6:Value)(wr:World):Prop:=∃ (a:Option Addr) (m c:Nat) (fw:Nat→Nat) (ps:List (List UInt8)),v4=.slice a m c∧Hid (Wds wr v4 m fw∧vf W64 fw m=g)∧Hid (Grp T g ps)∧Hid (∀ p∈ps,p.length≤18)∧Hid (GrpN T g ps.length)∧Hid (wr.ownsRow w8.heap.size 9 1 v6 (ps.map gVal).length (ps.map gVal))∧Hid (New w8 wr)
theorem string_calls (va:Value)(z:Int)(w:World)(hx:IsInt w va z)(hb:BdK 40000 z)(he:Env w):Calls prog 190 #[va] w fun e w'=>e=.returned (.string ⟨(Lib.itoa z).toArray⟩)∧New w w':=by
 have hX:=hx;rcases hx with ⟨rfl,lo,hi⟩ | ⟨b,be,n,dd,f,s,rfl,hs,hw,h0,hv,hz⟩
 ·exact string_sm _ z w rfl lo hi he
 have cn:z.natAbs≠0:=by rcases hs with rfl | rfl <;> omega
 obtain ⟨T,hT⟩:∃ T,z.natAbs=T:=⟨_,rfl⟩
 have c4:T < 2^40000:=by rw[←hT];exact hb
 rw[hT]at cn;obtain ⟨ng,am⟩:∃ ng,decide (z < 0)=ng:=⟨_,rfl⟩
 have b9:∀ u,u=sgnL ng ++ Lib.decDigits T→Ending.returned (.string ⟨u.toArray⟩)=.returned (.string ⟨(Lib.itoa z).toArray⟩):=by
  rintro u rfl;rw[←am,←hT];rcases Int.lt_or_le z 0 with h | h
  ·rw[decide_eq_true h]
   conv=>rhs;rw[show z= -(z.natAbs:Int) by omega,Big.itoa_neg (by omega)]
   rfl
  ·rw[decide_eq_false (by omega)]
   conv=>rhs;rw[show z=(z.natAbs:Int) by omega,Big.itoa_nonneg]
   rfl
 obtain ⟨i0,hi,bu,b5,b6⟩:=info_parts info_string;have q1:=eql_nil;clear hs hw h0 hv hz hb;refine zh7 ?_ hX he c4 cn hT am b9;clear hX he c4 cn hT am b9;intro cv HE a5 ct db da b8;go_in;go_wp2_with fail;obtain ⟨BA,HN⟩:=lay1 w 113 #[.int .i64 s,.slice (some ⟨b,be,none⟩) n dd];refine (parts_calls _ z _ (cv.out.new HN.out)).mono ?_;rintro e w1 ⟨vw,n1,f1,rfl,hn,bq,bc⟩;rw[da.out];rw[db.out] at bc;clear cv BA;replace HN:=tW HN hn;clear hn;have bv:=hid bq;have cu:=hid bc;clear bq bc
 obtain ⟨a1,c1,rfl⟩:∃ a c,vw=.slice a n1 c:=by
  obtain ⟨a,c,⟨e, -⟩, -⟩:=bv.out;exact ⟨a,c,e⟩
 go_wp2_with fail;obtain ⟨BK,hn⟩:=lay1 w1 198 #[.int .u64 1000000000000000000];obtain ⟨HN,bv⟩:=zn2 hn HN bv.out.new;clear hn;obtain ⟨w8,c8⟩:∃ x,w1.alloc (.cells #[.int .u64 1000000000000000000] 198)=x:=⟨_,rfl⟩;rw[c8] at BK HN bv⊢;clear c8;have ba:∀ W,New w8 W→Wds W (.slice (some ⟨w1.heap.size,0,none⟩) 1 1) 1 (fun _=>1000000000000000000):=fun W h=>(wds_box (x:=1000000000000000000) BK.out (by decide) (by decide)).new h;have az:SRel w8 T T (.slice a1 n1 c1) (.slice none 0 0) w8:=⟨a1,n1,c1,f1,[],rfl,hid ⟨bv.out,cu.out⟩,hid (Grp.start ct.out),hid (fun p hp=>by cases hp),hid (GrpN.start T),hid (World.ownsRow_nil _ _ _ _),hid (New.refl _)⟩;have cp:=HN;clear HN bv cu BK;replace ba:=hid ba;replace az:=hid az
 go_loopg [4,6] T (fun g v4 v6 wr=>SRel w8 T g v4 v6 wr)
 case atStart=>exact az.out
 case round=>
  clear az;obtain ⟨a,m,c,fw,ps,rfl,ch,af,ae,ac,HO,HN⟩:=hrel;obtain ⟨bq,bc⟩:=ch.out;have bt:=wds_canon bq;rcases Nat.eq_zero_or_pos gk with h0 | h0
  ·subst h0;obtain rfl:=words_zero bt bc;clear bq bc bt ch a5 ct ba;have c0:=af.out.end_;obtain ⟨N,hN⟩:∃ N,ps.length=N:=⟨_,rfl⟩
   have cw:(ps.map gVal).length=N:=by rw[List.length_map];exact hN
   obtain ⟨a6,c6,c5⟩:∃ a c,_=Value.slice a (ps.map gVal).length c:=by
    obtain ⟨a6,c6,e6, -⟩:=own_rd HO.out;exact ⟨a6,c6,e6⟩
   rw[cw]at c5;subst c5;have ao:=BRel.start HO.out (cp.out.trans HN.out)
   have ax:(N:Int)≤40001:=by have:=ac.out.1;omega
   rw[hN]at ao;clear cw af HO HN;have cs:=hid c0;have bf:=hid hN;clear c0 hN
   cases ng with
   | false=>
    have ao:BRel w w8.heap.size wr.heap.size (.slice a6 N c6) ps (sgnL false) ps.length (wr.alloc (.cells #[.pointer none,.slice none 0 0] 237)):=by rw[bf.out];exact ao
    have a9:=hid ao;clear ao;go_wp2_with fail;obtain ⟨dh,bj⟩:∃ x,wr.alloc (.cells #[.pointer none,.slice none 0 0] 237)=x:=⟨_,rfl⟩;rw[bj] at a9⊢;clear bj;obtain ⟨Bb,b0⟩:∃ x,wr.heap.size=x:=⟨_,rfl⟩;rw[b0] at a9⊢;clear b0;go_loopw [11] (fun i wx=>∃ k:Nat,k≤N∧i=.int .i64 ((k:Int) - 1)∧Hid (BRel w w8.heap.size Bb (.slice a6 N c6) ps (sgnL false) k wx)) (fun i _=>(RowKit.intOf i+1).toNat)
    case atStart=>
     have h:=a9.out;rw[bf.out] at h;exact ⟨N,Nat.le_refl _,rfl,hid h⟩
    case round=>
     clear a9;obtain ⟨k,hk,rfl,al⟩:=hrel;rcases Nat.eq_zero_or_pos k with h0 | h0
     ·subst h0;go_wp2_with fail;refine (Tryz.Builder_String_any_k w.heap.size Bb _ _ al.out.1 al.out.2.2.size).mono ?_;rintro e co ⟨rfl, -,an, -⟩;have cb:=hid (Below.trans al.out.2.2 an);clear an;go_wp2_with fail;go_ret;exact ⟨b8.out _ (by unfold grpOut;rw[List.drop_zero,cs.out]),cb.out⟩
     ·obtain ⟨j,rfl⟩:∃ j,k=j+1:=⟨k - 1,by omega⟩
      have bo:j < ps.length:=by rw[bf.out];omega
      have e1:(((j+1:Nat):Int) - 1)=(j:Int):=by omega
      rw[e1];clear e1;obtain ⟨a7,c7,e7,bp, -⟩:=own_rd al.out.2.1
      have e8:a6=a7:=by injection e7
      rw[←e8]at bp;obtain ⟨b7,o7,rfl,bn⟩:=bp j (by rw[List.length_map];exact bo);rw[List.getElem_map] at bn;have ah:wr.cell? ⟨b7,o7+j,none⟩=some (.string (bs ps[j])):=bn;clear bn;obtain ⟨p,hp⟩:∃ p,ps[j]=p:=⟨_,rfl⟩
      have cl:p.length≤18:=by rw[←hp];exact ae.out _ (List.getElem_mem _)
      rw[hp]at ah
      have df:(j:Int) < (N:Int):=by omega
      have bk:=fun W h1 h2 h3=>bwrite_calls w.heap.size Bb (Lib.byteCells (sgnL false ++ grpOut ps (j+1))) (bs p) W h1 h2 h3
      have aw:(Lib.byteCells (sgnL false ++ grpOut ps (j+1))).length+(bs p).size≤140737488355328:=by
       have h1:=grpOut_len ae.out (j+1);have h2:=ac.out.1
       have h3:(sgnL false).length≤1:=by decide
       rw[Lib.byteCells_length,bs_size,List.length_append];omega
      have b3:sgnL false ++ grpOut ps (j+1) ++ (bs p).data.toList=sgnL false ++ grpOut ps j:=by
       rw[bs_list,grpOut_next bo,hp,List.append_assoc]
      clear hp cl bp e7 e8 bo h0;refine zh3 ?_ bk aw b3;clear bk aw b3;intro bz a8 cd;go_wp2_with fail;refine (bz.out _ al.out.1 a8.out al.out.2.2.size).mono ?_;rintro e co ⟨rfl,bh,an,bi⟩;have ca:=hid (al.out.write bh an bi cd.out);clear bh an bi ah;go_wp2_with fail;go_roundw
      case rel=>exact ⟨j,by omega,by go_num,ca⟩
      case measure=>simp[RowKit.intOf]
   | true=>
    have aw:(Lib.byteCells ([] ++ grpOut ps N)).length+(⟨#[45]⟩:ByteArray).size≤140737488355328:=by
     rw[←bf.out,grpOut_end];decide
    have a9:=hid ao;have a8:=hid aw;clear ao aw;go_wp2_with fail;refine (bwrite_calls w.heap.size wr.heap.size _ ⟨#[45]⟩ _ a9.out.1 a8.out a9.out.2.2.size).mono ?_;rintro e c9 ⟨rfl,bh,an,bi⟩;have ao:BRel w w8.heap.size wr.heap.size (.slice a6 N c6) ps (sgnL true) ps.length c9:=a9.out.write bh an bi (by rw[bf.out,←bf.out,grpOut_end];rfl);clear bh an bi a9 a8;replace ao:=hid ao;go_wp2_with fail;obtain ⟨dh,bj⟩:∃ x,c9=x:=⟨_,rfl⟩;rw[bj] at ao⊢;clear bj;obtain ⟨Bb,b0⟩:∃ x,wr.heap.size=x:=⟨_,rfl⟩;rw[b0] at ao⊢;clear b0;go_loopw [11] (fun i wx=>∃ k:Nat,k≤N∧i=.int .i64 ((k:Int) - 1)∧Hid (BRel w w8.heap.size Bb (.slice a6 N c6) ps (sgnL true) k wx)) (fun i _=>(RowKit.intOf i+1).toNat)
    case atStart=>
     have h:=ao.out;rw[bf.out] at h;exact ⟨N,Nat.le_refl _,rfl,hid h⟩
    case round=>
     clear ao;obtain ⟨k,hk,rfl,al⟩:=hrel;rcases Nat.eq_zero_or_pos k with h0 | h0
     ·subst h0;go_wp2_with fail;refine (Tryz.Builder_String_any_k w.heap.size Bb _ _ al.out.1 al.out.2.2.size).mono ?_;rintro e co ⟨rfl, -,an, -⟩;have cb:=hid (Below.trans al.out.2.2 an);clear an;go_wp2_with fail;go_ret;exact ⟨b8.out _ (by unfold grpOut;rw[List.drop_zero,cs.out]),cb.out⟩
     ·obtain ⟨j,rfl⟩:∃ j,k=j+1:=⟨k - 1,by omega⟩
      have bo:j < ps.length:=by rw[bf.out];omega
      have e1:(((j+1:Nat):Int) - 1)=(j:Int):=by omega
      rw[e1];clear e1;obtain ⟨a7,c7,e7,bp, -⟩:=own_rd al.out.2.1
      have e8:a6=a7:=by injection e7
      rw[←e8]at bp;obtain ⟨b7,o7,rfl,bn⟩:=bp j (by rw[List.length_map];exact bo);rw[List.getElem_map] at bn;have ah:wr.cell? ⟨b7,o7+j,none⟩=some (.string (bs ps[j])):=bn;clear bn;obtain ⟨p,hp⟩:∃ p,ps[j]=p:=⟨_,rfl⟩
      have cl:p.length≤18:=by rw[←hp];exact ae.out _ (List.getElem_mem _)
      rw[hp]at ah
      have df:(j:Int) < (N:Int):=by omega
      have bk:=fun W h1 h2 h3=>bwrite_calls w.heap.size Bb (Lib.byteCells (sgnL true ++ grpOut ps (j+1))) (bs p) W h1 h2 h3
      have aw:(Lib.byteCells (sgnL true ++ grpOut ps (j+1))).length+(bs p).size≤140737488355328:=by
       have h1:=grpOut_len ae.out (j+1);have h2:=ac.out.1
       have h3:(sgnL true).length≤1:=by decide
       rw[Lib.byteCells_length,bs_size,List.length_append];omega
      have b3:sgnL true ++ grpOut ps (j+1) ++ (bs p).data.toList=sgnL true ++ grpOut ps j:=by
       rw[bs_list,grpOut_next bo,hp,List.append_assoc]
      clear hp cl bp e7 e8 bo h0;refine zh3 ?_ bk aw b3;clear bk aw b3;intro bz a8 cd;go_wp2_with fail;refine (bz.out _ al.out.1 a8.out al.out.2.2.size).mono ?_;rintro e co ⟨rfl,bh,an,bi⟩;have ca:=hid (al.out.write bh an bi cd.out);clear bh an bi ah;go_wp2_with fail;go_roundw
      case rel=>exact ⟨j,by omega,by go_num,ca⟩
      case measure=>simp[RowKit.intOf]
  ·have dg:0 < m:=by
    rcases Nat.eq_zero_or_pos m with h3 | h3
    ·subst h3;have h4:vf W64 fw 0=0:=rfl;omega
    ·exact h3
   have cz:=words_few bt (by rw[bc];exact Nat.lt_of_le_of_lt (ac.out.le (by omega)) a5.out);have b1:=divide_fresh _ _ m fw _ wr cz bq (ba.out wr HN.out);rw[bc,show vf W64 (fun _=>1000000000000000000) 1=1000000000000000000 by simp[vf]] at b1
   have bx:(0:Int) < (m:Int):=by omega
   have ck:decide ((0:Int) < (m:Int))=true:=decide_eq_true bx
   have ag:gk≠0:=by omega
   clear cz bt bq bc dg h0 ch;replace b1:=hid b1;replace ag:=hid ag;go_wp2_with fail;refine b1.out.mono ?_;rintro e w2 ⟨vq,vr,mq,nr,fq,gr,rfl,hn,cm,bk,cj,ak,cy⟩;clear b1 bx ck
   obtain ⟨aq,cq,rfl⟩:∃ a c,vq=.slice a mq c:=by
    obtain ⟨a,c,⟨e, -⟩, -⟩:=cm;exact ⟨a,c,e⟩
   obtain ⟨q,hq⟩:∃ q,vf W64 fq mq=q:=⟨_,rfl⟩;obtain ⟨r,hr⟩:∃ r,vf W64 gr nr=r:=⟨_,rfl⟩;rw[hq,hr] at cj;rw[hr] at ak;obtain ⟨S,hS⟩:∃ S,bs (Lib.decDigits r)=S:=⟨_,rfl⟩
   have de:S.size≤18:=by rw[←hS,bs_size];exact dig18 ak
   refine zh8 ?_ hn cm bk cj ak cy hq hr;clear hn cm bk cj ak cy hq hr;intro ap bw dc aj ab b4 bg cg;rcases few_words dc.out (by rw[cg.out];exact ab.out) with ⟨ar,cr,rfl,⟨rfl,hv0⟩ | ⟨rfl,br,offr,rfl,ah⟩⟩
   ·have c2:r=0:=by rw[←cg.out];exact hv0
    have c3:bs (Lib.decDigits r)=⟨#[48]⟩:=by rw[c2,decDigits_zero];rfl
    have hX:=New.refl w2;clear c2 hv0 hS de;have HX:=hid hX;have ce:=hid c3;clear hX c3;rcases Nat.eq_zero_or_pos mq with b2 | b2
    ·subst b2;have bb:q=0:=bg.out.symm;subst bb
     have au:([grpT 0 r]:List (List UInt8)).map gVal=[Value.string ⟨#[48]⟩]:=by
      rw[grp_zero];show [Value.string (bs (Lib.decDigits r))]=_;rw[ce.out]
     have cf:=hid au;clear au;have ai:(grpT 0 r).length≤18:=grp_len ab.out
     have a4:∀ p∈ps ++ [grpT 0 r],p.length≤18:=fun p hp=>by
      rcases List.mem_append.1 hp with h | h
      ·exact ae.out p h
      ·rw[List.mem_singleton] at h;rw[h];exact ai
     have am:=af.out.step ag.out aj.out ab.out;have a3:=ac.out.step a5.out ag.out aj.out;have ak:=ac.out.lt a5.out ag.out;have hO:=own_new HO.out (ap.out.trans HX.out);have hN:=HN.out.trans (ap.out.trans HX.out);have bm:=HO;have bl:=aj;clear HN HO af ac ae ab aj ai;refine zh6 ?_ a4 am a3 ak hO hN;clear a4 am a3 ak hO hN;intro ae af ac a0 HO HN
     have h1:∀ u∈[Value.string ⟨#[48]⟩],u.oneCell'=true:=by intro u hu;simp at hu;rw[hu];rfl
     have H1:=hid h1;clear h1;go_wp2_with (at_builtin;refine wpList_append_own _ rfl _ _ 231 rfl w8.heap.size 9 i0 (.string ⟨#[]⟩) 1 16 underlying231 hi bu b5 b6 rfl (by decide) _ _ _ rfl (HO.out.alloc _) ⟨w2.heap.size,0,none⟩ 1 1 [Value.string ⟨#[48]⟩] rfl rfl (one_c1 _ _ _) H1.out (by have:=a0.out;unfold maxLen;rw[List.length_map];omega) (by have:=a0.out;rw[List.length_map];omega) (by have:=HN.out.size;rw[←size_alloc];omega) ?_);intro v' w9 ad aa _;have ax:=grown_new HN.out HO.out aa
     have a2:w9.ownsRow w8.heap.size 9 1 v' ((ps ++ [grpT 0 r]).map gVal).length ((ps ++ [grpT 0 r]).map gVal):=by
      rw[List.map_append,show ([grpT 0 r]:List (List UInt8)).map gVal=[Value.string ⟨#[48]⟩] from cf.out];simpa using ad
     have hw:=wds_grown ((bw.out.new HX.out).new ((New.refl w2).alloc _)) aa (fun b be p n c e h=>by
      have h1:=own_lt1 bm.out h;have h2:=b4.out b be p n c e
      omega)
     clear ad aa HN HO HX ap;refine zh3 ?_ ax a2 hw;clear ax a2 hw;intro HN HO HW;go_wp2_with fail
     go_roundg 0
     case measure=>have h1:=bl.out;have h2:=ag.out;omega
     case rel=>exact ⟨aq,_,cq,fq,ps ++ [grpT 0 r],rfl,hid ⟨HW.out,bg.out⟩,af,ae,by rw[List.length_append];exact ac,HO,HN⟩
    ·have bx:(0:Int) < (mq:Int):=by omega
     have ck:decide ((0:Int) < (mq:Int))=true:=decide_eq_true bx
     have bb:q≠0:=by
      have h1:=(wds_canon bw.out).ge (by omega);have h2:=Nat.one_le_pow (mq - 1) W64 (by decide);rw[bg.out] at h1;omega
     have ay:=fun W=>repeat_calls (17) W (by omega);obtain ⟨R,hR⟩:∃ R,bs (List.replicate (17) 48)=R:=⟨_,rfl⟩
     have ci:R.size=17:=by rw[←hR,bs_size,List.length_replicate]
     simp only[hR]at ay
     have au:([grpT q r]:List (List UInt8)).map gVal=[Value.string (R ++ ⟨#[48]⟩)]:=by
      rw[grp_pad bb ab.out];show [Value.string (bs (List.replicate _ 48 ++ Lib.decDigits r))]=_;rw[←bs_append,ce.out,←hR,←bs_size (Lib.decDigits r),ce.out];rfl
     have cx:¬9223372036854775807 < R.size+1:=by omega
     clear hR ci bb;replace au:=hid au;replace ay:=hid ay;go_wp2_with fail;refine zM (ay.out _) fun w4 hn=>?_;have av:=HX.out.trans hn;clear HX hn ay;replace av:=hid av;have ai:(grpT q r).length≤18:=grp_len ab.out
     have a4:∀ p∈ps ++ [grpT q r],p.length≤18:=fun p hp=>by
      rcases List.mem_append.1 hp with h | h
      ·exact ae.out p h
      ·rw[List.mem_singleton] at h;rw[h];exact ai
     have am:=af.out.step ag.out aj.out ab.out;have a3:=ac.out.step a5.out ag.out aj.out;have ak:=ac.out.lt a5.out ag.out;have hO:=own_new HO.out (ap.out.trans av.out);have hN:=HN.out.trans (ap.out.trans av.out);have bm:=HO;have bl:=aj;clear HN HO af ac ae ab aj ai;refine zh6 ?_ a4 am a3 ak hO hN;clear a4 am a3 ak hO hN;intro ae af ac a0 HO HN
     have h1:∀ u∈[Value.string (R ++ ⟨#[48]⟩)],u.oneCell'=true:=by intro u hu;simp at hu;rw[hu];rfl
     have H1:=hid h1;clear h1;go_wp2_with (at_builtin;refine wpList_append_own _ rfl _ _ 231 rfl w8.heap.size 9 i0 (.string ⟨#[]⟩) 1 16 underlying231 hi bu b5 b6 rfl (by decide) _ _ _ rfl (HO.out.alloc _) ⟨w4.heap.size,0,none⟩ 1 1 [Value.string (R ++ ⟨#[48]⟩)] rfl rfl (one_c1 _ _ _) H1.out (by have:=a0.out;unfold maxLen;rw[List.length_map];omega) (by have:=a0.out;rw[List.length_map];omega) (by have:=HN.out.size;rw[←size_alloc];omega) ?_);intro v' w9 ad aa _;have ax:=grown_new HN.out HO.out aa
     have a2:w9.ownsRow w8.heap.size 9 1 v' ((ps ++ [grpT q r]).map gVal).length ((ps ++ [grpT q r]).map gVal):=by
      rw[List.map_append,show ([grpT q r]:List (List UInt8)).map gVal=[Value.string (R ++ ⟨#[48]⟩)] from au.out];simpa using ad
     have hw:=wds_grown ((bw.out.new av.out).new ((New.refl w4).alloc _)) aa (fun b be p n c e h=>by
      have h1:=own_lt1 bm.out h;have h2:=b4.out b be p n c e
      omega)
     clear ad aa HN HO av ap;refine zh3 ?_ ax a2 hw;clear ax a2 hw;intro HN HO HW;go_wp2_with fail
     go_roundg q
     case measure=>have h1:=bl.out;have h2:=ag.out;omega
     case rel=>exact ⟨aq,_,cq,fq,ps ++ [grpT q r],rfl,hid ⟨HW.out,bg.out⟩,af,ae,by rw[List.length_append];exact ac,HO,HN⟩
   ·rw[cg.out] at ah;replace hS:=hid hS;go_wp2_with fail;refine (fmtU_calls r _ (HE.out.new (cp.out.trans (HN.out.trans ap.out))) (by have:=ab.out;omega)).mono ?_;rintro e w3 ⟨rfl,hX⟩;clear ah;rw[hS.out];have HX:=hid hX;clear hX;rcases Nat.eq_zero_or_pos mq with b2 | b2
    ·subst b2;have bb:q=0:=bg.out.symm;subst bb
     have au:([grpT 0 r]:List (List UInt8)).map gVal=[Value.string S]:=by
      rw[grp_zero];show [Value.string (bs (Lib.decDigits r))]=_;rw[hS.out]
     have cf:=hid au;clear au;have ai:(grpT 0 r).length≤18:=grp_len ab.out
     have a4:∀ p∈ps ++ [grpT 0 r],p.length≤18:=fun p hp=>by
      rcases List.mem_append.1 hp with h | h
      ·exact ae.out p h
      ·rw[List.mem_singleton] at h;rw[h];exact ai
     have am:=af.out.step ag.out aj.out ab.out;have a3:=ac.out.step a5.out ag.out aj.out;have ak:=ac.out.lt a5.out ag.out;have hO:=own_new HO.out (ap.out.trans HX.out);have hN:=HN.out.trans (ap.out.trans HX.out);have bm:=HO;have bl:=aj;clear HN HO af ac ae ab aj ai;refine zh6 ?_ a4 am a3 ak hO hN;clear a4 am a3 ak hO hN;intro ae af ac a0 HO HN
     have h1:∀ u∈[Value.string S],u.oneCell'=true:=by intro u hu;simp at hu;rw[hu];rfl
     have H1:=hid h1;clear h1;go_wp2_with (at_builtin;refine wpList_append_own _ rfl _ _ 231 rfl w8.heap.size 9 i0 (.string ⟨#[]⟩) 1 16 underlying231 hi bu b5 b6 rfl (by decide) _ _ _ rfl (HO.out.alloc _) ⟨w3.heap.size,0,none⟩ 1 1 [Value.string S] rfl rfl (one_c1 _ _ _) H1.out (by have:=a0.out;unfold maxLen;rw[List.length_map];omega) (by have:=a0.out;rw[List.length_map];omega) (by have:=HN.out.size;rw[←size_alloc];omega) ?_);intro v' w9 ad aa _;have ax:=grown_new HN.out HO.out aa
     have a2:w9.ownsRow w8.heap.size 9 1 v' ((ps ++ [grpT 0 r]).map gVal).length ((ps ++ [grpT 0 r]).map gVal):=by
      rw[List.map_append,show ([grpT 0 r]:List (List UInt8)).map gVal=[Value.string S] from cf.out];simpa using ad
     have hw:=wds_grown ((bw.out.new HX.out).new ((New.refl w3).alloc _)) aa (fun b be p n c e h=>by
      have h1:=own_lt1 bm.out h;have h2:=b4.out b be p n c e
      omega)
     clear ad aa HN HO HX ap;refine zh3 ?_ ax a2 hw;clear ax a2 hw;intro HN HO HW;go_wp2_with fail
     go_roundg 0
     case measure=>have h1:=bl.out;have h2:=ag.out;omega
     case rel=>exact ⟨aq,_,cq,fq,ps ++ [grpT 0 r],rfl,hid ⟨HW.out,bg.out⟩,af,ae,by rw[List.length_append];exact ac,HO,HN⟩
    ·have bx:(0:Int) < (mq:Int):=by omega
     have ck:decide ((0:Int) < (mq:Int))=true:=decide_eq_true bx
     have bb:q≠0:=by
      have h1:=(wds_canon bw.out).ge (by omega);have h2:=Nat.one_le_pow (mq - 1) W64 (by decide);rw[bg.out] at h1;omega
     have ay:=fun W=>repeat_calls (18 - S.size) W (by omega);obtain ⟨R,hR⟩:∃ R,bs (List.replicate (18 - S.size) 48)=R:=⟨_,rfl⟩
     have ci:R.size=18 - S.size:=by rw[←hR,bs_size,List.length_replicate]
     simp only[hR]at ay;simp only[show ((18 - S.size:Nat):Int)=18 - (S.size:Int) from by omega] at ay
     have au:([grpT q r]:List (List UInt8)).map gVal=[Value.string (R ++ S)]:=by
      rw[grp_pad bb ab.out];show [Value.string (bs (List.replicate _ 48 ++ Lib.decDigits r))]=_;rw[←bs_append,hS.out,←hR,←bs_size (Lib.decDigits r),hS.out]
      skip
     have cx:¬9223372036854775807 < R.size+S.size:=by omega
     clear hR ci bb;replace au:=hid au;replace ay:=hid ay;go_wp2_with fail;refine zM (ay.out _) fun w4 hn=>?_;have av:=HX.out.trans hn;clear HX hn ay;replace av:=hid av;have ai:(grpT q r).length≤18:=grp_len ab.out
     have a4:∀ p∈ps ++ [grpT q r],p.length≤18:=fun p hp=>by
      rcases List.mem_append.1 hp with h | h
      ·exact ae.out p h
      ·rw[List.mem_singleton] at h;rw[h];exact ai
     have am:=af.out.step ag.out aj.out ab.out;have a3:=ac.out.step a5.out ag.out aj.out;have ak:=ac.out.lt a5.out ag.out;have hO:=own_new HO.out (ap.out.trans av.out);have hN:=HN.out.trans (ap.out.trans av.out);have bm:=HO;have bl:=aj;clear HN HO af ac ae ab aj ai;refine zh6 ?_ a4 am a3 ak hO hN;clear a4 am a3 ak hO hN;intro ae af ac a0 HO HN
     have h1:∀ u∈[Value.string (R ++ S)],u.oneCell'=true:=by intro u hu;simp at hu;rw[hu];rfl
     have H1:=hid h1;clear h1;go_wp2_with (at_builtin;refine wpList_append_own _ rfl _ _ 231 rfl w8.heap.size 9 i0 (.string ⟨#[]⟩) 1 16 underlying231 hi bu b5 b6 rfl (by decide) _ _ _ rfl (HO.out.alloc _) ⟨w4.heap.size,0,none⟩ 1 1 [Value.string (R ++ S)] rfl rfl (one_c1 _ _ _) H1.out (by have:=a0.out;unfold maxLen;rw[List.length_map];omega) (by have:=a0.out;rw[List.length_map];omega) (by have:=HN.out.size;rw[←size_alloc];omega) ?_);intro v' w9 ad aa _;have ax:=grown_new HN.out HO.out aa
     have a2:w9.ownsRow w8.heap.size 9 1 v' ((ps ++ [grpT q r]).map gVal).length ((ps ++ [grpT q r]).map gVal):=by
      rw[List.map_append,show ([grpT q r]:List (List UInt8)).map gVal=[Value.string (R ++ S)] from au.out];simpa using ad
     have hw:=wds_grown ((bw.out.new av.out).new ((New.refl w4).alloc _)) aa (fun b be p n c e h=>by
      have h1:=own_lt1 bm.out h;have h2:=b4.out b be p n c e
      omega)
     clear ad aa HN HO av ap;refine zh3 ?_ ax a2 hw;clear ax a2 hw;intro HN HO HW;go_wp2_with fail
     go_roundg q
     case measure=>have h1:=bl.out;have h2:=ag.out;omega
     case rel=>exact ⟨aq,_,cq,fq,ps ++ [grpT q r],rfl,hid ⟨HW.out,bg.out⟩,af,ae,by rw[List.length_append];exact ac,HO,HN⟩
theorem dec_few {k n:Nat}(hn:n < 2^k):(Lib.decDigits n).length≤k+1:=by
 rw[Lib.decDigits_length,nDigits_le_iff (by omega)];exact Nat.lt_of_lt_of_le hn (Nat.le_trans (Nat.pow_le_pow_left (by omega:2≤10) k) (Nat.pow_le_pow_right (by omega) (by omega)))
theorem itoa_few {z:Int}{k:Nat}(h:BdK k z):(Lib.itoa z).length≤k+2:=by
 unfold BdK at h;rcases Int.lt_or_le z 0 with hz | hz
 ·obtain ⟨n,rfl⟩:∃ n:Nat,z= -(n:Int):=⟨z.natAbs,by omega⟩;rw[Big.itoa_neg (by omega),List.length_cons];have:=dec_few (n:=n) (by simpa using h);omega
 ·obtain ⟨n,rfl⟩:∃ n:Nat,z=(n:Int):=⟨z.toNat,by omega⟩;rw[Big.itoa_nonneg];have:=dec_few (n:=n) (by simpa using h);omega
theorem itoa_lenb {z:Int}(h:BdK 40000 z):(Lib.itoa z).length≤40002:=itoa_few h
theorem text_calls (va:Value)(q:Rat)(w:World)(hx:IsFrac w va q)(hs:FB 40000 q)(he:Env w):Calls prog 126 #[va] w fun e w'=>e=.returned (.string ⟨(ratText q).toArray⟩)∧New w w':=by
 have hX:=hx;obtain ⟨s,a,l,c,s',a',l',c',rfl,h1,h2⟩:=hx;by_cases hd:q.den=1
 ·have ht:ratText q=Lib.itoa q.num:=by unfold ratText;rw[if_pos hd]
  rw[ht];have d1:=decide_eq_true hd;refine zh7 ?_ hX h1 h2 hs he hd ht;clear hX h1 h2 hs he hd ht;intro HX H1 H2 HS HE HD HT;go_in;go_wp2_with fail;obtain ⟨BA,HN⟩:=lay1 w 115 #[.int .i64 s,.slice a l c,.int .i64 s',.slice a' l' c'];refine zM (isWhole_calls _ q _ (HX.new HN)) fun w1 hn=>?_;rw[d1];obtain ⟨HN,BA⟩:=zn2 hn HN BA.new;clear hn;obtain ⟨⟨ac,ad,ae,af⟩,ag,ah,ai,aj,ak⟩:=BA.out.four;go_wp2_with fail;refine zM (string_calls _ q.num _ (H1.new HN) HS.num (HE.new HN)) fun w2 hn=>?_;replace HN:=tW HN hn;clear hn;go_wp2_with fail;go_ret;exact ⟨rfl,HN⟩
 ·obtain ⟨A,hA⟩:∃ A,Lib.itoa q.num=A:=⟨_,rfl⟩;obtain ⟨B,hB⟩:∃ B,Lib.itoa (q.den:Int)=B:=⟨_,rfl⟩
  have aa:A.length≤40002:=by rw[←hA];exact itoa_lenb hs.num
  have ab:B.length≤40002:=by rw[←hB];exact itoa_lenb hs.den
  have ht:ratText q=A ++ 47::B:=by
   unfold ratText;rw[if_neg hd,←hA,←hB,Big.itoa_nonneg]
  rw[ht];have d1:=decide_eq_false hd
  have al:¬9223372036854775807 < A.length+1:=by omega
  have am:¬9223372036854775807 < A.length+1+B.length:=by omega
  refine zh8 ?_ hX h1 h2 hs he hd hA hB;clear hX h1 h2 hs he hd hA hB;intro HX H1 H2 HS HE HD HA HB;clear ht aa ab;go_in;go_wp2_with fail;obtain ⟨BA,HN⟩:=lay1 w 115 #[.int .i64 s,.slice a l c,.int .i64 s',.slice a' l' c'];refine zM (isWhole_calls _ q _ (HX.new HN)) fun w1 hn=>?_;rw[d1];obtain ⟨HN,BA⟩:=zn2 hn HN BA.new;clear hn;have pa:=BA.out.four;go_wp2_with fail;clear pa;refine zR 8 9 (fun W=>zF W w.heap.size s a l c s' a' l' c') ?_;refine zT 0 (cW4 BA) ?_;refine zT 1 (cW4 BA) ?_;refine zT 4 (cW4 BA) ?_;refine zT 5 (cW4 BA) ?_;refine tk1 2 fun K hK=>?_;go_simp;refine zM (string_calls _ q.num _ (H1.new HN.drew) HS.num (HE.new HN.drew)) fun w2 hn=>?_;rw[HA.out];obtain ⟨HN,BA⟩:=zn2 hn.undrew HN BA.new;clear hn;refine zK hK (cW4 BA) ?_;clear hK K;refine zT 3 (cW4 BA) ?_;refine tk1 6 fun K hK=>?_;go_simp;refine zM (string_calls _ (q.den:Int) _ (H2.new HN) HS.den (HE.new HN)) fun w3 hn=>?_;rw[HB.out];obtain ⟨HN,BA⟩:=zn2 hn HN BA.new;clear hn;refine zK hK (cW4 BA) ?_;clear hK K;refine zT 7 (cW4 BA) ?_;refine tlW ?_;obtain ⟨⟨ac,ad,ae,af⟩,ag,ah,ai,aj,ak⟩:=BA.out.four;go_wp2_with fail;go_ret;exact ⟨ret_string (join3 A B 47),HN⟩
end Go.Proofs.YtnjonlnemagomaaGreatDoor
