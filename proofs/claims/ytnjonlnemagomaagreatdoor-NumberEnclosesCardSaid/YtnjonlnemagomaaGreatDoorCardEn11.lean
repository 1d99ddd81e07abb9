/- Part CardEn11. -/
import Derived.Test.YtnjonlnemagomaaGreatDoorCardEn10
namespace Go.Proofs.YtnjonlnemagomaaGreatDoor
open Go.RowKit Big Go.Lib Go.Proofs.Tryz
set_option maxRecDepth 100000
set_option maxHeartbeats 8000000
set_option linter.all false
theorem rs_bz:rs 0=⟨#[48]⟩:=rs_zero
theorem hasB_true {L H q:Rat}(h1:L≤q)(h2:q≤H)(k:Nat)(hk:k≤10000)(bL:RFB k L)(bH:RFB k H)(bq:RFB k q)(W:World):Calls prog 62 #[sp2 (rs L) (rs H),.string (rs q)] W (GivesE W (.bool true)):=rhas_calls L H q W k hk bL bH bq h1 h2
theorem encloses_all {x0 x1 y0 y1:Rat}{p0 p1:Nat}(hp0:p0≤255)(hp1:p1≤255)(f0:FB 56 x0)(f1:FB 56 x1)(hx:x0≤x1)(g0:FB 56 y0)(g1:FB 56 y1)(hy:y0≤y1):EncAll (rs x0) (rs x1) (rs y0) (rs y1) p0 p1:=by
 have ha:SpanOk x0 x1:=⟨f0.mono (by omega),f1.mono (by omega),hx⟩;have hb:SpanOk y0 y1:=⟨g0.mono (by omega),g1.mono (by omega),hy⟩;have af:=fun W=>(lwithin_calls x0 x1 p0 W hp0 (RFB.of f0) (RFB.of f1)).mono fun e w' h=>RetS.to rfl h;have ag:=fun W=>(lwithin_calls y0 y1 p1 W hp1 (RFB.of g0) (RFB.of g1)).mono fun e w' h=>RetS.to rfl h;obtain ⟨k0,k1⟩:=partQ_bd hp0;obtain ⟨k2,k3⟩:=partQ_bd hp1;obtain ⟨a0,a1⟩:=part_mem k0 k1 hx;obtain ⟨b0,b1⟩:=part_mem k2 k3 hy;have ab:∀ {p:Nat},p≤255→RFB 10 (partQ p):=fun {p} hp=>RFB.divInt (by rw[Int.natAbs_natCast];exact Nat.lt_of_le_of_lt hp (by decide)) (by decide) (by decide);have bx:RFB 200 (x0+partQ p0*(x1 - x0)):=((RFB.of f0).add ((ab hp0).mul ((RFB.of f1).sub (RFB.of f0)))).mono (by omega);have aa:RFB 200 (y0+partQ p1*(y1 - y0)):=((RFB.of g0).add ((ab hp1).mul ((RFB.of g1).sub (RFB.of g0)))).mono (by omega);obtain ⟨x,ad⟩:∃ x,x0+partQ p0*(x1 - x0)=x:=⟨_,rfl⟩;obtain ⟨y,ae⟩:∃ x,y0+partQ p1*(y1 - y0)=x:=⟨_,rfl⟩;rw[ad] at a0 a1 bx;rw[ae] at b0 b1 aa;simp only[ad] at af;simp only[ae] at ag;clear ad ae k0 k1 k2 k3;obtain ⟨L1,H1,u1,v1,ak,m1,c1⟩:=plus_enc ha hb;obtain ⟨L2,H2,u2,v2,al,m2,c2⟩:=minus_enc ha hb;obtain ⟨L3,H3,u3,v3,am,m3,c3⟩:=times_enc ha hb;obtain ⟨c,E,ah,ai⟩:=compare_enc ha hb;have n1:=m1 x y a0 a1 b0 b1;have n2:=m2 x y a0 a1 b0 b1;have n3:=m3 x y a0 a1 b0 b1;have chk:∀ {L H:Rat},FB 700 L→FB 700 H→L≤H→∀ W,Calls prog 36 #[sp2 (rs L) (rs H)] W (GivesE W (.int .i64 0)):=fun u v h W=>SpanOk.rchk (u.mono (by omega)) (v.mono (by omega)) h W;have w7:∀ {L:Rat},FB 700 L→RFB 1000 L:=fun u=>RFB.of (u.mono (by omega))
 refine ⟨rs x,rs y,rs L1,rs H1,rs (x+y),rs L2,rs H2,rs (x - y),rs L3,rs H3,rs (x*y),c,E,af,ag,⟨c1,chk u1 v1 ak,fun W=>(raddQ_calls 200 200 x y W bx aa (by omega)).mono fun e w' h=>RetS.to rfl h,fun W=>hasB_true n1.1 n1.2 1000 (by omega) (w7 u1) (w7 v1) ((bx.add aa).mono (by omega)) W⟩,
  ⟨c2,chk u2 v2 al,fun W=>(rsubQ_calls 200 200 x y W bx aa (by omega)).mono fun e w' h=>RetS.to rfl h,fun W=>hasB_true n2.1 n2.2 1000 (by omega) (w7 u2) (w7 v2) ((bx.sub aa).mono (by omega)) W⟩,
  ⟨c3,chk u3 v3 am,fun W=>(rmulQ_calls 200 200 x y W bx aa (by omega)).mono fun e w' h=>RetS.to rfl h,fun W=>hasB_true n3.1 n3.2 1000 (by omega) (w7 u3) (w7 v3) ((bx.mul aa).mono (by omega)) W⟩,ai,?_,?_⟩
 ·rcases ah with h | ⟨h,hc⟩
  ·exact .inl h
  ·exact .inr ⟨h,fun W=>by
    rw[hc x y a0 a1 b0 b1]
    exact rcmpQ_calls 200 200 x y W bx aa (by omega)⟩
 ·have hz:RFB 56 0:=⟨by decide,by decide⟩;have hh:=fun W=>rhasB_calls y0 y1 0 W 56 (by omega) (RFB.of g0) (RFB.of g1) hz;rw[rs_bz] at hh;by_cases h0:y0≤0∧0≤y1
  ·rw[decide_eq_true h0.1,decide_eq_true h0.2] at hh;exact .inl ⟨hh,fun W hW=>over_zero ha hb h0.1 h0.2 W hW⟩
  ·have hs:0 < y0∨y1 < 0:=by
    by_cases h1:y0≤0
    ·exact .inr (Rat.not_le.1 fun h2=>h0 ⟨h1,h2⟩)
    ·exact .inl (Rat.not_le.1 h1)
   have hf:(decide (y0≤0) && decide (0≤y1))=false:=by
    rw[Bool.and_eq_false_iff,decide_eq_false_iff_not,decide_eq_false_iff_not];exact Decidable.not_and_iff_not_or_not.1 h0
   simp only[hf]at hh;obtain ⟨L,H,u,v,le,m,co⟩:=over_enc ha hb hs
   have aj:y≠0:=by
    rcases hs with h | h
    ·exact fun e=>by rw[e] at b0;exact absurd b0 (Rat.not_le.2 h)
    ·exact fun e=>by rw[e] at b1;exact absurd b1 (Rat.not_le.2 h)
   have ac:y.num≠0:=fun e=>aj (rat_zero e);have n:=m x y a0 a1 b0 b1
   have bq:RFB 400 (x / y):=by
    rw[Rat.div_def];exact (bx.mul (aa.inv ac)).mono (by omega)
   exact .inr ⟨rs L,rs H,rs (x / y),hh,co,chk u v le,fun W=>(rdivZ_calls 200 200 x y W bx aa (by omega) ac).mono fun e w' h=>RetS.to rfl h,fun W=>hasB_true n.1 n.2 1000 (by omega) (w7 u) (w7 v) (bq.mono (by omega)) W⟩
theorem encloses_law (xa ya xb yb:ByteArray)(p0 p1:Nat)(w:World)(he:Env w)(hxa:xa.size≤9223372036854775807)(hya:ya.size≤9223372036854775807)(hxb:xb.size≤9223372036854775807)(hyb:yb.size≤9223372036854775807)(hp0:p0≤255)(hp1:p1≤255):
  Calls prog 9 #[.agg #[.string xa,.string ya],.agg #[.string xb,.string yb],.agg #[.int .u8 (p0:Int),.int .u8 (p1:Int)]] w fun e w'=>e=.returned (.bool true)∧New w w':=by
 refine encloses_walk xa ya xb yb p0 p1 w he (fun W=>rfewSpan_calls xa ya W (by omega) (by omega)) (fun W=>rfewSpan_calls xb yb W (by omega) (by omega)) ?_;rintro ⟨x0,x1,rfl,rfl,f0,f1,hx⟩ ⟨y0,y1,rfl,rfl,g0,g1,hy⟩;exact encloses_all hp0 hp1 f0 f1 hx g0 g1 hy
end Go.Proofs.YtnjonlnemagomaaGreatDoor
