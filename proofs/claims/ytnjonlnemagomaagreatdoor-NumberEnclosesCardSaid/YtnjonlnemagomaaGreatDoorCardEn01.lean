/- Part CardEn01. -/
import Derived.Deep.RegionHeld
import Derived.Test.YtnjonlnemagomaaGreatDoorB15
namespace Go.Proofs.YtnjonlnemagomaaGreatDoor
open Go.RowKit Big Go.Lib Tryz
set_option maxRecDepth 100000
set_option maxHeartbeats 8000000
set_option linter.all false
theorem rminus_calls (v:Value)(z:Int)(w:World)(h:IsZ w v z):
  Calls prog 187 #[v] w (RetZ w (-z)):=by
 obtain ⟨b,a,l,c,rfl⟩:=h.shape;obtain ⟨hb,hd⟩:=h.parts;have hs:=fun W (hW:New w W) b=>rsigned_calls b _ _ W (hd.n.new hW)
 have e:sgnd (!b) z.natAbs= -z:=by
  rw[hb];unfold sgnd;by_cases h:z < 0
  ·rw[decide_eq_true h];simp;omega
  ·rw[decide_eq_false h];simp;omega
 clear h hd hb;replace hs:=hid hs;replace e:=hid e;go_in;go_wp2_with fail;obtain ⟨BA,BP,HN⟩:=lay2 w 124 #[.bool b,.slice a l c] 124 #[.bool false,.slice none 0 0];refine zO (hs _ HN _) fun w1 b9 a9 l9 c9 hn hz=>?_;rw[e.out] at hz;replace hz:=hid hz;obtain ⟨HN,BP⟩:=zn2 hn HN BP.new;clear hn;obtain ⟨p0,p1,p2,p3,p4⟩:=BP.out.two;go_wp2_with fail;refine bodyPost_ret (v:=.agg #[.bool b9,.slice a9 l9 c9]) (by simp[results,results187,go_sem,p0,p1]) rfl ?_;exact z_ret HN BP (by omega) hz
theorem rrecip_calls (k:Nat)(q:Rat)(w:World)(hq:RFB k q)(hk:k≤40000)(h0:0 < q.num):Calls prog 143 #[.string (rs q)] w (RetS w q⁻¹):=by
 have hp:=fun W=>rparts_calls k q W hq hk;have aa:=fun W va vb (ha:IsZ W va (q.den:Int)) (hb:IsZ W vb q.num)=>rfraction_pos k va vb _ _ W ha hb (by omega) (pow_b9 (by simpa using hq.den) (Nat.le_refl _)) (pow_b9 hq.num (Nat.le_refl _)) h0;rw[←Rat.inv_def] at aa;obtain ⟨R,hR⟩:∃ R,q⁻¹=R:=⟨_,rfl⟩;obtain ⟨A,hA⟩:∃ A,rs q=A:=⟨_,rfl⟩;simp only[hA] at hp;simp only[hR] at aa;rw[hA,hR];clear hA hR hq hk h0;have af:=New.refl w;refine zh3 ?_ af hp aa;clear af hp aa;intro HN HP ag;go_in;go_wp2_with fail;refine (HP _).mono ?_;rintro e w1 ⟨v1,v2,rfl,hn,ad,ae⟩;obtain ⟨b1,a1,l1,c1,rfl⟩:=ad.shape;obtain ⟨b2,a2,l2,c2,rfl⟩:=ae.shape;have ab:=hid ad;have ac:=hid ae;clear ad ae;replace HN:=tW HN hn;clear hn;go_upto_region 2 with (fail);obtain ⟨BA,BB,hn⟩:=lay2 w1 124 #[.bool b1,.slice a1 l1 c1] 124 #[.bool b2,.slice a2 l2 c2];obtain ⟨HN,ab,ac⟩:=zn3 hn HN ab.new ac.new;clear hn;have pa:=BA.out.two;have pb:=BB.out.two;go_wp2_with fail;refine zM (ag _ _ _ ac ab) fun w2 hn=>?_;clear pa pb;replace HN:=tW HN hn;clear hn;go_wp2_with fail;go_ret;exact ⟨rfl,HN⟩
end Go.Proofs.YtnjonlnemagomaaGreatDoor
