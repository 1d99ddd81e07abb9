/- Part A36. -/
import Derived.Laws.StructEq
import Derived.Test.YtnjonlnemagomaaGreatDoorA25
namespace Go.Proofs.YtnjonlnemagomaaGreatDoor
open Go.RowKit Big
open Go.Lib (hid)
set_option maxRecDepth 100000
set_option maxHeartbeats 8000000
theorem same_ints (a b:Option Addr)(cap cap':Nat)(xs ys:List Int)(w:World)(hl:xs.length≤1000000)(hlen:ys.length=xs.length)(hr1:RdL w a (ints xs))(hr2:RdL w b (ints ys))(hs:∀ (k:Nat) (h:k < xs.length) (h':k < ys.length),(fun x y:Int=>x != y) xs[k] ys[k]=false):
  Calls Tryz.prog 84 #[.slice a xs.length cap,.slice b ys.length cap'] w fun e w'=>e=.returned (.bool true)∧New w w':=by
 obtain ⟨n,hn⟩:∃ n,xs.length=n:=⟨_,rfl⟩;rw[hlen];rw[hn] at hl hlen⊢
 have hni:(n:Int)≤1000000:=by omega
 have hnn:((n:Int) != (n:Int))=false:=by simp
 have HR1:=hid hr1;have HR2:=hid hr2;have HS:=hid hs;have HN0:=hid hn;have HLEN:=hid hlen;clear hr1 hr2 hs hn hlen;go_enter Tryz.func84,Tryz.ntmps84;go_wp2_with fail;go_loopw [5] (fun i wr=>∃ (k:Nat),k≤n∧i=.int .i64 (k:Int)∧Hid (New w wr)) (fun i _=>n - (intOf i).toNat)
 case atStart=>exact ⟨0,Nat.zero_le _,rfl,hid (New.refl _)⟩
 case round=>
  obtain ⟨k,hk,rfl,HN⟩:=hrel;by_cases hlt:k < n
  ·have h1:k < xs.length:=by rw[HN0.out];exact hlt
   have h2:k < ys.length:=by rw[HLEN.out];exact hlt
   obtain ⟨b1,off1,rfl,hc1⟩:=HR1.out.int k h1;obtain ⟨b2,off2,rfl,hc2⟩:=HR2.out.int k h2;have hsame:=HS.out k h1 h2;obtain ⟨x,hx⟩:∃ x,xs[k]=x:=⟨_,rfl⟩;obtain ⟨y,hy⟩:∃ y,ys[k]=y:=⟨_,rfl⟩;rw[hx] at hc1;rw[hy] at hc2;rw[hx,hy] at hsame;replace hc1:=HN.out.cell hc1;replace hc2:=HN.out.cell hc2;have HX:=hid hx;have HY:=hid hy;clear hx hy;go_wp2_with fail
   go_quiet (fail)
   go_wp2_with fail;go_roundw
   case rel=>exact ⟨k+1,by omega,by go_num,hid (HN.out.drewN nq)⟩
   case measure=>simp[intOf];omega
  ·have hkk:k=n:=by omega
   have HKK:=hid hkk;clear hkk;go_wp2_with fail;go_ret;exact ⟨rfl,HN.out⟩
end Go.Proofs.YtnjonlnemagomaaGreatDoor
