/- Part CardRn10. -/
import Derived.Maps.OwnOps
import Derived.Test.YtnjonlnemagomaaGreatDoorCardRn09
namespace Go.Proofs.YtnjonlnemagomaaGreatDoor
open Go.RowKit Big Go.Lib
set_option maxRecDepth 100000
set_option maxHeartbeats 8000000
set_option linter.all false
theorem fin_sw {x:Nat}(hx:x < 4294967296)(h:isFin x=true):∃ (s:Bool) (y:Nat),y < 2139095040∧x=Flo.sw s y:=by
 have hr:x % 2147483648 < 2139095040:=by
  unfold isFin Ieee.Format.read at h;simp only[Flo.ssw,Flo.sbin,Flo.sinf] at h;split at h
  ·rename_i hh;split at hh
   ·omega
   ·split at hh
    ·assumption
    ·split at hh <;> cases hh
  ·cases h
 by_cases h1:x < 2147483648
 ·exact ⟨false,x,by omega,rfl⟩
 ·exact ⟨true,x - 2147483648,by omega,by show x=2147483648+_;omega⟩
theorem fq_rfbF {x:Nat}(hx:x < 4294967296)(h:isFin x=true):RFB 280 (fq x):=by
 obtain ⟨s,y,hy,rfl⟩:=fin_sw hx h;exact RFB.of (fq_fb s hy)
end Go.Proofs.YtnjonlnemagomaaGreatDoor
