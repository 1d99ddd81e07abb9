/- Part CardEn07. -/
import Derived.Test.YtnjonlnemagomaaGreatDoorB26
import Derived.Test.YtnjonlnemagomaaGreatDoorCardEn06
namespace Go.Proofs.YtnjonlnemagomaaGreatDoor
open Go.RowKit Big Go.Proofs.Tryz
open Go.Lib (hid)
set_option maxRecDepth 100000
set_option maxHeartbeats 8000000
set_option linter.all false
theorem nplus_calls (xa ya xb yb U V:ByteArray)(r:Int)(aa:∀ W,Env W→Calls prog 140 #[.agg #[.string xa,.string ya],.agg #[.string xb,.string yb],.func (.func 92) #[] #[]] W (SpPost W U V r))(w:World)(he:Env w):
  Calls prog 52 #[.agg #[.string xa,.string ya],.agg #[.string xb,.string yb]] w (SpPost w U V r):=by
 unfold SpPost at *;replace he:=hid he;replace aa:=hid aa;go_in;go_upto_region 1 with (fail);obtain ⟨BA,BB,BP,HN⟩:=lay3 w 53 #[.string xa,.string ya] 53 #[.string xb,.string yb] 53 #[.string ⟨#[]⟩,.string ⟨#[]⟩];obtain ⟨ab,ac,ad,ae,af⟩:=BA.out.two;obtain ⟨ag,ah,ai,aj,ak⟩:=BB.out.two;go_wp2_with fail;refine zM (aa _ (he.new HN)) fun w4 hn=>?_;clear ab ac ad ae af ag ah ai aj ak;obtain ⟨HN,BP⟩:=zn2 hn HN BP.new;clear hn;obtain ⟨p0,p1,p2,p3,p4⟩:=BP.out.two;go_wp2_with fail;refine bodyPost_ret (v:=.tuple #[.agg #[.string U,.string V],.int .i64 r]) (by simp[results,results52,go_sem,p0,p1]) rfl ?_;exact ⟨rfl,HN.putAt BP (by omega) _ _⟩
theorem nminus_calls (xa ya xb yb U V:ByteArray)(r:Int)(aa:∀ W,Env W→Calls prog 140 #[.agg #[.string xa,.string ya],.agg #[.string xb,.string yb],.func (.func 93) #[] #[]] W (SpPost W U V r))(w:World)(he:Env w):
  Calls prog 53 #[.agg #[.string xa,.string ya],.agg #[.string xb,.string yb]] w (SpPost w U V r):=by
 unfold SpPost at *;replace he:=hid he;replace aa:=hid aa;go_in;go_upto_region 1 with (fail);obtain ⟨BA,BB,BP,HN⟩:=lay3 w 53 #[.string xa,.string ya] 53 #[.string xb,.string yb] 53 #[.string ⟨#[]⟩,.string ⟨#[]⟩];obtain ⟨ab,ac,ad,ae,af⟩:=BA.out.two;obtain ⟨ag,ah,ai,aj,ak⟩:=BB.out.two;go_wp2_with fail;refine zM (aa _ (he.new HN)) fun w4 hn=>?_;clear ab ac ad ae af ag ah ai aj ak;obtain ⟨HN,BP⟩:=zn2 hn HN BP.new;clear hn;obtain ⟨p0,p1,p2,p3,p4⟩:=BP.out.two;go_wp2_with fail;refine bodyPost_ret (v:=.tuple #[.agg #[.string U,.string V],.int .i64 r]) (by simp[results,results53,go_sem,p0,p1]) rfl ?_;exact ⟨rfl,HN.putAt BP (by omega) _ _⟩
end Go.Proofs.YtnjonlnemagomaaGreatDoor
