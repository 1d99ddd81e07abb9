/- Part A31. -/
import Derived.Test.YtnjonlnemagomaaGreatDoorA30
namespace Go.Proofs.YtnjonlnemagomaaGreatDoor
open Go.RowKit Big Go.Lib
set_option maxRecDepth 100000
set_option maxHeartbeats 8000000
theorem eq_span_run (a b c d:ByteArray)(W:World):(Op.equalIn 10000 53 (.agg #[.string a,.string b]) (.agg #[.string c,.string d])).run Tryz.prog W=.ok (a.toList==c.toList && b.toList==d.toList) W:=by
 have hf:(Tryz.prog.fieldsOf 53).toList.length=2:=by kernel_rfl
 rw[run_equalIn_struct (P:=Tryz.prog) W 9999 53 #[.string a,.string b] #[.string c,.string d] (by kernel_rfl) (by kernel_rfl)]
 obtain ⟨f1,f2,hl⟩:∃ f1 f2,(Tryz.prog.fieldsOf 53).toList=[f1,f2]:=by
  match h:(Tryz.prog.fieldsOf 53).toList,hf with
  | [a,b],_=>exact ⟨a,b,rfl⟩
 have e1 : (f1.name == "_") = false ∧ f1.type = 23 ∧ f1.offset = 0 := by
  have:(Tryz.prog.fieldsOf 53).toList[0]?=some f1:=by rw[hl];rfl
  have h2 : (Tryz.prog.fieldsOf 53).toList[0]?.map (fun f => (f.name == "_", f.type, f.offset)) = some (false, 23, 0) := by kernel_rfl
  rw[this]at h2;simpa using h2
 have e2 : (f2.name == "_") = false ∧ f2.type = 23 ∧ f2.offset = 1 := by
  have:(Tryz.prog.fieldsOf 53).toList[1]?=some f2:=by rw[hl];rfl
  have h2 : (Tryz.prog.fieldsOf 53).toList[1]?.map (fun f => (f.name == "_", f.type, f.offset)) = some (false, 23, 1) := by kernel_rfl
  rw[this]at h2;simpa using h2
 rw[hl];have hu:Tryz.prog.underlying 23=some .string:=Tryz.underlying23
 have hpk:Tryz.prog.plainKey 23=true:=by kernel_rfl
 have hp1:∀ (x y:ByteArray),(part 23 #[.string x,.string y] 0).run Tryz.prog W=.ok (.string x) W:=fun x y=>run_part_plain W hpk rfl;have hp2:∀ (x y:ByteArray),(part 23 #[.string x,.string y] 1).run Tryz.prog W=.ok (.string y) W:=fun x y=>run_part_plain W hpk rfl
 have n1 : f1.name ≠ "_" := by simpa using e1.1
 have n2 : f2.name ≠ "_" := by simpa using e2.1
 unfold Op.eqFields;rw[if_pos n1,e1.2.1,e1.2.2];simp only[Sem.run_bind,hp1,Result.andThen_ok,run_equalIn_string W 9998 23 a c hu];unfold Op.eqFields;rw[if_pos n2,e2.2.1,e2.2.2]
 cases hac:(a.toList==c.toList)
 ·simp
 ·simp only[Bool.not_true,Bool.false_eq_true,if_false,Bool.true_and,Sem.run_bind,hp2,Result.andThen_ok,run_equalIn_string W 9998 23 b d hu];unfold Op.eqFields
  cases hbd:(b.toList==d.toList) <;> simp
theorem eql_spans (a b c d:ByteArray)(W:World):(binOp .eql 53 (.agg #[.string a,.string b]) (.agg #[.string c,.string d])).run Tryz.prog W=.ok (.bool (a.toList==c.toList && b.toList==d.toList)) W:=by
 rw[run_eql_struct,eq_span_run];simp
def NCmpPost (w:World)(n E:Int)(e:Ending)(w':World):Prop:=e=.returned (.tuple #[.int .i64 n,.int .i64 E])∧New w w'
theorem ncompare_low (xa ya xb yb:ByteArray) (x0 x1 y0 y1:Rat) (hxa:xa.data.toList=ratText x0) (hya:ya.data.toList=ratText x1) (hxb:xb.data.toList=ratText y0) (hyb:yb.data.toList=ratText y1) (lxa:xa.size≤100000) (lya:ya.size≤100000) (lxb:xb.size≤100000) (lyb:yb.size≤100000) (f0:Fits x0) (f1:Fits x1) (g0:Fits y0) (g1:Fits y1) (ea eb:Int) (hr:(if ea=0 then eb else ea)=0)
  (hca:∀ W,Env W→Calls Tryz.prog 51 #[.agg #[.string xa,.string ya]] W (RetNew W ea)) (hcb:∀ W,Env W→Calls Tryz.prog 51 #[.agg #[.string xb,.string yb]] W (RetNew W eb)) (hlt:x1 < y0) (w:World) (he:Env w):
  Calls Tryz.prog 56 #[.agg #[.string xa,.string ya],.agg #[.string xb,.string yb]] w (NCmpPost w (-1) 0):=by
 have h1:=fun W hW=>from_calls ya x1 W hW hya (by omega);have h2:=fun W hW=>from_calls xb y0 W hW hxb (by omega);have h3:=fun W hW=>from_calls xa x0 W hW hxa (by omega);have h4:=fun W hW=>from_calls yb y1 W hW hyb (by omega);have hc1:=fun va vb W h1 h2=>fcmp_calls va vb x1 y0 2000 2000 W h1 h2 (Fits.fb f1) (Fits.fb g0) (by omega);have hc2:=fun va vb W h1 h2=>fcmp_calls va vb x0 y1 2000 2000 W h1 h2 (Fits.fb f0) (Fits.fb g1) (by omega);unfold SignPost at hc1 hc2;obtain ⟨r1,hr1⟩:∃ r,(crossed x1 y0).sign=r:=⟨_,rfl⟩;obtain ⟨r2,hr2⟩:∃ r,(crossed x0 y1).sign=r:=⟨_,rfl⟩
 have hi1:r1 < 0 ↔ x1 < y0:=by rw[←hr1];exact crossed_neg
 have hi2:0 < r2 ↔ y1 < x0:=by rw[←hr2];exact crossed_pos
 clear hxa hya hxb hyb lxa lya lxb lyb f0 f1 g0 g1;unfold NCmpPost;have t1:decide (r1 < 0)=true:=decide_eq_true (hi1.2 hlt);clear hi1 hi2 hlt;have HE:=hid he;have HCA:=hid hca;have HCB:=hid hcb;have HR:=hid hr;have HF1A:=hid h1;have HF1B:=hid h2;have HF0A:=hid h3;have HF0B:=hid h4;have HC1:=hid hc1;have HC2:=hid hc2;have HR1:=hid hr1;have HR2:=hid hr2;clear he hca hcb hr h1 h2 h3 h4 hc1 hc2 hr1 hr2;go_enter Tryz.func56,Tryz.ntmps56;go_upto_region 1 with (fail);obtain ⟨BA,BB,HN⟩:=lay2 w 53 #[.string xa,.string ya] 53 #[.string xb,.string yb];obtain ⟨pa0,pa1,pa2,pa3,pa4⟩:=BA.out.two;obtain ⟨pb0,pb1,pb2,pb3,pb4⟩:=BB.out.two;refine wp_region_T 6 (fun W=>W.cell? ⟨w.heap.size,0,none⟩=some (.string xa)∧W.cell? ⟨w.heap.size,1,none⟩=some (.string ya)∧W.cell? ⟨w.heap.size+1,0,none⟩=some (.string xb)∧W.cell? ⟨w.heap.size+1,1,none⟩=some (.string yb)) 7 #[false,false,false,false,false,false,false] rfl (by kernel_rfl) (by kernel_rfl) ?_;refine tk 0 (by exact ⟨pa0,pa1,pb0,pb1⟩) ?_
 try simp only[PT]
 refine tk 2 (by exact ⟨pa0,pa1,pb0,pb1⟩) ?_
 try simp only[PT]
 refine wpT_one 1 rfl (by kernel_rfl) (fun K hK=>?_);go_simp;refine (HCA.out _ (HE.out.new HN.out.drew)).mono ?_;rintro e w1 ⟨rfl,hn⟩;have hn:=hn.undrew;clear pa0 pa1 pa2 pa3 pa4 pb0 pb1 pb2 pb3 pb4;replace BA:=hid (BA.out.new hn);replace BB:=hid (BB.out.new hn);replace HN:=hid (HN.out.trans hn);clear hn;obtain ⟨pa0,pa1,pa2,pa3,pa4⟩:=BA.out.two;obtain ⟨pb0,pb1,pb2,pb3,pb4⟩:=BB.out.two;refine hK.out _ _ (fun _=>?_) ?_
 ·exact ⟨pa0,pa1,pb0,pb1⟩
 clear hK K
 try simp only[PT]
 refine wpT_one 3 rfl (by kernel_rfl) (fun K hK=>?_);go_simp;refine (HCB.out _ (HE.out.new HN.out)).mono ?_;rintro e w2 ⟨rfl,hn⟩;clear pa0 pa1 pa2 pa3 pa4 pb0 pb1 pb2 pb3 pb4;replace BA:=hid (BA.out.new hn);replace BB:=hid (BB.out.new hn);replace HN:=hid (HN.out.trans hn);clear hn;obtain ⟨pa0,pa1,pa2,pa3,pa4⟩:=BA.out.two;obtain ⟨pb0,pb1,pb2,pb3,pb4⟩:=BB.out.two;refine hK.out _ _ (fun _=>?_) ?_
 ·exact ⟨pa0,pa1,pb0,pb1⟩
 clear hK K
 try simp only[PT]
 refine wpT_one 4 rfl (by kernel_rfl) (fun K hK=>?_);go_simp;clear pa0 pa1 pa2 pa3 pa4 pb0 pb1 pb2 pb3 pb4;have HN0:=HN;clear HN;obtain ⟨BG,HN⟩:=lay1 w2 32 #[.int .i64 ea,.int .i64 eb];replace BA:=hid (BA.out.new HN.out);replace BB:=hid (BB.out.new HN.out);have HN_:=HN0.out.trans HN.out;clear HN HN0;have HN:=hid HN_;clear HN_;obtain ⟨pa0,pa1,pa2,pa3,pa4⟩:=BA.out.two;obtain ⟨pb0,pb1,pb2,pb3,pb4⟩:=BB.out.two;refine hK.out _ _ (fun _=>?_) ?_
 ·exact ⟨pa0,pa1,pb0,pb1⟩
 clear hK K
 try simp only[PT]
 refine wpT_one 5 rfl (by kernel_rfl) (fun K hK=>?_);go_simp;refine (nfirst2_new ea eb _ _ 32 _ BG.out).mono ?_;rintro e w3 ⟨rfl,hn⟩;rw[HR.out];clear BG;clear pa0 pa1 pa2 pa3 pa4 pb0 pb1 pb2 pb3 pb4;replace BA:=hid (BA.out.new hn);replace BB:=hid (BB.out.new hn);replace HN:=hid (HN.out.trans hn);clear hn;obtain ⟨pa0,pa1,pa2,pa3,pa4⟩:=BA.out.two;obtain ⟨pb0,pb1,pb2,pb3,pb4⟩:=BB.out.two;refine hK.out _ _ (fun _=>?_) ?_
 ·exact ⟨pa0,pa1,pb0,pb1⟩
 clear hK K
 try simp only[PT]
 refine wpT_tail rfl (by kernel_rfl) ?_;simp only[List.drop_succ_cons,List.drop_zero];go_wp2_with fail;refine wp_region_T 8 (fun W=>W.cell? ⟨w.heap.size,0,none⟩=some (.string xa)∧W.cell? ⟨w.heap.size,1,none⟩=some (.string ya)∧W.cell? ⟨w.heap.size+1,0,none⟩=some (.string xb)∧W.cell? ⟨w.heap.size+1,1,none⟩=some (.string yb)) 9 #[false,false,false,false,false,false,false,false,false] rfl (by kernel_rfl) (by kernel_rfl) ?_;refine tk 0 (by exact ⟨pa0,pa1,pb0,pb1⟩) ?_
 try simp only[PT]
 refine tk 1 (by exact ⟨pa0,pa1,pb0,pb1⟩) ?_
 try simp only[PT]
 refine tk 3 (by exact ⟨pa0,pa1,pb0,pb1⟩) ?_
 try simp only[PT]
 refine tk 4 (by exact ⟨pa0,pa1,pb0,pb1⟩) ?_
 try simp only[PT]
 refine wpT_one 2 rfl (by kernel_rfl) (fun K hK=>?_);go_simp;refine (HF1A.out _ (HE.out.new HN.out.drew)).mono ?_;rintro e w3 ⟨v3,rfl,hn,hf⟩;have hn:=hn.undrew;have HF1:=hid hf;clear hf;clear pa0 pa1 pa2 pa3 pa4 pb0 pb1 pb2 pb3 pb4;replace BA:=hid (BA.out.new hn);replace BB:=hid (BB.out.new hn);replace HN:=hid (HN.out.trans hn);clear hn;obtain ⟨pa0,pa1,pa2,pa3,pa4⟩:=BA.out.two;obtain ⟨pb0,pb1,pb2,pb3,pb4⟩:=BB.out.two;refine hK.out _ _ (fun _=>?_) ?_
 ·exact ⟨pa0,pa1,pb0,pb1⟩
 clear hK K
 try simp only[PT]
 refine wpT_one 5 rfl (by kernel_rfl) (fun K hK=>?_);go_simp;refine (HF1B.out _ (HE.out.new HN.out)).mono ?_;rintro e w4 ⟨v4,rfl,hn,hf⟩;have HF2:=hid hf;clear hf;clear pa0 pa1 pa2 pa3 pa4 pb0 pb1 pb2 pb3 pb4;replace BA:=hid (BA.out.new hn);replace BB:=hid (BB.out.new hn);replace HF1:=hid (HF1.out.new hn);replace HN:=hid (HN.out.trans hn);clear hn;obtain ⟨pa0,pa1,pa2,pa3,pa4⟩:=BA.out.two;obtain ⟨pb0,pb1,pb2,pb3,pb4⟩:=BB.out.two;refine hK.out _ _ (fun _=>?_) ?_
 ·exact ⟨pa0,pa1,pb0,pb1⟩
 clear hK K
 try simp only[PT]
 refine wpT_one 6 rfl (by kernel_rfl) (fun K hK=>?_);go_simp;refine (HC1.out _ _ _ HF1.out HF2.out).mono ?_;rintro e w5 ⟨rfl,hn⟩;rw[HR1.out];clear HF1 HF2;clear pa0 pa1 pa2 pa3 pa4 pb0 pb1 pb2 pb3 pb4;replace BA:=hid (BA.out.new hn);replace BB:=hid (BB.out.new hn);replace HN:=hid (HN.out.trans hn);clear hn;obtain ⟨pa0,pa1,pa2,pa3,pa4⟩:=BA.out.two;obtain ⟨pb0,pb1,pb2,pb3,pb4⟩:=BB.out.two;refine hK.out _ _ (fun _=>?_) ?_
 ·exact ⟨pa0,pa1,pb0,pb1⟩
 clear hK K
 try simp only[PT]
 refine tk 7 (by exact ⟨pa0,pa1,pb0,pb1⟩) ?_
 try simp only[PT]
 refine wpT_tail rfl (by kernel_rfl) ?_;simp only[List.drop_succ_cons,List.drop_zero];go_wp2_with fail;go_ret2;exact ⟨rfl,HN.out⟩
theorem ncompare_open (xa ya xb yb:ByteArray) (x0 x1 y0 y1:Rat) (hxa:xa.data.toList=ratText x0) (hya:ya.data.toList=ratText x1) (hxb:xb.data.toList=ratText y0) (hyb:yb.data.toList=ratText y1) (lxa:xa.size≤100000) (lya:ya.size≤100000) (lxb:xb.size≤100000) (lyb:yb.size≤100000) (f0:Fits x0) (f1:Fits x1) (g0:Fits y0) (g1:Fits y1) (ea eb:Int) (hr:(if ea=0 then eb else ea)=0)
  (hca:∀ W,Env W→Calls Tryz.prog 51 #[.agg #[.string xa,.string ya]] W (RetNew W ea)) (hcb:∀ W,Env W→Calls Tryz.prog 51 #[.agg #[.string xb,.string yb]] W (RetNew W eb)) (hlt:¬x1 < y0) (hgt:¬y1 < x0) (e1:(xa.toList==xb.toList && ya.toList==yb.toList)=false) (w:World) (he:Env w):
  Calls Tryz.prog 56 #[.agg #[.string xa,.string ya],.agg #[.string xb,.string yb]] w (NCmpPost w 0 24):=by
 have h1:=fun W hW=>from_calls ya x1 W hW hya (by omega);have h2:=fun W hW=>from_calls xb y0 W hW hxb (by omega);have h3:=fun W hW=>from_calls xa x0 W hW hxa (by omega);have h4:=fun W hW=>from_calls yb y1 W hW hyb (by omega);have hc1:=fun va vb W h1 h2=>fcmp_calls va vb x1 y0 2000 2000 W h1 h2 (Fits.fb f1) (Fits.fb g0) (by omega);have hc2:=fun va vb W h1 h2=>fcmp_calls va vb x0 y1 2000 2000 W h1 h2 (Fits.fb f0) (Fits.fb g1) (by omega);unfold SignPost at hc1 hc2;obtain ⟨r1,hr1⟩:∃ r,(crossed x1 y0).sign=r:=⟨_,rfl⟩;obtain ⟨r2,hr2⟩:∃ r,(crossed x0 y1).sign=r:=⟨_,rfl⟩
 have hi1:r1 < 0 ↔ x1 < y0:=by rw[←hr1];exact crossed_neg
 have hi2:0 < r2 ↔ y1 < x0:=by rw[←hr2];exact crossed_pos
 clear hxa hya hxb hyb lxa lya lxb lyb f0 f1 g0 g1;unfold NCmpPost;have t1:decide (r1 < 0)=false:=decide_eq_false (fun h=>hlt (hi1.1 h));have t2:decide (r2 > 0)=false:=decide_eq_false (fun h=>hgt (hi2.1 h));have hes:=fun W=>eql_spans xa ya xb yb W;simp only[e1] at hes;clear hi1 hi2 hlt hgt e1;have HE:=hid he;have HCA:=hid hca;have HCB:=hid hcb;have HR:=hid hr;have HF1A:=hid h1;have HF1B:=hid h2;have HF0A:=hid h3;have HF0B:=hid h4;have HC1:=hid hc1;have HC2:=hid hc2;have HR1:=hid hr1;have HR2:=hid hr2;clear he hca hcb hr h1 h2 h3 h4 hc1 hc2 hr1 hr2;go_enter Tryz.func56,Tryz.ntmps56;go_upto_region 1 with (fail);obtain ⟨BA,BB,HN⟩:=lay2 w 53 #[.string xa,.string ya] 53 #[.string xb,.string yb];obtain ⟨pa0,pa1,pa2,pa3,pa4⟩:=BA.out.two;obtain ⟨pb0,pb1,pb2,pb3,pb4⟩:=BB.out.two;refine wp_region_T 6 (fun W=>W.cell? ⟨w.heap.size,0,none⟩=some (.string xa)∧W.cell? ⟨w.heap.size,1,none⟩=some (.string ya)∧W.cell? ⟨w.heap.size+1,0,none⟩=some (.string xb)∧W.cell? ⟨w.heap.size+1,1,none⟩=some (.string yb)) 7 #[false,false,false,false,false,false,false] rfl (by kernel_rfl) (by kernel_rfl) ?_;refine tk 0 (by exact ⟨pa0,pa1,pb0,pb1⟩) ?_
 try simp only[PT]
 refine tk 2 (by exact ⟨pa0,pa1,pb0,pb1⟩) ?_
 try simp only[PT]
 refine wpT_one 1 rfl (by kernel_rfl) (fun K hK=>?_);go_simp;refine (HCA.out _ (HE.out.new HN.out.drew)).mono ?_;rintro e w1 ⟨rfl,hn⟩;have hn:=hn.undrew;clear pa0 pa1 pa2 pa3 pa4 pb0 pb1 pb2 pb3 pb4;replace BA:=hid (BA.out.new hn);replace BB:=hid (BB.out.new hn);replace HN:=hid (HN.out.trans hn);clear hn;obtain ⟨pa0,pa1,pa2,pa3,pa4⟩:=BA.out.two;obtain ⟨pb0,pb1,pb2,pb3,pb4⟩:=BB.out.two;refine hK.out _ _ (fun _=>?_) ?_
 ·exact ⟨pa0,pa1,pb0,pb1⟩
 clear hK K
 try simp only[PT]
 refine wpT_one 3 rfl (by kernel_rfl) (fun K hK=>?_);go_simp;refine (HCB.out _ (HE.out.new HN.out)).mono ?_;rintro e w2 ⟨rfl,hn⟩;clear pa0 pa1 pa2 pa3 pa4 pb0 pb1 pb2 pb3 pb4;replace BA:=hid (BA.out.new hn);replace BB:=hid (BB.out.new hn);replace HN:=hid (HN.out.trans hn);clear hn;obtain ⟨pa0,pa1,pa2,pa3,pa4⟩:=BA.out.two;obtain ⟨pb0,pb1,pb2,pb3,pb4⟩:=BB.out.two;refine hK.out _ _ (fun _=>?_) ?_
 ·exact ⟨pa0,pa1,pb0,pb1⟩
 clear hK K
 try simp only[PT]
 refine wpT_one 4 rfl (by kernel_rfl) (fun K hK=>?_);go_simp;clear pa0 pa1 pa2 pa3 pa4 pb0 pb1 pb2 pb3 pb4;have HN0:=HN;clear HN;obtain ⟨BG,HN⟩:=lay1 w2 32 #[.int .i64 ea,.int .i64 eb];replace BA:=hid (BA.out.new HN.out);replace BB:=hid (BB.out.new HN.out);have HN_:=HN0.out.trans HN.out;clear HN HN0;have HN:=hid HN_;clear HN_;obtain ⟨pa0,pa1,pa2,pa3,pa4⟩:=BA.out.two;obtain ⟨pb0,pb1,pb2,pb3,pb4⟩:=BB.out.two;refine hK.out _ _ (fun _=>?_) ?_
 ·exact ⟨pa0,pa1,pb0,pb1⟩
 clear hK K
 try simp only[PT]
 refine wpT_one 5 rfl (by kernel_rfl) (fun K hK=>?_);go_simp;refine (nfirst2_new ea eb _ _ 32 _ BG.out).mono ?_;rintro e w3 ⟨rfl,hn⟩;rw[HR.out];clear BG;clear pa0 pa1 pa2 pa3 pa4 pb0 pb1 pb2 pb3 pb4;replace BA:=hid (BA.out.new hn);replace BB:=hid (BB.out.new hn);replace HN:=hid (HN.out.trans hn);clear hn;obtain ⟨pa0,pa1,pa2,pa3,pa4⟩:=BA.out.two;obtain ⟨pb0,pb1,pb2,pb3,pb4⟩:=BB.out.two;refine hK.out _ _ (fun _=>?_) ?_
 ·exact ⟨pa0,pa1,pb0,pb1⟩
 clear hK K
 try simp only[PT]
 refine wpT_tail rfl (by kernel_rfl) ?_;simp only[List.drop_succ_cons,List.drop_zero];go_wp2_with fail;refine wp_region_T 8 (fun W=>W.cell? ⟨w.heap.size,0,none⟩=some (.string xa)∧W.cell? ⟨w.heap.size,1,none⟩=some (.string ya)∧W.cell? ⟨w.heap.size+1,0,none⟩=some (.string xb)∧W.cell? ⟨w.heap.size+1,1,none⟩=some (.string yb)) 9 #[false,false,false,false,false,false,false,false,false] rfl (by kernel_rfl) (by kernel_rfl) ?_;refine tk 0 (by exact ⟨pa0,pa1,pb0,pb1⟩) ?_
 try simp only[PT]
 refine tk 1 (by exact ⟨pa0,pa1,pb0,pb1⟩) ?_
 try simp only[PT]
 refine tk 3 (by exact ⟨pa0,pa1,pb0,pb1⟩) ?_
 try simp only[PT]
 refine tk 4 (by exact ⟨pa0,pa1,pb0,pb1⟩) ?_
 try simp only[PT]
 refine wpT_one 2 rfl (by kernel_rfl) (fun K hK=>?_);go_simp;refine (HF1A.out _ (HE.out.new HN.out.drew)).mono ?_;rintro e w3 ⟨v3,rfl,hn,hf⟩;have hn:=hn.undrew;have HF1:=hid hf;clear hf;clear pa0 pa1 pa2 pa3 pa4 pb0 pb1 pb2 pb3 pb4;replace BA:=hid (BA.out.new hn);replace BB:=hid (BB.out.new hn);replace HN:=hid (HN.out.trans hn);clear hn;obtain ⟨pa0,pa1,pa2,pa3,pa4⟩:=BA.out.two;obtain ⟨pb0,pb1,pb2,pb3,pb4⟩:=BB.out.two;refine hK.out _ _ (fun _=>?_) ?_
 ·exact ⟨pa0,pa1,pb0,pb1⟩
 clear hK K
 try simp only[PT]
 refine wpT_one 5 rfl (by kernel_rfl) (fun K hK=>?_);go_simp;refine (HF1B.out _ (HE.out.new HN.out)).mono ?_;rintro e w4 ⟨v4,rfl,hn,hf⟩;have HF2:=hid hf;clear hf;clear pa0 pa1 pa2 pa3 pa4 pb0 pb1 pb2 pb3 pb4;replace BA:=hid (BA.out.new hn);replace BB:=hid (BB.out.new hn);replace HF1:=hid (HF1.out.new hn);replace HN:=hid (HN.out.trans hn);clear hn;obtain ⟨pa0,pa1,pa2,pa3,pa4⟩:=BA.out.two;obtain ⟨pb0,pb1,pb2,pb3,pb4⟩:=BB.out.two;refine hK.out _ _ (fun _=>?_) ?_
 ·exact ⟨pa0,pa1,pb0,pb1⟩
 clear hK K
 try simp only[PT]
 refine wpT_one 6 rfl (by kernel_rfl) (fun K hK=>?_);go_simp;refine (HC1.out _ _ _ HF1.out HF2.out).mono ?_;rintro e w5 ⟨rfl,hn⟩;rw[HR1.out];clear HF1 HF2;clear pa0 pa1 pa2 pa3 pa4 pb0 pb1 pb2 pb3 pb4;replace BA:=hid (BA.out.new hn);replace BB:=hid (BB.out.new hn);replace HN:=hid (HN.out.trans hn);clear hn;obtain ⟨pa0,pa1,pa2,pa3,pa4⟩:=BA.out.two;obtain ⟨pb0,pb1,pb2,pb3,pb4⟩:=BB.out.two;refine hK.out _ _ (fun _=>?_) ?_
 ·exact ⟨pa0,pa1,pb0,pb1⟩
 clear hK K
 try simp only[PT]
 refine tk 7 (by exact ⟨pa0,pa1,pb0,pb1⟩) ?_
 try simp only[PT]
 refine wpT_tail rfl (by kernel_rfl) ?_;simp only[List.drop_succ_cons,List.drop_zero];go_wp2_with fail;refine wp_region_T 8 (fun W=>W.cell? ⟨w.heap.size,0,none⟩=some (.string xa)∧W.cell? ⟨w.heap.size,1,none⟩=some (.string ya)∧W.cell? ⟨w.heap.size+1,0,none⟩=some (.string xb)∧W.cell? ⟨w.heap.size+1,1,none⟩=some (.string yb)) 9 #[false,false,false,false,false,false,false,false,false] rfl (by kernel_rfl) (by kernel_rfl) ?_;refine tk 0 (by exact ⟨pa0,pa1,pb0,pb1⟩) ?_
 try simp only[PT]
 refine tk 1 (by exact ⟨pa0,pa1,pb0,pb1⟩) ?_
 try simp only[PT]
 refine tk 3 (by exact ⟨pa0,pa1,pb0,pb1⟩) ?_
 try simp only[PT]
 refine tk 4 (by exact ⟨pa0,pa1,pb0,pb1⟩) ?_
 try simp only[PT]
 refine wpT_one 2 rfl (by kernel_rfl) (fun K hK=>?_);go_simp;refine (HF0A.out _ (HE.out.new HN.out.drew)).mono ?_;rintro e w3 ⟨v3,rfl,hn,hf⟩;have hn:=hn.undrew;have HF1:=hid hf;clear hf;clear pa0 pa1 pa2 pa3 pa4 pb0 pb1 pb2 pb3 pb4;replace BA:=hid (BA.out.new hn);replace BB:=hid (BB.out.new hn);replace HN:=hid (HN.out.trans hn);clear hn;obtain ⟨pa0,pa1,pa2,pa3,pa4⟩:=BA.out.two;obtain ⟨pb0,pb1,pb2,pb3,pb4⟩:=BB.out.two;refine hK.out _ _ (fun _=>?_) ?_
 ·exact ⟨pa0,pa1,pb0,pb1⟩
 clear hK K
 try simp only[PT]
 refine wpT_one 5 rfl (by kernel_rfl) (fun K hK=>?_);go_simp;refine (HF0B.out _ (HE.out.new HN.out)).mono ?_;rintro e w4 ⟨v4,rfl,hn,hf⟩;have HF2:=hid hf;clear hf;clear pa0 pa1 pa2 pa3 pa4 pb0 pb1 pb2 pb3 pb4;replace BA:=hid (BA.out.new hn);replace BB:=hid (BB.out.new hn);replace HF1:=hid (HF1.out.new hn);replace HN:=hid (HN.out.trans hn);clear hn;obtain ⟨pa0,pa1,pa2,pa3,pa4⟩:=BA.out.two;obtain ⟨pb0,pb1,pb2,pb3,pb4⟩:=BB.out.two;refine hK.out _ _ (fun _=>?_) ?_
 ·exact ⟨pa0,pa1,pb0,pb1⟩
 clear hK K
 try simp only[PT]
 refine wpT_one 6 rfl (by kernel_rfl) (fun K hK=>?_);go_simp;refine (HC2.out _ _ _ HF1.out HF2.out).mono ?_;rintro e w5 ⟨rfl,hn⟩;rw[HR2.out];clear HF1 HF2;clear pa0 pa1 pa2 pa3 pa4 pb0 pb1 pb2 pb3 pb4;replace BA:=hid (BA.out.new hn);replace BB:=hid (BB.out.new hn);replace HN:=hid (HN.out.trans hn);clear hn;obtain ⟨pa0,pa1,pa2,pa3,pa4⟩:=BA.out.two;obtain ⟨pb0,pb1,pb2,pb3,pb4⟩:=BB.out.two;refine hK.out _ _ (fun _=>?_) ?_
 ·exact ⟨pa0,pa1,pb0,pb1⟩
 clear hK K
 try simp only[PT]
 refine tk 7 (by exact ⟨pa0,pa1,pb0,pb1⟩) ?_
 try simp only[PT]
 refine wpT_tail rfl (by kernel_rfl) ?_;simp only[List.drop_succ_cons,List.drop_zero];go_wp2_with fail;go_ret2;exact ⟨rfl,HN.out⟩
theorem of_aw (w:World)(he:Env w):Calls Tryz.prog 69 #[.int .i64 15,.int .i64 (-6)] w (TxtPost w ⟨#[45,53,47,50]⟩ 0):=by
 have h:=nof_calls 15 (-6) w he (by decide) (by decide) (by decide);rw[show rs (Rat.divInt 15 (-6))=⟨#[45,53,47,50]⟩ by decide +kernel] at h;exact h
theorem floor_aw (w:World)(he:Env w):Calls Tryz.prog 70 #[.string ⟨#[45,53,47,50]⟩] w (TxtPost w ⟨#[45,51]⟩ 0):=by
 have h:=nfloor_ok ⟨#[45,53,47,50]⟩ (Rat.divInt (-5) 2) (by decide +kernel) (by rw[Fits.iff];decide +kernel) (by decide) w he;rw[show resS (((Rat.divInt (-5) 2).floor:Int):Rat)=⟨#[45,51]⟩ by decide +kernel,show resE (((Rat.divInt (-5) 2).floor:Int):Rat)=0 by decide +kernel] at h;exact h
theorem rootIs (n m:Int)(h:0≤m∧m*m≤n∧n < (m+1)*(m+1)):IsRt n m:=⟨h.1,h.2.1,h.2.2⟩
theorem root_aw (w:World)(he:Env w):Calls Tryz.prog 31 #[.string ⟨#[50]⟩] w (SpPost w ⟨#[55,48,55,47,53,48,48]⟩ ⟨#[50,56,51,47,50,48,48]⟩ 0):=by
 have h:=nroot_near ⟨#[50]⟩ (Rat.divInt 2 1) 1 1 1414 (by decide +kernel) (by rw[Fits.iff];decide +kernel) (FB.divInt (by unfold BdK;decide +kernel) (by unfold BdK;decide +kernel) (by decide)) (by decide) (by decide +kernel) (rootIs _ _ (by decide +kernel)) (rootIs _ _ (by decide +kernel)) (by decide +kernel) (rootIs _ _ (by decide +kernel)) w he;rw[show rs (Rat.divInt 1414 1000)=⟨#[55,48,55,47,53,48,48]⟩ by decide +kernel,show rs (Rat.divInt (1414+1) 1000)=⟨#[50,56,51,47,50,48,48]⟩ by decide +kernel] at h;exact h
theorem chk_m1_2 (w:World)(he:Env w):Calls Tryz.prog 51 #[.agg #[.string ⟨#[45,49]⟩,.string ⟨#[50]⟩]] w (RetNew w 0):=by
 have h:=ncheckSpan_ok (Rat.divInt (-1) 1) (Rat.divInt 2 1) ⟨#[45,49]⟩ ⟨#[50]⟩ (by decide +kernel) (by decide +kernel) (by rw[Fits.iff];decide +kernel) (by rw[Fits.iff];decide +kernel) (by decide) (by decide) w he;rw[if_neg (by decide +kernel)] at h;exact h
theorem chk_m3_4 (w:World)(he:Env w):Calls Tryz.prog 51 #[.agg #[.string ⟨#[45,51]⟩,.string ⟨#[52]⟩]] w (RetNew w 0):=by
 have h:=ncheckSpan_ok (Rat.divInt (-3) 1) (Rat.divInt 4 1) ⟨#[45,51]⟩ ⟨#[52]⟩ (by decide +kernel) (by decide +kernel) (by rw[Fits.iff];decide +kernel) (by rw[Fits.iff];decide +kernel) (by decide) (by decide) w he;rw[if_neg (by decide +kernel)] at h;exact h
theorem chk_1_2 (w:World)(he:Env w):Calls Tryz.prog 51 #[.agg #[.string ⟨#[49]⟩,.string ⟨#[50]⟩]] w (RetNew w 0):=by
 have h:=ncheckSpan_ok (Rat.divInt 1 1) (Rat.divInt 2 1) ⟨#[49]⟩ ⟨#[50]⟩ (by decide +kernel) (by decide +kernel) (by rw[Fits.iff];decide +kernel) (by rw[Fits.iff];decide +kernel) (by decide) (by decide) w he;rw[if_neg (by decide +kernel)] at h;exact h
theorem chk_4_8 (w:World)(he:Env w):Calls Tryz.prog 51 #[.agg #[.string ⟨#[52]⟩,.string ⟨#[56]⟩]] w (RetNew w 0):=by
 have h:=ncheckSpan_ok (Rat.divInt 4 1) (Rat.divInt 8 1) ⟨#[52]⟩ ⟨#[56]⟩ (by decide +kernel) (by decide +kernel) (by rw[Fits.iff];decide +kernel) (by rw[Fits.iff];decide +kernel) (by decide) (by decide) w he;rw[if_neg (by decide +kernel)] at h;exact h
theorem chk_3_4 (w:World)(he:Env w):Calls Tryz.prog 51 #[.agg #[.string ⟨#[51]⟩,.string ⟨#[52]⟩]] w (RetNew w 0):=by
 have h:=ncheckSpan_ok (Rat.divInt 3 1) (Rat.divInt 4 1) ⟨#[51]⟩ ⟨#[52]⟩ (by decide +kernel) (by decide +kernel) (by rw[Fits.iff];decide +kernel) (by rw[Fits.iff];decide +kernel) (by decide) (by decide) w he;rw[if_neg (by decide +kernel)] at h;exact h
theorem chk_2_3 (w:World)(he:Env w):Calls Tryz.prog 51 #[.agg #[.string ⟨#[50]⟩,.string ⟨#[51]⟩]] w (RetNew w 0):=by
 have h:=ncheckSpan_ok (Rat.divInt 2 1) (Rat.divInt 3 1) ⟨#[50]⟩ ⟨#[51]⟩ (by decide +kernel) (by decide +kernel) (by rw[Fits.iff];decide +kernel) (by rw[Fits.iff];decide +kernel) (by decide) (by decide) w he;rw[if_neg (by decide +kernel)] at h;exact h
theorem enter_mul (args:Array Value)(W:World):Sem.run Tryz.prog (callFunc 94 args) W=.ok (.enter 94 args) W:=by kernel_rfl
theorem enter_div (args:Array Value)(W:World):Sem.run Tryz.prog (callFunc 95 args) W=.ok (.enter 95 args) W:=by kernel_rfl
theorem int1 {z:Int}{q:Rat}(h:q=Rat.divInt z 1)(hz:z.natAbs < 2^40):FB 40 q:=by
 rw[h];exact FB.divInt hz (by unfold BdK;decide +kernel) (by decide)
theorem times_aw (w:World)(he:Env w):Calls Tryz.prog 54 #[.agg #[.string ⟨#[45,49]⟩,.string ⟨#[50]⟩],.agg #[.string ⟨#[45,51]⟩,.string ⟨#[52]⟩]] w (SpPost w ⟨#[45,54]⟩ ⟨#[56]⟩ 0):=by
 refine ntimes_calls _ _ _ _ _ _ _ (fun W hW=>opspans_ok _ _ _ _ _ _ _ 0 0 rfl (fun W h=>chk_m1_2 W h) (fun W h=>chk_m3_4 W h) (fun W hW=>?_) W hW) w he
 have fx:∀ x,(x=Rat.divInt (-1) 1∨x=Rat.divInt 2 1)→FB 40 x:=fun x h=>by
  rcases h with h | h
  ·exact int1 h (by decide)
  ·exact int1 h (by decide)
 have fy:∀ x,(x=Rat.divInt (-3) 1∨x=Rat.divInt 4 1)→FB 40 x:=fun x h=>by
  rcases h with h | h
  ·exact int1 h (by decide)
  ·exact int1 h (by decide)
 have h:=combine_calls ⟨#[45,49]⟩ ⟨#[50]⟩ ⟨#[45,51]⟩ ⟨#[52]⟩ (Rat.divInt (-1) 1) (Rat.divInt 2 1) (Rat.divInt (-3) 1) (Rat.divInt 4 1) (by decide +kernel) (by decide +kernel) (by decide +kernel) (by decide +kernel) (by decide) (by decide) (by decide) (by decide) 94 (fun x y=>x*y) enter_mul
  (fun x y hx hy W va vb h1 h2=>fmul_calls va vb x y 40 40 W h1 h2 (fx x hx) (fy y hy) (by omega)) (fun x y hx hy=>((fx x hx).mul (fy y hy)).mono (by omega)) W hW
 rw[show rs (minR (minR (minR (Rat.divInt (-1) 1*Rat.divInt (-3) 1) (Rat.divInt (-1) 1*Rat.divInt 4 1)) (Rat.divInt 2 1*Rat.divInt (-3) 1)) (Rat.divInt 2 1*Rat.divInt 4 1))=⟨#[45,54]⟩ by decide +kernel,
  show rs (maxR (maxR (maxR (Rat.divInt (-1) 1*Rat.divInt (-3) 1) (Rat.divInt (-1) 1*Rat.divInt 4 1)) (Rat.divInt 2 1*Rat.divInt (-3) 1)) (Rat.divInt 2 1*Rat.divInt 4 1))=⟨#[56]⟩ by decide +kernel] at h
 exact h
theorem over_aw (w:World)(he:Env w):Calls Tryz.prog 55 #[.agg #[.string ⟨#[49]⟩,.string ⟨#[50]⟩],.agg #[.string ⟨#[52]⟩,.string ⟨#[56]⟩]] w (SpPost w ⟨#[49,47,56]⟩ ⟨#[49,47,50]⟩ 0):=by
 refine nover_ok _ _ _ _ _ _ (Rat.divInt 4 1) (Rat.divInt 8 1) (by decide +kernel) (by decide +kernel) (by decide) (by decide) 0 0 rfl (.inl (by decide +kernel)) (fun W h=>chk_1_2 W h) (fun W h=>chk_4_8 W h) (fun W hW=>?_) w he
 have fx:∀ x,(x=Rat.divInt 1 1∨x=Rat.divInt 2 1)→FB 40 x:=fun x h=>by
  rcases h with h | h
  ·exact int1 h (by decide)
  ·exact int1 h (by decide)
 have fy:∀ x,(x=Rat.divInt 4 1∨x=Rat.divInt 8 1)→FB 40 x∧x≠0:=fun x h=>by
  rcases h with h | h
  ·exact ⟨int1 h (by decide),by rw[h];decide +kernel⟩
  ·exact ⟨int1 h (by decide),by rw[h];decide +kernel⟩
 have h:=combine_calls ⟨#[49]⟩ ⟨#[50]⟩ ⟨#[52]⟩ ⟨#[56]⟩ (Rat.divInt 1 1) (Rat.divInt 2 1) (Rat.divInt 4 1) (Rat.divInt 8 1) (by decide +kernel) (by decide +kernel) (by decide +kernel) (by decide +kernel) (by decide) (by decide) (by decide) (by decide) 95 (fun x y=>x / y) enter_div
  (fun x y hx hy W va vb h1 h2=>fdiv_calls va vb x y 40 40 W h1 h2 (fx x hx) (fy y hy).1 (by omega) (fy y hy).2) (fun x y hx hy=>((fx x hx).div (fy y hy).1 (fy y hy).2).mono (by omega)) W hW
 rw[show rs (minR (minR (minR (Rat.divInt 1 1 / Rat.divInt 4 1) (Rat.divInt 1 1 / Rat.divInt 8 1)) (Rat.divInt 2 1 / Rat.divInt 4 1)) (Rat.divInt 2 1 / Rat.divInt 8 1))=⟨#[49,47,56]⟩ by decide +kernel,
  show rs (maxR (maxR (maxR (Rat.divInt 1 1 / Rat.divInt 4 1) (Rat.divInt 1 1 / Rat.divInt 8 1)) (Rat.divInt 2 1 / Rat.divInt 4 1)) (Rat.divInt 2 1 / Rat.divInt 8 1))=⟨#[49,47,50]⟩ by decide +kernel] at h
 exact h
theorem cmp1_aw (w:World)(he:Env w):Calls Tryz.prog 56 #[.agg #[.string ⟨#[49]⟩,.string ⟨#[50]⟩],.agg #[.string ⟨#[51]⟩,.string ⟨#[52]⟩]] w (NCmpPost w (-1) 0):=
 ncompare_low _ _ _ _ (Rat.divInt 1 1) (Rat.divInt 2 1) (Rat.divInt 3 1) (Rat.divInt 4 1) (by decide +kernel) (by decide +kernel) (by decide +kernel) (by decide +kernel) (by decide) (by decide) (by decide) (by decide) (by rw[Fits.iff];decide +kernel) (by rw[Fits.iff];decide +kernel) (by rw[Fits.iff];decide +kernel) (by rw[Fits.iff];decide +kernel) 0 0 rfl
  (fun W h=>chk_1_2 W h) (fun W h=>chk_3_4 W h) (by decide +kernel) w he
theorem cmp2_aw (w:World)(he:Env w):Calls Tryz.prog 56 #[.agg #[.string ⟨#[49]⟩,.string ⟨#[50]⟩],.agg #[.string ⟨#[50]⟩,.string ⟨#[51]⟩]] w (NCmpPost w 0 24):=
 ncompare_open _ _ _ _ (Rat.divInt 1 1) (Rat.divInt 2 1) (Rat.divInt 2 1) (Rat.divInt 3 1) (by decide +kernel) (by decide +kernel) (by decide +kernel) (by decide +kernel) (by decide) (by decide) (by decide) (by decide) (by rw[Fits.iff];decide +kernel) (by rw[Fits.iff];decide +kernel) (by rw[Fits.iff];decide +kernel) (by rw[Fits.iff];decide +kernel) 0 0 rfl
  (fun W h=>chk_1_2 W h) (fun W h=>chk_2_3 W h) (by decide +kernel) (by decide +kernel) (by decide +kernel) w he
end Go.Proofs.YtnjonlnemagomaaGreatDoor
namespace Go.Proofs.YtnjonlnemagomaaGreatDoor
open Go.RowKit Big
open Go.Lib (hid)
set_option maxRecDepth 100000
set_option maxHeartbeats 8000000
def RdP (w:World)(a:Option Addr)(pts:List (ByteArray × ByteArray)):Prop:=∀ (k:Nat) (h:k < pts.length),∃ b off,a=some ⟨b,off,none⟩∧w.cell? ⟨b,off+k*2,none⟩=some (.string pts[k].1)∧w.cell? ⟨b,off+k*2+1,none⟩=some (.string pts[k].2)
theorem RdP.new {w w':World}{a:Option Addr}{pts:List (ByteArray × ByteArray)}(h:RdP w a pts)(hn:New w w'):RdP w' a pts:=fun k hk=>by
 obtain ⟨b,off,e,h1,h2⟩:=h k hk;exact ⟨b,off,e,hn.cell h1,hn.cell h2⟩
def TxtIs (s:ByteArray)(q:Rat):Prop:=s.data.toList=ratText q∧Fits q∧s.size≤100000
structure TabOk (pts:List (ByteArray × ByteArray))(xs ys:Nat→Rat):Prop where
 x:∀ (k:Nat) (h:k < pts.length),TxtIs pts[k].1 (xs k)
 y:∀ (k:Nat) (h:k < pts.length),TxtIs pts[k].2 (ys k)
 inc:∀ k,k+1 < pts.length→xs k < xs (k+1)
theorem TxtIs.err {s t:ByteArray}{p q:Rat}(h:TxtIs s p)(g:TxtIs t q):err2 s t=0:=by
 unfold err2;rw[h.1,g.1,ratErr_ratText h.2.1,ratErr_ratText g.2.1];rfl
theorem tabchk_zero (X Y:ByteArray)(x y:Rat)(hx:TxtIs X x)(hy:TxtIs Y y)(p:Nat)(a:Option Addr)(n cap:Nat)(w:World)(he:Env w)(_htp:w.cell? ⟨p,0,none⟩=some (.slice a n cap)):Calls Tryz.prog 102 #[.int .i64 0,.agg #[.string X,.string Y],.pointer (some ⟨p,0,none⟩)] w (RetNew w 0):=by
 have hrow:=ncheckAll_two X Y hx.2.2 hy.2.2;rw[hx.err hy] at hrow;clear hx hy _htp;have HE:=hid he;have HROW:=hid hrow;clear he hrow;go_enter Tryz.func102,Tryz.ntmps102;go_upto_region 1 with (fail);obtain ⟨BA,HN⟩:=lay1 w 30 #[.string X,.string Y];obtain ⟨w0,hw0⟩:∃ u,w.alloc (.cells #[.string X,.string Y] 30)=u:=⟨_,rfl⟩;rw[hw0] at BA HN⊢;clear hw0;obtain ⟨pa0,pa1,pa2,pa3,pa4⟩:=BA.out.two;go_wp2_with fail;clear pa0 pa1 pa2 pa3 pa4;have HN0:=HN;clear HN;obtain ⟨BG,HN⟩:=lay1 w0 23 #[.string X,.string Y];replace BA:=hid (BA.out.new HN.out);have HN_:=HN0.out.trans HN.out;clear HN HN0;have HN:=hid HN_;clear HN_;refine (HROW.out _ _ _ _ (HE.out.new HN.out) BG.out).mono ?_;rintro e w2 ⟨rfl,hn⟩;clear BG;replace BA:=hid (BA.out.new hn);replace HN:=hid (HN.out.trans hn);clear hn;go_wp2_with fail;go_ret;exact ⟨rfl,HN.out⟩
theorem tabchk_next (X Y Z:ByteArray)(x y z:Rat)(hx:TxtIs X x)(hy:TxtIs Y y)(hz:TxtIs Z z)(hlt:z < x)(p k b off:Nat)(n cap:Nat)(hk:k+1 < n)(hk2:n≤100000)(w:World)(he:Env w)(htp:w.cell? ⟨p,0,none⟩=some (.slice (some ⟨b,off,none⟩) n cap))(hc:w.cell? ⟨b,off+k*2,none⟩=some (.string Z)):
  Calls Tryz.prog 102 #[.int .i64 ((k:Int)+1),.agg #[.string X,.string Y],.pointer (some ⟨p,0,none⟩)] w (RetNew w 0):=by
 have hrow:=ncheckAll_two X Y hx.2.2 hy.2.2;rw[hx.err hy] at hrow;have hfx:=fun W hW=>from_calls X x W hW hx.1 (by have:=hx.2.2;omega);have hfz:=fun W hW=>from_calls Z z W hW hz.1 (by have:=hz.2.2;omega);have hcm:=fun va vb W h1 h2=>fcmp_calls va vb x z 2000 2000 W h1 h2 (Fits.fb hx.2.1) (Fits.fb hz.2.1) (by omega);unfold SignPost at hcm;obtain ⟨t,ht,ht0⟩:∃ t,(crossed x z).sign=t∧0 < t:=⟨_,rfl,crossed_pos.2 hlt⟩;rw[ht] at hcm;have htb:decide (t≤0)=false:=decide_eq_false (by omega);have hk0:((k:Int)+1==0)=false:=beq_false_of_ne (by omega)
 have hwk:IntKind.i64.wrap (k:Int)=k:=by rw[IntKind.wrap_i64];omega
 have hk1:(0:Int)≤k∧(k:Int) < n:=by omega
 have hk3:(0:Int)≤k:=by omega
 have hk4:(k:Int) < n:=by omega
 clear hx hy hz hlt ht ht0 hk hk2;have HE:=hid he;have HROW:=hid hrow;have HFX:=hid hfx;have HFZ:=hid hfz;have HCM:=hid hcm;clear he hrow hfx hfz hcm;go_enter Tryz.func102,Tryz.ntmps102;go_upto_region 1 with (fail);obtain ⟨BA,HN⟩:=lay1 w 30 #[.string X,.string Y];obtain ⟨w0,hw0⟩:∃ u,w.alloc (.cells #[.string X,.string Y] 30)=u:=⟨_,rfl⟩;rw[hw0] at BA HN⊢;clear hw0;obtain ⟨pa0,pa1,pa2,pa3,pa4⟩:=BA.out.two;go_wp2_with fail;clear pa0 pa1 pa2 pa3 pa4;have HN0:=HN;clear HN;obtain ⟨BG,HN⟩:=lay1 w0 23 #[.string X,.string Y];replace BA:=hid (BA.out.new HN.out);have HN_:=HN0.out.trans HN.out;clear HN HN0;have HN:=hid HN_;clear HN_;refine (HROW.out _ _ _ _ (HE.out.new HN.out) BG.out).mono ?_;rintro e w2 ⟨rfl,hn⟩;clear BG;replace BA:=hid (BA.out.new hn);replace HN:=hid (HN.out.trans hn);clear hn;replace htp:=HN.out.cell htp;replace hc:=HN.out.cell hc;go_upto_region 4 with (fail);obtain ⟨pa0,pa1,pa2,pa3,pa4⟩:=BA.out.two;refine wp_region_T 13 (fun W=>W.cell? ⟨w.heap.size,0,none⟩=some (.string X)∧W.cell? ⟨w.heap.size,1,none⟩=some (.string Y)∧W.cell? ⟨p,0,none⟩=some (.slice (some ⟨b,off,none⟩) n cap)∧W.cell? ⟨b,off+k*2,none⟩=some (.string Z)) 14 #[false,false,false,false,false,false,false,false,false,false,false,false,false,false] rfl (by kernel_rfl) (by kernel_rfl) ?_;refine tk 0 (by exact ⟨pa0,pa1,htp,hc⟩) ?_
 try simp only[PT]
 refine tk 1 (by exact ⟨pa0,pa1,htp,hc⟩) ?_
 try simp only[PT]
 refine tk 3 (by exact ⟨pa0,pa1,htp,hc⟩) ?_
 try simp only[PT]
 refine tk 4 (by exact ⟨pa0,pa1,htp,hc⟩) ?_
 try simp only[PT]
 refine tk 5 (by exact ⟨pa0,pa1,htp,hc⟩) ?_
 try simp only[PT]
 refine tk 6 (by exact ⟨pa0,pa1,htp,hc⟩) ?_
 try simp only[PT]
 refine tk 7 (by exact ⟨pa0,pa1,htp,hc⟩) ?_
 try simp only[PT]
 refine tk 8 (by exact ⟨pa0,pa1,htp,hc⟩) ?_
 try simp only[PT]
 refine wpT_one 2 rfl (by kernel_rfl) (fun K hK=>?_);go_simp;refine (HFX.out _ (HE.out.new HN.out.drew)).mono ?_;rintro e w3 ⟨v3,rfl,hn,hf⟩;have hn:=hn.undrew;replace htp:=hn.cell htp;replace hc:=hn.cell hc;have HF3:=hid hf;clear hf;clear pa0 pa1 pa2 pa3 pa4;replace BA:=hid (BA.out.new hn);replace HN:=hid (HN.out.trans hn);clear hn;obtain ⟨pa0,pa1,pa2,pa3,pa4⟩:=BA.out.two;refine hK.out _ _ (fun _=>?_) ?_
 ·exact ⟨pa0,pa1,htp,hc⟩
 clear hK K
 try simp only[PT]
 refine wpT_one 9 rfl (by kernel_rfl) (fun K hK=>?_);go_simp;refine (HFZ.out _ (HE.out.new HN.out)).mono ?_;rintro e w4 ⟨v4,rfl,hn,hf⟩;replace htp:=hn.cell htp;replace hc:=hn.cell hc;have HF4:=hid hf;clear hf;clear pa0 pa1 pa2 pa3 pa4;replace BA:=hid (BA.out.new hn);replace HF3:=hid (HF3.out.new hn);replace HN:=hid (HN.out.trans hn);clear hn;obtain ⟨pa0,pa1,pa2,pa3,pa4⟩:=BA.out.two;refine hK.out _ _ (fun _=>?_) ?_
 ·exact ⟨pa0,pa1,htp,hc⟩
 clear hK K
 try simp only[PT]
 refine wpT_one 10 rfl (by kernel_rfl) (fun K hK=>?_);go_simp;refine (HCM.out _ _ _ HF3.out HF4.out).mono ?_;rintro e w5 ⟨rfl,hn⟩;replace htp:=hn.cell htp;replace hc:=hn.cell hc;clear HF3 HF4;clear pa0 pa1 pa2 pa3 pa4;replace BA:=hid (BA.out.new hn);replace HN:=hid (HN.out.trans hn);clear hn;obtain ⟨pa0,pa1,pa2,pa3,pa4⟩:=BA.out.two;refine hK.out _ _ (fun _=>?_) ?_
 ·exact ⟨pa0,pa1,htp,hc⟩
 clear hK K
 try simp only[PT]
 refine tk 11 (by exact ⟨pa0,pa1,htp,hc⟩) ?_
 try simp only[PT]
 refine wpT_one 12 rfl (by kernel_rfl) (fun K hK=>?_);go_simp;refine (nwhen_calls false 11 _).mono ?_;rintro e w6 ⟨rfl,hw⟩;have hn:=New.of_eq hw;replace htp:=hn.cell htp;replace hc:=hn.cell hc;clear hw;clear pa0 pa1 pa2 pa3 pa4;replace BA:=hid (BA.out.new hn);replace HN:=hid (HN.out.trans hn);clear hn;obtain ⟨pa0,pa1,pa2,pa3,pa4⟩:=BA.out.two;refine hK.out _ _ (fun _=>?_) ?_
 ·exact ⟨pa0,pa1,htp,hc⟩
 clear hK K
 try simp only[PT]
 refine wpT_tail rfl (by kernel_rfl) ?_;simp only[List.drop_succ_cons,List.drop_zero];clear pa0 pa1 pa2 pa3 pa4;go_wp2_with fail;go_ret;exact ⟨rfl,HN.out⟩
theorem eachp_calls (pts:List (ByteArray × ByteArray))(xs ys:Nat→Rat)(ht:TabOk pts xs ys)(hl:pts.length≤64)(p:Nat)(a:Option Addr)(cap:Nat)(w:World)(he:Env w)(htp:w.cell? ⟨p,0,none⟩=some (.slice a pts.length cap))(hr:RdP w a pts):
  Calls Tryz.prog 101 #[.slice a pts.length cap,.func (.func 102) #[] #[.pointer (some ⟨p,0,none⟩)]] w (RetNew w 0):=by
 have hcl:∀ (k:Nat) (hk:k < pts.length) (W:World),New w W→Calls Tryz.prog 102 #[.int .i64 (k:Int),.agg #[.string pts[k].1,.string pts[k].2],.pointer (some ⟨p,0,none⟩)] W (RetNew W 0):=fun k hk W hn=>by
  rcases Nat.eq_zero_or_pos k with h0 | h0
  ·subst h0;exact tabchk_zero _ _ _ _ (ht.x 0 hk) (ht.y 0 hk) p a _ cap W (he.new hn) (hn.cell htp)
  ·obtain ⟨j,rfl⟩:∃ j,k=j+1:=⟨k - 1,by omega⟩;obtain ⟨b,off,e,h1,h2⟩:=hr j (by omega);have h:=tabchk_next _ _ _ _ _ _ (ht.x (j+1) hk) (ht.y (j+1) hk) (ht.x j (by omega)) (ht.inc j hk) p j b off pts.length cap hk (by omega) W (he.new hn) (by rw[←e];exact hn.cell htp) (hn.cell h1);rw[show ((j+1:Nat):Int)=(j:Int)+1 by omega];exact h
 obtain ⟨n,hn⟩:∃ n,pts.length=n:=⟨_,rfl⟩;rw[hn]
 have hni:(n:Int)≤64:=by omega
 clear ht htp he hl;have HR:=hid hr;have HCL:=hid hcl;have HNN:=hid hn;clear hr hcl hn;go_enter Tryz.func101,Tryz.ntmps101;go_wp2_with fail;go_loopw [10] (fun i wr=>∃ k:Nat,k≤n∧i=.int .i64 (k:Int)∧Hid (New w wr)) (fun i _=>n - (intOf i).toNat)
 case atStart=>exact ⟨0,Nat.zero_le _,rfl,hid (New.refl _)⟩
 case round=>
  obtain ⟨k,hk,rfl,HN⟩:=hrel;by_cases hlt:k < n
  ·obtain ⟨b,off,rfl,h1,h2⟩:=HR.out k (by rw[HNN.out];exact hlt);have hc:=fun W hW=>HCL.out k (by rw[HNN.out];exact hlt) W hW;have h1:=HN.out.cell h1;have h2:=HN.out.cell h2;obtain ⟨X,hX⟩:∃ x,(pts[k]'(by rw[HNN.out];exact hlt)).1=x:=⟨_,rfl⟩;obtain ⟨Y,hY⟩:∃ x,(pts[k]'(by rw[HNN.out];exact hlt)).2=x:=⟨_,rfl⟩;rw[hX] at h1;rw[hY] at h2;simp only[hX,hY] at hc
   have hki:(k:Int) < n:=by omega
   clear hX hY;have HC:=hid hc;clear hc;go_upto_region 4 with (fail);have HN0:=HN;clear HN;obtain ⟨BE,HN⟩:=lay1 wr 30 #[.string X,.string Y];have HN_:=HN0.out.trans HN.out;clear HN HN0;have HN:=hid HN_;clear HN_;clear h1 h2;obtain ⟨pe0,pe1,pe2,pe3,pe4⟩:=BE.out.two;go_wp2_with fail;refine (HC.out _ HN.out).mono ?_;rintro e w4 ⟨rfl,hn⟩;clear pe0 pe1 pe2 pe3 pe4;clear BE;replace HN:=hid (HN.out.trans hn);clear hn;go_wp2_with fail;go_roundw
   case rel=>exact ⟨k+1,by omega,by go_num,HN⟩
   case measure=>simp[intOf];omega
  ·obtain rfl:k=n:=by omega
   go_wp2_with fail;go_ret;exact ⟨rfl,HN.out⟩
theorem checkTable_calls (pts:List (ByteArray × ByteArray))(xs ys:Nat→Rat)(ht:TabOk pts xs ys)(h0:0 < pts.length)(hl:pts.length≤64)(a:Option Addr)(cap:Nat)(w:World)(he:Env w)(hr:RdP w a pts):
  Calls Tryz.prog 20 #[.slice a pts.length cap] w (RetNew w 0):=by
 have hea:=fun p W (h1:Env W) h2 (h3:RdP W a pts)=>eachp_calls pts xs ys ht hl p a cap W h1 h2 h3;obtain ⟨n,hn⟩:∃ n,pts.length=n:=⟨_,rfl⟩;rw[hn] at h0 hl hea⊢
 have hni:(n:Int)≤64:=by omega
 have hb1:((n:Int)==0)=false:=beq_false_of_ne (by omega);have hb2:decide ((n:Int) > 64)=false:=decide_eq_false (by omega)
 have hb3:¬(64:Int) < (n:Int):=by omega
 clear ht hn hl h0;have HE:=hid he;have HR:=hid hr;have HEA:=hid hea;clear he hr hea;go_enter Tryz.func20,Tryz.ntmps20;go_upto_region 1 with (fail);obtain ⟨BA,HN⟩:=lay1 w 22 #[.slice a n cap];obtain ⟨w0,hw0⟩:∃ u,w.alloc (.cells #[.slice a n cap] 22)=u:=⟨_,rfl⟩;rw[hw0] at BA HN⊢;clear hw0;obtain ⟨pa0,pa1,pa2⟩:=BA.out.one;refine wp_region_T 10 (fun W=>W.cell? ⟨w.heap.size,0,none⟩=some (.slice a n cap)) 11 #[false,false,false,false,false,false,false,false,false,false,false] rfl (by kernel_rfl) (by kernel_rfl) ?_;refine tk 0 (by exact pa0) ?_
 try simp only[PT]
 refine tk 1 (by exact pa0) ?_
 try simp only[PT]
 refine tk 2 (by exact pa0) ?_
 try simp only[PT]
 refine tk 4 (by exact pa0) ?_
 try simp only[PT]
 refine tk 5 (by exact pa0) ?_
 try simp only[PT]
 refine tk 6 (by exact pa0) ?_
 try simp only[PT]
 refine wpT_one 3 rfl (by kernel_rfl) (fun K hK=>?_);go_simp;refine (nwhen_calls false 12 _).mono ?_;rintro e w1 ⟨rfl,hw⟩;have hn:=((New.refl w0).drew).trans (.of_eq hw);clear hw;clear pa0 pa1 pa2;replace BA:=hid (BA.out.new hn);replace HN:=hid (HN.out.trans hn);clear hn;obtain ⟨pa0,pa1,pa2⟩:=BA.out.one;refine hK.out _ _ (fun _=>?_) ?_
 ·exact pa0
 clear hK K
 try simp only[PT]
 refine wpT_one 7 rfl (by kernel_rfl) (fun K hK=>?_);go_simp;refine (nwhen_calls false 5 _).mono ?_;rintro e w2 ⟨rfl,hw⟩;have hn:=New.of_eq hw;clear hw;clear pa0 pa1 pa2;replace BA:=hid (BA.out.new hn);replace HN:=hid (HN.out.trans hn);clear hn;obtain ⟨pa0,pa1,pa2⟩:=BA.out.one;refine hK.out _ _ (fun _=>?_) ?_
 ·exact pa0
 clear hK K
 try simp only[PT]
 refine wpT_one 8 rfl (by kernel_rfl) (fun K hK=>?_);go_simp;clear pa0 pa1 pa2;have HN0:=HN;clear HN;obtain ⟨BG,HN⟩:=lay1 w2 32 #[.int .i64 0,.int .i64 0];replace BA:=hid (BA.out.new HN.out);have HN_:=HN0.out.trans HN.out;clear HN HN0;have HN:=hid HN_;clear HN_;obtain ⟨pa0,pa1,pa2⟩:=BA.out.one;refine hK.out _ _ (fun _=>?_) ?_
 ·exact pa0
 clear hK K
 try simp only[PT]
 refine wpT_one 9 rfl (by kernel_rfl) (fun K hK=>?_);go_simp;refine (nfirst2_new 0 0 _ _ 32 _ BG.out).mono ?_;rintro e w3 ⟨rfl,hn⟩;clear BG;clear pa0 pa1 pa2;replace BA:=hid (BA.out.new hn);replace HN:=hid (HN.out.trans hn);clear hn;obtain ⟨pa0,pa1,pa2⟩:=BA.out.one;refine hK.out _ _ (fun _=>?_) ?_
 ·exact pa0
 clear hK K
 try simp only[]
 refine wpT_tail rfl (by kernel_rfl) ?_;simp only[List.drop_succ_cons,List.drop_zero];go_wp2_with fail;refine (HEA.out _ _ (HE.out.new HN.out) pa0 (HR.out.new HN.out)).mono ?_;rintro e w4 ⟨rfl,hn⟩;clear pa0 pa1 pa2;replace HN:=hid (HN.out.trans hn);clear hn;go_wp2_with fail;go_ret;exact ⟨rfl,HN.out⟩
end Go.Proofs.YtnjonlnemagomaaGreatDoor
