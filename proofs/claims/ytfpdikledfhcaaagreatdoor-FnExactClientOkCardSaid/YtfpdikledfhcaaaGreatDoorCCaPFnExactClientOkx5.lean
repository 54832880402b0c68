import Derived.Test.YtfpdikledfhcaaaGreatDoorCCaPFnExactClientOkx0
import Derived.Test.YtfpdikledfhcaaaGreatDoorCCaPFnExactClientOkx4
namespace Go.Proofs.YtfpdikledfhcaaaGreatDoor.PFnExactClientOk
open Go.RowKit Go.Proofs.YtfpdikledfhcaaaGreatDoorW.PrintWords Go.Proofs.YtfpdikledfhcaaaGreatDoorW.PrintLast Go.Proofs.YtfpdikledfhcaaaGreatDoorW.PrintMore
attribute [local go_sem] max2_int min2_int max_two min_two max_three min_three max_four min_four
set_option linter.unusedVariables false
set_option linter.unusedSimpArgs false
def spec_NeedOk.f (k:Nat) (a0_0:ByteArray) (a0_1:Int) (a0_2:Int) (a0_3:Int) (a0_4:ByteArray):Option (Bool):=(spec_Fits.f k a0_0 a0_1 a0_2 a0_3 a0_4).bind fun t165=>(some t165)
theorem spec_NeedOk.mono : ∀ a0 a1 a2 a3 a4 k,LeO (spec_NeedOk.f k a0 a1 a2 a3 a4) (spec_NeedOk.f (k + 1) a0 a1 a2 a3 a4):=by
 intro a0 a1 a2 a3 a4 k;unfold spec_NeedOk.f
 repeat' first
  | (with_reducible exact spec_Fits.mono _ _ _ _ _ _)
  | (with_reducible exact LeO.refl _)
  | (with_reducible refine LeO.bind ?_ (fun _=>?_))
set_option maxHeartbeats 8000000 in
set_option maxRecDepth 100000 in
theorem spec_NeedOk.calls (k:Nat) (a0_0:ByteArray) (a0_1:Int) (a0_2:Int) (a0_3:Int) (a0_4:ByteArray) (r:Bool) (w:World) (h:spec_NeedOk.f k a0_0 a0_1 a0_2 a0_3 a0_4=some r) :
 Calls Tryz.prog 120 #[.agg #[.string a0_0,.int .i64 a0_1,.int .i64 a0_2,.int .i64 a0_3,.string a0_4]] w fun e w'=>e = .returned (.bool r) ∧ Below w.heap.size w w':=by
 have hu58:=Tryz.underlying58;have hu52:=Tryz.underlying52;have HB:=a_ (Below.refl w.heap.size w);have H:((spec_Fits.f k a0_0 a0_1 a0_2 a0_3 a0_4).bind fun t165=>(some t165))=some r:=h;clear h;replace H:=Option.bind_eq_some_iff.mp H;obtain ⟨t165,A20,H⟩:=H;replace H:(some t165)=some r:=H;have A2:=a_ A20;clear A20;obtain rfl:=Option.some.inj H
 go_enter Tryz.func120,Tryz.ntmps120
 go_wp2_with (first | ((with_reducible refine gate_dst (N:=1) rfl ?_);refine box_event ?hg (N:=1) ?hd (cs:=#[.string a0_0,.int .i64 a0_1,.int .i64 a0_2,.int .i64 a0_3,.string a0_4]) (t:=58) ?hr ?_;(case hd=>rfl);(case hg=>rfl);(case hr=>(go_simp;done));intro gb164 hg w3 hbox hb;have n0_:=a_ (below_step HB.out hb);have n1_:=a_ (hbox);have n2_:=a_ ((by rw [hg];exact (below_size HB.out):w.heap.size ≤ gb164));have n3_:=a_ ((by rw [hg];exact (below_size HB.out):w.heap.size ≤ gb164));clear HB;have HB:=n0_;have BK164:=n1_;have GW164:=n2_;have GE164:=n3_;clear n0_ n1_ n2_ n3_;clear hb hbox hg;have hcz4_0:w3.cell? ⟨gb164,0,none⟩=some (.string a0_0):=(blk_cell BK164.out 0).trans rfl;have hcz4_1:w3.cell? ⟨gb164,1,none⟩=some (.int .i64 a0_1):=(blk_cell BK164.out 1).trans rfl;have hcz4_2:w3.cell? ⟨gb164,2,none⟩=some (.int .i64 a0_2):=(blk_cell BK164.out 2).trans rfl;have hcz4_3:w3.cell? ⟨gb164,3,none⟩=some (.int .i64 a0_3):=(blk_cell BK164.out 3).trans rfl;have hcz4_4:w3.cell? ⟨gb164,4,none⟩=some (.string a0_4):=(blk_cell BK164.out 4).trans rfl;have hfz4_0:=blk_frozen BK164.out 0;have hfz4_1:=blk_frozen BK164.out 1;have hfz4_2:=blk_frozen BK164.out 2;have hfz4_3:=blk_frozen BK164.out 3;have hfz4_4:=blk_frozen BK164.out 4) | ((with_reducible refine gate_callee (f:=121) rfl ?_);refine goesL_ (some 7) rfl rfl Tryz.func121 (by kernel_rfl) rfl #[.string a0_0,.agg #[.int .i64 a0_1,.int .i64 a0_2,.int .i64 a0_3,.string a0_4]] rfl (by (try simp only [List.map_toArray,List.map_cons,List.map_nil]);rfl) ?_;(with_reducible refine (spec_Fits.calls k a0_0 a0_1 a0_2 a0_3 a0_4 t165 _ A2.out).mono ?_);rintro e w5 ⟨rfl,hb⟩;refine ⟨_,rfl,?_⟩;have n0_:=a_ (blk_below (g:=gb164) (o:=.cells #[.string a0_0,.int .i64 a0_1,.int .i64 a0_2,.int .i64 a0_3,.string a0_4] 58 (0,0)) (by exact BK164.out) hb);have n1_:=a_ (below_step HB.out hb);clear BK164;clear HB;have BK164:=n0_;have HB:=n1_;clear n0_ n1_;(try clear hb)))
 go_ret
 exact ⟨by rfl,by exact HB.out⟩
end Go.Proofs.YtfpdikledfhcaaaGreatDoor.PFnExactClientOk
