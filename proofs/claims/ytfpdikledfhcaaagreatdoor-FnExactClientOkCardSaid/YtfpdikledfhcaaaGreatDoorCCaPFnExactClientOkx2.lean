import Derived.Test.YtfpdikledfhcaaaGreatDoorCCaPFnExactClientOkx0
namespace Go.Proofs.YtfpdikledfhcaaaGreatDoor.PFnExactClientOk
open Go.RowKit Go.Proofs.YtfpdikledfhcaaaGreatDoorW.PrintWords Go.Proofs.YtfpdikledfhcaaaGreatDoorW.PrintLast Go.Proofs.YtfpdikledfhcaaaGreatDoorW.PrintMore
attribute [local go_sem] max2_int min2_int max_two min_two max_three min_three max_four min_four
set_option linter.unusedVariables false
set_option linter.unusedSimpArgs false
def laws_szHead.f (a0_0:Int) (a0_1:ByteArray) (a1:Int):Option (Int):=if (wrap64 (a1 - (a0_1.size:Int))) < 0 then (some (-1)) else (some (wrap64 (a1 - (a0_1.size:Int))))
set_option maxHeartbeats 8000000 in
set_option maxRecDepth 100000 in
theorem laws_szHead.calls (a0_0:Int) (a0_1:ByteArray) (a1:Int) (r:Int) (w:World) (h:laws_szHead.f a0_0 a0_1 a1=some r) :
 Calls Tryz.prog 12 #[.agg #[.int .i64 a0_0,.string a0_1],.int .i64 a1] w fun e w'=>e = .returned (.int .i64 r) ∧ Below w.heap.size w w':=by
 have hu23:=Tryz.underlying23;have HB:=a_ (Below.refl w.heap.size w);have H:(if (wrap64 (a1 - (a0_1.size:Int))) < 0 then (some (-1)) else (some (wrap64 (a1 - (a0_1.size:Int)))))=some r:=h;clear h
 by_cases c3:(wrap64 (a1 - (a0_1.size:Int))) < 0
 ·rw [if_pos c3] at H;have c3b0:decide ((wrap64 (a1 - (a0_1.size:Int))) < 0)=true:=decide_eq_true c3;clear c3;obtain rfl:=Option.some.inj H
  go_enter Tryz.func12,Tryz.ntmps12
  go_wp2_with (((with_reducible refine gate_dst (N:=2) rfl ?_);refine box_event ?hg (N:=2) ?hd (cs:=#[.int .i64 a0_0,.string a0_1]) (t:=23) ?hr ?_;(case hd=>rfl);(case hg=>rfl);(case hr=>(go_simp;done));intro gb101 hg w4 hbox hb;have n0_:=a_ (below_step HB.out hb);have n1_:=a_ (hbox);have n2_:=a_ ((by rw [hg];exact (below_size HB.out):w.heap.size ≤ gb101));have n3_:=a_ ((by rw [hg];exact (below_size HB.out):w.heap.size ≤ gb101));clear HB;have HB:=n0_;have BK101:=n1_;have GW101:=n2_;have GE101:=n3_;clear n0_ n1_ n2_ n3_;clear hb hbox hg;have hcz5_0:w4.cell? ⟨gb101,0,none⟩=some (.int .i64 a0_0):=(blk_cell BK101.out 0).trans rfl;have hcz5_1:w4.cell? ⟨gb101,1,none⟩=some (.string a0_1):=(blk_cell BK101.out 1).trans rfl;have hfz5_0:=blk_frozen BK101.out 0;have hfz5_1:=blk_frozen BK101.out 1))
  go_ret
  exact ⟨by rfl,by exact HB.out⟩
 ·rw [if_neg c3] at H;have c3b0:decide ((wrap64 (a1 - (a0_1.size:Int))) < 0)=false:=decide_eq_false c3;clear c3;obtain rfl:=Option.some.inj H
  go_enter Tryz.func12,Tryz.ntmps12
  go_wp2_with (((with_reducible refine gate_dst (N:=2) rfl ?_);refine box_event ?hg (N:=2) ?hd (cs:=#[.int .i64 a0_0,.string a0_1]) (t:=23) ?hr ?_;(case hd=>rfl);(case hg=>rfl);(case hr=>(go_simp;done));intro gb101 hg w6 hbox hb;have n0_:=a_ (below_step HB.out hb);have n1_:=a_ (hbox);have n2_:=a_ ((by rw [hg];exact (below_size HB.out):w.heap.size ≤ gb101));have n3_:=a_ ((by rw [hg];exact (below_size HB.out):w.heap.size ≤ gb101));clear HB;have HB:=n0_;have BK101:=n1_;have GW101:=n2_;have GE101:=n3_;clear n0_ n1_ n2_ n3_;clear hb hbox hg;have hcz7_0:w6.cell? ⟨gb101,0,none⟩=some (.int .i64 a0_0):=(blk_cell BK101.out 0).trans rfl;have hcz7_1:w6.cell? ⟨gb101,1,none⟩=some (.string a0_1):=(blk_cell BK101.out 1).trans rfl;have hfz7_0:=blk_frozen BK101.out 0;have hfz7_1:=blk_frozen BK101.out 1))
  go_ret
  exact ⟨by rfl,by exact HB.out⟩
def laws_szVersion.f (a0_0:Int) (a0_1:Int) (a0_2:Int) (a0_3:ByteArray) (a1:Int):Option (Int):=if (wrap64 (a1 - (a0_3.size:Int))) < 0 then (some (-1)) else (some (wrap64 (a1 - (a0_3.size:Int))))
set_option maxHeartbeats 8000000 in
set_option maxRecDepth 100000 in
theorem laws_szVersion.calls (a0_0:Int) (a0_1:Int) (a0_2:Int) (a0_3:ByteArray) (a1:Int) (r:Int) (w:World) (h:laws_szVersion.f a0_0 a0_1 a0_2 a0_3 a1=some r) :
 Calls Tryz.prog 118 #[.agg #[.int .i64 a0_0,.int .i64 a0_1,.int .i64 a0_2,.string a0_3],.int .i64 a1] w fun e w'=>e = .returned (.int .i64 r) ∧ Below w.heap.size w w':=by
 have hu89:=Tryz.underlying89;have HB:=a_ (Below.refl w.heap.size w);have H:(if (wrap64 (a1 - (a0_3.size:Int))) < 0 then (some (-1)) else (some (wrap64 (a1 - (a0_3.size:Int)))))=some r:=h;clear h
 by_cases c3:(wrap64 (a1 - (a0_3.size:Int))) < 0
 ·rw [if_pos c3] at H;have c3b0:decide ((wrap64 (a1 - (a0_3.size:Int))) < 0)=true:=decide_eq_true c3;clear c3;obtain rfl:=Option.some.inj H
  go_enter Tryz.func118,Tryz.ntmps118
  go_wp2_with (((with_reducible refine gate_dst (N:=2) rfl ?_);refine box_event ?hg (N:=2) ?hd (cs:=#[.int .i64 a0_0,.int .i64 a0_1,.int .i64 a0_2,.string a0_3]) (t:=89) ?hr ?_;(case hd=>rfl);(case hg=>rfl);(case hr=>(go_simp;done));intro gb102 hg w4 hbox hb;have n0_:=a_ (below_step HB.out hb);have n1_:=a_ (hbox);have n2_:=a_ ((by rw [hg];exact (below_size HB.out):w.heap.size ≤ gb102));have n3_:=a_ ((by rw [hg];exact (below_size HB.out):w.heap.size ≤ gb102));clear HB;have HB:=n0_;have BK102:=n1_;have GW102:=n2_;have GE102:=n3_;clear n0_ n1_ n2_ n3_;clear hb hbox hg;have hcz5_0:w4.cell? ⟨gb102,0,none⟩=some (.int .i64 a0_0):=(blk_cell BK102.out 0).trans rfl;have hcz5_1:w4.cell? ⟨gb102,1,none⟩=some (.int .i64 a0_1):=(blk_cell BK102.out 1).trans rfl;have hcz5_2:w4.cell? ⟨gb102,2,none⟩=some (.int .i64 a0_2):=(blk_cell BK102.out 2).trans rfl;have hcz5_3:w4.cell? ⟨gb102,3,none⟩=some (.string a0_3):=(blk_cell BK102.out 3).trans rfl;have hfz5_0:=blk_frozen BK102.out 0;have hfz5_1:=blk_frozen BK102.out 1;have hfz5_2:=blk_frozen BK102.out 2;have hfz5_3:=blk_frozen BK102.out 3))
  go_ret
  exact ⟨by rfl,by exact HB.out⟩
 ·rw [if_neg c3] at H;have c3b0:decide ((wrap64 (a1 - (a0_3.size:Int))) < 0)=false:=decide_eq_false c3;clear c3;obtain rfl:=Option.some.inj H
  go_enter Tryz.func118,Tryz.ntmps118
  go_wp2_with (((with_reducible refine gate_dst (N:=2) rfl ?_);refine box_event ?hg (N:=2) ?hd (cs:=#[.int .i64 a0_0,.int .i64 a0_1,.int .i64 a0_2,.string a0_3]) (t:=89) ?hr ?_;(case hd=>rfl);(case hg=>rfl);(case hr=>(go_simp;done));intro gb102 hg w6 hbox hb;have n0_:=a_ (below_step HB.out hb);have n1_:=a_ (hbox);have n2_:=a_ ((by rw [hg];exact (below_size HB.out):w.heap.size ≤ gb102));have n3_:=a_ ((by rw [hg];exact (below_size HB.out):w.heap.size ≤ gb102));clear HB;have HB:=n0_;have BK102:=n1_;have GW102:=n2_;have GE102:=n3_;clear n0_ n1_ n2_ n3_;clear hb hbox hg;have hcz7_0:w6.cell? ⟨gb102,0,none⟩=some (.int .i64 a0_0):=(blk_cell BK102.out 0).trans rfl;have hcz7_1:w6.cell? ⟨gb102,1,none⟩=some (.int .i64 a0_1):=(blk_cell BK102.out 1).trans rfl;have hcz7_2:w6.cell? ⟨gb102,2,none⟩=some (.int .i64 a0_2):=(blk_cell BK102.out 2).trans rfl;have hcz7_3:w6.cell? ⟨gb102,3,none⟩=some (.string a0_3):=(blk_cell BK102.out 3).trans rfl;have hfz7_0:=blk_frozen BK102.out 0;have hfz7_1:=blk_frozen BK102.out 1;have hfz7_2:=blk_frozen BK102.out 2;have hfz7_3:=blk_frozen BK102.out 3))
  go_ret
  exact ⟨by rfl,by exact HB.out⟩
def laws_szNeed.f (a0_0:ByteArray) (a0_1:Int) (a0_2:Int) (a0_3:Int) (a0_4:ByteArray) (a1:Int):Option (Int):=if (wrap64 (a1 - (a0_0.size:Int))) < 0 then (some (-1)) else ((laws_szVersion.f a0_1 a0_2 a0_3 a0_4 (wrap64 (a1 - (a0_0.size:Int)))).bind fun t104=>(if t104 < 0 then (some (-1)) else (some t104)))
set_option maxHeartbeats 8000000 in
set_option maxRecDepth 100000 in
theorem laws_szNeed.calls (a0_0:ByteArray) (a0_1:Int) (a0_2:Int) (a0_3:Int) (a0_4:ByteArray) (a1:Int) (r:Int) (w:World) (h:laws_szNeed.f a0_0 a0_1 a0_2 a0_3 a0_4 a1=some r) :
 Calls Tryz.prog 58 #[.agg #[.string a0_0,.int .i64 a0_1,.int .i64 a0_2,.int .i64 a0_3,.string a0_4],.int .i64 a1] w fun e w'=>e = .returned (.int .i64 r) ∧ Below w.heap.size w w':=by
 have hu91:=Tryz.underlying91;have hu89:=Tryz.underlying89;have HB:=a_ (Below.refl w.heap.size w);have H:(if (wrap64 (a1 - (a0_0.size:Int))) < 0 then (some (-1)) else ((laws_szVersion.f a0_1 a0_2 a0_3 a0_4 (wrap64 (a1 - (a0_0.size:Int)))).bind fun t104=>(if t104 < 0 then (some (-1)) else (some t104))))=some r:=h;clear h
 by_cases c3:(wrap64 (a1 - (a0_0.size:Int))) < 0
 ·rw [if_pos c3] at H;have c3b0:decide ((wrap64 (a1 - (a0_0.size:Int))) < 0)=true:=decide_eq_true c3;clear c3;obtain rfl:=Option.some.inj H
  go_enter Tryz.func58,Tryz.ntmps58
  go_wp2_with (((with_reducible refine gate_dst (N:=2) rfl ?_);refine box_event ?hg (N:=2) ?hd (cs:=#[.string a0_0,.int .i64 a0_1,.int .i64 a0_2,.int .i64 a0_3,.string a0_4]) (t:=91) ?hr ?_;(case hd=>rfl);(case hg=>rfl);(case hr=>(go_simp;done));intro gb103 hg w4 hbox hb;have n0_:=a_ (below_step HB.out hb);have n1_:=a_ (hbox);have n2_:=a_ ((by rw [hg];exact (below_size HB.out):w.heap.size ≤ gb103));have n3_:=a_ ((by rw [hg];exact (below_size HB.out):w.heap.size ≤ gb103));clear HB;have HB:=n0_;have BK103:=n1_;have GW103:=n2_;have GE103:=n3_;clear n0_ n1_ n2_ n3_;clear hb hbox hg;have hcz5_0:w4.cell? ⟨gb103,0,none⟩=some (.string a0_0):=(blk_cell BK103.out 0).trans rfl;have hcz5_1:w4.cell? ⟨gb103,1,none⟩=some (.int .i64 a0_1):=(blk_cell BK103.out 1).trans rfl;have hcz5_2:w4.cell? ⟨gb103,2,none⟩=some (.int .i64 a0_2):=(blk_cell BK103.out 2).trans rfl;have hcz5_3:w4.cell? ⟨gb103,3,none⟩=some (.int .i64 a0_3):=(blk_cell BK103.out 3).trans rfl;have hcz5_4:w4.cell? ⟨gb103,4,none⟩=some (.string a0_4):=(blk_cell BK103.out 4).trans rfl;have hfz5_0:=blk_frozen BK103.out 0;have hfz5_1:=blk_frozen BK103.out 1;have hfz5_2:=blk_frozen BK103.out 2;have hfz5_3:=blk_frozen BK103.out 3;have hfz5_4:=blk_frozen BK103.out 4))
  go_ret
  exact ⟨by rfl,by exact HB.out⟩
 ·rw [if_neg c3] at H;have c3b0:decide ((wrap64 (a1 - (a0_0.size:Int))) < 0)=false:=decide_eq_false c3;clear c3;replace H:=Option.bind_eq_some_iff.mp H;obtain ⟨t104,A60,H⟩:=H;replace H:(if t104 < 0 then (some (-1)) else (some t104))=some r:=H;have A6:=a_ A60;clear A60
  by_cases c7:t104 < 0
  ·rw [if_pos c7] at H;have c7b0:decide (t104 < 0)=true:=decide_eq_true c7;clear c7;obtain rfl:=Option.some.inj H
   go_enter Tryz.func58,Tryz.ntmps58
   go_wp2_with (first | ((with_reducible refine gate_dst (N:=2) rfl ?_);refine box_event ?hg (N:=2) ?hd (cs:=#[.string a0_0,.int .i64 a0_1,.int .i64 a0_2,.int .i64 a0_3,.string a0_4]) (t:=91) ?hr ?_;(case hd=>rfl);(case hg=>rfl);(case hr=>(go_simp;done));intro gb103 hg w8 hbox hb;have n0_:=a_ (below_step HB.out hb);have n1_:=a_ (hbox);have n2_:=a_ ((by rw [hg];exact (below_size HB.out):w.heap.size ≤ gb103));have n3_:=a_ ((by rw [hg];exact (below_size HB.out):w.heap.size ≤ gb103));clear HB;have HB:=n0_;have BK103:=n1_;have GW103:=n2_;have GE103:=n3_;clear n0_ n1_ n2_ n3_;clear hb hbox hg;have hcz9_0:w8.cell? ⟨gb103,0,none⟩=some (.string a0_0):=(blk_cell BK103.out 0).trans rfl;have hcz9_1:w8.cell? ⟨gb103,1,none⟩=some (.int .i64 a0_1):=(blk_cell BK103.out 1).trans rfl;have hcz9_2:w8.cell? ⟨gb103,2,none⟩=some (.int .i64 a0_2):=(blk_cell BK103.out 2).trans rfl;have hcz9_3:w8.cell? ⟨gb103,3,none⟩=some (.int .i64 a0_3):=(blk_cell BK103.out 3).trans rfl;have hcz9_4:w8.cell? ⟨gb103,4,none⟩=some (.string a0_4):=(blk_cell BK103.out 4).trans rfl;have hfz9_0:=blk_frozen BK103.out 0;have hfz9_1:=blk_frozen BK103.out 1;have hfz9_2:=blk_frozen BK103.out 2;have hfz9_3:=blk_frozen BK103.out 3;have hfz9_4:=blk_frozen BK103.out 4) | ((with_reducible refine gate_callee (f:=118) rfl ?_);refine goesL_ (some 15) rfl rfl Tryz.func118 (by kernel_rfl) rfl #[.agg #[.int .i64 a0_1,.int .i64 a0_2,.int .i64 a0_3,.string a0_4],.int .i64 (wrap64 (a1 - (a0_0.size:Int)))] rfl (by (try simp only [List.map_toArray,List.map_cons,List.map_nil]);rfl) ?_;(with_reducible refine (laws_szVersion.calls a0_1 a0_2 a0_3 a0_4 (wrap64 (a1 - (a0_0.size:Int))) t104 _ A6.out).mono ?_);rintro e w10 ⟨rfl,hb⟩;refine ⟨_,rfl,?_⟩;have n0_:=a_ (blk_below (g:=gb103) (o:=.cells #[.string a0_0,.int .i64 a0_1,.int .i64 a0_2,.int .i64 a0_3,.string a0_4] 91 (0,0)) (by exact BK103.out) hb);have n1_:=a_ (below_step HB.out hb);clear BK103;clear HB;have BK103:=n0_;have HB:=n1_;clear n0_ n1_;(try clear hb)))
   go_ret
   exact ⟨by rfl,by exact HB.out⟩
  ·rw [if_neg c7] at H;have c7b0:decide (t104 < 0)=false:=decide_eq_false c7;clear c7;obtain rfl:=Option.some.inj H
   go_enter Tryz.func58,Tryz.ntmps58
   go_wp2_with (first | ((with_reducible refine gate_dst (N:=2) rfl ?_);refine box_event ?hg (N:=2) ?hd (cs:=#[.string a0_0,.int .i64 a0_1,.int .i64 a0_2,.int .i64 a0_3,.string a0_4]) (t:=91) ?hr ?_;(case hd=>rfl);(case hg=>rfl);(case hr=>(go_simp;done));intro gb103 hg w11 hbox hb;have n0_:=a_ (below_step HB.out hb);have n1_:=a_ (hbox);have n2_:=a_ ((by rw [hg];exact (below_size HB.out):w.heap.size ≤ gb103));have n3_:=a_ ((by rw [hg];exact (below_size HB.out):w.heap.size ≤ gb103));clear HB;have HB:=n0_;have BK103:=n1_;have GW103:=n2_;have GE103:=n3_;clear n0_ n1_ n2_ n3_;clear hb hbox hg;have hcz12_0:w11.cell? ⟨gb103,0,none⟩=some (.string a0_0):=(blk_cell BK103.out 0).trans rfl;have hcz12_1:w11.cell? ⟨gb103,1,none⟩=some (.int .i64 a0_1):=(blk_cell BK103.out 1).trans rfl;have hcz12_2:w11.cell? ⟨gb103,2,none⟩=some (.int .i64 a0_2):=(blk_cell BK103.out 2).trans rfl;have hcz12_3:w11.cell? ⟨gb103,3,none⟩=some (.int .i64 a0_3):=(blk_cell BK103.out 3).trans rfl;have hcz12_4:w11.cell? ⟨gb103,4,none⟩=some (.string a0_4):=(blk_cell BK103.out 4).trans rfl;have hfz12_0:=blk_frozen BK103.out 0;have hfz12_1:=blk_frozen BK103.out 1;have hfz12_2:=blk_frozen BK103.out 2;have hfz12_3:=blk_frozen BK103.out 3;have hfz12_4:=blk_frozen BK103.out 4) | ((with_reducible refine gate_callee (f:=118) rfl ?_);refine goesL_ (some 15) rfl rfl Tryz.func118 (by kernel_rfl) rfl #[.agg #[.int .i64 a0_1,.int .i64 a0_2,.int .i64 a0_3,.string a0_4],.int .i64 (wrap64 (a1 - (a0_0.size:Int)))] rfl (by (try simp only [List.map_toArray,List.map_cons,List.map_nil]);rfl) ?_;(with_reducible refine (laws_szVersion.calls a0_1 a0_2 a0_3 a0_4 (wrap64 (a1 - (a0_0.size:Int))) t104 _ A6.out).mono ?_);rintro e w13 ⟨rfl,hb⟩;refine ⟨_,rfl,?_⟩;have n0_:=a_ (blk_below (g:=gb103) (o:=.cells #[.string a0_0,.int .i64 a0_1,.int .i64 a0_2,.int .i64 a0_3,.string a0_4] 91 (0,0)) (by exact BK103.out) hb);have n1_:=a_ (below_step HB.out hb);clear BK103;clear HB;have BK103:=n0_;have HB:=n1_;clear n0_ n1_;(try clear hb)))
   go_ret
   exact ⟨by rfl,by exact HB.out⟩
def laws_szNeedS.l0:Nat → List (S91) → Int → Int → Option (Int)
 | 0,_,_,_=>none
 | k + 1,x0,x1,x5=>if x5 < (x0.length:Int) then (if 0 ≤ x5 then ((laws_szNeed.f ((rd_T91 x0 x5).f0) ((rd_T91 x0 x5).f1.f0) ((rd_T91 x0 x5).f1.f1) ((rd_T91 x0 x5).f1.f2) ((rd_T91 x0 x5).f1.f3) x1).bind fun t106=>(if t106 < 0 then (some (-1)) else (laws_szNeedS.l0 k x0 t106 (wrap64 (x5 + 1))))) else (none)) else (some x1)
def laws_szNeedS.f (k:Nat) (l0:List (S91)) (a1:Int):Option (Int):=if (wrap64 (a1 - (l0.length:Int))) < 0 then (some (-1)) else (laws_szNeedS.l0 k l0 (wrap64 (a1 - (l0.length:Int))) 0)
theorem laws_szNeedS.mono_l : ∀ k,(∀ y0 y1 y2,LeO (laws_szNeedS.l0 k y0 y1 y2) (laws_szNeedS.l0 (k + 1) y0 y1 y2))
 | 0=>fun _ _ _ r h=>by simp [laws_szNeedS.l0] at h
 | k + 1=>by
  have ih0:=laws_szNeedS.mono_l k
  ·intro y0 y1 y2;unfold laws_szNeedS.l0
   repeat' first
   | (with_reducible exact ih0 _ _ _)
   | (with_reducible exact LeO.refl _)
   | (with_reducible refine LeO.ite ?_ ?_)
   | (with_reducible refine LeO.bind ?_ (fun _=>?_))
theorem laws_szNeedS.mono : ∀ a0 a1 k,LeO (laws_szNeedS.f k a0 a1) (laws_szNeedS.f (k + 1) a0 a1):=by
 intro a0 a1 k;have ih0:=laws_szNeedS.mono_l k;unfold laws_szNeedS.f
 repeat' first
  | (with_reducible exact ih0 _ _ _)
  | (with_reducible exact LeO.refl _)
  | (with_reducible refine LeO.ite ?_ ?_)
set_option maxHeartbeats 8000000 in
set_option maxRecDepth 100000 in
theorem laws_szNeedS.calls (k:Nat) (A0:Option Addr) (c0:Nat) (l0:List (S91)) (a1:Int) (r:Int) (w:World) (hr0:Kd.C k91 w A0 l0.length l0) (hc0:l0.length ≤ c0) (h:laws_szNeedS.f k l0 a1=some r) :
 Calls Tryz.prog 13 #[.slice A0 l0.length c0,.int .i64 a1] w fun e w'=>e = .returned (.int .i64 r) ∧ Below w.heap.size w w':=by
 have hu91:=Tryz.underlying91;have HR0:=a_ hr0;have HC0:=a_ hc0;clear hr0 hc0;have HB:=a_ (Below.refl w.heap.size w);have H:(if (wrap64 (a1 - (l0.length:Int))) < 0 then (some (-1)) else (laws_szNeedS.l0 k l0 (wrap64 (a1 - (l0.length:Int))) 0))=some r:=h;clear h
 by_cases c3:(wrap64 (a1 - (l0.length:Int))) < 0
 ·rw [if_pos c3] at H;have c3b0:decide ((wrap64 (a1 - (l0.length:Int))) < 0)=true:=decide_eq_true c3;clear c3;obtain rfl:=Option.some.inj H
  go_enter Tryz.func13,Tryz.ntmps13
  go_wp2
  go_ret
  exact ⟨by rfl,by exact HB.out⟩
 ·rw [if_neg c3] at H;have c3b0:decide ((wrap64 (a1 - (l0.length:Int))) < 0)=false:=decide_eq_false c3;clear c3;have H':=a_ H;clear H
  go_enter Tryz.func13,Tryz.ntmps13
  go_wp2
  go_loopg [1,5] k (fun kq v1 v5 w'=>∃ (x1_1:Int) (x5_1:Int),v1 = .int .i64 x1_1 ∧ v5 = .int .i64 x5_1 ∧ Aside0 (laws_szNeedS.l0 kq l0 x1_1 x5_1=some r) ∧ Aside0 (kq ≤ k) ∧ Aside0 (Below w.heap.size w w'))
  case atStart=>exact ⟨(wrap64 (a1 - (l0.length:Int))),(0),(by rfl),(by rfl),H',⟨Nat.le_refl _⟩,⟨by exact HB.out⟩⟩
  case round=>
   clear H'
   try clear c3b0
   obtain ⟨x1_1,x5_1,rfl,rfl,HA,HK1,HB⟩:=hrel
   cases gk with
   | zero=>exact absurd HA.out (by simp [laws_szNeedS.l0])
   | succ k1=>
    have H:=HA.out;clear HA;simp only [laws_szNeedS.l0] at H
    by_cases c4:x5_1 < (l0.length:Int)
    ·rw [if_pos c4] at H;have c4b0:decide (x5_1 < (l0.length:Int))=true:=decide_eq_true c4;clear c4
     by_cases c5:0 ≤ x5_1
     ·rw [if_pos c5] at H;have c5b0:decide (0 ≤ x5_1)=true:=decide_eq_true c5;clear c5;replace H:=Option.bind_eq_some_iff.mp H;obtain ⟨t106,A60,H⟩:=H;replace H:(if t106 < 0 then (some (-1)) else (laws_szNeedS.l0 k1 l0 t106 (wrap64 (x5_1 + 1))))=some r:=H;have A6:=a_ A60;clear A60
      by_cases c7:t106 < 0
      ·rw [if_pos c7] at H;have c7b0:decide (t106 < 0)=true:=decide_eq_true c7;clear c7;obtain rfl:=Option.some.inj H;have p105:0 ≤ (x5_1:Int):=of_decide_eq_true (by (with_reducible assumption));have q105:x5_1 < (l0.length:Int):=of_decide_eq_true (by (with_reducible assumption));obtain ⟨ad105,e105,hx105_0,hx105_1,hx105_2,hx105_3,hx105_4⟩:=at_T91 HR0.out x5_1 p105 q105;cases e105;replace hx105_0:=bc_ HB hx105_0
       replace hx105_1:=bc_ HB hx105_1;replace hx105_2:=bc_ HB hx105_2;replace hx105_3:=bc_ HB hx105_3;replace hx105_4:=bc_ HB hx105_4;replace p105:=eq_true p105;replace q105:=eq_true q105
       go_wp2_with (((with_reducible refine gate_callee (f:=58) rfl ?_);refine goesL_ (some 23) rfl rfl Tryz.func58 (by kernel_rfl) rfl #[.agg #[.string ((rd_T91 l0 x5_1).f0),.int .i64 ((rd_T91 l0 x5_1).f1.f0),.int .i64 ((rd_T91 l0 x5_1).f1.f1),.int .i64 ((rd_T91 l0 x5_1).f1.f2),.string ((rd_T91 l0 x5_1).f1.f3)],.int .i64 x1_1] rfl (by (try simp only [List.map_toArray,List.map_cons,List.map_nil]);rfl) ?_;(with_reducible refine (laws_szNeed.calls ((rd_T91 l0 x5_1).f0) ((rd_T91 l0 x5_1).f1.f0) ((rd_T91 l0 x5_1).f1.f1) ((rd_T91 l0 x5_1).f1.f2) ((rd_T91 l0 x5_1).f1.f3) x1_1 t106 _ A6.out).mono ?_);rintro e w8 ⟨rfl,hb⟩;refine ⟨_,rfl,?_⟩;have n0_:=a_ (below_step HB.out hb);clear HB;have HB:=n0_;clear n0_;(try clear hb)))
       go_ret
       exact ⟨by rfl,by exact HB.out⟩
      ·rw [if_neg c7] at H;have c7b0:decide (t106 < 0)=false:=decide_eq_false c7;clear c7;have H':=a_ H;clear H;have p105:0 ≤ (x5_1:Int):=of_decide_eq_true (by (with_reducible assumption));have q105:x5_1 < (l0.length:Int):=of_decide_eq_true (by (with_reducible assumption));obtain ⟨ad105,e105,hx105_0,hx105_1,hx105_2,hx105_3,hx105_4⟩:=at_T91 HR0.out x5_1 p105 q105;cases e105;replace hx105_0:=bc_ HB hx105_0
       replace hx105_1:=bc_ HB hx105_1;replace hx105_2:=bc_ HB hx105_2;replace hx105_3:=bc_ HB hx105_3;replace hx105_4:=bc_ HB hx105_4;replace p105:=eq_true p105;replace q105:=eq_true q105
       go_wp2_with (((with_reducible refine gate_callee (f:=58) rfl ?_);refine goesL_ (some 23) rfl rfl Tryz.func58 (by kernel_rfl) rfl #[.agg #[.string ((rd_T91 l0 x5_1).f0),.int .i64 ((rd_T91 l0 x5_1).f1.f0),.int .i64 ((rd_T91 l0 x5_1).f1.f1),.int .i64 ((rd_T91 l0 x5_1).f1.f2),.string ((rd_T91 l0 x5_1).f1.f3)],.int .i64 x1_1] rfl (by (try simp only [List.map_toArray,List.map_cons,List.map_nil]);rfl) ?_;(with_reducible refine (laws_szNeed.calls ((rd_T91 l0 x5_1).f0) ((rd_T91 l0 x5_1).f1.f0) ((rd_T91 l0 x5_1).f1.f1) ((rd_T91 l0 x5_1).f1.f2) ((rd_T91 l0 x5_1).f1.f3) x1_1 t106 _ A6.out).mono ?_);rintro e w9 ⟨rfl,hb⟩;refine ⟨_,rfl,?_⟩;have n0_:=a_ (below_step HB.out hb);clear HB;have HB:=n0_;clear n0_;(try clear hb)))
       go_roundg k1
       case measure=>have:=HK1.out;omega
       case rel=>exact ⟨(t106),(wrap64 (x5_1 + 1)),(by rfl),(by rfl),H',⟨by have:=HK1.out;omega⟩,⟨by exact HB.out⟩⟩
     ·rw [if_neg c5] at H;exact absurd H (by simp)
    ·rw [if_neg c4] at H;have c4b0:decide (x5_1 < (l0.length:Int))=false:=decide_eq_false c4;clear c4;obtain rfl:=Option.some.inj H
     go_wp2
     go_ret
     exact ⟨by rfl,by exact HB.out⟩
def laws_szEntry.f (k:Nat) (a0_0:ByteArray) (a0_1:Int) (a0_2:Int) (a0_3:Int) (a0_4:ByteArray) (l0_5:List (S91)) (a1:Int):Option (Int):=if (wrap64 (a1 - (a0_0.size:Int))) < 0 then (some (-1)) else ((laws_szVersion.f a0_1 a0_2 a0_3 a0_4 (wrap64 (a1 - (a0_0.size:Int)))).bind fun t108=>(if t108 < 0 then (some (-1)) else ((laws_szNeedS.f k l0_5 t108).bind fun t109=>(if t109 < 0 then (some (-1)) else (some t109)))))
theorem laws_szEntry.mono : ∀ a0 a1 a2 a3 a4 a5 a6 k,LeO (laws_szEntry.f k a0 a1 a2 a3 a4 a5 a6) (laws_szEntry.f (k + 1) a0 a1 a2 a3 a4 a5 a6):=by
 intro a0 a1 a2 a3 a4 a5 a6 k;unfold laws_szEntry.f
 repeat' first
  | (with_reducible exact laws_szNeedS.mono _ _ _)
  | (with_reducible exact LeO.refl _)
  | (with_reducible refine LeO.ite ?_ ?_)
  | (with_reducible refine LeO.bind ?_ (fun _=>?_))
set_option maxHeartbeats 8000000 in
set_option maxRecDepth 100000 in
theorem laws_szEntry.calls (k:Nat) (a0_0:ByteArray) (a0_1:Int) (a0_2:Int) (a0_3:Int) (a0_4:ByteArray) (A0_5:Option Addr) (c0_5:Nat) (l0_5:List (S91)) (a1:Int) (r:Int) (w:World) (hr0_5:Kd.C k91 w A0_5 l0_5.length l0_5) (hc0_5:l0_5.length ≤ c0_5) (h:laws_szEntry.f k a0_0 a0_1 a0_2 a0_3 a0_4 l0_5 a1=some r) :
 Calls Tryz.prog 92 #[.agg #[.string a0_0,.int .i64 a0_1,.int .i64 a0_2,.int .i64 a0_3,.string a0_4,.slice A0_5 l0_5.length c0_5],.int .i64 a1] w fun e w'=>e = .returned (.int .i64 r) ∧ Below w.heap.size w w':=by
 have hu126:=Tryz.underlying126;have hu89:=Tryz.underlying89;have HR0_5:=a_ hr0_5;have HC0_5:=a_ hc0_5;clear hr0_5 hc0_5;have HB:=a_ (Below.refl w.heap.size w);have H:(if (wrap64 (a1 - (a0_0.size:Int))) < 0 then (some (-1)) else ((laws_szVersion.f a0_1 a0_2 a0_3 a0_4 (wrap64 (a1 - (a0_0.size:Int)))).bind fun t108=>(if t108 < 0 then (some (-1)) else ((laws_szNeedS.f k l0_5 t108).bind fun t109=>(if t109 < 0 then (some (-1)) else (some t109))))))=some r:=h
 clear h
 by_cases c3:(wrap64 (a1 - (a0_0.size:Int))) < 0
 ·rw [if_pos c3] at H;have c3b0:decide ((wrap64 (a1 - (a0_0.size:Int))) < 0)=true:=decide_eq_true c3;clear c3;obtain rfl:=Option.some.inj H
  go_enter Tryz.func92,Tryz.ntmps92
  go_wp2_with (((with_reducible refine gate_dst (N:=2) rfl ?_);refine box_event ?hg (N:=2) ?hd (cs:=#[.string a0_0,.int .i64 a0_1,.int .i64 a0_2,.int .i64 a0_3,.string a0_4,.slice A0_5 l0_5.length c0_5]) (t:=126) ?hr ?_;(case hd=>rfl);(case hg=>rfl);(case hr=>(go_simp;done));intro gb107 hg w4 hbox hb;have n0_:=a_ (below_step HB.out hb);have n1_:=a_ (hbox);have n2_:=a_ ((by rw [hg];exact (below_size HB.out):w.heap.size ≤ gb107));have n3_:=a_ ((by rw [hg];exact (below_size HB.out):w.heap.size ≤ gb107));clear HB;have HB:=n0_;have BK107:=n1_;have GW107:=n2_;have GE107:=n3_;clear n0_ n1_ n2_ n3_;clear hb hbox hg;have hcz5_0:w4.cell? ⟨gb107,0,none⟩=some (.string a0_0):=(blk_cell BK107.out 0).trans rfl;have hcz5_1:w4.cell? ⟨gb107,1,none⟩=some (.int .i64 a0_1):=(blk_cell BK107.out 1).trans rfl;have hcz5_2:w4.cell? ⟨gb107,2,none⟩=some (.int .i64 a0_2):=(blk_cell BK107.out 2).trans rfl;have hcz5_3:w4.cell? ⟨gb107,3,none⟩=some (.int .i64 a0_3):=(blk_cell BK107.out 3).trans rfl;have hcz5_4:w4.cell? ⟨gb107,4,none⟩=some (.string a0_4):=(blk_cell BK107.out 4).trans rfl;have hcz5_5:w4.cell? ⟨gb107,5,none⟩=some (.slice A0_5 l0_5.length c0_5):=(blk_cell BK107.out 5).trans rfl;have hfz5_0:=blk_frozen BK107.out 0;have hfz5_1:=blk_frozen BK107.out 1;have hfz5_2:=blk_frozen BK107.out 2;have hfz5_3:=blk_frozen BK107.out 3;have hfz5_4:=blk_frozen BK107.out 4;have hfz5_5:=blk_frozen BK107.out 5))
  go_ret
  exact ⟨by rfl,by exact HB.out⟩
 ·rw [if_neg c3] at H;have c3b0:decide ((wrap64 (a1 - (a0_0.size:Int))) < 0)=false:=decide_eq_false c3;clear c3;replace H:=Option.bind_eq_some_iff.mp H;obtain ⟨t108,A60,H⟩:=H;replace H:(if t108 < 0 then (some (-1)) else ((laws_szNeedS.f k l0_5 t108).bind fun t109=>(if t109 < 0 then (some (-1)) else (some t109))))=some r:=H;have A6:=a_ A60;clear A60
  by_cases c7:t108 < 0
  ·rw [if_pos c7] at H;have c7b0:decide (t108 < 0)=true:=decide_eq_true c7;clear c7;obtain rfl:=Option.some.inj H
   go_enter Tryz.func92,Tryz.ntmps92
   go_wp2_with (first | ((with_reducible refine gate_dst (N:=2) rfl ?_);refine box_event ?hg (N:=2) ?hd (cs:=#[.string a0_0,.int .i64 a0_1,.int .i64 a0_2,.int .i64 a0_3,.string a0_4,.slice A0_5 l0_5.length c0_5]) (t:=126) ?hr ?_;(case hd=>rfl);(case hg=>rfl);(case hr=>(go_simp;done));intro gb107 hg w8 hbox hb;have n0_:=a_ (below_step HB.out hb);have n1_:=a_ (hbox);have n2_:=a_ ((by rw [hg];exact (below_size HB.out):w.heap.size ≤ gb107));have n3_:=a_ ((by rw [hg];exact (below_size HB.out):w.heap.size ≤ gb107));clear HB;have HB:=n0_;have BK107:=n1_;have GW107:=n2_;have GE107:=n3_;clear n0_ n1_ n2_ n3_;clear hb hbox hg;have hcz9_0:w8.cell? ⟨gb107,0,none⟩=some (.string a0_0):=(blk_cell BK107.out 0).trans rfl;have hcz9_1:w8.cell? ⟨gb107,1,none⟩=some (.int .i64 a0_1):=(blk_cell BK107.out 1).trans rfl;have hcz9_2:w8.cell? ⟨gb107,2,none⟩=some (.int .i64 a0_2):=(blk_cell BK107.out 2).trans rfl;have hcz9_3:w8.cell? ⟨gb107,3,none⟩=some (.int .i64 a0_3):=(blk_cell BK107.out 3).trans rfl;have hcz9_4:w8.cell? ⟨gb107,4,none⟩=some (.string a0_4):=(blk_cell BK107.out 4).trans rfl;have hcz9_5:w8.cell? ⟨gb107,5,none⟩=some (.slice A0_5 l0_5.length c0_5):=(blk_cell BK107.out 5).trans rfl;have hfz9_0:=blk_frozen BK107.out 0;have hfz9_1:=blk_frozen BK107.out 1;have hfz9_2:=blk_frozen BK107.out 2;have hfz9_3:=blk_frozen BK107.out 3;have hfz9_4:=blk_frozen BK107.out 4;have hfz9_5:=blk_frozen BK107.out 5) | ((with_reducible refine gate_callee (f:=118) rfl ?_);refine goesL_ (some 15) rfl rfl Tryz.func118 (by kernel_rfl) rfl #[.agg #[.int .i64 a0_1,.int .i64 a0_2,.int .i64 a0_3,.string a0_4],.int .i64 (wrap64 (a1 - (a0_0.size:Int)))] rfl (by (try simp only [List.map_toArray,List.map_cons,List.map_nil]);rfl) ?_;(with_reducible refine (laws_szVersion.calls a0_1 a0_2 a0_3 a0_4 (wrap64 (a1 - (a0_0.size:Int))) t108 _ A6.out).mono ?_);rintro e w10 ⟨rfl,hb⟩;refine ⟨_,rfl,?_⟩;have n0_:=a_ (blk_below (g:=gb107) (o:=.cells #[.string a0_0,.int .i64 a0_1,.int .i64 a0_2,.int .i64 a0_3,.string a0_4,.slice A0_5 l0_5.length c0_5] 126 (0,0)) (by exact BK107.out) hb);have n1_:=a_ (below_step HB.out hb);clear BK107;clear HB;have BK107:=n0_;have HB:=n1_;clear n0_ n1_;(try clear hb)))
   go_ret
   exact ⟨by rfl,by exact HB.out⟩
  ·rw [if_neg c7] at H;have c7b0:decide (t108 < 0)=false:=decide_eq_false c7;clear c7;replace H:=Option.bind_eq_some_iff.mp H;obtain ⟨t109,A110,H⟩:=H;replace H:(if t109 < 0 then (some (-1)) else (some t109))=some r:=H;have A11:=a_ A110;clear A110
   by_cases c12:t109 < 0
   ·rw [if_pos c12] at H;have c12b0:decide (t109 < 0)=true:=decide_eq_true c12;clear c12;obtain rfl:=Option.some.inj H
    go_enter Tryz.func92,Tryz.ntmps92
    go_wp2_with (first | ((with_reducible refine gate_dst (N:=2) rfl ?_);refine box_event ?hg (N:=2) ?hd (cs:=#[.string a0_0,.int .i64 a0_1,.int .i64 a0_2,.int .i64 a0_3,.string a0_4,.slice A0_5 l0_5.length c0_5]) (t:=126) ?hr ?_;(case hd=>rfl);(case hg=>rfl);(case hr=>(go_simp;done));intro gb107 hg w13 hbox hb;have n0_:=a_ (below_step HB.out hb);have n1_:=a_ (hbox);have n2_:=a_ ((by rw [hg];exact (below_size HB.out):w.heap.size ≤ gb107));have n3_:=a_ ((by rw [hg];exact (below_size HB.out):w.heap.size ≤ gb107));clear HB;have HB:=n0_;have BK107:=n1_;have GW107:=n2_;have GE107:=n3_;clear n0_ n1_ n2_ n3_;clear hb hbox hg;have hcz14_0:w13.cell? ⟨gb107,0,none⟩=some (.string a0_0):=(blk_cell BK107.out 0).trans rfl;have hcz14_1:w13.cell? ⟨gb107,1,none⟩=some (.int .i64 a0_1):=(blk_cell BK107.out 1).trans rfl;have hcz14_2:w13.cell? ⟨gb107,2,none⟩=some (.int .i64 a0_2):=(blk_cell BK107.out 2).trans rfl;have hcz14_3:w13.cell? ⟨gb107,3,none⟩=some (.int .i64 a0_3):=(blk_cell BK107.out 3).trans rfl;have hcz14_4:w13.cell? ⟨gb107,4,none⟩=some (.string a0_4):=(blk_cell BK107.out 4).trans rfl;have hcz14_5:w13.cell? ⟨gb107,5,none⟩=some (.slice A0_5 l0_5.length c0_5):=(blk_cell BK107.out 5).trans rfl;have hfz14_0:=blk_frozen BK107.out 0;have hfz14_1:=blk_frozen BK107.out 1;have hfz14_2:=blk_frozen BK107.out 2;have hfz14_3:=blk_frozen BK107.out 3;have hfz14_4:=blk_frozen BK107.out 4;have hfz14_5:=blk_frozen BK107.out 5) | ((with_reducible refine gate_callee (f:=118) rfl ?_);refine goesL_ (some 15) rfl rfl Tryz.func118 (by kernel_rfl) rfl #[.agg #[.int .i64 a0_1,.int .i64 a0_2,.int .i64 a0_3,.string a0_4],.int .i64 (wrap64 (a1 - (a0_0.size:Int)))] rfl (by (try simp only [List.map_toArray,List.map_cons,List.map_nil]);rfl) ?_;(with_reducible refine (laws_szVersion.calls a0_1 a0_2 a0_3 a0_4 (wrap64 (a1 - (a0_0.size:Int))) t108 _ A6.out).mono ?_);rintro e w15 ⟨rfl,hb⟩;refine ⟨_,rfl,?_⟩;have n0_:=a_ (blk_below (g:=gb107) (o:=.cells #[.string a0_0,.int .i64 a0_1,.int .i64 a0_2,.int .i64 a0_3,.string a0_4,.slice A0_5 l0_5.length c0_5] 126 (0,0)) (by exact BK107.out) hb);have n1_:=a_ (below_step HB.out hb);clear BK107;clear HB;have BK107:=n0_;have HB:=n1_;clear n0_ n1_;(try clear hb);have hcz16_0:w15.cell? ⟨gb107,0,none⟩=some (.string a0_0):=(blk_cell BK107.out 0).trans rfl;have hcz16_1:w15.cell? ⟨gb107,1,none⟩=some (.int .i64 a0_1):=(blk_cell BK107.out 1).trans rfl;have hcz16_2:w15.cell? ⟨gb107,2,none⟩=some (.int .i64 a0_2):=(blk_cell BK107.out 2).trans rfl;have hcz16_3:w15.cell? ⟨gb107,3,none⟩=some (.int .i64 a0_3):=(blk_cell BK107.out 3).trans rfl;have hcz16_4:w15.cell? ⟨gb107,4,none⟩=some (.string a0_4):=(blk_cell BK107.out 4).trans rfl;have hcz16_5:w15.cell? ⟨gb107,5,none⟩=some (.slice A0_5 l0_5.length c0_5):=(blk_cell BK107.out 5).trans rfl;have hfz16_0:=blk_frozen BK107.out 0;have hfz16_1:=blk_frozen BK107.out 1;have hfz16_2:=blk_frozen BK107.out 2;have hfz16_3:=blk_frozen BK107.out 3;have hfz16_4:=blk_frozen BK107.out 4;have hfz16_5:=blk_frozen BK107.out 5) | ((with_reducible refine gate_callee (f:=13) rfl ?_);refine goesL_ (some 21) rfl rfl Tryz.func13 (by kernel_rfl) rfl #[.slice A0_5 l0_5.length c0_5,.int .i64 t108] rfl (by (try simp only [List.map_toArray,List.map_cons,List.map_nil]);rfl) ?_;(with_reducible refine (laws_szNeedS.calls k _ _ l0_5 t108 t109 _ ?side1 ?side2 A11.out).mono ?_);(case side1=>repeat (exact (Kd.C_below HR0_5.out HB.out)));(case side2=>exact HC0_5.out);rintro e w17 ⟨rfl,hb⟩;refine ⟨_,rfl,?_⟩;have n0_:=a_ (blk_below (g:=gb107) (o:=.cells #[.string a0_0,.int .i64 a0_1,.int .i64 a0_2,.int .i64 a0_3,.string a0_4,.slice A0_5 l0_5.length c0_5] 126 (0,0)) (by exact BK107.out) hb);have n1_:=a_ (below_step HB.out hb);clear BK107;clear HB;have BK107:=n0_;have HB:=n1_;clear n0_ n1_;(try clear hb)))
    go_ret
    exact ⟨by rfl,by exact HB.out⟩
   ·rw [if_neg c12] at H;have c12b0:decide (t109 < 0)=false:=decide_eq_false c12;clear c12;obtain rfl:=Option.some.inj H
    go_enter Tryz.func92,Tryz.ntmps92
    go_wp2_with (first | ((with_reducible refine gate_dst (N:=2) rfl ?_);refine box_event ?hg (N:=2) ?hd (cs:=#[.string a0_0,.int .i64 a0_1,.int .i64 a0_2,.int .i64 a0_3,.string a0_4,.slice A0_5 l0_5.length c0_5]) (t:=126) ?hr ?_;(case hd=>rfl);(case hg=>rfl);(case hr=>(go_simp;done));intro gb107 hg w18 hbox hb;have n0_:=a_ (below_step HB.out hb);have n1_:=a_ (hbox);have n2_:=a_ ((by rw [hg];exact (below_size HB.out):w.heap.size ≤ gb107));have n3_:=a_ ((by rw [hg];exact (below_size HB.out):w.heap.size ≤ gb107));clear HB;have HB:=n0_;have BK107:=n1_;have GW107:=n2_;have GE107:=n3_;clear n0_ n1_ n2_ n3_;clear hb hbox hg;have hcz19_0:w18.cell? ⟨gb107,0,none⟩=some (.string a0_0):=(blk_cell BK107.out 0).trans rfl;have hcz19_1:w18.cell? ⟨gb107,1,none⟩=some (.int .i64 a0_1):=(blk_cell BK107.out 1).trans rfl;have hcz19_2:w18.cell? ⟨gb107,2,none⟩=some (.int .i64 a0_2):=(blk_cell BK107.out 2).trans rfl;have hcz19_3:w18.cell? ⟨gb107,3,none⟩=some (.int .i64 a0_3):=(blk_cell BK107.out 3).trans rfl;have hcz19_4:w18.cell? ⟨gb107,4,none⟩=some (.string a0_4):=(blk_cell BK107.out 4).trans rfl;have hcz19_5:w18.cell? ⟨gb107,5,none⟩=some (.slice A0_5 l0_5.length c0_5):=(blk_cell BK107.out 5).trans rfl;have hfz19_0:=blk_frozen BK107.out 0;have hfz19_1:=blk_frozen BK107.out 1;have hfz19_2:=blk_frozen BK107.out 2;have hfz19_3:=blk_frozen BK107.out 3;have hfz19_4:=blk_frozen BK107.out 4;have hfz19_5:=blk_frozen BK107.out 5) | ((with_reducible refine gate_callee (f:=118) rfl ?_);refine goesL_ (some 15) rfl rfl Tryz.func118 (by kernel_rfl) rfl #[.agg #[.int .i64 a0_1,.int .i64 a0_2,.int .i64 a0_3,.string a0_4],.int .i64 (wrap64 (a1 - (a0_0.size:Int)))] rfl (by (try simp only [List.map_toArray,List.map_cons,List.map_nil]);rfl) ?_;(with_reducible refine (laws_szVersion.calls a0_1 a0_2 a0_3 a0_4 (wrap64 (a1 - (a0_0.size:Int))) t108 _ A6.out).mono ?_);rintro e w20 ⟨rfl,hb⟩;refine ⟨_,rfl,?_⟩;have n0_:=a_ (blk_below (g:=gb107) (o:=.cells #[.string a0_0,.int .i64 a0_1,.int .i64 a0_2,.int .i64 a0_3,.string a0_4,.slice A0_5 l0_5.length c0_5] 126 (0,0)) (by exact BK107.out) hb);have n1_:=a_ (below_step HB.out hb);clear BK107;clear HB;have BK107:=n0_;have HB:=n1_;clear n0_ n1_;(try clear hb);have hcz21_0:w20.cell? ⟨gb107,0,none⟩=some (.string a0_0):=(blk_cell BK107.out 0).trans rfl;have hcz21_1:w20.cell? ⟨gb107,1,none⟩=some (.int .i64 a0_1):=(blk_cell BK107.out 1).trans rfl;have hcz21_2:w20.cell? ⟨gb107,2,none⟩=some (.int .i64 a0_2):=(blk_cell BK107.out 2).trans rfl;have hcz21_3:w20.cell? ⟨gb107,3,none⟩=some (.int .i64 a0_3):=(blk_cell BK107.out 3).trans rfl;have hcz21_4:w20.cell? ⟨gb107,4,none⟩=some (.string a0_4):=(blk_cell BK107.out 4).trans rfl;have hcz21_5:w20.cell? ⟨gb107,5,none⟩=some (.slice A0_5 l0_5.length c0_5):=(blk_cell BK107.out 5).trans rfl;have hfz21_0:=blk_frozen BK107.out 0;have hfz21_1:=blk_frozen BK107.out 1;have hfz21_2:=blk_frozen BK107.out 2;have hfz21_3:=blk_frozen BK107.out 3;have hfz21_4:=blk_frozen BK107.out 4;have hfz21_5:=blk_frozen BK107.out 5) | ((with_reducible refine gate_callee (f:=13) rfl ?_);refine goesL_ (some 21) rfl rfl Tryz.func13 (by kernel_rfl) rfl #[.slice A0_5 l0_5.length c0_5,.int .i64 t108] rfl (by (try simp only [List.map_toArray,List.map_cons,List.map_nil]);rfl) ?_;(with_reducible refine (laws_szNeedS.calls k _ _ l0_5 t108 t109 _ ?side1 ?side2 A11.out).mono ?_);(case side1=>repeat (exact (Kd.C_below HR0_5.out HB.out)));(case side2=>exact HC0_5.out);rintro e w22 ⟨rfl,hb⟩;refine ⟨_,rfl,?_⟩;have n0_:=a_ (blk_below (g:=gb107) (o:=.cells #[.string a0_0,.int .i64 a0_1,.int .i64 a0_2,.int .i64 a0_3,.string a0_4,.slice A0_5 l0_5.length c0_5] 126 (0,0)) (by exact BK107.out) hb);have n1_:=a_ (below_step HB.out hb);clear BK107;clear HB;have BK107:=n0_;have HB:=n1_;clear n0_ n1_;(try clear hb)))
    go_ret
    exact ⟨by rfl,by exact HB.out⟩
def laws_szEntryS.l0:Nat → List (S126) → Int → Int → Option (Int)
 | 0,_,_,_=>none
 | k + 1,x0,x1,x5=>if x5 < (x0.length:Int) then (if 0 ≤ x5 then ((laws_szEntry.f k ((rd_T126 x0 x5).f0) ((rd_T126 x0 x5).f1.f0) ((rd_T126 x0 x5).f1.f1) ((rd_T126 x0 x5).f1.f2) ((rd_T126 x0 x5).f1.f3) ((rd_T126 x0 x5).f2) x1).bind fun t111=>(if t111 < 0 then (some (-1)) else (laws_szEntryS.l0 k x0 t111 (wrap64 (x5 + 1))))) else (none)) else (some x1)
def laws_szEntryS.f (k:Nat) (l0:List (S126)) (a1:Int):Option (Int):=if (wrap64 (a1 - (l0.length:Int))) < 0 then (some (-1)) else (laws_szEntryS.l0 k l0 (wrap64 (a1 - (l0.length:Int))) 0)
theorem laws_szEntryS.mono_l : ∀ k,(∀ y0 y1 y2,LeO (laws_szEntryS.l0 k y0 y1 y2) (laws_szEntryS.l0 (k + 1) y0 y1 y2))
 | 0=>fun _ _ _ r h=>by simp [laws_szEntryS.l0] at h
 | k + 1=>by
  have ih0:=laws_szEntryS.mono_l k
  ·intro y0 y1 y2;unfold laws_szEntryS.l0
   repeat' first
   | (with_reducible exact ih0 _ _ _)
   | (with_reducible exact laws_szEntry.mono _ _ _ _ _ _ _ _)
   | (with_reducible exact LeO.refl _)
   | (with_reducible refine LeO.ite ?_ ?_)
   | (with_reducible refine LeO.bind ?_ (fun _=>?_))
theorem laws_szEntryS.mono : ∀ a0 a1 k,LeO (laws_szEntryS.f k a0 a1) (laws_szEntryS.f (k + 1) a0 a1):=by
 intro a0 a1 k;have ih0:=laws_szEntryS.mono_l k;unfold laws_szEntryS.f
 repeat' first
  | (with_reducible exact ih0 _ _ _)
  | (with_reducible exact LeO.refl _)
  | (with_reducible refine LeO.ite ?_ ?_)
set_option maxHeartbeats 8000000 in
set_option maxRecDepth 100000 in
theorem laws_szEntryS.calls (k:Nat) (A0:Option Addr) (c0:Nat) (l0:List (S126)) (a1:Int) (r:Int) (w:World) (hr0:Kd.C k126 w A0 l0.length l0) (hc0:l0.length ≤ c0) (h:laws_szEntryS.f k l0 a1=some r) :
 Calls Tryz.prog 31 #[.slice A0 l0.length c0,.int .i64 a1] w fun e w'=>e = .returned (.int .i64 r) ∧ Below w.heap.size w w':=by
 have hu126:=Tryz.underlying126;have HR0:=a_ hr0;have HC0:=a_ hc0;clear hr0 hc0;have HB:=a_ (Below.refl w.heap.size w);have H:(if (wrap64 (a1 - (l0.length:Int))) < 0 then (some (-1)) else (laws_szEntryS.l0 k l0 (wrap64 (a1 - (l0.length:Int))) 0))=some r:=h;clear h
 by_cases c3:(wrap64 (a1 - (l0.length:Int))) < 0
 ·rw [if_pos c3] at H;have c3b0:decide ((wrap64 (a1 - (l0.length:Int))) < 0)=true:=decide_eq_true c3;clear c3;obtain rfl:=Option.some.inj H
  go_enter Tryz.func31,Tryz.ntmps31
  go_wp2
  go_ret
  exact ⟨by rfl,by exact HB.out⟩
 ·rw [if_neg c3] at H;have c3b0:decide ((wrap64 (a1 - (l0.length:Int))) < 0)=false:=decide_eq_false c3;clear c3;have H':=a_ H;clear H
  go_enter Tryz.func31,Tryz.ntmps31
  go_wp2
  go_loopg [1,5] k (fun kq v1 v5 w'=>∃ (x1_1:Int) (x5_1:Int),v1 = .int .i64 x1_1 ∧ v5 = .int .i64 x5_1 ∧ Aside0 (laws_szEntryS.l0 kq l0 x1_1 x5_1=some r) ∧ Aside0 (kq ≤ k) ∧ Aside0 (Below w.heap.size w w'))
  case atStart=>exact ⟨(wrap64 (a1 - (l0.length:Int))),(0),(by rfl),(by rfl),H',⟨Nat.le_refl _⟩,⟨by exact HB.out⟩⟩
  case round=>
   clear H'
   try clear c3b0
   obtain ⟨x1_1,x5_1,rfl,rfl,HA,HK1,HB⟩:=hrel
   cases gk with
   | zero=>exact absurd HA.out (by simp [laws_szEntryS.l0])
   | succ k1=>
    have H:=HA.out;clear HA;simp only [laws_szEntryS.l0] at H
    by_cases c4:x5_1 < (l0.length:Int)
    ·rw [if_pos c4] at H;have c4b0:decide (x5_1 < (l0.length:Int))=true:=decide_eq_true c4;clear c4
     by_cases c5:0 ≤ x5_1
     ·rw [if_pos c5] at H;have c5b0:decide (0 ≤ x5_1)=true:=decide_eq_true c5;clear c5;replace H:=Option.bind_eq_some_iff.mp H;obtain ⟨t111,A60,H⟩:=H;replace H:(if t111 < 0 then (some (-1)) else (laws_szEntryS.l0 k1 l0 t111 (wrap64 (x5_1 + 1))))=some r:=H;have A6:=a_ A60;clear A60
      by_cases c7:t111 < 0
      ·rw [if_pos c7] at H;have c7b0:decide (t111 < 0)=true:=decide_eq_true c7;clear c7;obtain rfl:=Option.some.inj H;have p110:0 ≤ (x5_1:Int):=of_decide_eq_true (by (with_reducible assumption));have q110:x5_1 < (l0.length:Int):=of_decide_eq_true (by (with_reducible assumption));obtain ⟨ad110,A110_5,c110_5,e110,hx110_0,hx110_1,hx110_2,hx110_3,hx110_4,hx110_5,hl110_5,hi110_5⟩:=at_T126 HR0.out x5_1 p110 q110
       cases e110;replace hx110_0:=bc_ HB hx110_0
       replace hx110_1:=bc_ HB hx110_1;replace hx110_2:=bc_ HB hx110_2;replace hx110_3:=bc_ HB hx110_3;replace hx110_4:=bc_ HB hx110_4;replace hx110_5:=bc_ HB hx110_5;have HR110_5:=a_ hi110_5;have HC110_5:=a_ hl110_5;clear hi110_5 hl110_5;replace p110:=eq_true p110;replace q110:=eq_true q110
       go_wp2_with (((with_reducible refine gate_callee (f:=92) rfl ?_);refine goesL_ (some 23) rfl rfl Tryz.func92 (by kernel_rfl) rfl #[.agg #[.string ((rd_T126 l0 x5_1).f0),.int .i64 ((rd_T126 l0 x5_1).f1.f0),.int .i64 ((rd_T126 l0 x5_1).f1.f1),.int .i64 ((rd_T126 l0 x5_1).f1.f2),.string ((rd_T126 l0 x5_1).f1.f3),.slice A110_5 ((rd_T126 l0 x5_1).f2).length c110_5],.int .i64 x1_1] rfl (by (try simp only [List.map_toArray,List.map_cons,List.map_nil]);rfl) ?_;(with_reducible refine (laws_szEntry.calls k1 ((rd_T126 l0 x5_1).f0) ((rd_T126 l0 x5_1).f1.f0) ((rd_T126 l0 x5_1).f1.f1) ((rd_T126 l0 x5_1).f1.f2) ((rd_T126 l0 x5_1).f1.f3) _ _ ((rd_T126 l0 x5_1).f2) x1_1 t111 _ ?side1 ?side2 A6.out).mono ?_);(case side1=>repeat (exact (Kd.C_below HR110_5.out HB.out)));(case side2=>exact HC110_5.out);rintro e w8 ⟨rfl,hb⟩;refine ⟨_,rfl,?_⟩;have n0_:=a_ (below_step HB.out hb);clear HB;have HB:=n0_;clear n0_;(try clear hb)))
       go_ret
       exact ⟨by rfl,by exact HB.out⟩
      ·rw [if_neg c7] at H;have c7b0:decide (t111 < 0)=false:=decide_eq_false c7;clear c7;have H':=a_ H;clear H;have p110:0 ≤ (x5_1:Int):=of_decide_eq_true (by (with_reducible assumption));have q110:x5_1 < (l0.length:Int):=of_decide_eq_true (by (with_reducible assumption));obtain ⟨ad110,A110_5,c110_5,e110,hx110_0,hx110_1,hx110_2,hx110_3,hx110_4,hx110_5,hl110_5,hi110_5⟩:=at_T126 HR0.out x5_1 p110 q110
       cases e110;replace hx110_0:=bc_ HB hx110_0
       replace hx110_1:=bc_ HB hx110_1;replace hx110_2:=bc_ HB hx110_2;replace hx110_3:=bc_ HB hx110_3;replace hx110_4:=bc_ HB hx110_4;replace hx110_5:=bc_ HB hx110_5;have HR110_5:=a_ hi110_5;have HC110_5:=a_ hl110_5;clear hi110_5 hl110_5;replace p110:=eq_true p110;replace q110:=eq_true q110
       go_wp2_with (((with_reducible refine gate_callee (f:=92) rfl ?_);refine goesL_ (some 23) rfl rfl Tryz.func92 (by kernel_rfl) rfl #[.agg #[.string ((rd_T126 l0 x5_1).f0),.int .i64 ((rd_T126 l0 x5_1).f1.f0),.int .i64 ((rd_T126 l0 x5_1).f1.f1),.int .i64 ((rd_T126 l0 x5_1).f1.f2),.string ((rd_T126 l0 x5_1).f1.f3),.slice A110_5 ((rd_T126 l0 x5_1).f2).length c110_5],.int .i64 x1_1] rfl (by (try simp only [List.map_toArray,List.map_cons,List.map_nil]);rfl) ?_;(with_reducible refine (laws_szEntry.calls k1 ((rd_T126 l0 x5_1).f0) ((rd_T126 l0 x5_1).f1.f0) ((rd_T126 l0 x5_1).f1.f1) ((rd_T126 l0 x5_1).f1.f2) ((rd_T126 l0 x5_1).f1.f3) _ _ ((rd_T126 l0 x5_1).f2) x1_1 t111 _ ?side1 ?side2 A6.out).mono ?_);(case side1=>repeat (exact (Kd.C_below HR110_5.out HB.out)));(case side2=>exact HC110_5.out);rintro e w9 ⟨rfl,hb⟩;refine ⟨_,rfl,?_⟩;have n0_:=a_ (below_step HB.out hb);clear HB;have HB:=n0_;clear n0_;(try clear hb)))
       go_roundg k1
       case measure=>have:=HK1.out;omega
       case rel=>exact ⟨(t111),(wrap64 (x5_1 + 1)),(by rfl),(by rfl),H',⟨by have:=HK1.out;omega⟩,⟨by exact HB.out⟩⟩
     ·rw [if_neg c5] at H;exact absurd H (by simp)
    ·rw [if_neg c4] at H;have c4b0:decide (x5_1 < (l0.length:Int))=false:=decide_eq_false c4;clear c4;obtain rfl:=Option.some.inj H
     go_wp2
     go_ret
     exact ⟨by rfl,by exact HB.out⟩
def laws_szClient.f (k:Nat) (a0_0:Int) (a0_1:ByteArray) (l0_2:List (S91)) (l0_3:List (S126)) (a1:Int):Option (Int):=(laws_szHead.f a0_0 a0_1 a1).bind fun t113=>(if t113 < 0 then (some (-1)) else ((laws_szNeedS.f k l0_2 t113).bind fun t114=>(if t114 < 0 then (some (-1)) else ((laws_szEntryS.f k l0_3 t114).bind fun t115=>(if t115 < 0 then (some (-1)) else (some t115))))))
theorem laws_szClient.mono : ∀ a0 a1 a2 a3 a4 k,LeO (laws_szClient.f k a0 a1 a2 a3 a4) (laws_szClient.f (k + 1) a0 a1 a2 a3 a4):=by
 intro a0 a1 a2 a3 a4 k;unfold laws_szClient.f
 repeat' first
  | (with_reducible exact laws_szEntryS.mono _ _ _)
  | (with_reducible exact laws_szNeedS.mono _ _ _)
  | (with_reducible exact LeO.refl _)
  | (with_reducible refine LeO.ite ?_ ?_)
  | (with_reducible refine LeO.bind ?_ (fun _=>?_))
set_option maxHeartbeats 8000000 in
set_option maxRecDepth 100000 in
theorem laws_szClient.calls (k:Nat) (a0_0:Int) (a0_1:ByteArray) (A0_2:Option Addr) (c0_2:Nat) (l0_2:List (S91)) (A0_3:Option Addr) (c0_3:Nat) (l0_3:List (S126)) (a1:Int) (r:Int) (w:World) (hr0_2:Kd.C k91 w A0_2 l0_2.length l0_2) (hc0_2:l0_2.length ≤ c0_2) (hr0_3:Kd.C k126 w A0_3 l0_3.length l0_3) (hc0_3:l0_3.length ≤ c0_3) (h:laws_szClient.f k a0_0 a0_1 l0_2 l0_3 a1=some r) :
 Calls Tryz.prog 19 #[.agg #[.int .i64 a0_0,.string a0_1,.slice A0_2 l0_2.length c0_2,.slice A0_3 l0_3.length c0_3],.int .i64 a1] w fun e w'=>e = .returned (.int .i64 r) ∧ Below w.heap.size w w':=by
 have hu36:=Tryz.underlying36;have hu23:=Tryz.underlying23;have HR0_2:=a_ hr0_2;have HC0_2:=a_ hc0_2;clear hr0_2 hc0_2;have HR0_3:=a_ hr0_3;have HC0_3:=a_ hc0_3;clear hr0_3 hc0_3;have HB:=a_ (Below.refl w.heap.size w);have H:((laws_szHead.f a0_0 a0_1 a1).bind fun t113=>(if t113 < 0 then (some (-1)) else ((laws_szNeedS.f k l0_2 t113).bind fun t114=>(if t114 < 0 then (some (-1)) else ((laws_szEntryS.f k l0_3 t114).bind fun t115=>(if t115 < 0 then (some (-1)) else (some t115)))))))=some r:=h
 clear h;replace H:=Option.bind_eq_some_iff.mp H;obtain ⟨t113,A30,H⟩:=H;replace H:(if t113 < 0 then (some (-1)) else ((laws_szNeedS.f k l0_2 t113).bind fun t114=>(if t114 < 0 then (some (-1)) else ((laws_szEntryS.f k l0_3 t114).bind fun t115=>(if t115 < 0 then (some (-1)) else (some t115))))))=some r:=H;have A3:=a_ A30;clear A30
 by_cases c4:t113 < 0
 ·rw [if_pos c4] at H;have c4b0:decide (t113 < 0)=true:=decide_eq_true c4;clear c4;obtain rfl:=Option.some.inj H
  go_enter Tryz.func19,Tryz.ntmps19
  go_wp2_with (first | ((with_reducible refine gate_dst (N:=2) rfl ?_);refine box_event ?hg (N:=2) ?hd (cs:=#[.int .i64 a0_0,.string a0_1,.slice A0_2 l0_2.length c0_2,.slice A0_3 l0_3.length c0_3]) (t:=36) ?hr ?_;(case hd=>rfl);(case hg=>rfl);(case hr=>(go_simp;done));intro gb112 hg w5 hbox hb;have n0_:=a_ (below_step HB.out hb);have n1_:=a_ (hbox);have n2_:=a_ ((by rw [hg];exact (below_size HB.out):w.heap.size ≤ gb112));have n3_:=a_ ((by rw [hg];exact (below_size HB.out):w.heap.size ≤ gb112));clear HB;have HB:=n0_;have BK112:=n1_;have GW112:=n2_;have GE112:=n3_;clear n0_ n1_ n2_ n3_;clear hb hbox hg;have hcz6_0:w5.cell? ⟨gb112,0,none⟩=some (.int .i64 a0_0):=(blk_cell BK112.out 0).trans rfl;have hcz6_1:w5.cell? ⟨gb112,1,none⟩=some (.string a0_1):=(blk_cell BK112.out 1).trans rfl;have hcz6_2:w5.cell? ⟨gb112,2,none⟩=some (.slice A0_2 l0_2.length c0_2):=(blk_cell BK112.out 2).trans rfl;have hcz6_3:w5.cell? ⟨gb112,3,none⟩=some (.slice A0_3 l0_3.length c0_3):=(blk_cell BK112.out 3).trans rfl;have hfz6_0:=blk_frozen BK112.out 0;have hfz6_1:=blk_frozen BK112.out 1;have hfz6_2:=blk_frozen BK112.out 2;have hfz6_3:=blk_frozen BK112.out 3) | ((with_reducible refine gate_callee (f:=12) rfl ?_);refine goesL_ (some 8) rfl rfl Tryz.func12 (by kernel_rfl) rfl #[.agg #[.int .i64 a0_0,.string a0_1],.int .i64 a1] rfl (by (try simp only [List.map_toArray,List.map_cons,List.map_nil]);rfl) ?_;(with_reducible refine (laws_szHead.calls a0_0 a0_1 a1 t113 _ A3.out).mono ?_);rintro e w7 ⟨rfl,hb⟩;refine ⟨_,rfl,?_⟩;have n0_:=a_ (blk_below (g:=gb112) (o:=.cells #[.int .i64 a0_0,.string a0_1,.slice A0_2 l0_2.length c0_2,.slice A0_3 l0_3.length c0_3] 36 (0,0)) (by exact BK112.out) hb);have n1_:=a_ (below_step HB.out hb);clear BK112;clear HB;have BK112:=n0_;have HB:=n1_;clear n0_ n1_;(try clear hb)))
  go_ret
  exact ⟨by rfl,by exact HB.out⟩
 ·rw [if_neg c4] at H;have c4b0:decide (t113 < 0)=false:=decide_eq_false c4;clear c4;replace H:=Option.bind_eq_some_iff.mp H;obtain ⟨t114,A80,H⟩:=H;replace H:(if t114 < 0 then (some (-1)) else ((laws_szEntryS.f k l0_3 t114).bind fun t115=>(if t115 < 0 then (some (-1)) else (some t115))))=some r:=H;have A8:=a_ A80;clear A80
  by_cases c9:t114 < 0
  ·rw [if_pos c9] at H;have c9b0:decide (t114 < 0)=true:=decide_eq_true c9;clear c9;obtain rfl:=Option.some.inj H
   go_enter Tryz.func19,Tryz.ntmps19
   go_wp2_with (first | ((with_reducible refine gate_dst (N:=2) rfl ?_);refine box_event ?hg (N:=2) ?hd (cs:=#[.int .i64 a0_0,.string a0_1,.slice A0_2 l0_2.length c0_2,.slice A0_3 l0_3.length c0_3]) (t:=36) ?hr ?_;(case hd=>rfl);(case hg=>rfl);(case hr=>(go_simp;done));intro gb112 hg w10 hbox hb;have n0_:=a_ (below_step HB.out hb);have n1_:=a_ (hbox);have n2_:=a_ ((by rw [hg];exact (below_size HB.out):w.heap.size ≤ gb112));have n3_:=a_ ((by rw [hg];exact (below_size HB.out):w.heap.size ≤ gb112));clear HB;have HB:=n0_;have BK112:=n1_;have GW112:=n2_;have GE112:=n3_;clear n0_ n1_ n2_ n3_;clear hb hbox hg;have hcz11_0:w10.cell? ⟨gb112,0,none⟩=some (.int .i64 a0_0):=(blk_cell BK112.out 0).trans rfl;have hcz11_1:w10.cell? ⟨gb112,1,none⟩=some (.string a0_1):=(blk_cell BK112.out 1).trans rfl;have hcz11_2:w10.cell? ⟨gb112,2,none⟩=some (.slice A0_2 l0_2.length c0_2):=(blk_cell BK112.out 2).trans rfl;have hcz11_3:w10.cell? ⟨gb112,3,none⟩=some (.slice A0_3 l0_3.length c0_3):=(blk_cell BK112.out 3).trans rfl;have hfz11_0:=blk_frozen BK112.out 0;have hfz11_1:=blk_frozen BK112.out 1;have hfz11_2:=blk_frozen BK112.out 2;have hfz11_3:=blk_frozen BK112.out 3) | ((with_reducible refine gate_callee (f:=12) rfl ?_);refine goesL_ (some 8) rfl rfl Tryz.func12 (by kernel_rfl) rfl #[.agg #[.int .i64 a0_0,.string a0_1],.int .i64 a1] rfl (by (try simp only [List.map_toArray,List.map_cons,List.map_nil]);rfl) ?_;(with_reducible refine (laws_szHead.calls a0_0 a0_1 a1 t113 _ A3.out).mono ?_);rintro e w12 ⟨rfl,hb⟩;refine ⟨_,rfl,?_⟩;have n0_:=a_ (blk_below (g:=gb112) (o:=.cells #[.int .i64 a0_0,.string a0_1,.slice A0_2 l0_2.length c0_2,.slice A0_3 l0_3.length c0_3] 36 (0,0)) (by exact BK112.out) hb);have n1_:=a_ (below_step HB.out hb);clear BK112;clear HB;have BK112:=n0_;have HB:=n1_;clear n0_ n1_;(try clear hb);have hcz13_0:w12.cell? ⟨gb112,0,none⟩=some (.int .i64 a0_0):=(blk_cell BK112.out 0).trans rfl;have hcz13_1:w12.cell? ⟨gb112,1,none⟩=some (.string a0_1):=(blk_cell BK112.out 1).trans rfl;have hcz13_2:w12.cell? ⟨gb112,2,none⟩=some (.slice A0_2 l0_2.length c0_2):=(blk_cell BK112.out 2).trans rfl;have hcz13_3:w12.cell? ⟨gb112,3,none⟩=some (.slice A0_3 l0_3.length c0_3):=(blk_cell BK112.out 3).trans rfl;have hfz13_0:=blk_frozen BK112.out 0;have hfz13_1:=blk_frozen BK112.out 1;have hfz13_2:=blk_frozen BK112.out 2;have hfz13_3:=blk_frozen BK112.out 3) | ((with_reducible refine gate_callee (f:=13) rfl ?_);refine goesL_ (some 14) rfl rfl Tryz.func13 (by kernel_rfl) rfl #[.slice A0_2 l0_2.length c0_2,.int .i64 t113] rfl (by (try simp only [List.map_toArray,List.map_cons,List.map_nil]);rfl) ?_;(with_reducible refine (laws_szNeedS.calls k _ _ l0_2 t113 t114 _ ?side1 ?side2 A8.out).mono ?_);(case side1=>repeat (exact (Kd.C_below HR0_2.out HB.out)));(case side2=>exact HC0_2.out);rintro e w14 ⟨rfl,hb⟩;refine ⟨_,rfl,?_⟩;have n0_:=a_ (blk_below (g:=gb112) (o:=.cells #[.int .i64 a0_0,.string a0_1,.slice A0_2 l0_2.length c0_2,.slice A0_3 l0_3.length c0_3] 36 (0,0)) (by exact BK112.out) hb);have n1_:=a_ (below_step HB.out hb);clear BK112;clear HB;have BK112:=n0_;have HB:=n1_;clear n0_ n1_;(try clear hb)))
   go_ret
   exact ⟨by rfl,by exact HB.out⟩
  ·rw [if_neg c9] at H;have c9b0:decide (t114 < 0)=false:=decide_eq_false c9;clear c9;replace H:=Option.bind_eq_some_iff.mp H;obtain ⟨t115,A150,H⟩:=H;replace H:(if t115 < 0 then (some (-1)) else (some t115))=some r:=H;have A15:=a_ A150;clear A150
   by_cases c16:t115 < 0
   ·rw [if_pos c16] at H;have c16b0:decide (t115 < 0)=true:=decide_eq_true c16;clear c16;obtain rfl:=Option.some.inj H
    go_enter Tryz.func19,Tryz.ntmps19
    go_wp2_with (first | ((with_reducible refine gate_dst (N:=2) rfl ?_);refine box_event ?hg (N:=2) ?hd (cs:=#[.int .i64 a0_0,.string a0_1,.slice A0_2 l0_2.length c0_2,.slice A0_3 l0_3.length c0_3]) (t:=36) ?hr ?_;(case hd=>rfl);(case hg=>rfl);(case hr=>(go_simp;done));intro gb112 hg w17 hbox hb;have n0_:=a_ (below_step HB.out hb);have n1_:=a_ (hbox);have n2_:=a_ ((by rw [hg];exact (below_size HB.out):w.heap.size ≤ gb112));have n3_:=a_ ((by rw [hg];exact (below_size HB.out):w.heap.size ≤ gb112));clear HB;have HB:=n0_;have BK112:=n1_;have GW112:=n2_;have GE112:=n3_;clear n0_ n1_ n2_ n3_;clear hb hbox hg;have hcz18_0:w17.cell? ⟨gb112,0,none⟩=some (.int .i64 a0_0):=(blk_cell BK112.out 0).trans rfl;have hcz18_1:w17.cell? ⟨gb112,1,none⟩=some (.string a0_1):=(blk_cell BK112.out 1).trans rfl;have hcz18_2:w17.cell? ⟨gb112,2,none⟩=some (.slice A0_2 l0_2.length c0_2):=(blk_cell BK112.out 2).trans rfl;have hcz18_3:w17.cell? ⟨gb112,3,none⟩=some (.slice A0_3 l0_3.length c0_3):=(blk_cell BK112.out 3).trans rfl;have hfz18_0:=blk_frozen BK112.out 0;have hfz18_1:=blk_frozen BK112.out 1;have hfz18_2:=blk_frozen BK112.out 2;have hfz18_3:=blk_frozen BK112.out 3) | ((with_reducible refine gate_callee (f:=12) rfl ?_);refine goesL_ (some 8) rfl rfl Tryz.func12 (by kernel_rfl) rfl #[.agg #[.int .i64 a0_0,.string a0_1],.int .i64 a1] rfl (by (try simp only [List.map_toArray,List.map_cons,List.map_nil]);rfl) ?_;(with_reducible refine (laws_szHead.calls a0_0 a0_1 a1 t113 _ A3.out).mono ?_);rintro e w19 ⟨rfl,hb⟩;refine ⟨_,rfl,?_⟩;have n0_:=a_ (blk_below (g:=gb112) (o:=.cells #[.int .i64 a0_0,.string a0_1,.slice A0_2 l0_2.length c0_2,.slice A0_3 l0_3.length c0_3] 36 (0,0)) (by exact BK112.out) hb);have n1_:=a_ (below_step HB.out hb);clear BK112;clear HB;have BK112:=n0_;have HB:=n1_;clear n0_ n1_;(try clear hb);have hcz20_0:w19.cell? ⟨gb112,0,none⟩=some (.int .i64 a0_0):=(blk_cell BK112.out 0).trans rfl;have hcz20_1:w19.cell? ⟨gb112,1,none⟩=some (.string a0_1):=(blk_cell BK112.out 1).trans rfl;have hcz20_2:w19.cell? ⟨gb112,2,none⟩=some (.slice A0_2 l0_2.length c0_2):=(blk_cell BK112.out 2).trans rfl;have hcz20_3:w19.cell? ⟨gb112,3,none⟩=some (.slice A0_3 l0_3.length c0_3):=(blk_cell BK112.out 3).trans rfl;have hfz20_0:=blk_frozen BK112.out 0;have hfz20_1:=blk_frozen BK112.out 1;have hfz20_2:=blk_frozen BK112.out 2;have hfz20_3:=blk_frozen BK112.out 3) | ((with_reducible refine gate_callee (f:=13) rfl ?_);refine goesL_ (some 14) rfl rfl Tryz.func13 (by kernel_rfl) rfl #[.slice A0_2 l0_2.length c0_2,.int .i64 t113] rfl (by (try simp only [List.map_toArray,List.map_cons,List.map_nil]);rfl) ?_;(with_reducible refine (laws_szNeedS.calls k _ _ l0_2 t113 t114 _ ?side1 ?side2 A8.out).mono ?_);(case side1=>repeat (exact (Kd.C_below HR0_2.out HB.out)));(case side2=>exact HC0_2.out);rintro e w21 ⟨rfl,hb⟩;refine ⟨_,rfl,?_⟩;have n0_:=a_ (blk_below (g:=gb112) (o:=.cells #[.int .i64 a0_0,.string a0_1,.slice A0_2 l0_2.length c0_2,.slice A0_3 l0_3.length c0_3] 36 (0,0)) (by exact BK112.out) hb);have n1_:=a_ (below_step HB.out hb);clear BK112;clear HB;have BK112:=n0_;have HB:=n1_;clear n0_ n1_;(try clear hb);have hcz22_0:w21.cell? ⟨gb112,0,none⟩=some (.int .i64 a0_0):=(blk_cell BK112.out 0).trans rfl;have hcz22_1:w21.cell? ⟨gb112,1,none⟩=some (.string a0_1):=(blk_cell BK112.out 1).trans rfl;have hcz22_2:w21.cell? ⟨gb112,2,none⟩=some (.slice A0_2 l0_2.length c0_2):=(blk_cell BK112.out 2).trans rfl;have hcz22_3:w21.cell? ⟨gb112,3,none⟩=some (.slice A0_3 l0_3.length c0_3):=(blk_cell BK112.out 3).trans rfl;have hfz22_0:=blk_frozen BK112.out 0;have hfz22_1:=blk_frozen BK112.out 1;have hfz22_2:=blk_frozen BK112.out 2;have hfz22_3:=blk_frozen BK112.out 3) | ((with_reducible refine gate_callee (f:=31) rfl ?_);refine goesL_ (some 20) rfl rfl Tryz.func31 (by kernel_rfl) rfl #[.slice A0_3 l0_3.length c0_3,.int .i64 t114] rfl (by (try simp only [List.map_toArray,List.map_cons,List.map_nil]);rfl) ?_;(with_reducible refine (laws_szEntryS.calls k _ _ l0_3 t114 t115 _ ?side1 ?side2 A15.out).mono ?_);(case side1=>repeat (exact (Kd.C_below HR0_3.out HB.out)));(case side2=>exact HC0_3.out);rintro e w23 ⟨rfl,hb⟩;refine ⟨_,rfl,?_⟩;have n0_:=a_ (blk_below (g:=gb112) (o:=.cells #[.int .i64 a0_0,.string a0_1,.slice A0_2 l0_2.length c0_2,.slice A0_3 l0_3.length c0_3] 36 (0,0)) (by exact BK112.out) hb);have n1_:=a_ (below_step HB.out hb);clear BK112;clear HB;have BK112:=n0_;have HB:=n1_;clear n0_ n1_;(try clear hb)))
    go_ret
    exact ⟨by rfl,by exact HB.out⟩
   ·rw [if_neg c16] at H;have c16b0:decide (t115 < 0)=false:=decide_eq_false c16;clear c16;obtain rfl:=Option.some.inj H
    go_enter Tryz.func19,Tryz.ntmps19
    go_wp2_with (first | ((with_reducible refine gate_dst (N:=2) rfl ?_);refine box_event ?hg (N:=2) ?hd (cs:=#[.int .i64 a0_0,.string a0_1,.slice A0_2 l0_2.length c0_2,.slice A0_3 l0_3.length c0_3]) (t:=36) ?hr ?_;(case hd=>rfl);(case hg=>rfl);(case hr=>(go_simp;done));intro gb112 hg w24 hbox hb;have n0_:=a_ (below_step HB.out hb);have n1_:=a_ (hbox);have n2_:=a_ ((by rw [hg];exact (below_size HB.out):w.heap.size ≤ gb112));have n3_:=a_ ((by rw [hg];exact (below_size HB.out):w.heap.size ≤ gb112));clear HB;have HB:=n0_;have BK112:=n1_;have GW112:=n2_;have GE112:=n3_;clear n0_ n1_ n2_ n3_;clear hb hbox hg;have hcz25_0:w24.cell? ⟨gb112,0,none⟩=some (.int .i64 a0_0):=(blk_cell BK112.out 0).trans rfl;have hcz25_1:w24.cell? ⟨gb112,1,none⟩=some (.string a0_1):=(blk_cell BK112.out 1).trans rfl;have hcz25_2:w24.cell? ⟨gb112,2,none⟩=some (.slice A0_2 l0_2.length c0_2):=(blk_cell BK112.out 2).trans rfl;have hcz25_3:w24.cell? ⟨gb112,3,none⟩=some (.slice A0_3 l0_3.length c0_3):=(blk_cell BK112.out 3).trans rfl;have hfz25_0:=blk_frozen BK112.out 0;have hfz25_1:=blk_frozen BK112.out 1;have hfz25_2:=blk_frozen BK112.out 2;have hfz25_3:=blk_frozen BK112.out 3) | ((with_reducible refine gate_callee (f:=12) rfl ?_);refine goesL_ (some 8) rfl rfl Tryz.func12 (by kernel_rfl) rfl #[.agg #[.int .i64 a0_0,.string a0_1],.int .i64 a1] rfl (by (try simp only [List.map_toArray,List.map_cons,List.map_nil]);rfl) ?_;(with_reducible refine (laws_szHead.calls a0_0 a0_1 a1 t113 _ A3.out).mono ?_);rintro e w26 ⟨rfl,hb⟩;refine ⟨_,rfl,?_⟩;have n0_:=a_ (blk_below (g:=gb112) (o:=.cells #[.int .i64 a0_0,.string a0_1,.slice A0_2 l0_2.length c0_2,.slice A0_3 l0_3.length c0_3] 36 (0,0)) (by exact BK112.out) hb);have n1_:=a_ (below_step HB.out hb);clear BK112;clear HB;have BK112:=n0_;have HB:=n1_;clear n0_ n1_;(try clear hb);have hcz27_0:w26.cell? ⟨gb112,0,none⟩=some (.int .i64 a0_0):=(blk_cell BK112.out 0).trans rfl;have hcz27_1:w26.cell? ⟨gb112,1,none⟩=some (.string a0_1):=(blk_cell BK112.out 1).trans rfl;have hcz27_2:w26.cell? ⟨gb112,2,none⟩=some (.slice A0_2 l0_2.length c0_2):=(blk_cell BK112.out 2).trans rfl;have hcz27_3:w26.cell? ⟨gb112,3,none⟩=some (.slice A0_3 l0_3.length c0_3):=(blk_cell BK112.out 3).trans rfl;have hfz27_0:=blk_frozen BK112.out 0;have hfz27_1:=blk_frozen BK112.out 1;have hfz27_2:=blk_frozen BK112.out 2;have hfz27_3:=blk_frozen BK112.out 3) | ((with_reducible refine gate_callee (f:=13) rfl ?_);refine goesL_ (some 14) rfl rfl Tryz.func13 (by kernel_rfl) rfl #[.slice A0_2 l0_2.length c0_2,.int .i64 t113] rfl (by (try simp only [List.map_toArray,List.map_cons,List.map_nil]);rfl) ?_;(with_reducible refine (laws_szNeedS.calls k _ _ l0_2 t113 t114 _ ?side1 ?side2 A8.out).mono ?_);(case side1=>repeat (exact (Kd.C_below HR0_2.out HB.out)));(case side2=>exact HC0_2.out);rintro e w28 ⟨rfl,hb⟩;refine ⟨_,rfl,?_⟩;have n0_:=a_ (blk_below (g:=gb112) (o:=.cells #[.int .i64 a0_0,.string a0_1,.slice A0_2 l0_2.length c0_2,.slice A0_3 l0_3.length c0_3] 36 (0,0)) (by exact BK112.out) hb);have n1_:=a_ (below_step HB.out hb);clear BK112;clear HB;have BK112:=n0_;have HB:=n1_;clear n0_ n1_;(try clear hb);have hcz29_0:w28.cell? ⟨gb112,0,none⟩=some (.int .i64 a0_0):=(blk_cell BK112.out 0).trans rfl;have hcz29_1:w28.cell? ⟨gb112,1,none⟩=some (.string a0_1):=(blk_cell BK112.out 1).trans rfl;have hcz29_2:w28.cell? ⟨gb112,2,none⟩=some (.slice A0_2 l0_2.length c0_2):=(blk_cell BK112.out 2).trans rfl;have hcz29_3:w28.cell? ⟨gb112,3,none⟩=some (.slice A0_3 l0_3.length c0_3):=(blk_cell BK112.out 3).trans rfl;have hfz29_0:=blk_frozen BK112.out 0;have hfz29_1:=blk_frozen BK112.out 1;have hfz29_2:=blk_frozen BK112.out 2;have hfz29_3:=blk_frozen BK112.out 3) | ((with_reducible refine gate_callee (f:=31) rfl ?_);refine goesL_ (some 20) rfl rfl Tryz.func31 (by kernel_rfl) rfl #[.slice A0_3 l0_3.length c0_3,.int .i64 t114] rfl (by (try simp only [List.map_toArray,List.map_cons,List.map_nil]);rfl) ?_;(with_reducible refine (laws_szEntryS.calls k _ _ l0_3 t114 t115 _ ?side1 ?side2 A15.out).mono ?_);(case side1=>repeat (exact (Kd.C_below HR0_3.out HB.out)));(case side2=>exact HC0_3.out);rintro e w30 ⟨rfl,hb⟩;refine ⟨_,rfl,?_⟩;have n0_:=a_ (blk_below (g:=gb112) (o:=.cells #[.int .i64 a0_0,.string a0_1,.slice A0_2 l0_2.length c0_2,.slice A0_3 l0_3.length c0_3] 36 (0,0)) (by exact BK112.out) hb);have n1_:=a_ (below_step HB.out hb);clear BK112;clear HB;have BK112:=n0_;have HB:=n1_;clear n0_ n1_;(try clear hb)))
    go_ret
    exact ⟨by rfl,by exact HB.out⟩
def spec_l1In.f (a0:Int) (a1:Int) (a2:Int):Option (Bool):=if a0 ≥ a1 then (some (decide (a0 ≤ a2))) else (some false)
set_option maxHeartbeats 8000000 in
set_option maxRecDepth 100000 in
theorem spec_l1In.calls (a0:Int) (a1:Int) (a2:Int) (r:Bool) (w:World) (h:spec_l1In.f a0 a1 a2=some r) :
 Calls Tryz.prog 119 #[.int .i64 a0,.int .i64 a1,.int .i64 a2] w fun e w'=>e = .returned (.bool r) ∧ Drawn0 w w':=by
 have H:(if a0 ≥ a1 then (some (decide (a0 ≤ a2))) else (some false))=some r:=h;clear h
 by_cases c4:a0 ≥ a1
 ·rw [if_pos c4] at H;have c4b0:decide (a1 ≤ a0)=true:=decide_eq_true c4;clear c4;obtain rfl:=Option.some.inj H
  go_enter Tryz.func119,Tryz.ntmps119
  go_wp2
  go_ret
  exact ⟨by rfl,by repeat (exact Drawn0.refl _)⟩
 ·rw [if_neg c4] at H;have c4b0:decide (a1 ≤ a0)=false:=decide_eq_false c4;clear c4;obtain rfl:=Option.some.inj H
  go_enter Tryz.func119,Tryz.ntmps119
  go_wp2
  go_ret
  exact ⟨by rfl,by repeat (exact Drawn0.refl _)⟩
def spec_HeadOk.f (a0_0:Int) (a0_1:ByteArray):Option (Bool):=(spec_l1In.f a0_0 0 200).bind fun t117=>(if t117=true then (some ((a0_1.size:Int) == 32)) else (some false))
set_option maxHeartbeats 8000000 in
set_option maxRecDepth 100000 in
theorem spec_HeadOk.calls (a0_0:Int) (a0_1:ByteArray) (r:Bool) (w:World) (h:spec_HeadOk.f a0_0 a0_1=some r) :
 Calls Tryz.prog 59 #[.agg #[.int .i64 a0_0,.string a0_1]] w fun e w'=>e = .returned (.bool r) ∧ Below w.heap.size w w':=by
 have hu28:=Tryz.underlying28;have HB:=a_ (Below.refl w.heap.size w);have H:((spec_l1In.f a0_0 0 200).bind fun t117=>(if t117=true then (some ((a0_1.size:Int) == 32)) else (some false)))=some r:=h;clear h;replace H:=Option.bind_eq_some_iff.mp H;obtain ⟨t117,A20,H⟩:=H;replace H:(if t117=true then (some ((a0_1.size:Int) == 32)) else (some false))=some r:=H;have A2:=a_ A20;clear A20
 by_cases c3:t117=true
 ·subst c3;have H1:(some ((a0_1.size:Int) == 32))=some r:=by rw [if_pos rfl] at H;exact H
  clear H;have H:=H1;clear H1;obtain rfl:=Option.some.inj H
  go_enter Tryz.func59,Tryz.ntmps59
  go_wp2_with (first | ((with_reducible refine gate_dst (N:=1) rfl ?_);(try (refine gate_guard (by rfl) ?_;dsimp only));refine box_event ?hg (N:=1) ?hd (cs:=#[.int .i64 a0_0,.string a0_1]) (t:=28) ?hr ?_;(case hd=>rfl);(case hg=>rfl);(case hr=>(go_simp;done));intro gb116 hg w4 hbox hb;have n0_:=a_ (below_step HB.out hb);have n1_:=a_ (hbox);have n2_:=a_ ((by rw [hg];exact (below_size HB.out):w.heap.size ≤ gb116));have n3_:=a_ ((by rw [hg];exact (below_size HB.out):w.heap.size ≤ gb116));clear HB;have HB:=n0_;have BK116:=n1_;have GW116:=n2_;have GE116:=n3_;clear n0_ n1_ n2_ n3_;clear hb hbox hg;have hcz5_0:w4.cell? ⟨gb116,0,none⟩=some (.int .i64 a0_0):=(blk_cell BK116.out 0).trans rfl;have hcz5_1:w4.cell? ⟨gb116,1,none⟩=some (.string a0_1):=(blk_cell BK116.out 1).trans rfl;have hfz5_0:=blk_frozen BK116.out 0;have hfz5_1:=blk_frozen BK116.out 1) | ((with_reducible refine gate_callee (f:=119) rfl ?_);refine goesL_ (some 5) rfl rfl Tryz.func119 (by kernel_rfl) rfl #[.int .i64 a0_0,.int .i64 0,.int .i64 200] rfl (by (try simp only [List.map_toArray,List.map_cons,List.map_nil]);rfl) ?_;(with_reducible refine (spec_l1In.calls a0_0 0 200 true _ A2.out).mono ?_);rintro e w' ⟨rfl,⟨nd,rfl⟩⟩;refine ⟨_,rfl,?_⟩))
  go_ret
  exact ⟨by rfl,by repeat (with_reducible first | exact HB.out | apply pw_below_drewN)⟩
 ·replace c3:=Bool.eq_false_iff.mpr c3;subst c3;have H1:(some false)=some r:=by rw [if_neg (show ¬ (false=true) by decide)] at H;exact H
  clear H;have H:=H1;clear H1;obtain rfl:=Option.some.inj H
  go_enter Tryz.func59,Tryz.ntmps59
  go_wp2_with (first | ((with_reducible refine gate_dst (N:=1) rfl ?_);(try (refine gate_guard (by rfl) ?_;dsimp only));refine box_event ?hg (N:=1) ?hd (cs:=#[.int .i64 a0_0,.string a0_1]) (t:=28) ?hr ?_;(case hd=>rfl);(case hg=>rfl);(case hr=>(go_simp;done));intro gb116 hg w6 hbox hb;have n0_:=a_ (below_step HB.out hb);have n1_:=a_ (hbox);have n2_:=a_ ((by rw [hg];exact (below_size HB.out):w.heap.size ≤ gb116));have n3_:=a_ ((by rw [hg];exact (below_size HB.out):w.heap.size ≤ gb116));clear HB;have HB:=n0_;have BK116:=n1_;have GW116:=n2_;have GE116:=n3_;clear n0_ n1_ n2_ n3_;clear hb hbox hg;have hcz7_0:w6.cell? ⟨gb116,0,none⟩=some (.int .i64 a0_0):=(blk_cell BK116.out 0).trans rfl;have hcz7_1:w6.cell? ⟨gb116,1,none⟩=some (.string a0_1):=(blk_cell BK116.out 1).trans rfl;have hfz7_0:=blk_frozen BK116.out 0;have hfz7_1:=blk_frozen BK116.out 1) | ((with_reducible refine gate_callee (f:=119) rfl ?_);refine goesL_ (some 5) rfl rfl Tryz.func119 (by kernel_rfl) rfl #[.int .i64 a0_0,.int .i64 0,.int .i64 200] rfl (by (try simp only [List.map_toArray,List.map_cons,List.map_nil]);rfl) ?_;(with_reducible refine (spec_l1In.calls a0_0 0 200 false _ A2.out).mono ?_);rintro e w' ⟨rfl,⟨nd,rfl⟩⟩;refine ⟨_,rfl,?_⟩))
  go_ret
  exact ⟨by rfl,by repeat (with_reducible first | exact HB.out | apply pw_below_drewN)⟩
def spec_l3Split.l0:Nat → ByteArray → Int → List ByteArray → Int → Int → Option (List ByteArray)
 | 0,_,_,_,_,_=>none
 | k + 1,x0,x1,x5,x6,x7=>if x7 ≤ (x0.size:Int) then (if x7=(x0.size:Int) then (if 0 ≤ x6 then (if x6 ≤ x7 then (if x5.length < 8796093022208 then (spec_l3Split.l0 k x0 x1 (x5 ++ [x0.extract (x6:Int).toNat (x7:Int).toNat]) (wrap64 (x7 + 1)) (wrap64 (x7 + 1))) else (none)) else (none)) else (none)) else (if 0 ≤ x7 then (if x7 < (x0.size:Int) then (if (bt x0 x7)=x1 then (if 0 ≤ x6 then (if x6 ≤ x7 then (if x5.length < 8796093022208 then (spec_l3Split.l0 k x0 x1 (x5 ++ [x0.extract (x6:Int).toNat (x7:Int).toNat]) (wrap64 (x7 + 1)) (wrap64 (x7 + 1))) else (none)) else (none)) else (none)) else (spec_l3Split.l0 k x0 x1 x5 x6 (wrap64 (x7 + 1)))) else (none)) else (none))) else (some x5)
def spec_l3Split.f (k:Nat) (a0:ByteArray) (a1:Int):Option (List ByteArray):=spec_l3Split.l0 k a0 a1 ([]:List ByteArray) 0 0
theorem spec_l3Split.mono_l : ∀ k,(∀ y0 y1 y2 y3 y4,LeO (spec_l3Split.l0 k y0 y1 y2 y3 y4) (spec_l3Split.l0 (k + 1) y0 y1 y2 y3 y4))
 | 0=>fun _ _ _ _ _ r h=>by simp [spec_l3Split.l0] at h
 | k + 1=>by
  have ih0:=spec_l3Split.mono_l k
  ·intro y0 y1 y2 y3 y4;unfold spec_l3Split.l0
   repeat' first
   | (with_reducible exact ih0 _ _ _ _ _)
   | (with_reducible exact LeO.refl _)
   | (with_reducible refine LeO.ite ?_ ?_)
theorem spec_l3Split.mono : ∀ a0 a1 k,LeO (spec_l3Split.f k a0 a1) (spec_l3Split.f (k + 1) a0 a1):=by
 intro a0 a1 k;have ih0:=spec_l3Split.mono_l k;unfold spec_l3Split.f
 repeat' (with_reducible exact ih0 _ _ _ _ _)
set_option maxHeartbeats 8000000 in
set_option maxRecDepth 100000 in
theorem spec_l3Split.calls (k:Nat) (a0:ByteArray) (a1:Int) (r:List ByteArray) (w:World) (h:spec_l3Split.f k a0 a1=some r) :
 Calls Tryz.prog 99 #[.string a0,.int .u8 a1] w fun e w'=>∃ v0_:Value,e = .returned (v0_) ∧ Kd.R Kd.string 9 w' w.heap.size (fun _=>True) v0_ r ∧ Below w.heap.size w w':=by
 have HB:=a_ (Below.refl w.heap.size w);have H:(spec_l3Split.l0 k a0 a1 ([]:List ByteArray) 0 0)=some r:=h;clear h;obtain ⟨y118,hy118⟩ : ∃ y_:List ByteArray,y_=([]:List ByteArray):=⟨_,rfl⟩;replace H:(spec_l3Split.l0 k a0 a1 y118 0 0)=some r:=by (rw [hy118];with_reducible exact H)
 have Ny118:=a_ hy118;clear hy118;have H':=a_ H;clear H
 go_enter Tryz.func99,Tryz.ntmps99
 go_wp2_with (((with_reducible refine gate_dst (N:=8) rfl ?_);refine Kd.R_lit Kd.string _ 9 ?hg (N:=8) ?hd (xs:=([]:List ByteArray)) (inner:=[]) (ok:=fun _=>True) (okp:=fun _=>True) ?hr ?hp (fun _ hk=>hk) trivial (Below.refl _ _) (Nat.le_refl _) (by simp) ?_;(case hd=>rfl);(case hg=>rfl);(case hr=>(go_simp;done));(case hp=>exact (Reps.none _ _));intro v119 w3 ho4 hb hg_ hnew_;clear hg_ hnew_;(rw [← Ny118.out] at ho4);have n0_:=a_ (Kd.R_lower ho4 (below_size HB.out));have n1_:=a_ (below_step HB.out hb);clear HB;have HO120:=n0_;have HB:=n1_;clear n0_ n1_;clear hb ho4))
 go_loopg [5,6,7] k (fun kq v5 v6 v7 w'=>∃ (x5_1:List ByteArray) (x6_1:Int) (x7_1:Int),v6 = .int .i64 x6_1 ∧ v7 = .int .i64 x7_1 ∧ Aside0 (spec_l3Split.l0 kq a0 a1 x5_1 x6_1 x7_1=some r) ∧ Aside0 (kq ≤ k) ∧ Aside0 (Kd.R Kd.string 9 w' w.heap.size (fun _=>True) v5 x5_1) ∧ Aside0 (Below w.heap.size w w'))
 case atStart=>exact ⟨(y118),(0),(0),(by rfl),(by rfl),H',⟨Nat.le_refl _⟩,⟨by exact HO120.out⟩,⟨by exact HB.out⟩⟩
 case round=>
  clear H';obtain ⟨x5_1,x6_1,x7_1,rfl,rfl,HA,HK1,HO_5,HB⟩:=hrel
  cases gk with
  | zero=>exact absurd HA.out (by simp [spec_l3Split.l0])
  | succ k1=>
   have H:=HA.out;clear HA;simp only [spec_l3Split.l0] at H
   by_cases c5:x7_1 ≤ (a0.size:Int)
   ·rw [if_pos c5] at H;have c5b0:decide (x7_1 ≤ (a0.size:Int))=true:=decide_eq_true c5;clear c5
    by_cases c6:x7_1=(a0.size:Int)
    ·rw [if_pos c6] at H;have c6b0:(x7_1 == (a0.size:Int))=true:=beq_iff_eq.mpr c6;have c6b1:(x7_1 != (a0.size:Int))=false:=bne_eq_false_iff_eq.mpr c6;clear c6
     by_cases c7:0 ≤ x6_1
     ·rw [if_pos c7] at H;have c7b0:=eq_true c7;have c7b1:decide (0 ≤ x6_1)=true:=decide_eq_true c7;clear c7
      by_cases c8:x6_1 ≤ x7_1
      ·rw [if_pos c8] at H;have c8b0:=eq_true c8;have c8b1:decide (x6_1 ≤ x7_1)=true:=decide_eq_true c8;clear c8;have c9b0:=eq_true (of_decide_eq_true (by (with_reducible assumption)):x7_1 ≤ (a0.size:Int))
       by_cases c10:x5_1.length < 8796093022208
       ·rw [if_pos c10] at H;have LMc10:=a_ c10;clear c10;obtain ⟨y121,hy121⟩ : ∃ y_:List ByteArray,y_=(x5_1 ++ [a0.extract (x6_1:Int).toNat (x7_1:Int).toNat]):=⟨_,rfl⟩;replace H:(spec_l3Split.l0 k1 a0 a1 y121 (wrap64 (x7_1 + 1)) (wrap64 (x7_1 + 1)))=some r:=by (rw [hy121];with_reducible exact H)
        have Ny121:=a_ hy121;clear hy121;have H':=a_ H;clear H
        go_wp2_with (((with_reducible refine gate_builtin (b:=.append) (xs:=#[.tmp 26,.tmp 31]) rfl ?_);at_builtin;refine Kd.R_append Kd.string (w0:=w) w.heap.size rfl (.tmp 26) (.tmp 31) 130 9 (.string ⟨#[]⟩) 16 rfl Tryz.underlying130 info9 rfl (by decide) (by omega) u5 x5_1 (a0.extract (x6_1:Int).toNat (x7_1:Int).toNat) [.string (a0.extract (x6_1:Int).toNat (x7_1:Int).toNat)] (fun _=>True) (fun _=>False) rfl rfl ?aP (fun _ hk=>hk.elim) ?aF ?aO ?aB ?aS ?aL ?_;(case aP=>exact rfl);(case aB=>exact HB.out);(case aF=>exact (fun _ _=>trivial));(case aO=>exact (by exact HO_5.out));(case aS=>exact (below_size HB.out));(case aL=>have:=LMc10.out;omega);intro v122 w11 ho hb hg hat;rw [← Ny121.out] at ho;have n0_:=a_ (hb);have n1_:=a_ (ho);clear HB;clear HO_5;have HB:=n0_;have HO123:=n1_;clear n0_ n1_;clear ho hb hg hat))
        go_roundg k1
        case measure=>have:=HK1.out;omega
        case rel=>exact ⟨(y121),(wrap64 (x7_1 + 1)),(wrap64 (x7_1 + 1)),(by rfl),(by rfl),H',⟨by have:=HK1.out;omega⟩,⟨by exact HO123.out⟩,⟨by exact HB.out⟩⟩
       ·rw [if_neg c10] at H;exact absurd H (by simp)
      ·rw [if_neg c8] at H;exact absurd H (by simp)
     ·rw [if_neg c7] at H;exact absurd H (by simp)
    ·rw [if_neg c6] at H;have c6b0:(x7_1 == (a0.size:Int))=false:=beq_eq_false_iff_ne.mpr c6;have c6b1:(x7_1 != (a0.size:Int))=true:=bne_iff_ne.mpr c6
     by_cases c12:0 ≤ x7_1
     ·rw [if_pos c12] at H;have c12b0:decide (0 ≤ x7_1)=true:=decide_eq_true c12;clear c12
      by_cases c13:x7_1 < (a0.size:Int)
      ·rw [if_pos c13] at H;have c13b0:decide (x7_1 < (a0.size:Int))=true:=decide_eq_true c13;clear c13
       by_cases c15:(bt a0 x7_1)=a1
       ·rw [if_pos c15] at H;have c15b0:((bt a0 x7_1) == a1)=true:=beq_iff_eq.mpr c15;have c15b1:((bt a0 x7_1) != a1)=false:=bne_eq_false_iff_eq.mpr c15;clear c15
        by_cases c16:0 ≤ x6_1
        ·rw [if_pos c16] at H;have c16b0:=eq_true c16;have c16b1:decide (0 ≤ x6_1)=true:=decide_eq_true c16;clear c16
         by_cases c17:x6_1 ≤ x7_1
         ·rw [if_pos c17] at H;have c17b0:=eq_true c17;have c17b1:decide (x6_1 ≤ x7_1)=true:=decide_eq_true c17;clear c17;have c18b0:=eq_true (of_decide_eq_true (by (with_reducible assumption)):x7_1 ≤ (a0.size:Int))
          by_cases c19:x5_1.length < 8796093022208
          ·rw [if_pos c19] at H;have LMc19:=a_ c19;clear c19;obtain ⟨y124,hy124⟩ : ∃ y_:List ByteArray,y_=(x5_1 ++ [a0.extract (x6_1:Int).toNat (x7_1:Int).toNat]):=⟨_,rfl⟩;replace H:(spec_l3Split.l0 k1 a0 a1 y124 (wrap64 (x7_1 + 1)) (wrap64 (x7_1 + 1)))=some r:=by (rw [hy124];with_reducible exact H)
           have Ny124:=a_ hy124;clear hy124;have H':=a_ H;clear H;have p14:0 ≤ (x7_1:Int):=of_decide_eq_true (by (with_reducible assumption));have q14:x7_1 < (a0.size:Int):=of_decide_eq_true (by (with_reducible assumption));have hx14:=bt_at a0 x7_1;replace p14:=eq_true p14;replace q14:=eq_true q14
           go_wp2_with (((with_reducible refine gate_builtin (b:=.append) (xs:=#[.tmp 26,.tmp 31]) rfl ?_);at_builtin;refine Kd.R_append Kd.string (w0:=w) w.heap.size rfl (.tmp 26) (.tmp 31) 130 9 (.string ⟨#[]⟩) 16 rfl Tryz.underlying130 info9 rfl (by decide) (by omega) u5 x5_1 (a0.extract (x6_1:Int).toNat (x7_1:Int).toNat) [.string (a0.extract (x6_1:Int).toNat (x7_1:Int).toNat)] (fun _=>True) (fun _=>False) rfl rfl ?aP (fun _ hk=>hk.elim) ?aF ?aO ?aB ?aS ?aL ?_;(case aP=>exact rfl);(case aB=>exact HB.out);(case aF=>exact (fun _ _=>trivial));(case aO=>exact (by exact HO_5.out));(case aS=>exact (below_size HB.out));(case aL=>have:=LMc19.out;omega);intro v125 w20 ho hb hg hat;rw [← Ny124.out] at ho;have n0_:=a_ (hb);have n1_:=a_ (ho);clear HB;clear HO_5;have HB:=n0_;have HO126:=n1_;clear n0_ n1_;clear ho hb hg hat))
           go_roundg k1
           case measure=>have:=HK1.out;omega
           case rel=>exact ⟨(y124),(wrap64 (x7_1 + 1)),(wrap64 (x7_1 + 1)),(by rfl),(by rfl),H',⟨by have:=HK1.out;omega⟩,⟨by exact HO126.out⟩,⟨by exact HB.out⟩⟩
          ·rw [if_neg c19] at H;exact absurd H (by simp)
         ·rw [if_neg c17] at H;exact absurd H (by simp)
        ·rw [if_neg c16] at H;exact absurd H (by simp)
       ·rw [if_neg c15] at H;have c15b0:((bt a0 x7_1) == a1)=false:=beq_eq_false_iff_ne.mpr c15;have c15b1:((bt a0 x7_1) != a1)=true:=bne_iff_ne.mpr c15;have H':=a_ H;clear H;have p14:0 ≤ (x7_1:Int):=of_decide_eq_true (by (with_reducible assumption));have q14:x7_1 < (a0.size:Int):=of_decide_eq_true (by (with_reducible assumption));have hx14:=bt_at a0 x7_1;replace p14:=eq_true p14;replace q14:=eq_true q14
        go_wp2
        go_roundg k1
        case measure=>have:=HK1.out;omega
        case rel=>exact ⟨(x5_1),(x6_1),(wrap64 (x7_1 + 1)),(by rfl),(by rfl),H',⟨by have:=HK1.out;omega⟩,⟨by exact HO_5.out⟩,⟨by exact HB.out⟩⟩
      ·rw [if_neg c13] at H;exact absurd H (by simp)
     ·rw [if_neg c12] at H;exact absurd H (by simp)
   ·rw [if_neg c5] at H;have c5b0:decide (x7_1 ≤ (a0.size:Int))=false:=decide_eq_false c5;clear c5;obtain rfl:=Option.some.inj H
    go_wp2
    go_ret
    exact ⟨_,by rfl,by exact HO_5.out,by exact HB.out⟩
end Go.Proofs.YtfpdikledfhcaaaGreatDoor.PFnExactClientOk
