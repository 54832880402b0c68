import Derived.Test.YtmkdeknpphimbaaDoorCCePFnClosedx0
import Derived.Test.YtmkdeknpphimbaaDoorCCePFnClosedx2
import Derived.Test.YtmkdeknpphimbaaDoorCCePFnClosedx14
import Derived.Test.YtmkdeknpphimbaaDoorCCePFnClosedx15
namespace Go.Proofs.YtmkdeknpphimbaaDoor.PFnClosed
open Go.RowKit Go.Proofs.YtmkdeknpphimbaaDoorW.PrintWords Go.Proofs.YtmkdeknpphimbaaDoorW.PrintLast Go.Proofs.YtmkdeknpphimbaaDoorW.PrintMore
attribute [local go_sem] max2_int min2_int max_two min_two max_three min_three max_four min_four
set_option linter.unusedVariables false
set_option linter.unusedSimpArgs false
attribute [local go_sem high] eqA36
def spec_NeedsOk.f (k:Nat) (l0:List (S36)):Option (Bool):=if (l0.length:Int) ≤ 20 then ((spec_l5Rising.f k l0).bind fun t384=>(some t384)) else (some false)
theorem spec_NeedsOk.mono : ∀ a0 k,LeO (spec_NeedsOk.f k a0) (spec_NeedsOk.f (k + 1) a0):=by
 intro a0 k;unfold spec_NeedsOk.f
 repeat' first
  | (with_reducible exact spec_l5Rising.mono _ _)
  | (with_reducible exact LeO.refl _)
  | (with_reducible refine LeO.ite ?_ ?_)
  | (with_reducible refine LeO.bind ?_ (fun _=>?_))
set_option maxHeartbeats 8000000 in
set_option maxRecDepth 100000 in
theorem spec_NeedsOk.calls (k:Nat) (A0:Option Addr) (c0:Nat) (l0:List (S36)) (r:Bool) (w:World) (hr0:Kd.C k36 w A0 l0.length l0) (hc0:l0.length ≤ c0) (h:spec_NeedsOk.f k l0=some r) :
 Calls Tryd.prog 70 #[.slice A0 l0.length c0] w fun e w'=>e = .returned (.bool r) ∧ Below w.heap.size w w':=by
 have HR0:=a_ hr0;have HC0:=a_ hc0;clear hr0 hc0;have HB:=a_ (Below.refl w.heap.size w);have H:(if (l0.length:Int) ≤ 20 then ((spec_l5Rising.f k l0).bind fun t384=>(some t384)) else (some false))=some r:=h;clear h
 by_cases c2:(l0.length:Int) ≤ 20
 ·rw [if_pos c2] at H;have c2b0:decide ((l0.length:Int) ≤ 20)=true:=decide_eq_true c2;have c2b1:decide (l0.length ≤ 20)=true:=decide_eq_true (by omega);clear c2;replace H:=Option.bind_eq_some_iff.mp H;obtain ⟨t384,A30,H⟩:=H;replace H:(some t384)=some r:=H;have A3:=a_ A30;clear A30;obtain rfl:=Option.some.inj H
  go_enter Tryd.func70,Tryd.ntmps70
  go_wp2_with ((go_at_call 83;(with_reducible refine (spec_l5Rising.calls k _ _ l0 t384 _ ?side1 ?side2 A3.out).mono ?_);(case side1=>repeat (exact HR0.out));(case side2=>exact HC0.out);rintro e w4 ⟨rfl,hb⟩;have n0_:=a_ (below_step HB.out hb);clear HB;have HB:=n0_;clear n0_;(try clear hb)))
  go_ret
  exact ⟨by rfl,by exact HB.out⟩
 ·rw [if_neg c2] at H;have c2b0:decide ((l0.length:Int) ≤ 20)=false:=decide_eq_false c2;have c2b1:decide (l0.length ≤ 20)=false:=decide_eq_false (by omega);clear c2;obtain rfl:=Option.some.inj H
  go_enter Tryd.func70,Tryd.ntmps70
  go_wp2
  go_ret
  exact ⟨by rfl,by exact HB.out⟩
def spec_EntryOk.l0:Nat → Int → ByteArray → Int → Int → Int → ByteArray → List (S36) → Option (Bool)
 | 0,_,_,_,_,_,_,_=>none
 | k + 1,x3,x386000,x386001,x386002,x386003,x386004,x386005=>if x3 < (x386005.length:Int) then (if 0 ≤ x3 then (if ((rd_T36 x386005 x3).f0).toList=x386000.toList then (some false) else (spec_EntryOk.l0 k (wrap64 (x3 + 1)) x386000 x386001 x386002 x386003 x386004 x386005)) else (none)) else ((spec_Fits.f k x386000 x386001 x386002 x386003 x386004).bind fun t387=>(if t387=true then (if (x386005.length:Int) ≤ 8 then ((spec_l5Rising.f k x386005).bind fun t388=>(some t388)) else (some false)) else (some false)))
def spec_EntryOk.f (k:Nat) (a0_0:ByteArray) (a0_1:Int) (a0_2:Int) (a0_3:Int) (a0_4:ByteArray) (l0_5:List (S36)):Option (Bool):=spec_EntryOk.l0 k 0 a0_0 a0_1 a0_2 a0_3 a0_4 l0_5
theorem spec_EntryOk.mono_l : ∀ k,(∀ y0 y1 y2 y3 y4 y5 y6,LeO (spec_EntryOk.l0 k y0 y1 y2 y3 y4 y5 y6) (spec_EntryOk.l0 (k + 1) y0 y1 y2 y3 y4 y5 y6))
 | 0=>fun _ _ _ _ _ _ _ r h=>by simp [spec_EntryOk.l0] at h
 | k + 1=>by
  have ih0:=spec_EntryOk.mono_l k
  ·intro y0 y1 y2 y3 y4 y5 y6;unfold spec_EntryOk.l0
   repeat' first
   | (with_reducible exact ih0 _ _ _ _ _ _ _)
   | (with_reducible exact spec_Fits.mono _ _ _ _ _ _)
   | (with_reducible exact spec_l5Rising.mono _ _)
   | (with_reducible exact LeO.refl _)
   | (with_reducible refine LeO.ite ?_ ?_)
   | (with_reducible refine LeO.bind ?_ (fun _=>?_))
theorem spec_EntryOk.mono : ∀ a0 a1 a2 a3 a4 a5 k,LeO (spec_EntryOk.f k a0 a1 a2 a3 a4 a5) (spec_EntryOk.f (k + 1) a0 a1 a2 a3 a4 a5):=by
 intro a0 a1 a2 a3 a4 a5 k;have ih0:=spec_EntryOk.mono_l k;unfold spec_EntryOk.f
 repeat' (with_reducible exact ih0 _ _ _ _ _ _ _)
set_option maxHeartbeats 8000000 in
set_option maxRecDepth 100000 in
theorem spec_EntryOk.calls (k:Nat) (a0_0:ByteArray) (a0_1:Int) (a0_2:Int) (a0_3:Int) (a0_4:ByteArray) (A0_5:Option Addr) (c0_5:Nat) (l0_5:List (S36)) (r:Bool) (w:World) (hr0_5:Kd.C k36 w A0_5 l0_5.length l0_5) (hc0_5:l0_5.length ≤ c0_5) (h:spec_EntryOk.f k a0_0 a0_1 a0_2 a0_3 a0_4 l0_5=some r) :
 Calls Tryd.prog 71 #[.agg #[.string a0_0,.int .i64 a0_1,.int .i64 a0_2,.int .i64 a0_3,.string a0_4,.slice A0_5 l0_5.length c0_5]] w fun e w'=>e = .returned (.bool r) ∧ Below w.heap.size w w':=by
 have hu47:=Tryd.underlying47;have hu33:=Tryd.underlying33;have HR0_5:=a_ hr0_5;have HC0_5:=a_ hc0_5;clear hr0_5 hc0_5;have HB:=a_ (Below.refl w.heap.size w);have H:(spec_EntryOk.l0 k 0 a0_0 a0_1 a0_2 a0_3 a0_4 l0_5)=some r:=h;clear h;have H':=a_ H;clear H
 go_enter Tryd.func71,Tryd.ntmps71
 go_wp2_with (((with_reducible refine gate_dst (N:=1) rfl ?_);(try (refine gate_guard (by rfl) ?_;dsimp only));refine box_event ?hg (N:=1) ?hd (cs:=#[.string a0_0,.int .i64 a0_1,.int .i64 a0_2,.int .i64 a0_3,.string a0_4,.slice A0_5 l0_5.length c0_5]) (t:=47) ?hr ?_;(case hd=>rfl);(case hg=>rfl);(case hr=>(go_simp;done));intro gb385 hg w2 hbox hb;have n0_:=a_ (below_step HB.out hb);have n1_:=a_ (hbox);have n2_:=a_ ((by rw [hg];exact (below_size HB.out):w.heap.size ≤ gb385));have n3_:=a_ ((by rw [hg];exact (below_size HB.out):w.heap.size ≤ gb385));clear HB;have HB:=n0_;have BK385:=n1_;have GW385:=n2_;have GE385:=n3_;clear n0_ n1_ n2_ n3_;clear hb hbox hg))
 repeat (go_quiet (fail))
 go_loopg [3] k (fun kq v3 w'=>∃ (x3_1:Int),v3 = .int .i64 x3_1 ∧ Aside0 (spec_EntryOk.l0 kq x3_1 a0_0 a0_1 a0_2 a0_3 a0_4 l0_5=some r) ∧ Aside0 (kq ≤ k) ∧ Aside0 (w'.heap[gb385]? = some (.cells #[.string a0_0,.int .i64 a0_1,.int .i64 a0_2,.int .i64 a0_3,.string a0_4,(.slice A0_5 l0_5.length c0_5)] 47 (0,0))) ∧ Aside0 (Below w.heap.size w w'))
 case atStart=>exact ⟨(0),(by rfl),H',⟨Nat.le_refl _⟩,⟨by exact BK385.out⟩,⟨by exact HB.out⟩⟩
 case round=>
  clear H';obtain ⟨x3_1,rfl,HA,HK1,BK385,HB⟩:=hrel
  cases gk with
  | zero=>exact absurd HA.out (by simp [spec_EntryOk.l0])
  | succ k1=>
   have H:=HA.out;clear HA;simp only [spec_EntryOk.l0] at H
   by_cases c3:x3_1 < (l0_5.length:Int)
   ·rw [if_pos c3] at H;have c3b0:decide (x3_1 < (l0_5.length:Int))=true:=decide_eq_true c3;clear c3
    by_cases c4:0 ≤ x3_1
    ·rw [if_pos c4] at H;have c4b0:decide (0 ≤ x3_1)=true:=decide_eq_true c4;clear c4
     by_cases c5:((rd_T36 l0_5 x3_1).f0).toList=a0_0.toList
     ·rw [if_pos c5] at H;have c5b0:(((rd_T36 l0_5 x3_1).f0).toList == a0_0.toList)=true:=beq_iff_eq.mpr c5;have c5b1:(((rd_T36 l0_5 x3_1).f0).toList != a0_0.toList)=false:=bne_eq_false_iff_eq.mpr c5;clear c5;obtain rfl:=Option.some.inj H;have hcz6_0:wr.cell? ⟨gb385,0,none⟩=some (.string a0_0):=(blk_cell BK385.out 0).trans rfl;have hcz6_1:wr.cell? ⟨gb385,1,none⟩=some (.int .i64 a0_1):=(blk_cell BK385.out 1).trans rfl
      have hcz6_2:wr.cell? ⟨gb385,2,none⟩=some (.int .i64 a0_2):=(blk_cell BK385.out 2).trans rfl;have hcz6_3:wr.cell? ⟨gb385,3,none⟩=some (.int .i64 a0_3):=(blk_cell BK385.out 3).trans rfl;have hcz6_4:wr.cell? ⟨gb385,4,none⟩=some (.string a0_4):=(blk_cell BK385.out 4).trans rfl;have hcz6_5:wr.cell? ⟨gb385,5,none⟩=some (.slice A0_5 l0_5.length c0_5):=(blk_cell BK385.out 5).trans rfl;have hfz6_0:=blk_frozen BK385.out 0
      have hfz6_1:=blk_frozen BK385.out 1;have hfz6_2:=blk_frozen BK385.out 2;have hfz6_3:=blk_frozen BK385.out 3;have hfz6_4:=blk_frozen BK385.out 4;have hfz6_5:=blk_frozen BK385.out 5;have p386:0 ≤ (x3_1:Int):=of_decide_eq_true (by (with_reducible assumption));have q386:x3_1 < (l0_5.length:Int):=of_decide_eq_true (by (with_reducible assumption));obtain ⟨ad386,e386,hx386_0,hx386_1,hx386_2,hx386_3,hx386_4⟩:=at_T36 HR0_5.out x3_1 p386 q386
      cases e386;replace hx386_0:=bc_ HB hx386_0
      replace hx386_1:=bc_ HB hx386_1;replace hx386_2:=bc_ HB hx386_2;replace hx386_3:=bc_ HB hx386_3;replace hx386_4:=bc_ HB hx386_4;replace p386:=eq_true p386;replace q386:=eq_true q386
      go_wp2
      repeat (go_quiet (fail);try go_wp2)
      go_ret
      exact ⟨by rfl,by repeat (with_reducible first | exact HB.out | apply pw_below_drewN)⟩
     ·rw [if_neg c5] at H;have c5b0:(((rd_T36 l0_5 x3_1).f0).toList == a0_0.toList)=false:=beq_eq_false_iff_ne.mpr c5;have c5b1:(((rd_T36 l0_5 x3_1).f0).toList != a0_0.toList)=true:=bne_iff_ne.mpr c5;have H':=a_ H;clear H;have hcz7_0:wr.cell? ⟨gb385,0,none⟩=some (.string a0_0):=(blk_cell BK385.out 0).trans rfl;have hcz7_1:wr.cell? ⟨gb385,1,none⟩=some (.int .i64 a0_1):=(blk_cell BK385.out 1).trans rfl
      have hcz7_2:wr.cell? ⟨gb385,2,none⟩=some (.int .i64 a0_2):=(blk_cell BK385.out 2).trans rfl;have hcz7_3:wr.cell? ⟨gb385,3,none⟩=some (.int .i64 a0_3):=(blk_cell BK385.out 3).trans rfl;have hcz7_4:wr.cell? ⟨gb385,4,none⟩=some (.string a0_4):=(blk_cell BK385.out 4).trans rfl;have hcz7_5:wr.cell? ⟨gb385,5,none⟩=some (.slice A0_5 l0_5.length c0_5):=(blk_cell BK385.out 5).trans rfl;have hfz7_0:=blk_frozen BK385.out 0
      have hfz7_1:=blk_frozen BK385.out 1;have hfz7_2:=blk_frozen BK385.out 2;have hfz7_3:=blk_frozen BK385.out 3;have hfz7_4:=blk_frozen BK385.out 4;have hfz7_5:=blk_frozen BK385.out 5;have p386:0 ≤ (x3_1:Int):=of_decide_eq_true (by (with_reducible assumption));have q386:x3_1 < (l0_5.length:Int):=of_decide_eq_true (by (with_reducible assumption));obtain ⟨ad386,e386,hx386_0,hx386_1,hx386_2,hx386_3,hx386_4⟩:=at_T36 HR0_5.out x3_1 p386 q386
      cases e386;replace hx386_0:=bc_ HB hx386_0
      replace hx386_1:=bc_ HB hx386_1;replace hx386_2:=bc_ HB hx386_2;replace hx386_3:=bc_ HB hx386_3;replace hx386_4:=bc_ HB hx386_4;replace p386:=eq_true p386;replace q386:=eq_true q386
      go_wp2
      repeat (go_quiet (fail);try go_wp2)
      go_roundg k1
      case measure=>have:=HK1.out;omega
      case rel=>exact ⟨(wrap64 (x3_1 + 1)),(by rfl),H',⟨by have:=HK1.out;omega⟩,⟨by (with_reducible repeat (refine blk_drewN ?_ _));exact BK385.out⟩,⟨by repeat (with_reducible first | exact HB.out | apply pw_below_drewN)⟩⟩
    ·rw [if_neg c4] at H;exact absurd H (by simp)
   ·rw [if_neg c3] at H;have c3b0:decide (x3_1 < (l0_5.length:Int))=false:=decide_eq_false c3;clear c3;replace H:=Option.bind_eq_some_iff.mp H;obtain ⟨t387,A80,H⟩:=H;replace H:(if t387=true then (if (l0_5.length:Int) ≤ 8 then ((spec_l5Rising.f k1 l0_5).bind fun t388=>(some t388)) else (some false)) else (some false))=some r:=H;have A8:=a_ A80;clear A80
    by_cases c9:t387=true
    ·subst c9;have H1:(if (l0_5.length:Int) ≤ 8 then ((spec_l5Rising.f k1 l0_5).bind fun t388=>(some t388)) else (some false))=some r:=by rw [if_pos rfl] at H;exact H
     clear H;have H:=H1;clear H1
     by_cases c10:(l0_5.length:Int) ≤ 8
     ·rw [if_pos c10] at H;have c10b0:decide ((l0_5.length:Int) ≤ 8)=true:=decide_eq_true c10;have c10b1:decide (l0_5.length ≤ 8)=true:=decide_eq_true (by omega);clear c10;replace H:=Option.bind_eq_some_iff.mp H;obtain ⟨t388,A110,H⟩:=H;replace H:(some t388)=some r:=H;have A11:=a_ A110;clear A110;obtain rfl:=Option.some.inj H;have hcz12_0:wr.cell? ⟨gb385,0,none⟩=some (.string a0_0):=(blk_cell BK385.out 0).trans rfl
      have hcz12_1:wr.cell? ⟨gb385,1,none⟩=some (.int .i64 a0_1):=(blk_cell BK385.out 1).trans rfl;have hcz12_2:wr.cell? ⟨gb385,2,none⟩=some (.int .i64 a0_2):=(blk_cell BK385.out 2).trans rfl;have hcz12_3:wr.cell? ⟨gb385,3,none⟩=some (.int .i64 a0_3):=(blk_cell BK385.out 3).trans rfl;have hcz12_4:wr.cell? ⟨gb385,4,none⟩=some (.string a0_4):=(blk_cell BK385.out 4).trans rfl;have hcz12_5:wr.cell? ⟨gb385,5,none⟩=some (.slice A0_5 l0_5.length c0_5):=(blk_cell BK385.out 5).trans rfl
      have hfz12_0:=blk_frozen BK385.out 0;have hfz12_1:=blk_frozen BK385.out 1;have hfz12_2:=blk_frozen BK385.out 2;have hfz12_3:=blk_frozen BK385.out 3;have hfz12_4:=blk_frozen BK385.out 4;have hfz12_5:=blk_frozen BK385.out 5
      go_wp2_with (first | (go_at_call 84;(with_reducible refine (spec_Fits.calls k1 a0_0 a0_1 a0_2 a0_3 a0_4 true _ A8.out).mono ?_);rintro e w13 ⟨rfl,hb⟩;have n0_:=a_ (blk_below (g:=gb385) (o:=.cells #[.string a0_0,.int .i64 a0_1,.int .i64 a0_2,.int .i64 a0_3,.string a0_4,.slice A0_5 l0_5.length c0_5] 47 (0,0)) (by exact BK385.out) hb);have n1_:=a_ (below_step HB.out hb);clear BK385;clear HB;have BK385:=n0_;have HB:=n1_;clear n0_ n1_;(try clear hb);have hcz14_0:w13.cell? ⟨gb385,0,none⟩=some (.string a0_0):=(blk_cell BK385.out 0).trans rfl;have hcz14_1:w13.cell? ⟨gb385,1,none⟩=some (.int .i64 a0_1):=(blk_cell BK385.out 1).trans rfl;have hcz14_2:w13.cell? ⟨gb385,2,none⟩=some (.int .i64 a0_2):=(blk_cell BK385.out 2).trans rfl;have hcz14_3:w13.cell? ⟨gb385,3,none⟩=some (.int .i64 a0_3):=(blk_cell BK385.out 3).trans rfl;have hcz14_4:w13.cell? ⟨gb385,4,none⟩=some (.string a0_4):=(blk_cell BK385.out 4).trans rfl;have hcz14_5:w13.cell? ⟨gb385,5,none⟩=some (.slice A0_5 l0_5.length c0_5):=(blk_cell BK385.out 5).trans rfl;have hfz14_0:=blk_frozen BK385.out 0;have hfz14_1:=blk_frozen BK385.out 1;have hfz14_2:=blk_frozen BK385.out 2;have hfz14_3:=blk_frozen BK385.out 3;have hfz14_4:=blk_frozen BK385.out 4;have hfz14_5:=blk_frozen BK385.out 5) | (go_at_call 83;(with_reducible refine (spec_l5Rising.calls k1 _ _ l0_5 t388 _ ?side1 ?side2 A11.out).mono ?_);(case side1=>repeat (exact (Kd.C_below HR0_5.out HB.out)));(case side2=>exact HC0_5.out);rintro e w15 ⟨rfl,hb⟩;have n0_:=a_ (blk_below (g:=gb385) (o:=.cells #[.string a0_0,.int .i64 a0_1,.int .i64 a0_2,.int .i64 a0_3,.string a0_4,.slice A0_5 l0_5.length c0_5] 47 (0,0)) (by exact BK385.out) hb);have n1_:=a_ (below_step HB.out hb);clear BK385;clear HB;have BK385:=n0_;have HB:=n1_;clear n0_ n1_;(try clear hb)))
      repeat (go_quiet (fail))
      go_ret
      exact ⟨by rfl,by exact HB.out⟩
     ·rw [if_neg c10] at H;have c10b0:decide ((l0_5.length:Int) ≤ 8)=false:=decide_eq_false c10;have c10b1:decide (l0_5.length ≤ 8)=false:=decide_eq_false (by omega);clear c10;obtain rfl:=Option.some.inj H;have hcz16_0:wr.cell? ⟨gb385,0,none⟩=some (.string a0_0):=(blk_cell BK385.out 0).trans rfl;have hcz16_1:wr.cell? ⟨gb385,1,none⟩=some (.int .i64 a0_1):=(blk_cell BK385.out 1).trans rfl;have hcz16_2:wr.cell? ⟨gb385,2,none⟩=some (.int .i64 a0_2):=(blk_cell BK385.out 2).trans rfl
      have hcz16_3:wr.cell? ⟨gb385,3,none⟩=some (.int .i64 a0_3):=(blk_cell BK385.out 3).trans rfl;have hcz16_4:wr.cell? ⟨gb385,4,none⟩=some (.string a0_4):=(blk_cell BK385.out 4).trans rfl;have hcz16_5:wr.cell? ⟨gb385,5,none⟩=some (.slice A0_5 l0_5.length c0_5):=(blk_cell BK385.out 5).trans rfl;have hfz16_0:=blk_frozen BK385.out 0;have hfz16_1:=blk_frozen BK385.out 1;have hfz16_2:=blk_frozen BK385.out 2
      have hfz16_3:=blk_frozen BK385.out 3;have hfz16_4:=blk_frozen BK385.out 4;have hfz16_5:=blk_frozen BK385.out 5
      go_wp2_with ((go_at_call 84;(with_reducible refine (spec_Fits.calls k1 a0_0 a0_1 a0_2 a0_3 a0_4 true _ A8.out).mono ?_);rintro e w17 ⟨rfl,hb⟩;have n0_:=a_ (blk_below (g:=gb385) (o:=.cells #[.string a0_0,.int .i64 a0_1,.int .i64 a0_2,.int .i64 a0_3,.string a0_4,.slice A0_5 l0_5.length c0_5] 47 (0,0)) (by exact BK385.out) hb);have n1_:=a_ (below_step HB.out hb);clear BK385;clear HB;have BK385:=n0_;have HB:=n1_;clear n0_ n1_;(try clear hb);have hcz18_0:w17.cell? ⟨gb385,0,none⟩=some (.string a0_0):=(blk_cell BK385.out 0).trans rfl;have hcz18_1:w17.cell? ⟨gb385,1,none⟩=some (.int .i64 a0_1):=(blk_cell BK385.out 1).trans rfl;have hcz18_2:w17.cell? ⟨gb385,2,none⟩=some (.int .i64 a0_2):=(blk_cell BK385.out 2).trans rfl;have hcz18_3:w17.cell? ⟨gb385,3,none⟩=some (.int .i64 a0_3):=(blk_cell BK385.out 3).trans rfl;have hcz18_4:w17.cell? ⟨gb385,4,none⟩=some (.string a0_4):=(blk_cell BK385.out 4).trans rfl;have hcz18_5:w17.cell? ⟨gb385,5,none⟩=some (.slice A0_5 l0_5.length c0_5):=(blk_cell BK385.out 5).trans rfl;have hfz18_0:=blk_frozen BK385.out 0;have hfz18_1:=blk_frozen BK385.out 1;have hfz18_2:=blk_frozen BK385.out 2;have hfz18_3:=blk_frozen BK385.out 3;have hfz18_4:=blk_frozen BK385.out 4;have hfz18_5:=blk_frozen BK385.out 5))
      repeat (go_quiet (fail))
      go_ret
      exact ⟨by rfl,by exact HB.out⟩
    ·replace c9:=Bool.eq_false_iff.mpr c9;subst c9;have H1:(some false)=some r:=by rw [if_neg (show ¬ (false=true) by decide)] at H;exact H
     clear H;have H:=H1;clear H1;obtain rfl:=Option.some.inj H;have hcz19_0:wr.cell? ⟨gb385,0,none⟩=some (.string a0_0):=(blk_cell BK385.out 0).trans rfl;have hcz19_1:wr.cell? ⟨gb385,1,none⟩=some (.int .i64 a0_1):=(blk_cell BK385.out 1).trans rfl;have hcz19_2:wr.cell? ⟨gb385,2,none⟩=some (.int .i64 a0_2):=(blk_cell BK385.out 2).trans rfl;have hcz19_3:wr.cell? ⟨gb385,3,none⟩=some (.int .i64 a0_3):=(blk_cell BK385.out 3).trans rfl
     have hcz19_4:wr.cell? ⟨gb385,4,none⟩=some (.string a0_4):=(blk_cell BK385.out 4).trans rfl;have hcz19_5:wr.cell? ⟨gb385,5,none⟩=some (.slice A0_5 l0_5.length c0_5):=(blk_cell BK385.out 5).trans rfl;have hfz19_0:=blk_frozen BK385.out 0;have hfz19_1:=blk_frozen BK385.out 1;have hfz19_2:=blk_frozen BK385.out 2;have hfz19_3:=blk_frozen BK385.out 3;have hfz19_4:=blk_frozen BK385.out 4;have hfz19_5:=blk_frozen BK385.out 5
     go_wp2_with ((go_at_call 84;(with_reducible refine (spec_Fits.calls k1 a0_0 a0_1 a0_2 a0_3 a0_4 false _ A8.out).mono ?_);rintro e w20 ⟨rfl,hb⟩;have n0_:=a_ (blk_below (g:=gb385) (o:=.cells #[.string a0_0,.int .i64 a0_1,.int .i64 a0_2,.int .i64 a0_3,.string a0_4,.slice A0_5 l0_5.length c0_5] 47 (0,0)) (by exact BK385.out) hb);have n1_:=a_ (below_step HB.out hb);clear BK385;clear HB;have BK385:=n0_;have HB:=n1_;clear n0_ n1_;(try clear hb)))
     repeat (go_quiet (fail))
     go_ret
     exact ⟨by rfl,by exact HB.out⟩
def spec_l16Has.l0:Nat → List (S36) → Int → ByteArray → Int → Int → Int → ByteArray → Option (Bool)
 | 0,_,_,_,_,_,_,_=>none
 | k + 1,x0,x5,x390000,x390001,x390002,x390003,x390004=>if x5 < (x0.length:Int) then (if 0 ≤ x5 then (if ((((rd_T36 x0 x5).f0).toList) == x390000.toList && ((((rd_T36 x0 x5).f1.f0) == x390001 && (((rd_T36 x0 x5).f1.f1) == x390002 && (((rd_T36 x0 x5).f1.f2) == x390003 && ((((rd_T36 x0 x5).f1.f3).toList) == x390004.toList))))))=true then (some true) else (spec_l16Has.l0 k x0 (wrap64 (x5 + 1)) x390000 x390001 x390002 x390003 x390004)) else (none)) else (some false)
def spec_l16Has.f (k:Nat) (l0:List (S36)) (a1_0:ByteArray) (a1_1:Int) (a1_2:Int) (a1_3:Int) (a1_4:ByteArray):Option (Bool):=spec_l16Has.l0 k l0 0 a1_0 a1_1 a1_2 a1_3 a1_4
theorem spec_l16Has.mono_l : ∀ k,(∀ y0 y1 y2 y3 y4 y5 y6,LeO (spec_l16Has.l0 k y0 y1 y2 y3 y4 y5 y6) (spec_l16Has.l0 (k + 1) y0 y1 y2 y3 y4 y5 y6))
 | 0=>fun _ _ _ _ _ _ _ r h=>by simp [spec_l16Has.l0] at h
 | k + 1=>by
  have ih0:=spec_l16Has.mono_l k
  ·intro y0 y1 y2 y3 y4 y5 y6;unfold spec_l16Has.l0
   repeat' first
   | (with_reducible exact ih0 _ _ _ _ _ _ _)
   | (with_reducible exact LeO.refl _)
   | (with_reducible refine LeO.ite ?_ ?_)
theorem spec_l16Has.mono : ∀ a0 a1 a2 a3 a4 a5 k,LeO (spec_l16Has.f k a0 a1 a2 a3 a4 a5) (spec_l16Has.f (k + 1) a0 a1 a2 a3 a4 a5):=by
 intro a0 a1 a2 a3 a4 a5 k;have ih0:=spec_l16Has.mono_l k;unfold spec_l16Has.f
 repeat' (with_reducible exact ih0 _ _ _ _ _ _ _)
set_option maxHeartbeats 8000000 in
set_option maxRecDepth 100000 in
theorem spec_l16Has.calls (k:Nat) (A0:Option Addr) (c0:Nat) (l0:List (S36)) (a1_0:ByteArray) (a1_1:Int) (a1_2:Int) (a1_3:Int) (a1_4:ByteArray) (r:Bool) (w:World) (hr0:Kd.C k36 w A0 l0.length l0) (hc0:l0.length ≤ c0) (h:spec_l16Has.f k l0 a1_0 a1_1 a1_2 a1_3 a1_4=some r) :
 Calls Tryd.prog 72 #[.slice A0 l0.length c0,.agg #[.string a1_0,.int .i64 a1_1,.int .i64 a1_2,.int .i64 a1_3,.string a1_4]] w fun e w'=>e = .returned (.bool r) ∧ Below w.heap.size w w':=by
 have hu36:=Tryd.underlying36;have HR0:=a_ hr0;have HC0:=a_ hc0;clear hr0 hc0;have HB:=a_ (Below.refl w.heap.size w);have H:(spec_l16Has.l0 k l0 0 a1_0 a1_1 a1_2 a1_3 a1_4)=some r:=h;clear h;have H':=a_ H;clear H
 go_enter Tryd.func72,Tryd.ntmps72
 go_wp2_with (((with_reducible refine gate_dst (N:=3) rfl ?_);refine box_event ?hg (N:=3) ?hd (cs:=#[.string a1_0,.int .i64 a1_1,.int .i64 a1_2,.int .i64 a1_3,.string a1_4]) (t:=36) ?hr ?_;(case hd=>rfl);(case hg=>rfl);(case hr=>(go_simp;done));intro gb389 hg w3 hbox hb;have n0_:=a_ (below_step HB.out hb);have n1_:=a_ (hbox);have n2_:=a_ ((by rw [hg];exact (below_size HB.out):w.heap.size ≤ gb389));have n3_:=a_ ((by rw [hg];exact (below_size HB.out):w.heap.size ≤ gb389));clear HB;have HB:=n0_;have BK389:=n1_;have GW389:=n2_;have GE389:=n3_;clear n0_ n1_ n2_ n3_;clear hb hbox hg))
 repeat (go_quiet (fail))
 go_loopg [5] k (fun kq v5 w'=>∃ (x5_1:Int),v5 = .int .i64 x5_1 ∧ Aside0 (spec_l16Has.l0 kq l0 x5_1 a1_0 a1_1 a1_2 a1_3 a1_4=some r) ∧ Aside0 (kq ≤ k) ∧ Aside0 (w'.heap[gb389]? = some (.cells #[.string a1_0,.int .i64 a1_1,.int .i64 a1_2,.int .i64 a1_3,.string a1_4] 36 (0,0))) ∧ Aside0 (Below w.heap.size w w'))
 case atStart=>exact ⟨(0),(by rfl),H',⟨Nat.le_refl _⟩,⟨by exact BK389.out⟩,⟨by exact HB.out⟩⟩
 case round=>
  clear H';obtain ⟨x5_1,rfl,HA,HK1,BK389,HB⟩:=hrel
  cases gk with
  | zero=>exact absurd HA.out (by simp [spec_l16Has.l0])
  | succ k1=>
   have H:=HA.out;clear HA;simp only [spec_l16Has.l0] at H
   by_cases c4:x5_1 < (l0.length:Int)
   ·rw [if_pos c4] at H;have c4b0:decide (x5_1 < (l0.length:Int))=true:=decide_eq_true c4;clear c4
    by_cases c5:0 ≤ x5_1
    ·rw [if_pos c5] at H;have c5b0:decide (0 ≤ x5_1)=true:=decide_eq_true c5;clear c5
     by_cases c6:((((rd_T36 l0 x5_1).f0).toList) == a1_0.toList && ((((rd_T36 l0 x5_1).f1.f0) == a1_1 && (((rd_T36 l0 x5_1).f1.f1) == a1_2 && (((rd_T36 l0 x5_1).f1.f2) == a1_3 && ((((rd_T36 l0 x5_1).f1.f3).toList) == a1_4.toList))))))=true
     ·rw [if_pos c6] at H;have c6b0:((((rd_T36 l0 x5_1).f0).toList) == a1_0.toList && ((((rd_T36 l0 x5_1).f1.f0) == a1_1 && (((rd_T36 l0 x5_1).f1.f1) == a1_2 && (((rd_T36 l0 x5_1).f1.f2) == a1_3 && ((((rd_T36 l0 x5_1).f1.f3).toList) == a1_4.toList))))))=true:=c6
      (try (have c6b1:decide ((((rd_T36 l0 x5_1).f0).toList)=a1_0.toList && ((((rd_T36 l0 x5_1).f1.f0) == a1_1 && (((rd_T36 l0 x5_1).f1.f1) == a1_2 && (((rd_T36 l0 x5_1).f1.f2) == a1_3 && ((((rd_T36 l0 x5_1).f1.f3).toList) == a1_4.toList))))))=true:=by simpa using c6))
      (try (have c6b2:((((rd_T36 l0 x5_1).f0).toList) == a1_0.toList && ((((rd_T36 l0 x5_1).f1.f0) == a1_1 && (((rd_T36 l0 x5_1).f1.f1) == a1_2 && (((rd_T36 l0 x5_1).f1.f2) == a1_3 && ((((rd_T36 l0 x5_1).f1.f3).toList) == a1_4.toList))))))=true:=by simpa using c6))
      clear c6;obtain rfl:=Option.some.inj H;have p390:0 ≤ (x5_1:Int):=of_decide_eq_true (by (with_reducible assumption));have q390:x5_1 < (l0.length:Int):=of_decide_eq_true (by (with_reducible assumption));obtain ⟨ad390,e390,hx390_0,hx390_1,hx390_2,hx390_3,hx390_4⟩:=at_T36 HR0.out x5_1 p390 q390;cases e390;replace hx390_0:=bc_ HB hx390_0;replace hx390_1:=bc_ HB hx390_1;replace hx390_2:=bc_ HB hx390_2
      replace hx390_3:=bc_ HB hx390_3;replace hx390_4:=bc_ HB hx390_4;replace p390:=eq_true p390;replace q390:=eq_true q390;have hcz7_0:wr.cell? ⟨gb389,0,none⟩=some (.string a1_0):=(blk_cell BK389.out 0).trans rfl;have hcz7_1:wr.cell? ⟨gb389,1,none⟩=some (.int .i64 a1_1):=(blk_cell BK389.out 1).trans rfl;have hcz7_2:wr.cell? ⟨gb389,2,none⟩=some (.int .i64 a1_2):=(blk_cell BK389.out 2).trans rfl;have hcz7_3:wr.cell? ⟨gb389,3,none⟩=some (.int .i64 a1_3):=(blk_cell BK389.out 3).trans rfl
      have hcz7_4:wr.cell? ⟨gb389,4,none⟩=some (.string a1_4):=(blk_cell BK389.out 4).trans rfl;have hfz7_0:=blk_frozen BK389.out 0;have hfz7_1:=blk_frozen BK389.out 1;have hfz7_2:=blk_frozen BK389.out 2;have hfz7_3:=blk_frozen BK389.out 3;have hfz7_4:=blk_frozen BK389.out 4
      go_wp2
      repeat (go_quiet (fail);try go_wp2)
      go_ret
      exact ⟨by rfl,by repeat (with_reducible first | exact HB.out | apply pw_below_drewN)⟩
     ·rw [if_neg c6] at H;have c6b0:((((rd_T36 l0 x5_1).f0).toList) == a1_0.toList && ((((rd_T36 l0 x5_1).f1.f0) == a1_1 && (((rd_T36 l0 x5_1).f1.f1) == a1_2 && (((rd_T36 l0 x5_1).f1.f2) == a1_3 && ((((rd_T36 l0 x5_1).f1.f3).toList) == a1_4.toList))))))=false:=by simpa using c6
      (try (have c6b1:decide ((((rd_T36 l0 x5_1).f0).toList)=a1_0.toList && ((((rd_T36 l0 x5_1).f1.f0) == a1_1 && (((rd_T36 l0 x5_1).f1.f1) == a1_2 && (((rd_T36 l0 x5_1).f1.f2) == a1_3 && ((((rd_T36 l0 x5_1).f1.f3).toList) == a1_4.toList))))))=false:=by simpa using c6))
      (try (have c6b2:((((rd_T36 l0 x5_1).f0).toList) == a1_0.toList && ((((rd_T36 l0 x5_1).f1.f0) == a1_1 && (((rd_T36 l0 x5_1).f1.f1) == a1_2 && (((rd_T36 l0 x5_1).f1.f2) == a1_3 && ((((rd_T36 l0 x5_1).f1.f3).toList) == a1_4.toList))))))=false:=by simpa using c6))
      (try (have c6b3 : ¬ ((((rd_T36 l0 x5_1).f0).toList)=a1_0.toList && ((((rd_T36 l0 x5_1).f1.f0) == a1_1 && (((rd_T36 l0 x5_1).f1.f1) == a1_2 && (((rd_T36 l0 x5_1).f1.f2) == a1_3 && ((((rd_T36 l0 x5_1).f1.f3).toList) == a1_4.toList)))))):=by simpa using c6))
      clear c6;have H':=a_ H;clear H;have p390:0 ≤ (x5_1:Int):=of_decide_eq_true (by (with_reducible assumption));have q390:x5_1 < (l0.length:Int):=of_decide_eq_true (by (with_reducible assumption));obtain ⟨ad390,e390,hx390_0,hx390_1,hx390_2,hx390_3,hx390_4⟩:=at_T36 HR0.out x5_1 p390 q390;cases e390;replace hx390_0:=bc_ HB hx390_0;replace hx390_1:=bc_ HB hx390_1;replace hx390_2:=bc_ HB hx390_2;replace hx390_3:=bc_ HB hx390_3
      replace hx390_4:=bc_ HB hx390_4;replace p390:=eq_true p390;replace q390:=eq_true q390;have hcz8_0:wr.cell? ⟨gb389,0,none⟩=some (.string a1_0):=(blk_cell BK389.out 0).trans rfl;have hcz8_1:wr.cell? ⟨gb389,1,none⟩=some (.int .i64 a1_1):=(blk_cell BK389.out 1).trans rfl;have hcz8_2:wr.cell? ⟨gb389,2,none⟩=some (.int .i64 a1_2):=(blk_cell BK389.out 2).trans rfl;have hcz8_3:wr.cell? ⟨gb389,3,none⟩=some (.int .i64 a1_3):=(blk_cell BK389.out 3).trans rfl
      have hcz8_4:wr.cell? ⟨gb389,4,none⟩=some (.string a1_4):=(blk_cell BK389.out 4).trans rfl;have hfz8_0:=blk_frozen BK389.out 0;have hfz8_1:=blk_frozen BK389.out 1;have hfz8_2:=blk_frozen BK389.out 2;have hfz8_3:=blk_frozen BK389.out 3;have hfz8_4:=blk_frozen BK389.out 4
      go_wp2
      repeat (go_quiet (fail);try go_wp2)
      go_roundg k1
      case measure=>have:=HK1.out;omega
      case rel=>exact ⟨(wrap64 (x5_1 + 1)),(by rfl),H',⟨by have:=HK1.out;omega⟩,⟨by (with_reducible repeat (refine blk_drewN ?_ _));exact BK389.out⟩,⟨by repeat (with_reducible first | exact HB.out | apply pw_below_drewN)⟩⟩
    ·rw [if_neg c5] at H;exact absurd H (by simp)
   ·rw [if_neg c4] at H;have c4b0:decide (x5_1 < (l0.length:Int))=false:=decide_eq_false c4;clear c4;obtain rfl:=Option.some.inj H
    go_wp2
    repeat (go_quiet (fail))
    go_ret
    exact ⟨by rfl,by exact HB.out⟩
end Go.Proofs.YtmkdeknpphimbaaDoor.PFnClosed
