import Derived.Test.YtmkdeknpphimbaaDoorCCePFnClosedx0
import Derived.Test.YtmkdeknpphimbaaDoorCCePFnClosedx1
import Derived.Test.YtmkdeknpphimbaaDoorCCePFnClosedx8
namespace Go.Proofs.YtmkdeknpphimbaaDoor.PFnClosed
open Go.RowKit Go.Proofs.YtmkdeknpphimbaaDoorW.PrintWords Go.Proofs.YtmkdeknpphimbaaDoorW.PrintLast Go.Proofs.YtmkdeknpphimbaaDoorW.PrintMore
attribute [local go_sem] max2_int min2_int max_two min_two max_three min_three max_four min_four
set_option linter.unusedVariables false
set_option linter.unusedSimpArgs false
attribute [local go_sem high] eqA33
def spec_l15At.l0:Nat → List (S47) → ByteArray → Int → Int → Int → Int → ByteArray → Option (Int)
 | 0,_,_,_,_,_,_,_=>none
 | k + 1,x0,x1,x7,x174000,x174001,x174002,x174003=>if x7 < (x0.length:Int) then (if 0 ≤ x7 then (if ((rd_T47 x0 x7).f0).toList=x1.toList then (if (((rd_T47 x0 x7).f1.f0) == x174000 && (((rd_T47 x0 x7).f1.f1) == x174001 && (((rd_T47 x0 x7).f1.f2) == x174002 && ((((rd_T47 x0 x7).f1.f3).toList) == x174003.toList))))=true then (some x7) else (spec_l15At.l0 k x0 x1 (wrap64 (x7 + 1)) x174000 x174001 x174002 x174003)) else (spec_l15At.l0 k x0 x1 (wrap64 (x7 + 1)) x174000 x174001 x174002 x174003)) else (none)) else (some (-1))
def spec_l15At.f (k:Nat) (l0:List (S47)) (a1:ByteArray) (a2_0:Int) (a2_1:Int) (a2_2:Int) (a2_3:ByteArray):Option (Int):=spec_l15At.l0 k l0 a1 0 a2_0 a2_1 a2_2 a2_3
theorem spec_l15At.mono_l : ∀ k,(∀ y0 y1 y2 y3 y4 y5 y6,LeO (spec_l15At.l0 k y0 y1 y2 y3 y4 y5 y6) (spec_l15At.l0 (k + 1) y0 y1 y2 y3 y4 y5 y6))
 | 0=>fun _ _ _ _ _ _ _ r h=>by simp [spec_l15At.l0] at h
 | k + 1=>by
  have ih0:=spec_l15At.mono_l k
  ·intro y0 y1 y2 y3 y4 y5 y6;unfold spec_l15At.l0
   repeat' first
   | (with_reducible exact ih0 _ _ _ _ _ _ _)
   | (with_reducible exact LeO.refl _)
   | (with_reducible refine LeO.ite ?_ ?_)
theorem spec_l15At.mono : ∀ a0 a1 a2 a3 a4 a5 k,LeO (spec_l15At.f k a0 a1 a2 a3 a4 a5) (spec_l15At.f (k + 1) a0 a1 a2 a3 a4 a5):=by
 intro a0 a1 a2 a3 a4 a5 k;have ih0:=spec_l15At.mono_l k;unfold spec_l15At.f
 repeat' (with_reducible exact ih0 _ _ _ _ _ _ _)
set_option maxHeartbeats 8000000 in
set_option maxRecDepth 100000 in
theorem spec_l15At.calls (k:Nat) (A0:Option Addr) (c0:Nat) (l0:List (S47)) (a1:ByteArray) (a2_0:Int) (a2_1:Int) (a2_2:Int) (a2_3:ByteArray) (r:Int) (w:World) (hr0:Kd.C k47 w A0 l0.length l0) (hc0:l0.length ≤ c0) (h:spec_l15At.f k l0 a1 a2_0 a2_1 a2_2 a2_3=some r) :
 Calls Tryd.prog 35 #[.slice A0 l0.length c0,.string a1,.agg #[.int .i64 a2_0,.int .i64 a2_1,.int .i64 a2_2,.string a2_3]] w fun e w'=>e = .returned (.int .i64 r) ∧ Below w.heap.size w w':=by
 have hu33:=Tryd.underlying33;have HR0:=a_ hr0;have HC0:=a_ hc0;clear hr0 hc0;have HB:=a_ (Below.refl w.heap.size w);have H:(spec_l15At.l0 k l0 a1 0 a2_0 a2_1 a2_2 a2_3)=some r:=h;clear h;have H':=a_ H;clear H
 go_enter Tryd.func35,Tryd.ntmps35
 go_wp2_with (((with_reducible refine gate_dst (N:=5) rfl ?_);refine box_event ?hg (N:=5) ?hd (cs:=#[.int .i64 a2_0,.int .i64 a2_1,.int .i64 a2_2,.string a2_3]) (t:=33) ?hr ?_;(case hd=>rfl);(case hg=>rfl);(case hr=>(go_simp;done));intro gb173 hg w4 hbox hb;have n0_:=a_ (below_step HB.out hb);have n1_:=a_ (hbox);have n2_:=a_ ((by rw [hg];exact (below_size HB.out):w.heap.size ≤ gb173));have n3_:=a_ ((by rw [hg];exact (below_size HB.out):w.heap.size ≤ gb173));clear HB;have HB:=n0_;have BK173:=n1_;have GW173:=n2_;have GE173:=n3_;clear n0_ n1_ n2_ n3_;clear hb hbox hg))
 repeat (go_quiet (fail))
 go_loopg [7] k (fun kq v7 w'=>∃ (x7_1:Int),v7 = .int .i64 x7_1 ∧ Aside0 (spec_l15At.l0 kq l0 a1 x7_1 a2_0 a2_1 a2_2 a2_3=some r) ∧ Aside0 (kq ≤ k) ∧ Aside0 (w'.heap[gb173]? = some (.cells #[.int .i64 a2_0,.int .i64 a2_1,.int .i64 a2_2,.string a2_3] 33 (0,0))) ∧ Aside0 (Below w.heap.size w w'))
 case atStart=>exact ⟨(0),(by rfl),H',⟨Nat.le_refl _⟩,⟨by exact BK173.out⟩,⟨by exact HB.out⟩⟩
 case round=>
  clear H';obtain ⟨x7_1,rfl,HA,HK1,BK173,HB⟩:=hrel
  cases gk with
  | zero=>exact absurd HA.out (by simp [spec_l15At.l0])
  | succ k1=>
   have H:=HA.out;clear HA;simp only [spec_l15At.l0] at H
   by_cases c5:x7_1 < (l0.length:Int)
   ·rw [if_pos c5] at H;have c5b0:decide (x7_1 < (l0.length:Int))=true:=decide_eq_true c5;clear c5
    by_cases c6:0 ≤ x7_1
    ·rw [if_pos c6] at H;have c6b0:decide (0 ≤ x7_1)=true:=decide_eq_true c6;clear c6
     by_cases c7:((rd_T47 l0 x7_1).f0).toList=a1.toList
     ·rw [if_pos c7] at H;have c7b0:(((rd_T47 l0 x7_1).f0).toList == a1.toList)=true:=beq_iff_eq.mpr c7;have c7b1:(((rd_T47 l0 x7_1).f0).toList != a1.toList)=false:=bne_eq_false_iff_eq.mpr c7;clear c7
      by_cases c8:(((rd_T47 l0 x7_1).f1.f0) == a2_0 && (((rd_T47 l0 x7_1).f1.f1) == a2_1 && (((rd_T47 l0 x7_1).f1.f2) == a2_2 && ((((rd_T47 l0 x7_1).f1.f3).toList) == a2_3.toList))))=true
      ·rw [if_pos c8] at H;have c8b0:(((rd_T47 l0 x7_1).f1.f0) == a2_0 && (((rd_T47 l0 x7_1).f1.f1) == a2_1 && (((rd_T47 l0 x7_1).f1.f2) == a2_2 && ((((rd_T47 l0 x7_1).f1.f3).toList) == a2_3.toList))))=true:=c8
       (try (have c8b1:decide (((rd_T47 l0 x7_1).f1.f0)=a2_0 && (((rd_T47 l0 x7_1).f1.f1) == a2_1 && (((rd_T47 l0 x7_1).f1.f2) == a2_2 && ((((rd_T47 l0 x7_1).f1.f3).toList) == a2_3.toList))))=true:=by simpa using c8))
       (try (have c8b2:(((rd_T47 l0 x7_1).f1.f0) == a2_0 && (((rd_T47 l0 x7_1).f1.f1) == a2_1 && (((rd_T47 l0 x7_1).f1.f2) == a2_2 && ((((rd_T47 l0 x7_1).f1.f3).toList) == a2_3.toList))))=true:=by simpa using c8))
       clear c8;obtain rfl:=Option.some.inj H;have p174:0 ≤ (x7_1:Int):=of_decide_eq_true (by (with_reducible assumption));have q174:x7_1 < (l0.length:Int):=of_decide_eq_true (by (with_reducible assumption));obtain ⟨ad174,A174_5,c174_5,e174,hx174_0,hx174_1,hx174_2,hx174_3,hx174_4,hx174_5,hl174_5,hi174_5⟩:=at_T47 HR0.out x7_1 p174 q174;cases e174;replace hx174_0:=bc_ HB hx174_0;replace hx174_1:=bc_ HB hx174_1
       replace hx174_2:=bc_ HB hx174_2;replace hx174_3:=bc_ HB hx174_3;replace hx174_4:=bc_ HB hx174_4;replace hx174_5:=bc_ HB hx174_5;have HR174_5:=a_ hi174_5;have HC174_5:=a_ hl174_5;clear hi174_5 hl174_5;replace p174:=eq_true p174;replace q174:=eq_true q174;have p175:0 ≤ (x7_1:Int):=of_decide_eq_true (by (with_reducible assumption));have q175:x7_1 < (l0.length:Int):=of_decide_eq_true (by (with_reducible assumption))
       obtain ⟨ad175,A175_5,c175_5,e175,hx175_0,hx175_1,hx175_2,hx175_3,hx175_4,hx175_5,hl175_5,hi175_5⟩:=at_T47 HR0.out x7_1 p175 q175;obtain rfl:ad174=ad175:=(by injection e175);replace hx175_0:=bc_ HB hx175_0;replace hx175_1:=bc_ HB hx175_1;replace hx175_2:=bc_ HB hx175_2;replace hx175_3:=bc_ HB hx175_3;replace hx175_4:=bc_ HB hx175_4;replace hx175_5:=bc_ HB hx175_5;have HR175_5:=a_ hi175_5;have HC175_5:=a_ hl175_5
       clear hi175_5 hl175_5;replace p175:=eq_true p175;replace q175:=eq_true q175;have ea_:=Option.some.inj (hx174_5.symm.trans hx175_5)
       injection ea_ with ea_ en_ ec_
       subst ea_;subst ec_;clear en_;have hcz9_0:wr.cell? ⟨gb173,0,none⟩=some (.int .i64 a2_0):=(blk_cell BK173.out 0).trans rfl;have hcz9_1:wr.cell? ⟨gb173,1,none⟩=some (.int .i64 a2_1):=(blk_cell BK173.out 1).trans rfl;have hcz9_2:wr.cell? ⟨gb173,2,none⟩=some (.int .i64 a2_2):=(blk_cell BK173.out 2).trans rfl;have hcz9_3:wr.cell? ⟨gb173,3,none⟩=some (.string a2_3):=(blk_cell BK173.out 3).trans rfl
       have hfz9_0:=blk_frozen BK173.out 0;have hfz9_1:=blk_frozen BK173.out 1;have hfz9_2:=blk_frozen BK173.out 2;have hfz9_3:=blk_frozen BK173.out 3
       go_wp2
       repeat (go_quiet (fail);try go_wp2)
       go_ret
       exact ⟨by rfl,by repeat (with_reducible first | exact HB.out | apply pw_below_drewN)⟩
      ·rw [if_neg c8] at H;have c8b0:(((rd_T47 l0 x7_1).f1.f0) == a2_0 && (((rd_T47 l0 x7_1).f1.f1) == a2_1 && (((rd_T47 l0 x7_1).f1.f2) == a2_2 && ((((rd_T47 l0 x7_1).f1.f3).toList) == a2_3.toList))))=false:=by simpa using c8
       (try (have c8b1:decide (((rd_T47 l0 x7_1).f1.f0)=a2_0 && (((rd_T47 l0 x7_1).f1.f1) == a2_1 && (((rd_T47 l0 x7_1).f1.f2) == a2_2 && ((((rd_T47 l0 x7_1).f1.f3).toList) == a2_3.toList))))=false:=by simpa using c8))
       (try (have c8b2:(((rd_T47 l0 x7_1).f1.f0) == a2_0 && (((rd_T47 l0 x7_1).f1.f1) == a2_1 && (((rd_T47 l0 x7_1).f1.f2) == a2_2 && ((((rd_T47 l0 x7_1).f1.f3).toList) == a2_3.toList))))=false:=by simpa using c8))
       (try (have c8b3 : ¬ (((rd_T47 l0 x7_1).f1.f0)=a2_0 && (((rd_T47 l0 x7_1).f1.f1) == a2_1 && (((rd_T47 l0 x7_1).f1.f2) == a2_2 && ((((rd_T47 l0 x7_1).f1.f3).toList) == a2_3.toList)))):=by simpa using c8))
       clear c8;have H':=a_ H;clear H;have p174:0 ≤ (x7_1:Int):=of_decide_eq_true (by (with_reducible assumption));have q174:x7_1 < (l0.length:Int):=of_decide_eq_true (by (with_reducible assumption));obtain ⟨ad174,A174_5,c174_5,e174,hx174_0,hx174_1,hx174_2,hx174_3,hx174_4,hx174_5,hl174_5,hi174_5⟩:=at_T47 HR0.out x7_1 p174 q174;cases e174;replace hx174_0:=bc_ HB hx174_0;replace hx174_1:=bc_ HB hx174_1
       replace hx174_2:=bc_ HB hx174_2;replace hx174_3:=bc_ HB hx174_3;replace hx174_4:=bc_ HB hx174_4;replace hx174_5:=bc_ HB hx174_5;have HR174_5:=a_ hi174_5;have HC174_5:=a_ hl174_5;clear hi174_5 hl174_5;replace p174:=eq_true p174;replace q174:=eq_true q174;have p175:0 ≤ (x7_1:Int):=of_decide_eq_true (by (with_reducible assumption));have q175:x7_1 < (l0.length:Int):=of_decide_eq_true (by (with_reducible assumption))
       obtain ⟨ad175,A175_5,c175_5,e175,hx175_0,hx175_1,hx175_2,hx175_3,hx175_4,hx175_5,hl175_5,hi175_5⟩:=at_T47 HR0.out x7_1 p175 q175;obtain rfl:ad174=ad175:=(by injection e175);replace hx175_0:=bc_ HB hx175_0;replace hx175_1:=bc_ HB hx175_1;replace hx175_2:=bc_ HB hx175_2;replace hx175_3:=bc_ HB hx175_3;replace hx175_4:=bc_ HB hx175_4;replace hx175_5:=bc_ HB hx175_5;have HR175_5:=a_ hi175_5;have HC175_5:=a_ hl175_5
       clear hi175_5 hl175_5;replace p175:=eq_true p175;replace q175:=eq_true q175;have ea_:=Option.some.inj (hx174_5.symm.trans hx175_5)
       injection ea_ with ea_ en_ ec_
       subst ea_;subst ec_;clear en_;have hcz10_0:wr.cell? ⟨gb173,0,none⟩=some (.int .i64 a2_0):=(blk_cell BK173.out 0).trans rfl;have hcz10_1:wr.cell? ⟨gb173,1,none⟩=some (.int .i64 a2_1):=(blk_cell BK173.out 1).trans rfl;have hcz10_2:wr.cell? ⟨gb173,2,none⟩=some (.int .i64 a2_2):=(blk_cell BK173.out 2).trans rfl;have hcz10_3:wr.cell? ⟨gb173,3,none⟩=some (.string a2_3):=(blk_cell BK173.out 3).trans rfl
       have hfz10_0:=blk_frozen BK173.out 0;have hfz10_1:=blk_frozen BK173.out 1;have hfz10_2:=blk_frozen BK173.out 2;have hfz10_3:=blk_frozen BK173.out 3
       go_wp2
       repeat (go_quiet (fail);try go_wp2)
       go_roundg k1
       case measure=>have:=HK1.out;omega
       case rel=>exact ⟨(wrap64 (x7_1 + 1)),(by rfl),H',⟨by have:=HK1.out;omega⟩,⟨by (with_reducible repeat (refine blk_drewN ?_ _));exact BK173.out⟩,⟨by repeat (with_reducible first | exact HB.out | apply pw_below_drewN)⟩⟩
     ·rw [if_neg c7] at H;have c7b0:(((rd_T47 l0 x7_1).f0).toList == a1.toList)=false:=beq_eq_false_iff_ne.mpr c7;have c7b1:(((rd_T47 l0 x7_1).f0).toList != a1.toList)=true:=bne_iff_ne.mpr c7;have H':=a_ H;clear H;have p174:0 ≤ (x7_1:Int):=of_decide_eq_true (by (with_reducible assumption));have q174:x7_1 < (l0.length:Int):=of_decide_eq_true (by (with_reducible assumption));obtain ⟨ad174,A174_5,c174_5,e174,hx174_0,hx174_1,hx174_2,hx174_3,hx174_4,hx174_5,hl174_5,hi174_5⟩:=at_T47 HR0.out x7_1 p174 q174
      cases e174;replace hx174_0:=bc_ HB hx174_0
      replace hx174_1:=bc_ HB hx174_1;replace hx174_2:=bc_ HB hx174_2;replace hx174_3:=bc_ HB hx174_3;replace hx174_4:=bc_ HB hx174_4;replace hx174_5:=bc_ HB hx174_5;have HR174_5:=a_ hi174_5;have HC174_5:=a_ hl174_5;clear hi174_5 hl174_5;replace p174:=eq_true p174;replace q174:=eq_true q174
      go_wp2
      repeat (go_quiet (fail);try go_wp2)
      go_roundg k1
      case measure=>have:=HK1.out;omega
      case rel=>exact ⟨(wrap64 (x7_1 + 1)),(by rfl),H',⟨by have:=HK1.out;omega⟩,⟨by (with_reducible repeat (refine blk_drewN ?_ _));exact BK173.out⟩,⟨by repeat (with_reducible first | exact HB.out | apply pw_below_drewN)⟩⟩
    ·rw [if_neg c6] at H;exact absurd H (by simp)
   ·rw [if_neg c5] at H;have c5b0:decide (x7_1 < (l0.length:Int))=false:=decide_eq_false c5;clear c5;obtain rfl:=Option.some.inj H
    go_wp2
    repeat (go_quiet (fail))
    go_ret
    exact ⟨by rfl,by exact HB.out⟩
def spec_Closed.l0:Nat → List (S47) → List (S36) → Int → Option (Bool)
 | 0,_,_,_=>none
 | k + 1,x0,x1,x5=>if x5 < (x1.length:Int) then (if 0 ≤ x5 then ((spec_l15At.f k x0 ((rd_T36 x1 x5).f0) ((rd_T36 x1 x5).f1.f0) ((rd_T36 x1 x5).f1.f1) ((rd_T36 x1 x5).f1.f2) ((rd_T36 x1 x5).f1.f3)).bind fun t178=>(if t178 < 0 then (some false) else (if 0 ≤ t178 then (if t178 < (x0.length:Int) then ((spec_Covers.f k x1 ((rd_T47 x0 t178).f2)).bind fun t180=>(if t180=true then (spec_Closed.l0 k x0 x1 (wrap64 (x5 + 1))) else (some false))) else (none)) else (none)))) else (none)) else (some true)
def spec_Closed.f (k:Nat) (l0:List (S47)) (l1:List (S36)):Option (Bool):=spec_Closed.l0 k l0 l1 0
theorem spec_Closed.mono_l : ∀ k,(∀ y0 y1 y2,LeO (spec_Closed.l0 k y0 y1 y2) (spec_Closed.l0 (k + 1) y0 y1 y2))
 | 0=>fun _ _ _ r h=>by simp [spec_Closed.l0] at h
 | k + 1=>by
  have ih0:=spec_Closed.mono_l k
  ·intro y0 y1 y2;unfold spec_Closed.l0
   repeat' first
   | (with_reducible exact ih0 _ _ _)
   | (with_reducible exact spec_Covers.mono _ _ _)
   | (with_reducible exact spec_l15At.mono _ _ _ _ _ _ _)
   | (with_reducible exact LeO.refl _)
   | (with_reducible refine LeO.ite ?_ ?_)
   | (with_reducible refine LeO.bind ?_ (fun _=>?_))
theorem spec_Closed.mono : ∀ a0 a1 k,LeO (spec_Closed.f k a0 a1) (spec_Closed.f (k + 1) a0 a1):=by
 intro a0 a1 k;have ih0:=spec_Closed.mono_l k;unfold spec_Closed.f
 repeat' (with_reducible exact ih0 _ _ _)
def spec_Closed.T4:Bool × List (List Nat × List Nat):=(true,[([],[]),([],[]),([],[]),([1,2],[1,2]),([3],[3]),([4],[4]),([],[]),([],[]),([6,7],[6,7]),([8],[8]),([9],[9]),([0,5,10],[0,5,10]),([11,11,0,1,2,3,4,5,6,7,8,9,10,11],[11])])
def spec_Closed.B4:List Nat:=[0,0,0,6,14,30,0,0,192,448,960,2047,4095]
theorem spec_Closed.tab4:rtab .any (opsOf Tryd.f16 4)=spec_Closed.T4:=by kernel_rfl
theorem spec_Closed.bits4:waitsOk spec_Closed.T4.2 spec_Closed.B4=true:=by kernel_rfl
set_option maxHeartbeats 8000000 in
set_option maxRecDepth 100000 in
theorem spec_Closed.calls (k:Nat) (A0:Option Addr) (c0:Nat) (l0:List (S47)) (A1:Option Addr) (c1:Nat) (l1:List (S36)) (r:Bool) (w:World) (hr0:Kd.C k47 w A0 l0.length l0) (hc0:l0.length ≤ c0) (hr1:Kd.C k36 w A1 l1.length l1) (hc1:l1.length ≤ c1) (h:spec_Closed.f k l0 l1=some r) :
 Calls Tryd.prog 16 #[.slice A0 l0.length c0,.slice A1 l1.length c1] w fun e w'=>e = .returned (.bool r) ∧ Below w.heap.size w w':=by
 have hu33:=Tryd.underlying33;have HR0:=a_ hr0;have HC0:=a_ hc0;clear hr0 hc0;have HR1:=a_ hr1;have HC1:=a_ hc1;clear hr1 hc1;have HB:=a_ (Below.refl w.heap.size w);have H:(spec_Closed.l0 k l0 l1 0)=some r:=h;clear h;have H':=a_ H;clear H
 go_enter Tryd.func16,Tryd.ntmps16
 go_wp2
 go_loopg [5] k (fun kq v5 w'=>∃ (x5_1:Int),v5 = .int .i64 x5_1 ∧ Aside0 (spec_Closed.l0 kq l0 l1 x5_1=some r) ∧ Aside0 (kq ≤ k) ∧ Aside0 (Below w.heap.size w w'))
 case atStart=>exact ⟨(0),(by rfl),H',⟨Nat.le_refl _⟩,⟨by exact HB.out⟩⟩
 case round=>
  clear H';obtain ⟨x5_1,rfl,HA,HK1,HB⟩:=hrel
  cases gk with
  | zero=>exact absurd HA.out (by simp [spec_Closed.l0])
  | succ k1=>
   have H:=HA.out;clear HA;simp only [spec_Closed.l0] at H
   by_cases c3:x5_1 < (l1.length:Int)
   ·rw [if_pos c3] at H;have c3b0:decide (x5_1 < (l1.length:Int))=true:=decide_eq_true c3;clear c3
    by_cases c4:0 ≤ x5_1
    ·rw [if_pos c4] at H;have c4b0:decide (0 ≤ x5_1)=true:=decide_eq_true c4;clear c4;replace H:=Option.bind_eq_some_iff.mp H;obtain ⟨t178,A50,H⟩:=H;replace H:(if t178 < 0 then (some false) else (if 0 ≤ t178 then (if t178 < (l0.length:Int) then ((spec_Covers.f k1 l1 ((rd_T47 l0 t178).f2)).bind fun t180=>(if t180=true then (spec_Closed.l0 k1 l0 l1 (wrap64 (x5_1 + 1))) else (some false))) else (none)) else (none)))=some r:=H
     have A5:=a_ A50;clear A50
     by_cases c6:t178 < 0
     ·rw [if_pos c6] at H;have c6b0:decide (t178 < 0)=true:=decide_eq_true c6;clear c6;obtain rfl:=Option.some.inj H
      try go_wp2
      have n0_:=a_ (below_drew1 HB.out);clear HB;have HB:=n0_;clear n0_;have p176:0 ≤ (x5_1:Int):=of_decide_eq_true (by (with_reducible assumption));have q176:x5_1 < (l1.length:Int):=of_decide_eq_true (by (with_reducible assumption));obtain ⟨ad176,e176,hx176_0,hx176_1,hx176_2,hx176_3,hx176_4⟩:=at_T36 HR1.out x5_1 p176 q176;have hw176_4:=hx176_4;have hw176_3:=hx176_3;have hw176_2:=hx176_2;have hw176_1:=hx176_1
      have hw176_0:=hx176_0;cases e176;replace hx176_0:=bc_ HB hx176_0;replace hx176_1:=bc_ HB hx176_1;replace hx176_2:=bc_ HB hx176_2;replace hx176_3:=bc_ HB hx176_3;replace hx176_4:=bc_ HB hx176_4;replace p176:=eq_true p176;replace q176:=eq_true q176;have p177:0 ≤ (x5_1:Int):=of_decide_eq_true (by (with_reducible assumption));have q177:x5_1 < (l1.length:Int):=of_decide_eq_true (by (with_reducible assumption))
      obtain ⟨ad177,e177,hx177_0,hx177_1,hx177_2,hx177_3,hx177_4⟩:=at_T36 HR1.out x5_1 p177 q177;have hw177_4:=hx177_4;have hw177_3:=hx177_3;have hw177_2:=hx177_2;have hw177_1:=hx177_1;have hw177_0:=hx177_0;obtain rfl:ad176=ad177:=(by injection e177);replace hx177_0:=bc_ HB hx177_0;replace hx177_1:=bc_ HB hx177_1;replace hx177_2:=bc_ HB hx177_2;replace hx177_3:=bc_ HB hx177_3;replace hx177_4:=bc_ HB hx177_4
      replace p177:=eq_true p177;replace q177:=eq_true q177;refine start_ (n:=13) (S:=fun w'=>w'.cell? (ad176.add ((x5_1).toNat * 5))=some (.string ((rd_T36 l1 x5_1).f0)) ∧ w'.cell? ⟨(ad176.add ((x5_1).toNat * 5)).block,(ad176.add ((x5_1).toNat * 5)).off + 1,none⟩=some (.int .i64 ((rd_T36 l1 x5_1).f1.f0)) ∧ w'.cell? ⟨(ad176.add ((x5_1).toNat * 5)).block,(ad176.add ((x5_1).toNat * 5)).off + 2,none⟩=some (.int .i64 ((rd_T36 l1 x5_1).f1.f1)) ∧ w'.cell? ⟨(ad176.add ((x5_1).toNat * 5)).block,(ad176.add ((x5_1).toNat * 5)).off + 3,none⟩=some (.int .i64 ((rd_T36 l1 x5_1).f1.f2)) ∧ w'.cell? ⟨(ad176.add ((x5_1).toNat * 5)).block,(ad176.add ((x5_1).toNat * 5)).off + 4,none⟩=some (.string ((rd_T36 l1 x5_1).f1.f3)) ∧ w'.cell? (ad176.add ((x5_1).toNat * 5))=some (.string ((rd_T36 l1 x5_1).f0)) ∧ w'.cell? ⟨(ad176.add ((x5_1).toNat * 5)).block,(ad176.add ((x5_1).toNat * 5)).off + 1,none⟩=some (.int .i64 ((rd_T36 l1 x5_1).f1.f0)) ∧ w'.cell? ⟨(ad176.add ((x5_1).toNat * 5)).block,(ad176.add ((x5_1).toNat * 5)).off + 2,none⟩=some (.int .i64 ((rd_T36 l1 x5_1).f1.f1)) ∧ w'.cell? ⟨(ad176.add ((x5_1).toNat * 5)).block,(ad176.add ((x5_1).toNat * 5)).off + 3,none⟩=some (.int .i64 ((rd_T36 l1 x5_1).f1.f2)) ∧ w'.cell? ⟨(ad176.add ((x5_1).toNat * 5)).block,(ad176.add ((x5_1).toNat * 5)).off + 4,none⟩=some (.string ((rd_T36 l1 x5_1).f1.f3))) (ds:=[]) (m_ 0 13) (by kernel_rfl) rfl rfl ⟨(bc_ HB hw176_0),(bc_ HB hw176_1),(bc_ HB hw176_2),(bc_ HB hw176_3),(bc_ HB hw176_4),(bc_ HB hw177_0),(bc_ HB hw177_1),(bc_ HB hw177_2),(bc_ HB hw177_3),(bc_ HB hw177_4)⟩ (fun hHeld=>?_);refine with_tabW spec_Closed.tab4 spec_Closed.bits4 (fun HT_ HW_=>?_)
      generalize wr.drew=w7 at HB hx176_0 hx176_1 hx176_2 hx176_3 hx176_4 hx177_0 hx177_1 hx177_2 hx177_3 hx177_4 hHeld ⊢
      refine pure_ (i:=0) (N:=some 13) (v:=?_) (a':=?_) (m_ 1 12) rfl rfl (any_of HT_.out (by kernel_rfl)) (fun _ _ _ h=>h) (Or.inl ⟨by rfl,?_⟩) ?_ ?_;rotate_left
      ·intro w';go_simp
       with_reducible rfl
      rotate_left
      ·simp only [Act.put,s1_,s2_,s3_,i64_w,i32_w];rfl
      refine pure_ (i:=1) (N:=some 14) (v:=?_) (a':=?_) (m_ 2 11) rfl rfl (any_of HT_.out (by kernel_rfl)) (fun _ _ _ h=>h) (Or.inl ⟨by rfl,?_⟩) ?_ ?_;rotate_left
      ·intro w';go_simp
       with_reducible rfl
      rotate_left
      ·simp only [Act.put,s1_,s2_,s3_,i64_w,i32_w];rfl
      refine pure_ (i:=2) (N:=some 15) (v:=?_) (a':=?_) (m_ 3 10) rfl rfl (any_of HT_.out (by kernel_rfl)) (fun _ _ _ h=>h) (Or.inl ⟨by rfl,?_⟩) ?_ ?_;rotate_left
      ·intro w';go_simp
       with_reducible rfl
      rotate_left
      ·simp only [Act.put,s1_,s2_,s3_,i64_w,i32_w];rfl
      refine pure_ (i:=3) (N:=some 16) (v:=?_) (a':=?_) (m_ 4 9) rfl rfl (any_of HT_.out (by kernel_rfl)) (fun _ _ _ h=>h) (Or.inl ⟨by rfl,?_⟩) ?_ ?_;rotate_left
      ·intro w';go_simp
       with_reducible rfl
      rotate_left
      ·simp only [Act.put,s1_,s2_,s3_,i64_w,i32_w];rfl
      refine pure_ (i:=4) (N:=some 17) (v:=?_) (a':=?_) (m_ 5 8) rfl rfl (any_of HT_.out (by kernel_rfl)) (fun _ _ _ h=>h) (Or.inl ⟨by rfl,?_⟩) ?_ ?_;rotate_left
      ·intro w';go_simp
       with_reducible rfl
      rotate_left
      ·simp only [Act.put,s1_,s2_,s3_,i64_w,i32_w];rfl
      refine pure_ (i:=6) (N:=some 19) (v:=?_) (a':=?_) #[true,true,true,true,true,false,true,false,false,false,false,false,false] rfl rfl (any_of HT_.out (by kernel_rfl)) (fun _ _ _ h=>h) (Or.inl ⟨by rfl,?_⟩) ?_ ?_;rotate_left
      ·intro w';go_simp
       with_reducible rfl
      rotate_left
      ·simp only [Act.put,s1_,s2_,s3_,i64_w,i32_w];rfl
      refine pure_ (i:=7) (N:=some 20) (v:=?_) (a':=?_) #[true,true,true,true,true,false,true,true,false,false,false,false,false] rfl rfl (any_of HT_.out (by kernel_rfl)) (fun _ _ _ h=>h) (Or.inl ⟨by rfl,?_⟩) ?_ ?_;rotate_left
      ·intro w';go_simp
       with_reducible rfl
      rotate_left
      ·simp only [Act.put,s1_,s2_,s3_,i64_w,i32_w];rfl
      refine pure_ (i:=8) (N:=some 21) (v:=?_) (a':=?_) #[true,true,true,true,true,false,true,true,true,false,false,false,false] rfl rfl (any_of HT_.out (by kernel_rfl)) (fun _ _ _ h=>h) (Or.inl ⟨by rfl,?_⟩) ?_ ?_;rotate_left
      ·intro w';go_simp
       with_reducible rfl
      rotate_left
      ·simp only [Act.put,s1_,s2_,s3_,i64_w,i32_w];rfl
      refine pure_ (i:=9) (N:=some 22) (v:=?_) (a':=?_) #[true,true,true,true,true,false,true,true,true,true,false,false,false] rfl rfl (any_of HT_.out (by kernel_rfl)) (fun _ _ _ h=>h) (Or.inl ⟨by rfl,?_⟩) ?_ ?_;rotate_left
      ·intro w';go_simp
       with_reducible rfl
      rotate_left
      ·simp only [Act.put,s1_,s2_,s3_,i64_w,i32_w];rfl
      refine take_ (i:=5) (N:=some 18) (v:=?_) (a':=?_) (m_ 10 3) rfl rfl (take_ofW HT_.out HW_.out (by kernel_rfl)) (fun _ _ _ h=>h) (Or.inl ⟨by rfl,?_⟩) hHeld ?_ ?_;rotate_left
      ·rintro w' ⟨s0,s1,s2,s3,s4,s5,s6,s7,s8,s9⟩;go_simp
       with_reducible rfl
      rotate_left
      ·simp only [Act.put,s1_,s2_,s3_,i64_w,i32_w];rfl
      refine take_ (i:=10) (N:=some 23) (v:=?_) (a':=?_) (m_ 11 2) rfl rfl (take_ofW HT_.out HW_.out (by kernel_rfl)) (fun _ _ _ h=>h) (Or.inl ⟨by rfl,?_⟩) hHeld ?_ ?_;rotate_left
      ·rintro w' ⟨s0,s1,s2,s3,s4,s5,s6,s7,s8,s9⟩;go_simp
       with_reducible rfl
      rotate_left
      ·simp only [Act.put,s1_,s2_,s3_,i64_w,i32_w];rfl
      refine one_ (i:=11) (N:=some 24) (m_ 12 1) rfl rfl (one_of HT_.out (by kernel_rfl)) (by decide) (fun K hK=>?_);refine goes_ Tryd.func35 (by kernel_rfl) rfl #[.slice A0 l0.length c0,.string ((rd_T36 l1 x5_1).f0),.agg #[.int .i64 ((rd_T36 l1 x5_1).f1.f0),.int .i64 ((rd_T36 l1 x5_1).f1.f1),.int .i64 ((rd_T36 l1 x5_1).f1.f2),.string ((rd_T36 l1 x5_1).f1.f3)]] (by rfl) rfl rfl (by (try simp only [List.map_toArray,List.map_cons,List.map_nil]);rfl) ?_
      with_reducible refine (spec_l15At.calls k1 _ _ l0 ((rd_T36 l1 x5_1).f0) ((rd_T36 l1 x5_1).f1.f0) ((rd_T36 l1 x5_1).f1.f1) ((rd_T36 l1 x5_1).f1.f2) ((rd_T36 l1 x5_1).f1.f3) t178 _ ?side1 ?side2 A5.out).mono ?_
      (case side1=>repeat (exact (Kd.C_below HR0.out HB.out)))
      (case side2=>exact HC0.out)
      rintro e w8 ⟨rfl,hb⟩;refine ⟨_,rfl,?_⟩;have n0_:=a_ (below_step HB.out hb);clear HB;have HB:=n0_;clear n0_
      (try clear hb)
      (skip)
      (skip)
      (skip)
      refine hK.out _ _ ⟨(bc_ HB hw176_0),(bc_ HB hw176_1),(bc_ HB hw176_2),(bc_ HB hw176_3),(bc_ HB hw176_4),(bc_ HB hw177_0),(bc_ HB hw177_1),(bc_ HB hw177_2),(bc_ HB hw177_3),(bc_ HB hw177_4)⟩ (fun hHeld=>?_);clear hK K;refine norm_ (a':=?_) ?_ ?_;rotate_left
      ·show Act.put _ (some 24) _=_;simp only [Act.put,s1_,s2_,s3_,i64_w,i32_w];rfl
      refine pure_ (i:=12) (N:=some 6) (v:=?_) (a':=?_) (m_ 13 0) rfl rfl (any_of HT_.out (by kernel_rfl)) (fun _ _ _ h=>h) (Or.inl ⟨by rfl,?_⟩) ?_ ?_;rotate_left
      ·intro w';go_simp
       with_reducible rfl
      rotate_left
      ·simp only [Act.put,s1_,s2_,s3_,i64_w,i32_w];rfl
      refine done_ (done_of HT_.out (by kernel_rfl)) ?_
      try go_wp2
      go_ret
      exact ⟨by rfl,by exact HB.out⟩
     ·rw [if_neg c6] at H;have c6b0:decide (t178 < 0)=false:=decide_eq_false c6;clear c6
      by_cases c9:0 ≤ t178
      ·rw [if_pos c9] at H;have c9b0:decide (0 ≤ t178)=true:=decide_eq_true c9;clear c9
       by_cases c10:t178 < (l0.length:Int)
       ·rw [if_pos c10] at H;have c10b0:decide (t178 < (l0.length:Int))=true:=decide_eq_true c10;clear c10;replace H:=Option.bind_eq_some_iff.mp H;obtain ⟨t180,A110,H⟩:=H;replace H:(if t180=true then (spec_Closed.l0 k1 l0 l1 (wrap64 (x5_1 + 1))) else (some false))=some r:=H;have A11:=a_ A110;clear A110
        by_cases c12:t180=true
        ·subst c12;have H1:(spec_Closed.l0 k1 l0 l1 (wrap64 (x5_1 + 1)))=some r:=by rw [if_pos rfl] at H;exact H
         clear H;have H:=H1;clear H1;have H':=a_ H;clear H
         try go_wp2
         have n0_:=a_ (below_drew1 HB.out);clear HB;have HB:=n0_;clear n0_;have p176:0 ≤ (x5_1:Int):=of_decide_eq_true (by (with_reducible assumption));have q176:x5_1 < (l1.length:Int):=of_decide_eq_true (by (with_reducible assumption));obtain ⟨ad176,e176,hx176_0,hx176_1,hx176_2,hx176_3,hx176_4⟩:=at_T36 HR1.out x5_1 p176 q176;have hw176_4:=hx176_4;have hw176_3:=hx176_3;have hw176_2:=hx176_2;have hw176_1:=hx176_1
         have hw176_0:=hx176_0;cases e176;replace hx176_0:=bc_ HB hx176_0;replace hx176_1:=bc_ HB hx176_1;replace hx176_2:=bc_ HB hx176_2;replace hx176_3:=bc_ HB hx176_3;replace hx176_4:=bc_ HB hx176_4;replace p176:=eq_true p176;replace q176:=eq_true q176;have p177:0 ≤ (x5_1:Int):=of_decide_eq_true (by (with_reducible assumption));have q177:x5_1 < (l1.length:Int):=of_decide_eq_true (by (with_reducible assumption))
         obtain ⟨ad177,e177,hx177_0,hx177_1,hx177_2,hx177_3,hx177_4⟩:=at_T36 HR1.out x5_1 p177 q177;have hw177_4:=hx177_4;have hw177_3:=hx177_3;have hw177_2:=hx177_2;have hw177_1:=hx177_1;have hw177_0:=hx177_0;obtain rfl:ad176=ad177:=(by injection e177);replace hx177_0:=bc_ HB hx177_0;replace hx177_1:=bc_ HB hx177_1;replace hx177_2:=bc_ HB hx177_2;replace hx177_3:=bc_ HB hx177_3;replace hx177_4:=bc_ HB hx177_4
         replace p177:=eq_true p177;replace q177:=eq_true q177;refine start_ (n:=13) (S:=fun w'=>w'.cell? (ad176.add ((x5_1).toNat * 5))=some (.string ((rd_T36 l1 x5_1).f0)) ∧ w'.cell? ⟨(ad176.add ((x5_1).toNat * 5)).block,(ad176.add ((x5_1).toNat * 5)).off + 1,none⟩=some (.int .i64 ((rd_T36 l1 x5_1).f1.f0)) ∧ w'.cell? ⟨(ad176.add ((x5_1).toNat * 5)).block,(ad176.add ((x5_1).toNat * 5)).off + 2,none⟩=some (.int .i64 ((rd_T36 l1 x5_1).f1.f1)) ∧ w'.cell? ⟨(ad176.add ((x5_1).toNat * 5)).block,(ad176.add ((x5_1).toNat * 5)).off + 3,none⟩=some (.int .i64 ((rd_T36 l1 x5_1).f1.f2)) ∧ w'.cell? ⟨(ad176.add ((x5_1).toNat * 5)).block,(ad176.add ((x5_1).toNat * 5)).off + 4,none⟩=some (.string ((rd_T36 l1 x5_1).f1.f3)) ∧ w'.cell? (ad176.add ((x5_1).toNat * 5))=some (.string ((rd_T36 l1 x5_1).f0)) ∧ w'.cell? ⟨(ad176.add ((x5_1).toNat * 5)).block,(ad176.add ((x5_1).toNat * 5)).off + 1,none⟩=some (.int .i64 ((rd_T36 l1 x5_1).f1.f0)) ∧ w'.cell? ⟨(ad176.add ((x5_1).toNat * 5)).block,(ad176.add ((x5_1).toNat * 5)).off + 2,none⟩=some (.int .i64 ((rd_T36 l1 x5_1).f1.f1)) ∧ w'.cell? ⟨(ad176.add ((x5_1).toNat * 5)).block,(ad176.add ((x5_1).toNat * 5)).off + 3,none⟩=some (.int .i64 ((rd_T36 l1 x5_1).f1.f2)) ∧ w'.cell? ⟨(ad176.add ((x5_1).toNat * 5)).block,(ad176.add ((x5_1).toNat * 5)).off + 4,none⟩=some (.string ((rd_T36 l1 x5_1).f1.f3))) (ds:=[]) (m_ 0 13) (by kernel_rfl) rfl rfl ⟨(bc_ HB hw176_0),(bc_ HB hw176_1),(bc_ HB hw176_2),(bc_ HB hw176_3),(bc_ HB hw176_4),(bc_ HB hw177_0),(bc_ HB hw177_1),(bc_ HB hw177_2),(bc_ HB hw177_3),(bc_ HB hw177_4)⟩ (fun hHeld=>?_);refine with_tabW spec_Closed.tab4 spec_Closed.bits4 (fun HT_ HW_=>?_)
         generalize wr.drew=w13 at HB hx176_0 hx176_1 hx176_2 hx176_3 hx176_4 hx177_0 hx177_1 hx177_2 hx177_3 hx177_4 hHeld ⊢
         refine pure_ (i:=0) (N:=some 13) (v:=?_) (a':=?_) (m_ 1 12) rfl rfl (any_of HT_.out (by kernel_rfl)) (fun _ _ _ h=>h) (Or.inl ⟨by rfl,?_⟩) ?_ ?_;rotate_left
         ·intro w';go_simp
          with_reducible rfl
         rotate_left
         ·simp only [Act.put,s1_,s2_,s3_,i64_w,i32_w];rfl
         refine pure_ (i:=1) (N:=some 14) (v:=?_) (a':=?_) (m_ 2 11) rfl rfl (any_of HT_.out (by kernel_rfl)) (fun _ _ _ h=>h) (Or.inl ⟨by rfl,?_⟩) ?_ ?_;rotate_left
         ·intro w';go_simp
          with_reducible rfl
         rotate_left
         ·simp only [Act.put,s1_,s2_,s3_,i64_w,i32_w];rfl
         refine pure_ (i:=2) (N:=some 15) (v:=?_) (a':=?_) (m_ 3 10) rfl rfl (any_of HT_.out (by kernel_rfl)) (fun _ _ _ h=>h) (Or.inl ⟨by rfl,?_⟩) ?_ ?_;rotate_left
         ·intro w';go_simp
          with_reducible rfl
         rotate_left
         ·simp only [Act.put,s1_,s2_,s3_,i64_w,i32_w];rfl
         refine pure_ (i:=3) (N:=some 16) (v:=?_) (a':=?_) (m_ 4 9) rfl rfl (any_of HT_.out (by kernel_rfl)) (fun _ _ _ h=>h) (Or.inl ⟨by rfl,?_⟩) ?_ ?_;rotate_left
         ·intro w';go_simp
          with_reducible rfl
         rotate_left
         ·simp only [Act.put,s1_,s2_,s3_,i64_w,i32_w];rfl
         refine pure_ (i:=4) (N:=some 17) (v:=?_) (a':=?_) (m_ 5 8) rfl rfl (any_of HT_.out (by kernel_rfl)) (fun _ _ _ h=>h) (Or.inl ⟨by rfl,?_⟩) ?_ ?_;rotate_left
         ·intro w';go_simp
          with_reducible rfl
         rotate_left
         ·simp only [Act.put,s1_,s2_,s3_,i64_w,i32_w];rfl
         refine pure_ (i:=6) (N:=some 19) (v:=?_) (a':=?_) #[true,true,true,true,true,false,true,false,false,false,false,false,false] rfl rfl (any_of HT_.out (by kernel_rfl)) (fun _ _ _ h=>h) (Or.inl ⟨by rfl,?_⟩) ?_ ?_;rotate_left
         ·intro w';go_simp
          with_reducible rfl
         rotate_left
         ·simp only [Act.put,s1_,s2_,s3_,i64_w,i32_w];rfl
         refine pure_ (i:=7) (N:=some 20) (v:=?_) (a':=?_) #[true,true,true,true,true,false,true,true,false,false,false,false,false] rfl rfl (any_of HT_.out (by kernel_rfl)) (fun _ _ _ h=>h) (Or.inl ⟨by rfl,?_⟩) ?_ ?_;rotate_left
         ·intro w';go_simp
          with_reducible rfl
         rotate_left
         ·simp only [Act.put,s1_,s2_,s3_,i64_w,i32_w];rfl
         refine pure_ (i:=8) (N:=some 21) (v:=?_) (a':=?_) #[true,true,true,true,true,false,true,true,true,false,false,false,false] rfl rfl (any_of HT_.out (by kernel_rfl)) (fun _ _ _ h=>h) (Or.inl ⟨by rfl,?_⟩) ?_ ?_;rotate_left
         ·intro w';go_simp
          with_reducible rfl
         rotate_left
         ·simp only [Act.put,s1_,s2_,s3_,i64_w,i32_w];rfl
         refine pure_ (i:=9) (N:=some 22) (v:=?_) (a':=?_) #[true,true,true,true,true,false,true,true,true,true,false,false,false] rfl rfl (any_of HT_.out (by kernel_rfl)) (fun _ _ _ h=>h) (Or.inl ⟨by rfl,?_⟩) ?_ ?_;rotate_left
         ·intro w';go_simp
          with_reducible rfl
         rotate_left
         ·simp only [Act.put,s1_,s2_,s3_,i64_w,i32_w];rfl
         refine take_ (i:=5) (N:=some 18) (v:=?_) (a':=?_) (m_ 10 3) rfl rfl (take_ofW HT_.out HW_.out (by kernel_rfl)) (fun _ _ _ h=>h) (Or.inl ⟨by rfl,?_⟩) hHeld ?_ ?_;rotate_left
         ·rintro w' ⟨s0,s1,s2,s3,s4,s5,s6,s7,s8,s9⟩;go_simp
          with_reducible rfl
         rotate_left
         ·simp only [Act.put,s1_,s2_,s3_,i64_w,i32_w];rfl
         refine take_ (i:=10) (N:=some 23) (v:=?_) (a':=?_) (m_ 11 2) rfl rfl (take_ofW HT_.out HW_.out (by kernel_rfl)) (fun _ _ _ h=>h) (Or.inl ⟨by rfl,?_⟩) hHeld ?_ ?_;rotate_left
         ·rintro w' ⟨s0,s1,s2,s3,s4,s5,s6,s7,s8,s9⟩;go_simp
          with_reducible rfl
         rotate_left
         ·simp only [Act.put,s1_,s2_,s3_,i64_w,i32_w];rfl
         refine one_ (i:=11) (N:=some 24) (m_ 12 1) rfl rfl (one_of HT_.out (by kernel_rfl)) (by decide) (fun K hK=>?_);refine goes_ Tryd.func35 (by kernel_rfl) rfl #[.slice A0 l0.length c0,.string ((rd_T36 l1 x5_1).f0),.agg #[.int .i64 ((rd_T36 l1 x5_1).f1.f0),.int .i64 ((rd_T36 l1 x5_1).f1.f1),.int .i64 ((rd_T36 l1 x5_1).f1.f2),.string ((rd_T36 l1 x5_1).f1.f3)]] (by rfl) rfl rfl (by (try simp only [List.map_toArray,List.map_cons,List.map_nil]);rfl) ?_
         with_reducible refine (spec_l15At.calls k1 _ _ l0 ((rd_T36 l1 x5_1).f0) ((rd_T36 l1 x5_1).f1.f0) ((rd_T36 l1 x5_1).f1.f1) ((rd_T36 l1 x5_1).f1.f2) ((rd_T36 l1 x5_1).f1.f3) t178 _ ?side1 ?side2 A5.out).mono ?_
         (case side1=>repeat (exact (Kd.C_below HR0.out HB.out)))
         (case side2=>exact HC0.out)
         rintro e w14 ⟨rfl,hb⟩;refine ⟨_,rfl,?_⟩;have n0_:=a_ (below_step HB.out hb);clear HB;have HB:=n0_;clear n0_
         (try clear hb)
         (skip)
         (skip)
         (skip)
         refine hK.out _ _ ⟨(bc_ HB hw176_0),(bc_ HB hw176_1),(bc_ HB hw176_2),(bc_ HB hw176_3),(bc_ HB hw176_4),(bc_ HB hw177_0),(bc_ HB hw177_1),(bc_ HB hw177_2),(bc_ HB hw177_3),(bc_ HB hw177_4)⟩ (fun hHeld=>?_);clear hK K;refine norm_ (a':=?_) ?_ ?_;rotate_left
         ·show Act.put _ (some 24) _=_;simp only [Act.put,s1_,s2_,s3_,i64_w,i32_w];rfl
         refine pure_ (i:=12) (N:=some 6) (v:=?_) (a':=?_) (m_ 13 0) rfl rfl (any_of HT_.out (by kernel_rfl)) (fun _ _ _ h=>h) (Or.inl ⟨by rfl,?_⟩) ?_ ?_;rotate_left
         ·intro w';go_simp
          with_reducible rfl
         rotate_left
         ·simp only [Act.put,s1_,s2_,s3_,i64_w,i32_w];rfl
         refine done_ (done_of HT_.out (by kernel_rfl)) ?_;have p179:0 ≤ (t178:Int):=of_decide_eq_true (by (with_reducible assumption));have q179:t178 < (l0.length:Int):=of_decide_eq_true (by (with_reducible assumption));obtain ⟨ad179,A179_5,c179_5,e179,hx179_0,hx179_1,hx179_2,hx179_3,hx179_4,hx179_5,hl179_5,hi179_5⟩:=at_T47 HR0.out t178 p179 q179;cases e179;replace hx179_0:=bc_ HB hx179_0;replace hx179_1:=bc_ HB hx179_1
         replace hx179_2:=bc_ HB hx179_2;replace hx179_3:=bc_ HB hx179_3;replace hx179_4:=bc_ HB hx179_4;replace hx179_5:=bc_ HB hx179_5;have HR179_5:=a_ hi179_5;have HC179_5:=a_ hl179_5;clear hi179_5 hl179_5;replace p179:=eq_true p179;replace q179:=eq_true q179
         try go_wp2_with ((go_at_call 8;(with_reducible refine (spec_Covers.calls k1 _ _ l1 _ _ ((rd_T47 l0 t178).f2) true _ ?side1 ?side2 ?side3 ?side4 A11.out).mono ?_);(case side1=>repeat (exact (Kd.C_below HR1.out HB.out)));(case side2=>exact HC1.out);(case side3=>repeat (exact (Kd.C_below HR179_5.out HB.out)));(case side4=>exact HC179_5.out);rintro e w15 ⟨rfl,hb⟩;have n0_:=a_ (below_step HB.out hb);clear HB;have HB:=n0_;clear n0_;(try clear hb)))
         go_roundg k1
         case measure=>have:=HK1.out;omega
         case rel=>exact ⟨(wrap64 (x5_1 + 1)),(by rfl),H',⟨by have:=HK1.out;omega⟩,⟨by exact HB.out⟩⟩
        ·replace c12:=Bool.eq_false_iff.mpr c12;subst c12;have H1:(some false)=some r:=by rw [if_neg (show ¬ (false=true) by decide)] at H;exact H
         clear H;have H:=H1;clear H1;obtain rfl:=Option.some.inj H
         try go_wp2
         have n0_:=a_ (below_drew1 HB.out);clear HB;have HB:=n0_;clear n0_;have p176:0 ≤ (x5_1:Int):=of_decide_eq_true (by (with_reducible assumption));have q176:x5_1 < (l1.length:Int):=of_decide_eq_true (by (with_reducible assumption));obtain ⟨ad176,e176,hx176_0,hx176_1,hx176_2,hx176_3,hx176_4⟩:=at_T36 HR1.out x5_1 p176 q176;have hw176_4:=hx176_4;have hw176_3:=hx176_3;have hw176_2:=hx176_2;have hw176_1:=hx176_1
         have hw176_0:=hx176_0;cases e176;replace hx176_0:=bc_ HB hx176_0;replace hx176_1:=bc_ HB hx176_1;replace hx176_2:=bc_ HB hx176_2;replace hx176_3:=bc_ HB hx176_3;replace hx176_4:=bc_ HB hx176_4;replace p176:=eq_true p176;replace q176:=eq_true q176;have p177:0 ≤ (x5_1:Int):=of_decide_eq_true (by (with_reducible assumption));have q177:x5_1 < (l1.length:Int):=of_decide_eq_true (by (with_reducible assumption))
         obtain ⟨ad177,e177,hx177_0,hx177_1,hx177_2,hx177_3,hx177_4⟩:=at_T36 HR1.out x5_1 p177 q177;have hw177_4:=hx177_4;have hw177_3:=hx177_3;have hw177_2:=hx177_2;have hw177_1:=hx177_1;have hw177_0:=hx177_0;obtain rfl:ad176=ad177:=(by injection e177);replace hx177_0:=bc_ HB hx177_0;replace hx177_1:=bc_ HB hx177_1;replace hx177_2:=bc_ HB hx177_2;replace hx177_3:=bc_ HB hx177_3;replace hx177_4:=bc_ HB hx177_4
         replace p177:=eq_true p177;replace q177:=eq_true q177;refine start_ (n:=13) (S:=fun w'=>w'.cell? (ad176.add ((x5_1).toNat * 5))=some (.string ((rd_T36 l1 x5_1).f0)) ∧ w'.cell? ⟨(ad176.add ((x5_1).toNat * 5)).block,(ad176.add ((x5_1).toNat * 5)).off + 1,none⟩=some (.int .i64 ((rd_T36 l1 x5_1).f1.f0)) ∧ w'.cell? ⟨(ad176.add ((x5_1).toNat * 5)).block,(ad176.add ((x5_1).toNat * 5)).off + 2,none⟩=some (.int .i64 ((rd_T36 l1 x5_1).f1.f1)) ∧ w'.cell? ⟨(ad176.add ((x5_1).toNat * 5)).block,(ad176.add ((x5_1).toNat * 5)).off + 3,none⟩=some (.int .i64 ((rd_T36 l1 x5_1).f1.f2)) ∧ w'.cell? ⟨(ad176.add ((x5_1).toNat * 5)).block,(ad176.add ((x5_1).toNat * 5)).off + 4,none⟩=some (.string ((rd_T36 l1 x5_1).f1.f3)) ∧ w'.cell? (ad176.add ((x5_1).toNat * 5))=some (.string ((rd_T36 l1 x5_1).f0)) ∧ w'.cell? ⟨(ad176.add ((x5_1).toNat * 5)).block,(ad176.add ((x5_1).toNat * 5)).off + 1,none⟩=some (.int .i64 ((rd_T36 l1 x5_1).f1.f0)) ∧ w'.cell? ⟨(ad176.add ((x5_1).toNat * 5)).block,(ad176.add ((x5_1).toNat * 5)).off + 2,none⟩=some (.int .i64 ((rd_T36 l1 x5_1).f1.f1)) ∧ w'.cell? ⟨(ad176.add ((x5_1).toNat * 5)).block,(ad176.add ((x5_1).toNat * 5)).off + 3,none⟩=some (.int .i64 ((rd_T36 l1 x5_1).f1.f2)) ∧ w'.cell? ⟨(ad176.add ((x5_1).toNat * 5)).block,(ad176.add ((x5_1).toNat * 5)).off + 4,none⟩=some (.string ((rd_T36 l1 x5_1).f1.f3))) (ds:=[]) (m_ 0 13) (by kernel_rfl) rfl rfl ⟨(bc_ HB hw176_0),(bc_ HB hw176_1),(bc_ HB hw176_2),(bc_ HB hw176_3),(bc_ HB hw176_4),(bc_ HB hw177_0),(bc_ HB hw177_1),(bc_ HB hw177_2),(bc_ HB hw177_3),(bc_ HB hw177_4)⟩ (fun hHeld=>?_);refine with_tabW spec_Closed.tab4 spec_Closed.bits4 (fun HT_ HW_=>?_)
         generalize wr.drew=w16 at HB hx176_0 hx176_1 hx176_2 hx176_3 hx176_4 hx177_0 hx177_1 hx177_2 hx177_3 hx177_4 hHeld ⊢
         refine pure_ (i:=0) (N:=some 13) (v:=?_) (a':=?_) (m_ 1 12) rfl rfl (any_of HT_.out (by kernel_rfl)) (fun _ _ _ h=>h) (Or.inl ⟨by rfl,?_⟩) ?_ ?_;rotate_left
         ·intro w';go_simp
          with_reducible rfl
         rotate_left
         ·simp only [Act.put,s1_,s2_,s3_,i64_w,i32_w];rfl
         refine pure_ (i:=1) (N:=some 14) (v:=?_) (a':=?_) (m_ 2 11) rfl rfl (any_of HT_.out (by kernel_rfl)) (fun _ _ _ h=>h) (Or.inl ⟨by rfl,?_⟩) ?_ ?_;rotate_left
         ·intro w';go_simp
          with_reducible rfl
         rotate_left
         ·simp only [Act.put,s1_,s2_,s3_,i64_w,i32_w];rfl
         refine pure_ (i:=2) (N:=some 15) (v:=?_) (a':=?_) (m_ 3 10) rfl rfl (any_of HT_.out (by kernel_rfl)) (fun _ _ _ h=>h) (Or.inl ⟨by rfl,?_⟩) ?_ ?_;rotate_left
         ·intro w';go_simp
          with_reducible rfl
         rotate_left
         ·simp only [Act.put,s1_,s2_,s3_,i64_w,i32_w];rfl
         refine pure_ (i:=3) (N:=some 16) (v:=?_) (a':=?_) (m_ 4 9) rfl rfl (any_of HT_.out (by kernel_rfl)) (fun _ _ _ h=>h) (Or.inl ⟨by rfl,?_⟩) ?_ ?_;rotate_left
         ·intro w';go_simp
          with_reducible rfl
         rotate_left
         ·simp only [Act.put,s1_,s2_,s3_,i64_w,i32_w];rfl
         refine pure_ (i:=4) (N:=some 17) (v:=?_) (a':=?_) (m_ 5 8) rfl rfl (any_of HT_.out (by kernel_rfl)) (fun _ _ _ h=>h) (Or.inl ⟨by rfl,?_⟩) ?_ ?_;rotate_left
         ·intro w';go_simp
          with_reducible rfl
         rotate_left
         ·simp only [Act.put,s1_,s2_,s3_,i64_w,i32_w];rfl
         refine pure_ (i:=6) (N:=some 19) (v:=?_) (a':=?_) #[true,true,true,true,true,false,true,false,false,false,false,false,false] rfl rfl (any_of HT_.out (by kernel_rfl)) (fun _ _ _ h=>h) (Or.inl ⟨by rfl,?_⟩) ?_ ?_;rotate_left
         ·intro w';go_simp
          with_reducible rfl
         rotate_left
         ·simp only [Act.put,s1_,s2_,s3_,i64_w,i32_w];rfl
         refine pure_ (i:=7) (N:=some 20) (v:=?_) (a':=?_) #[true,true,true,true,true,false,true,true,false,false,false,false,false] rfl rfl (any_of HT_.out (by kernel_rfl)) (fun _ _ _ h=>h) (Or.inl ⟨by rfl,?_⟩) ?_ ?_;rotate_left
         ·intro w';go_simp
          with_reducible rfl
         rotate_left
         ·simp only [Act.put,s1_,s2_,s3_,i64_w,i32_w];rfl
         refine pure_ (i:=8) (N:=some 21) (v:=?_) (a':=?_) #[true,true,true,true,true,false,true,true,true,false,false,false,false] rfl rfl (any_of HT_.out (by kernel_rfl)) (fun _ _ _ h=>h) (Or.inl ⟨by rfl,?_⟩) ?_ ?_;rotate_left
         ·intro w';go_simp
          with_reducible rfl
         rotate_left
         ·simp only [Act.put,s1_,s2_,s3_,i64_w,i32_w];rfl
         refine pure_ (i:=9) (N:=some 22) (v:=?_) (a':=?_) #[true,true,true,true,true,false,true,true,true,true,false,false,false] rfl rfl (any_of HT_.out (by kernel_rfl)) (fun _ _ _ h=>h) (Or.inl ⟨by rfl,?_⟩) ?_ ?_;rotate_left
         ·intro w';go_simp
          with_reducible rfl
         rotate_left
         ·simp only [Act.put,s1_,s2_,s3_,i64_w,i32_w];rfl
         refine take_ (i:=5) (N:=some 18) (v:=?_) (a':=?_) (m_ 10 3) rfl rfl (take_ofW HT_.out HW_.out (by kernel_rfl)) (fun _ _ _ h=>h) (Or.inl ⟨by rfl,?_⟩) hHeld ?_ ?_;rotate_left
         ·rintro w' ⟨s0,s1,s2,s3,s4,s5,s6,s7,s8,s9⟩;go_simp
          with_reducible rfl
         rotate_left
         ·simp only [Act.put,s1_,s2_,s3_,i64_w,i32_w];rfl
         refine take_ (i:=10) (N:=some 23) (v:=?_) (a':=?_) (m_ 11 2) rfl rfl (take_ofW HT_.out HW_.out (by kernel_rfl)) (fun _ _ _ h=>h) (Or.inl ⟨by rfl,?_⟩) hHeld ?_ ?_;rotate_left
         ·rintro w' ⟨s0,s1,s2,s3,s4,s5,s6,s7,s8,s9⟩;go_simp
          with_reducible rfl
         rotate_left
         ·simp only [Act.put,s1_,s2_,s3_,i64_w,i32_w];rfl
         refine one_ (i:=11) (N:=some 24) (m_ 12 1) rfl rfl (one_of HT_.out (by kernel_rfl)) (by decide) (fun K hK=>?_);refine goes_ Tryd.func35 (by kernel_rfl) rfl #[.slice A0 l0.length c0,.string ((rd_T36 l1 x5_1).f0),.agg #[.int .i64 ((rd_T36 l1 x5_1).f1.f0),.int .i64 ((rd_T36 l1 x5_1).f1.f1),.int .i64 ((rd_T36 l1 x5_1).f1.f2),.string ((rd_T36 l1 x5_1).f1.f3)]] (by rfl) rfl rfl (by (try simp only [List.map_toArray,List.map_cons,List.map_nil]);rfl) ?_
         with_reducible refine (spec_l15At.calls k1 _ _ l0 ((rd_T36 l1 x5_1).f0) ((rd_T36 l1 x5_1).f1.f0) ((rd_T36 l1 x5_1).f1.f1) ((rd_T36 l1 x5_1).f1.f2) ((rd_T36 l1 x5_1).f1.f3) t178 _ ?side1 ?side2 A5.out).mono ?_
         (case side1=>repeat (exact (Kd.C_below HR0.out HB.out)))
         (case side2=>exact HC0.out)
         rintro e w17 ⟨rfl,hb⟩;refine ⟨_,rfl,?_⟩;have n0_:=a_ (below_step HB.out hb);clear HB;have HB:=n0_;clear n0_
         (try clear hb)
         (skip)
         (skip)
         (skip)
         refine hK.out _ _ ⟨(bc_ HB hw176_0),(bc_ HB hw176_1),(bc_ HB hw176_2),(bc_ HB hw176_3),(bc_ HB hw176_4),(bc_ HB hw177_0),(bc_ HB hw177_1),(bc_ HB hw177_2),(bc_ HB hw177_3),(bc_ HB hw177_4)⟩ (fun hHeld=>?_);clear hK K;refine norm_ (a':=?_) ?_ ?_;rotate_left
         ·show Act.put _ (some 24) _=_;simp only [Act.put,s1_,s2_,s3_,i64_w,i32_w];rfl
         refine pure_ (i:=12) (N:=some 6) (v:=?_) (a':=?_) (m_ 13 0) rfl rfl (any_of HT_.out (by kernel_rfl)) (fun _ _ _ h=>h) (Or.inl ⟨by rfl,?_⟩) ?_ ?_;rotate_left
         ·intro w';go_simp
          with_reducible rfl
         rotate_left
         ·simp only [Act.put,s1_,s2_,s3_,i64_w,i32_w];rfl
         refine done_ (done_of HT_.out (by kernel_rfl)) ?_;have p179:0 ≤ (t178:Int):=of_decide_eq_true (by (with_reducible assumption));have q179:t178 < (l0.length:Int):=of_decide_eq_true (by (with_reducible assumption));obtain ⟨ad179,A179_5,c179_5,e179,hx179_0,hx179_1,hx179_2,hx179_3,hx179_4,hx179_5,hl179_5,hi179_5⟩:=at_T47 HR0.out t178 p179 q179;cases e179;replace hx179_0:=bc_ HB hx179_0;replace hx179_1:=bc_ HB hx179_1
         replace hx179_2:=bc_ HB hx179_2;replace hx179_3:=bc_ HB hx179_3;replace hx179_4:=bc_ HB hx179_4;replace hx179_5:=bc_ HB hx179_5;have HR179_5:=a_ hi179_5;have HC179_5:=a_ hl179_5;clear hi179_5 hl179_5;replace p179:=eq_true p179;replace q179:=eq_true q179
         try go_wp2_with ((go_at_call 8;(with_reducible refine (spec_Covers.calls k1 _ _ l1 _ _ ((rd_T47 l0 t178).f2) false _ ?side1 ?side2 ?side3 ?side4 A11.out).mono ?_);(case side1=>repeat (exact (Kd.C_below HR1.out HB.out)));(case side2=>exact HC1.out);(case side3=>repeat (exact (Kd.C_below HR179_5.out HB.out)));(case side4=>exact HC179_5.out);rintro e w18 ⟨rfl,hb⟩;have n0_:=a_ (below_step HB.out hb);clear HB;have HB:=n0_;clear n0_;(try clear hb)))
         go_ret
         exact ⟨by rfl,by exact HB.out⟩
       ·rw [if_neg c10] at H;exact absurd H (by simp)
      ·rw [if_neg c9] at H;exact absurd H (by simp)
    ·rw [if_neg c4] at H;exact absurd H (by simp)
   ·rw [if_neg c3] at H;have c3b0:decide (x5_1 < (l1.length:Int))=false:=decide_eq_false c3;clear c3;obtain rfl:=Option.some.inj H
    go_wp2
    go_ret
    exact ⟨by rfl,by exact HB.out⟩
end Go.Proofs.YtmkdeknpphimbaaDoor.PFnClosed
