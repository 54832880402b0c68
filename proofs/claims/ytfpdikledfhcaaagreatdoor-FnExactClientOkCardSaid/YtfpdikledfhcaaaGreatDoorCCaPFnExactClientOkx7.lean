import Derived.Test.YtfpdikledfhcaaaGreatDoorCCaPFnExactClientOkx0
import Derived.Test.YtfpdikledfhcaaaGreatDoorCCaPFnExactClientOkx1
import Derived.Test.YtfpdikledfhcaaaGreatDoorCCaPFnExactClientOkx4
import Derived.Test.YtfpdikledfhcaaaGreatDoorCCaPFnExactClientOkx6
namespace Go.Proofs.YtfpdikledfhcaaaGreatDoor.PFnExactClientOk
open Go.RowKit Go.Proofs.YtfpdikledfhcaaaGreatDoorW.PrintWords Go.Proofs.YtfpdikledfhcaaaGreatDoorW.PrintLast Go.Proofs.YtfpdikledfhcaaaGreatDoorW.PrintMore
attribute [local go_sem] max2_int min2_int max_two min_two max_three min_three max_four min_four
set_option linter.unusedVariables false
set_option linter.unusedSimpArgs false
attribute [local go_sem high] eqA52
def spec_NeedsOk.f (k:Nat) (l0:List (S58)):Option (Bool):=if (l0.length:Int) ≤ 20 then ((spec_l5Rising.f k l0).bind fun t170=>(some t170)) else (some false)
theorem spec_NeedsOk.mono : ∀ a0 k,LeO (spec_NeedsOk.f k a0) (spec_NeedsOk.f (k + 1) a0):=by
 intro a0 k;unfold spec_NeedsOk.f
 repeat' first
  | (with_reducible exact spec_l5Rising.mono _ _)
  | (with_reducible exact LeO.refl _)
  | (with_reducible refine LeO.ite ?_ ?_)
  | (with_reducible refine LeO.bind ?_ (fun _=>?_))
set_option maxHeartbeats 8000000 in
set_option maxRecDepth 100000 in
theorem spec_NeedsOk.calls (k:Nat) (A0:Option Addr) (c0:Nat) (l0:List (S58)) (r:Bool) (w:World) (hr0:Kd.C k58 w A0 l0.length l0) (hc0:l0.length ≤ c0) (h:spec_NeedsOk.f k l0=some r) :
 Calls Tryz.prog 73 #[.slice A0 l0.length c0] w fun e w'=>e = .returned (.bool r) ∧ Below w.heap.size w w':=by
 have HR0:=a_ hr0;have HC0:=a_ hc0;clear hr0 hc0;have HB:=a_ (Below.refl w.heap.size w);have H:(if (l0.length:Int) ≤ 20 then ((spec_l5Rising.f k l0).bind fun t170=>(some t170)) else (some false))=some r:=h;clear h
 by_cases c2:(l0.length:Int) ≤ 20
 ·rw [if_pos c2] at H;have c2b0:decide ((l0.length:Int) ≤ 20)=true:=decide_eq_true c2;have c2b1:decide (l0.length ≤ 20)=true:=decide_eq_true (by omega);clear c2;replace H:=Option.bind_eq_some_iff.mp H;obtain ⟨t170,A30,H⟩:=H;replace H:(some t170)=some r:=H;have A3:=a_ A30;clear A30;obtain rfl:=Option.some.inj H
  go_enter Tryz.func73,Tryz.ntmps73
  go_wp2_with ((go_at_call 60;(with_reducible refine (spec_l5Rising.calls k _ _ l0 t170 _ ?side1 ?side2 A3.out).mono ?_);(case side1=>repeat (exact HR0.out));(case side2=>exact HC0.out);rintro e w4 ⟨rfl,hb⟩;have n0_:=a_ (below_step HB.out hb);clear HB;have HB:=n0_;clear n0_;(try clear hb)))
  go_ret
  exact ⟨by rfl,by exact HB.out⟩
 ·rw [if_neg c2] at H;have c2b0:decide ((l0.length:Int) ≤ 20)=false:=decide_eq_false c2;have c2b1:decide (l0.length ≤ 20)=false:=decide_eq_false (by omega);clear c2;obtain rfl:=Option.some.inj H
  go_enter Tryz.func73,Tryz.ntmps73
  go_wp2
  go_ret
  exact ⟨by rfl,by exact HB.out⟩
def spec_l15At.l0:Nat → List (S54) → ByteArray → Int → Int → Int → Int → ByteArray → Option (Int)
 | 0,_,_,_,_,_,_,_=>none
 | k + 1,x0,x1,x7,x172000,x172001,x172002,x172003=>if x7 < (x0.length:Int) then (if 0 ≤ x7 then (if ((rd_T54 x0 x7).f0).toList=x1.toList then (if (((rd_T54 x0 x7).f1.f0) == x172000 && (((rd_T54 x0 x7).f1.f1) == x172001 && (((rd_T54 x0 x7).f1.f2) == x172002 && ((((rd_T54 x0 x7).f1.f3).toList) == x172003.toList))))=true then (some x7) else (spec_l15At.l0 k x0 x1 (wrap64 (x7 + 1)) x172000 x172001 x172002 x172003)) else (spec_l15At.l0 k x0 x1 (wrap64 (x7 + 1)) x172000 x172001 x172002 x172003)) else (none)) else (some (-1))
def spec_l15At.f (k:Nat) (l0:List (S54)) (a1:ByteArray) (a2_0:Int) (a2_1:Int) (a2_2:Int) (a2_3:ByteArray):Option (Int):=spec_l15At.l0 k l0 a1 0 a2_0 a2_1 a2_2 a2_3
theorem spec_l15At.mono_l : ∀ k,(∀ y0 y1 y2 y3 y4 y5 y6,LeO (spec_l15At.l0 k y0 y1 y2 y3 y4 y5 y6) (spec_l15At.l0 (k + 1) y0 y1 y2 y3 y4 y5 y6))
 | 0=>fun _ _ _ _ _ _ _ r h=>by simp [spec_l15At.l0] at h
 | k + 1=>by
  have ih0:=spec_l15At.mono_l k
  ·intro y0 y1 y2 y3 y4 y5 y6;unfold spec_l15At.l0
   repeat' first
   | (with_reducible exact ih0 _ _ _ _ _ _ _)
   | (with_reducible exact LeO.refl _)
   | (with_reducible refine LeO.ite ?_ ?_)
theorem spec_l15At.mono : ∀ a0 a1 a2 a3 a4 a5 k,LeO (spec_l15At.f k a0 a1 a2 a3 a4 a5) (spec_l15At.f (k + 1) a0 a1 a2 a3 a4 a5):=by
 intro a0 a1 a2 a3 a4 a5 k;have ih0:=spec_l15At.mono_l k;unfold spec_l15At.f
 repeat' (with_reducible exact ih0 _ _ _ _ _ _ _)
set_option maxHeartbeats 8000000 in
set_option maxRecDepth 100000 in
theorem spec_l15At.calls (k:Nat) (A0:Option Addr) (c0:Nat) (l0:List (S54)) (a1:ByteArray) (a2_0:Int) (a2_1:Int) (a2_2:Int) (a2_3:ByteArray) (r:Int) (w:World) (hr0:Kd.C k54 w A0 l0.length l0) (hc0:l0.length ≤ c0) (h:spec_l15At.f k l0 a1 a2_0 a2_1 a2_2 a2_3=some r) :
 Calls Tryz.prog 88 #[.slice A0 l0.length c0,.string a1,.agg #[.int .i64 a2_0,.int .i64 a2_1,.int .i64 a2_2,.string a2_3]] w fun e w'=>e = .returned (.int .i64 r) ∧ Below w.heap.size w w':=by
 have hu52:=Tryz.underlying52;have HR0:=a_ hr0;have HC0:=a_ hc0;clear hr0 hc0;have HB:=a_ (Below.refl w.heap.size w);have H:(spec_l15At.l0 k l0 a1 0 a2_0 a2_1 a2_2 a2_3)=some r:=h;clear h;have H':=a_ H;clear H
 go_enter Tryz.func88,Tryz.ntmps88
 go_wp2_with (((with_reducible refine gate_dst (N:=5) rfl ?_);refine box_event ?hg (N:=5) ?hd (cs:=#[.int .i64 a2_0,.int .i64 a2_1,.int .i64 a2_2,.string a2_3]) (t:=52) ?hr ?_;(case hd=>rfl);(case hg=>rfl);(case hr=>(go_simp;done));intro gb171 hg w4 hbox hb;have n0_:=a_ (below_step HB.out hb);have n1_:=a_ (hbox);have n2_:=a_ ((by rw [hg];exact (below_size HB.out):w.heap.size ≤ gb171));have n3_:=a_ ((by rw [hg];exact (below_size HB.out):w.heap.size ≤ gb171));clear HB;have HB:=n0_;have BK171:=n1_;have GW171:=n2_;have GE171:=n3_;clear n0_ n1_ n2_ n3_;clear hb hbox hg))
 repeat (go_quiet (fail))
 go_loopg [7] k (fun kq v7 w'=>∃ (x7_1:Int),v7 = .int .i64 x7_1 ∧ Aside0 (spec_l15At.l0 kq l0 a1 x7_1 a2_0 a2_1 a2_2 a2_3=some r) ∧ Aside0 (kq ≤ k) ∧ Aside0 (w'.heap[gb171]? = some (.cells #[.int .i64 a2_0,.int .i64 a2_1,.int .i64 a2_2,.string a2_3] 52 (0,0))) ∧ Aside0 (Below w.heap.size w w'))
 case atStart=>exact ⟨(0),(by rfl),H',⟨Nat.le_refl _⟩,⟨by exact BK171.out⟩,⟨by exact HB.out⟩⟩
 case round=>
  clear H';obtain ⟨x7_1,rfl,HA,HK1,BK171,HB⟩:=hrel
  cases gk with
  | zero=>exact absurd HA.out (by simp [spec_l15At.l0])
  | succ k1=>
   have H:=HA.out;clear HA;simp only [spec_l15At.l0] at H
   by_cases c5:x7_1 < (l0.length:Int)
   ·rw [if_pos c5] at H;have c5b0:decide (x7_1 < (l0.length:Int))=true:=decide_eq_true c5;clear c5
    by_cases c6:0 ≤ x7_1
    ·rw [if_pos c6] at H;have c6b0:decide (0 ≤ x7_1)=true:=decide_eq_true c6;clear c6
     by_cases c7:((rd_T54 l0 x7_1).f0).toList=a1.toList
     ·rw [if_pos c7] at H;have c7b0:(((rd_T54 l0 x7_1).f0).toList == a1.toList)=true:=beq_iff_eq.mpr c7;have c7b1:(((rd_T54 l0 x7_1).f0).toList != a1.toList)=false:=bne_eq_false_iff_eq.mpr c7;clear c7
      by_cases c8:(((rd_T54 l0 x7_1).f1.f0) == a2_0 && (((rd_T54 l0 x7_1).f1.f1) == a2_1 && (((rd_T54 l0 x7_1).f1.f2) == a2_2 && ((((rd_T54 l0 x7_1).f1.f3).toList) == a2_3.toList))))=true
      ·rw [if_pos c8] at H;have c8b0:(((rd_T54 l0 x7_1).f1.f0) == a2_0 && (((rd_T54 l0 x7_1).f1.f1) == a2_1 && (((rd_T54 l0 x7_1).f1.f2) == a2_2 && ((((rd_T54 l0 x7_1).f1.f3).toList) == a2_3.toList))))=true:=c8
       (try (have c8b1:decide (((rd_T54 l0 x7_1).f1.f0)=a2_0 && (((rd_T54 l0 x7_1).f1.f1) == a2_1 && (((rd_T54 l0 x7_1).f1.f2) == a2_2 && ((((rd_T54 l0 x7_1).f1.f3).toList) == a2_3.toList))))=true:=by simpa using c8))
       (try (have c8b2:(((rd_T54 l0 x7_1).f1.f0) == a2_0 && (((rd_T54 l0 x7_1).f1.f1) == a2_1 && (((rd_T54 l0 x7_1).f1.f2) == a2_2 && ((((rd_T54 l0 x7_1).f1.f3).toList) == a2_3.toList))))=true:=by simpa using c8))
       clear c8;obtain rfl:=Option.some.inj H;have p172:0 ≤ (x7_1:Int):=of_decide_eq_true (by (with_reducible assumption));have q172:x7_1 < (l0.length:Int):=of_decide_eq_true (by (with_reducible assumption));obtain ⟨ad172,A172_5,c172_5,e172,hx172_0,hx172_1,hx172_2,hx172_3,hx172_4,hx172_5,hl172_5,hi172_5⟩:=at_T54 HR0.out x7_1 p172 q172;cases e172;replace hx172_0:=bc_ HB hx172_0;replace hx172_1:=bc_ HB hx172_1
       replace hx172_2:=bc_ HB hx172_2;replace hx172_3:=bc_ HB hx172_3;replace hx172_4:=bc_ HB hx172_4;replace hx172_5:=bc_ HB hx172_5;have HR172_5:=a_ hi172_5;have HC172_5:=a_ hl172_5;clear hi172_5 hl172_5;replace p172:=eq_true p172;replace q172:=eq_true q172;have p173:0 ≤ (x7_1:Int):=of_decide_eq_true (by (with_reducible assumption));have q173:x7_1 < (l0.length:Int):=of_decide_eq_true (by (with_reducible assumption))
       obtain ⟨ad173,A173_5,c173_5,e173,hx173_0,hx173_1,hx173_2,hx173_3,hx173_4,hx173_5,hl173_5,hi173_5⟩:=at_T54 HR0.out x7_1 p173 q173;obtain rfl:ad172=ad173:=(by injection e173);replace hx173_0:=bc_ HB hx173_0;replace hx173_1:=bc_ HB hx173_1;replace hx173_2:=bc_ HB hx173_2;replace hx173_3:=bc_ HB hx173_3;replace hx173_4:=bc_ HB hx173_4;replace hx173_5:=bc_ HB hx173_5;have HR173_5:=a_ hi173_5;have HC173_5:=a_ hl173_5
       clear hi173_5 hl173_5;replace p173:=eq_true p173;replace q173:=eq_true q173;have ea_:=Option.some.inj (hx172_5.symm.trans hx173_5)
       injection ea_ with ea_ en_ ec_
       subst ea_;subst ec_;clear en_;have hcz9_0:wr.cell? ⟨gb171,0,none⟩=some (.int .i64 a2_0):=(blk_cell BK171.out 0).trans rfl;have hcz9_1:wr.cell? ⟨gb171,1,none⟩=some (.int .i64 a2_1):=(blk_cell BK171.out 1).trans rfl;have hcz9_2:wr.cell? ⟨gb171,2,none⟩=some (.int .i64 a2_2):=(blk_cell BK171.out 2).trans rfl;have hcz9_3:wr.cell? ⟨gb171,3,none⟩=some (.string a2_3):=(blk_cell BK171.out 3).trans rfl
       have hfz9_0:=blk_frozen BK171.out 0;have hfz9_1:=blk_frozen BK171.out 1;have hfz9_2:=blk_frozen BK171.out 2;have hfz9_3:=blk_frozen BK171.out 3
       go_wp2
       repeat (go_quiet (fail);try go_wp2)
       go_ret
       exact ⟨by rfl,by repeat (with_reducible first | exact HB.out | apply pw_below_drewN)⟩
      ·rw [if_neg c8] at H;have c8b0:(((rd_T54 l0 x7_1).f1.f0) == a2_0 && (((rd_T54 l0 x7_1).f1.f1) == a2_1 && (((rd_T54 l0 x7_1).f1.f2) == a2_2 && ((((rd_T54 l0 x7_1).f1.f3).toList) == a2_3.toList))))=false:=by simpa using c8
       (try (have c8b1:decide (((rd_T54 l0 x7_1).f1.f0)=a2_0 && (((rd_T54 l0 x7_1).f1.f1) == a2_1 && (((rd_T54 l0 x7_1).f1.f2) == a2_2 && ((((rd_T54 l0 x7_1).f1.f3).toList) == a2_3.toList))))=false:=by simpa using c8))
       (try (have c8b2:(((rd_T54 l0 x7_1).f1.f0) == a2_0 && (((rd_T54 l0 x7_1).f1.f1) == a2_1 && (((rd_T54 l0 x7_1).f1.f2) == a2_2 && ((((rd_T54 l0 x7_1).f1.f3).toList) == a2_3.toList))))=false:=by simpa using c8))
       (try (have c8b3 : ¬ (((rd_T54 l0 x7_1).f1.f0)=a2_0 && (((rd_T54 l0 x7_1).f1.f1) == a2_1 && (((rd_T54 l0 x7_1).f1.f2) == a2_2 && ((((rd_T54 l0 x7_1).f1.f3).toList) == a2_3.toList)))):=by simpa using c8))
       clear c8;have H':=a_ H;clear H;have p172:0 ≤ (x7_1:Int):=of_decide_eq_true (by (with_reducible assumption));have q172:x7_1 < (l0.length:Int):=of_decide_eq_true (by (with_reducible assumption));obtain ⟨ad172,A172_5,c172_5,e172,hx172_0,hx172_1,hx172_2,hx172_3,hx172_4,hx172_5,hl172_5,hi172_5⟩:=at_T54 HR0.out x7_1 p172 q172;cases e172;replace hx172_0:=bc_ HB hx172_0;replace hx172_1:=bc_ HB hx172_1
       replace hx172_2:=bc_ HB hx172_2;replace hx172_3:=bc_ HB hx172_3;replace hx172_4:=bc_ HB hx172_4;replace hx172_5:=bc_ HB hx172_5;have HR172_5:=a_ hi172_5;have HC172_5:=a_ hl172_5;clear hi172_5 hl172_5;replace p172:=eq_true p172;replace q172:=eq_true q172;have p173:0 ≤ (x7_1:Int):=of_decide_eq_true (by (with_reducible assumption));have q173:x7_1 < (l0.length:Int):=of_decide_eq_true (by (with_reducible assumption))
       obtain ⟨ad173,A173_5,c173_5,e173,hx173_0,hx173_1,hx173_2,hx173_3,hx173_4,hx173_5,hl173_5,hi173_5⟩:=at_T54 HR0.out x7_1 p173 q173;obtain rfl:ad172=ad173:=(by injection e173);replace hx173_0:=bc_ HB hx173_0;replace hx173_1:=bc_ HB hx173_1;replace hx173_2:=bc_ HB hx173_2;replace hx173_3:=bc_ HB hx173_3;replace hx173_4:=bc_ HB hx173_4;replace hx173_5:=bc_ HB hx173_5;have HR173_5:=a_ hi173_5;have HC173_5:=a_ hl173_5
       clear hi173_5 hl173_5;replace p173:=eq_true p173;replace q173:=eq_true q173;have ea_:=Option.some.inj (hx172_5.symm.trans hx173_5)
       injection ea_ with ea_ en_ ec_
       subst ea_;subst ec_;clear en_;have hcz10_0:wr.cell? ⟨gb171,0,none⟩=some (.int .i64 a2_0):=(blk_cell BK171.out 0).trans rfl;have hcz10_1:wr.cell? ⟨gb171,1,none⟩=some (.int .i64 a2_1):=(blk_cell BK171.out 1).trans rfl;have hcz10_2:wr.cell? ⟨gb171,2,none⟩=some (.int .i64 a2_2):=(blk_cell BK171.out 2).trans rfl;have hcz10_3:wr.cell? ⟨gb171,3,none⟩=some (.string a2_3):=(blk_cell BK171.out 3).trans rfl
       have hfz10_0:=blk_frozen BK171.out 0;have hfz10_1:=blk_frozen BK171.out 1;have hfz10_2:=blk_frozen BK171.out 2;have hfz10_3:=blk_frozen BK171.out 3
       go_wp2
       repeat (go_quiet (fail);try go_wp2)
       go_roundg k1
       case measure=>have:=HK1.out;omega
       case rel=>exact ⟨(wrap64 (x7_1 + 1)),(by rfl),H',⟨by have:=HK1.out;omega⟩,⟨by (with_reducible repeat (refine blk_drewN ?_ _));exact BK171.out⟩,⟨by repeat (with_reducible first | exact HB.out | apply pw_below_drewN)⟩⟩
     ·rw [if_neg c7] at H;have c7b0:(((rd_T54 l0 x7_1).f0).toList == a1.toList)=false:=beq_eq_false_iff_ne.mpr c7;have c7b1:(((rd_T54 l0 x7_1).f0).toList != a1.toList)=true:=bne_iff_ne.mpr c7;have H':=a_ H;clear H;have p172:0 ≤ (x7_1:Int):=of_decide_eq_true (by (with_reducible assumption));have q172:x7_1 < (l0.length:Int):=of_decide_eq_true (by (with_reducible assumption));obtain ⟨ad172,A172_5,c172_5,e172,hx172_0,hx172_1,hx172_2,hx172_3,hx172_4,hx172_5,hl172_5,hi172_5⟩:=at_T54 HR0.out x7_1 p172 q172
      cases e172;replace hx172_0:=bc_ HB hx172_0
      replace hx172_1:=bc_ HB hx172_1;replace hx172_2:=bc_ HB hx172_2;replace hx172_3:=bc_ HB hx172_3;replace hx172_4:=bc_ HB hx172_4;replace hx172_5:=bc_ HB hx172_5;have HR172_5:=a_ hi172_5;have HC172_5:=a_ hl172_5;clear hi172_5 hl172_5;replace p172:=eq_true p172;replace q172:=eq_true q172
      go_wp2
      repeat (go_quiet (fail);try go_wp2)
      go_roundg k1
      case measure=>have:=HK1.out;omega
      case rel=>exact ⟨(wrap64 (x7_1 + 1)),(by rfl),H',⟨by have:=HK1.out;omega⟩,⟨by (with_reducible repeat (refine blk_drewN ?_ _));exact BK171.out⟩,⟨by repeat (with_reducible first | exact HB.out | apply pw_below_drewN)⟩⟩
    ·rw [if_neg c6] at H;exact absurd H (by simp)
   ·rw [if_neg c5] at H;have c5b0:decide (x7_1 < (l0.length:Int))=false:=decide_eq_false c5;clear c5;obtain rfl:=Option.some.inj H
    go_wp2
    repeat (go_quiet (fail))
    go_ret
    exact ⟨by rfl,by exact HB.out⟩
def spec_EntryOk.l0:Nat → Int → ByteArray → Int → Int → Int → ByteArray → List (S58) → Option (Bool)
 | 0,_,_,_,_,_,_,_=>none
 | k + 1,x3,x175000,x175001,x175002,x175003,x175004,x175005=>if x3 < (x175005.length:Int) then (if 0 ≤ x3 then (if ((rd_T58 x175005 x3).f0).toList=x175000.toList then (some false) else (spec_EntryOk.l0 k (wrap64 (x3 + 1)) x175000 x175001 x175002 x175003 x175004 x175005)) else (none)) else ((spec_Fits.f k x175000 x175001 x175002 x175003 x175004).bind fun t176=>(if t176=true then (if (x175005.length:Int) ≤ 8 then ((spec_l5Rising.f k x175005).bind fun t177=>(some t177)) else (some false)) else (some false)))
def spec_EntryOk.f (k:Nat) (a0_0:ByteArray) (a0_1:Int) (a0_2:Int) (a0_3:Int) (a0_4:ByteArray) (l0_5:List (S58)):Option (Bool):=spec_EntryOk.l0 k 0 a0_0 a0_1 a0_2 a0_3 a0_4 l0_5
theorem spec_EntryOk.mono_l : ∀ k,(∀ y0 y1 y2 y3 y4 y5 y6,LeO (spec_EntryOk.l0 k y0 y1 y2 y3 y4 y5 y6) (spec_EntryOk.l0 (k + 1) y0 y1 y2 y3 y4 y5 y6))
 | 0=>fun _ _ _ _ _ _ _ r h=>by simp [spec_EntryOk.l0] at h
 | k + 1=>by
  have ih0:=spec_EntryOk.mono_l k
  ·intro y0 y1 y2 y3 y4 y5 y6;unfold spec_EntryOk.l0
   repeat' first
   | (with_reducible exact ih0 _ _ _ _ _ _ _)
   | (with_reducible exact spec_Fits.mono _ _ _ _ _ _)
   | (with_reducible exact spec_l5Rising.mono _ _)
   | (with_reducible exact LeO.refl _)
   | (with_reducible refine LeO.ite ?_ ?_)
   | (with_reducible refine LeO.bind ?_ (fun _=>?_))
theorem spec_EntryOk.mono : ∀ a0 a1 a2 a3 a4 a5 k,LeO (spec_EntryOk.f k a0 a1 a2 a3 a4 a5) (spec_EntryOk.f (k + 1) a0 a1 a2 a3 a4 a5):=by
 intro a0 a1 a2 a3 a4 a5 k;have ih0:=spec_EntryOk.mono_l k;unfold spec_EntryOk.f
 repeat' (with_reducible exact ih0 _ _ _ _ _ _ _)
set_option maxHeartbeats 8000000 in
set_option maxRecDepth 100000 in
theorem spec_EntryOk.calls (k:Nat) (a0_0:ByteArray) (a0_1:Int) (a0_2:Int) (a0_3:Int) (a0_4:ByteArray) (A0_5:Option Addr) (c0_5:Nat) (l0_5:List (S58)) (r:Bool) (w:World) (hr0_5:Kd.C k58 w A0_5 l0_5.length l0_5) (hc0_5:l0_5.length ≤ c0_5) (h:spec_EntryOk.f k a0_0 a0_1 a0_2 a0_3 a0_4 l0_5=some r) :
 Calls Tryz.prog 89 #[.agg #[.string a0_0,.int .i64 a0_1,.int .i64 a0_2,.int .i64 a0_3,.string a0_4,.slice A0_5 l0_5.length c0_5]] w fun e w'=>e = .returned (.bool r) ∧ Below w.heap.size w w':=by
 have hu54:=Tryz.underlying54;have hu52:=Tryz.underlying52;have HR0_5:=a_ hr0_5;have HC0_5:=a_ hc0_5;clear hr0_5 hc0_5;have HB:=a_ (Below.refl w.heap.size w);have H:(spec_EntryOk.l0 k 0 a0_0 a0_1 a0_2 a0_3 a0_4 l0_5)=some r:=h;clear h;have H':=a_ H;clear H
 go_enter Tryz.func89,Tryz.ntmps89
 go_wp2_with (((with_reducible refine gate_dst (N:=1) rfl ?_);(try (refine gate_guard (by rfl) ?_;dsimp only));refine box_event ?hg (N:=1) ?hd (cs:=#[.string a0_0,.int .i64 a0_1,.int .i64 a0_2,.int .i64 a0_3,.string a0_4,.slice A0_5 l0_5.length c0_5]) (t:=54) ?hr ?_;(case hd=>rfl);(case hg=>rfl);(case hr=>(go_simp;done));intro gb174 hg w2 hbox hb;have n0_:=a_ (below_step HB.out hb);have n1_:=a_ (hbox);have n2_:=a_ ((by rw [hg];exact (below_size HB.out):w.heap.size ≤ gb174));have n3_:=a_ ((by rw [hg];exact (below_size HB.out):w.heap.size ≤ gb174));clear HB;have HB:=n0_;have BK174:=n1_;have GW174:=n2_;have GE174:=n3_;clear n0_ n1_ n2_ n3_;clear hb hbox hg))
 repeat (go_quiet (fail))
 go_loopg [3] k (fun kq v3 w'=>∃ (x3_1:Int),v3 = .int .i64 x3_1 ∧ Aside0 (spec_EntryOk.l0 kq x3_1 a0_0 a0_1 a0_2 a0_3 a0_4 l0_5=some r) ∧ Aside0 (kq ≤ k) ∧ Aside0 (w'.heap[gb174]? = some (.cells #[.string a0_0,.int .i64 a0_1,.int .i64 a0_2,.int .i64 a0_3,.string a0_4,(.slice A0_5 l0_5.length c0_5)] 54 (0,0))) ∧ Aside0 (Below w.heap.size w w'))
 case atStart=>exact ⟨(0),(by rfl),H',⟨Nat.le_refl _⟩,⟨by exact BK174.out⟩,⟨by exact HB.out⟩⟩
 case round=>
  clear H';obtain ⟨x3_1,rfl,HA,HK1,BK174,HB⟩:=hrel
  cases gk with
  | zero=>exact absurd HA.out (by simp [spec_EntryOk.l0])
  | succ k1=>
   have H:=HA.out;clear HA;simp only [spec_EntryOk.l0] at H
   by_cases c3:x3_1 < (l0_5.length:Int)
   ·rw [if_pos c3] at H;have c3b0:decide (x3_1 < (l0_5.length:Int))=true:=decide_eq_true c3;clear c3
    by_cases c4:0 ≤ x3_1
    ·rw [if_pos c4] at H;have c4b0:decide (0 ≤ x3_1)=true:=decide_eq_true c4;clear c4
     by_cases c5:((rd_T58 l0_5 x3_1).f0).toList=a0_0.toList
     ·rw [if_pos c5] at H;have c5b0:(((rd_T58 l0_5 x3_1).f0).toList == a0_0.toList)=true:=beq_iff_eq.mpr c5;have c5b1:(((rd_T58 l0_5 x3_1).f0).toList != a0_0.toList)=false:=bne_eq_false_iff_eq.mpr c5;clear c5;obtain rfl:=Option.some.inj H;have hcz6_0:wr.cell? ⟨gb174,0,none⟩=some (.string a0_0):=(blk_cell BK174.out 0).trans rfl;have hcz6_1:wr.cell? ⟨gb174,1,none⟩=some (.int .i64 a0_1):=(blk_cell BK174.out 1).trans rfl
      have hcz6_2:wr.cell? ⟨gb174,2,none⟩=some (.int .i64 a0_2):=(blk_cell BK174.out 2).trans rfl;have hcz6_3:wr.cell? ⟨gb174,3,none⟩=some (.int .i64 a0_3):=(blk_cell BK174.out 3).trans rfl;have hcz6_4:wr.cell? ⟨gb174,4,none⟩=some (.string a0_4):=(blk_cell BK174.out 4).trans rfl;have hcz6_5:wr.cell? ⟨gb174,5,none⟩=some (.slice A0_5 l0_5.length c0_5):=(blk_cell BK174.out 5).trans rfl;have hfz6_0:=blk_frozen BK174.out 0
      have hfz6_1:=blk_frozen BK174.out 1;have hfz6_2:=blk_frozen BK174.out 2;have hfz6_3:=blk_frozen BK174.out 3;have hfz6_4:=blk_frozen BK174.out 4;have hfz6_5:=blk_frozen BK174.out 5;have p175:0 ≤ (x3_1:Int):=of_decide_eq_true (by (with_reducible assumption));have q175:x3_1 < (l0_5.length:Int):=of_decide_eq_true (by (with_reducible assumption));obtain ⟨ad175,e175,hx175_0,hx175_1,hx175_2,hx175_3,hx175_4⟩:=at_T58 HR0_5.out x3_1 p175 q175
      cases e175;replace hx175_0:=bc_ HB hx175_0
      replace hx175_1:=bc_ HB hx175_1;replace hx175_2:=bc_ HB hx175_2;replace hx175_3:=bc_ HB hx175_3;replace hx175_4:=bc_ HB hx175_4;replace p175:=eq_true p175;replace q175:=eq_true q175
      go_wp2
      repeat (go_quiet (fail);try go_wp2)
      go_ret
      exact ⟨by rfl,by repeat (with_reducible first | exact HB.out | apply pw_below_drewN)⟩
     ·rw [if_neg c5] at H;have c5b0:(((rd_T58 l0_5 x3_1).f0).toList == a0_0.toList)=false:=beq_eq_false_iff_ne.mpr c5;have c5b1:(((rd_T58 l0_5 x3_1).f0).toList != a0_0.toList)=true:=bne_iff_ne.mpr c5;have H':=a_ H;clear H;have hcz7_0:wr.cell? ⟨gb174,0,none⟩=some (.string a0_0):=(blk_cell BK174.out 0).trans rfl;have hcz7_1:wr.cell? ⟨gb174,1,none⟩=some (.int .i64 a0_1):=(blk_cell BK174.out 1).trans rfl
      have hcz7_2:wr.cell? ⟨gb174,2,none⟩=some (.int .i64 a0_2):=(blk_cell BK174.out 2).trans rfl;have hcz7_3:wr.cell? ⟨gb174,3,none⟩=some (.int .i64 a0_3):=(blk_cell BK174.out 3).trans rfl;have hcz7_4:wr.cell? ⟨gb174,4,none⟩=some (.string a0_4):=(blk_cell BK174.out 4).trans rfl;have hcz7_5:wr.cell? ⟨gb174,5,none⟩=some (.slice A0_5 l0_5.length c0_5):=(blk_cell BK174.out 5).trans rfl;have hfz7_0:=blk_frozen BK174.out 0
      have hfz7_1:=blk_frozen BK174.out 1;have hfz7_2:=blk_frozen BK174.out 2;have hfz7_3:=blk_frozen BK174.out 3;have hfz7_4:=blk_frozen BK174.out 4;have hfz7_5:=blk_frozen BK174.out 5;have p175:0 ≤ (x3_1:Int):=of_decide_eq_true (by (with_reducible assumption));have q175:x3_1 < (l0_5.length:Int):=of_decide_eq_true (by (with_reducible assumption));obtain ⟨ad175,e175,hx175_0,hx175_1,hx175_2,hx175_3,hx175_4⟩:=at_T58 HR0_5.out x3_1 p175 q175
      cases e175;replace hx175_0:=bc_ HB hx175_0
      replace hx175_1:=bc_ HB hx175_1;replace hx175_2:=bc_ HB hx175_2;replace hx175_3:=bc_ HB hx175_3;replace hx175_4:=bc_ HB hx175_4;replace p175:=eq_true p175;replace q175:=eq_true q175
      go_wp2
      repeat (go_quiet (fail);try go_wp2)
      go_roundg k1
      case measure=>have:=HK1.out;omega
      case rel=>exact ⟨(wrap64 (x3_1 + 1)),(by rfl),H',⟨by have:=HK1.out;omega⟩,⟨by (with_reducible repeat (refine blk_drewN ?_ _));exact BK174.out⟩,⟨by repeat (with_reducible first | exact HB.out | apply pw_below_drewN)⟩⟩
    ·rw [if_neg c4] at H;exact absurd H (by simp)
   ·rw [if_neg c3] at H;have c3b0:decide (x3_1 < (l0_5.length:Int))=false:=decide_eq_false c3;clear c3;replace H:=Option.bind_eq_some_iff.mp H;obtain ⟨t176,A80,H⟩:=H;replace H:(if t176=true then (if (l0_5.length:Int) ≤ 8 then ((spec_l5Rising.f k1 l0_5).bind fun t177=>(some t177)) else (some false)) else (some false))=some r:=H;have A8:=a_ A80;clear A80
    by_cases c9:t176=true
    ·subst c9;have H1:(if (l0_5.length:Int) ≤ 8 then ((spec_l5Rising.f k1 l0_5).bind fun t177=>(some t177)) else (some false))=some r:=by rw [if_pos rfl] at H;exact H
     clear H;have H:=H1;clear H1
     by_cases c10:(l0_5.length:Int) ≤ 8
     ·rw [if_pos c10] at H;have c10b0:decide ((l0_5.length:Int) ≤ 8)=true:=decide_eq_true c10;have c10b1:decide (l0_5.length ≤ 8)=true:=decide_eq_true (by omega);clear c10;replace H:=Option.bind_eq_some_iff.mp H;obtain ⟨t177,A110,H⟩:=H;replace H:(some t177)=some r:=H;have A11:=a_ A110;clear A110;obtain rfl:=Option.some.inj H;have hcz12_0:wr.cell? ⟨gb174,0,none⟩=some (.string a0_0):=(blk_cell BK174.out 0).trans rfl
      have hcz12_1:wr.cell? ⟨gb174,1,none⟩=some (.int .i64 a0_1):=(blk_cell BK174.out 1).trans rfl;have hcz12_2:wr.cell? ⟨gb174,2,none⟩=some (.int .i64 a0_2):=(blk_cell BK174.out 2).trans rfl;have hcz12_3:wr.cell? ⟨gb174,3,none⟩=some (.int .i64 a0_3):=(blk_cell BK174.out 3).trans rfl;have hcz12_4:wr.cell? ⟨gb174,4,none⟩=some (.string a0_4):=(blk_cell BK174.out 4).trans rfl;have hcz12_5:wr.cell? ⟨gb174,5,none⟩=some (.slice A0_5 l0_5.length c0_5):=(blk_cell BK174.out 5).trans rfl
      have hfz12_0:=blk_frozen BK174.out 0;have hfz12_1:=blk_frozen BK174.out 1;have hfz12_2:=blk_frozen BK174.out 2;have hfz12_3:=blk_frozen BK174.out 3;have hfz12_4:=blk_frozen BK174.out 4;have hfz12_5:=blk_frozen BK174.out 5
      go_wp2_with (first | (go_at_call 121;(with_reducible refine (spec_Fits.calls k1 a0_0 a0_1 a0_2 a0_3 a0_4 true _ A8.out).mono ?_);rintro e w13 ⟨rfl,hb⟩;have n0_:=a_ (blk_below (g:=gb174) (o:=.cells #[.string a0_0,.int .i64 a0_1,.int .i64 a0_2,.int .i64 a0_3,.string a0_4,.slice A0_5 l0_5.length c0_5] 54 (0,0)) (by exact BK174.out) hb);have n1_:=a_ (below_step HB.out hb);clear BK174;clear HB;have BK174:=n0_;have HB:=n1_;clear n0_ n1_;(try clear hb);have hcz14_0:w13.cell? ⟨gb174,0,none⟩=some (.string a0_0):=(blk_cell BK174.out 0).trans rfl;have hcz14_1:w13.cell? ⟨gb174,1,none⟩=some (.int .i64 a0_1):=(blk_cell BK174.out 1).trans rfl;have hcz14_2:w13.cell? ⟨gb174,2,none⟩=some (.int .i64 a0_2):=(blk_cell BK174.out 2).trans rfl;have hcz14_3:w13.cell? ⟨gb174,3,none⟩=some (.int .i64 a0_3):=(blk_cell BK174.out 3).trans rfl;have hcz14_4:w13.cell? ⟨gb174,4,none⟩=some (.string a0_4):=(blk_cell BK174.out 4).trans rfl;have hcz14_5:w13.cell? ⟨gb174,5,none⟩=some (.slice A0_5 l0_5.length c0_5):=(blk_cell BK174.out 5).trans rfl;have hfz14_0:=blk_frozen BK174.out 0;have hfz14_1:=blk_frozen BK174.out 1;have hfz14_2:=blk_frozen BK174.out 2;have hfz14_3:=blk_frozen BK174.out 3;have hfz14_4:=blk_frozen BK174.out 4;have hfz14_5:=blk_frozen BK174.out 5) | (go_at_call 60;(with_reducible refine (spec_l5Rising.calls k1 _ _ l0_5 t177 _ ?side1 ?side2 A11.out).mono ?_);(case side1=>repeat (exact (Kd.C_below HR0_5.out HB.out)));(case side2=>exact HC0_5.out);rintro e w15 ⟨rfl,hb⟩;have n0_:=a_ (blk_below (g:=gb174) (o:=.cells #[.string a0_0,.int .i64 a0_1,.int .i64 a0_2,.int .i64 a0_3,.string a0_4,.slice A0_5 l0_5.length c0_5] 54 (0,0)) (by exact BK174.out) hb);have n1_:=a_ (below_step HB.out hb);clear BK174;clear HB;have BK174:=n0_;have HB:=n1_;clear n0_ n1_;(try clear hb)))
      repeat (go_quiet (fail))
      go_ret
      exact ⟨by rfl,by exact HB.out⟩
     ·rw [if_neg c10] at H;have c10b0:decide ((l0_5.length:Int) ≤ 8)=false:=decide_eq_false c10;have c10b1:decide (l0_5.length ≤ 8)=false:=decide_eq_false (by omega);clear c10;obtain rfl:=Option.some.inj H;have hcz16_0:wr.cell? ⟨gb174,0,none⟩=some (.string a0_0):=(blk_cell BK174.out 0).trans rfl;have hcz16_1:wr.cell? ⟨gb174,1,none⟩=some (.int .i64 a0_1):=(blk_cell BK174.out 1).trans rfl;have hcz16_2:wr.cell? ⟨gb174,2,none⟩=some (.int .i64 a0_2):=(blk_cell BK174.out 2).trans rfl
      have hcz16_3:wr.cell? ⟨gb174,3,none⟩=some (.int .i64 a0_3):=(blk_cell BK174.out 3).trans rfl;have hcz16_4:wr.cell? ⟨gb174,4,none⟩=some (.string a0_4):=(blk_cell BK174.out 4).trans rfl;have hcz16_5:wr.cell? ⟨gb174,5,none⟩=some (.slice A0_5 l0_5.length c0_5):=(blk_cell BK174.out 5).trans rfl;have hfz16_0:=blk_frozen BK174.out 0;have hfz16_1:=blk_frozen BK174.out 1;have hfz16_2:=blk_frozen BK174.out 2
      have hfz16_3:=blk_frozen BK174.out 3;have hfz16_4:=blk_frozen BK174.out 4;have hfz16_5:=blk_frozen BK174.out 5
      go_wp2_with ((go_at_call 121;(with_reducible refine (spec_Fits.calls k1 a0_0 a0_1 a0_2 a0_3 a0_4 true _ A8.out).mono ?_);rintro e w17 ⟨rfl,hb⟩;have n0_:=a_ (blk_below (g:=gb174) (o:=.cells #[.string a0_0,.int .i64 a0_1,.int .i64 a0_2,.int .i64 a0_3,.string a0_4,.slice A0_5 l0_5.length c0_5] 54 (0,0)) (by exact BK174.out) hb);have n1_:=a_ (below_step HB.out hb);clear BK174;clear HB;have BK174:=n0_;have HB:=n1_;clear n0_ n1_;(try clear hb);have hcz18_0:w17.cell? ⟨gb174,0,none⟩=some (.string a0_0):=(blk_cell BK174.out 0).trans rfl;have hcz18_1:w17.cell? ⟨gb174,1,none⟩=some (.int .i64 a0_1):=(blk_cell BK174.out 1).trans rfl;have hcz18_2:w17.cell? ⟨gb174,2,none⟩=some (.int .i64 a0_2):=(blk_cell BK174.out 2).trans rfl;have hcz18_3:w17.cell? ⟨gb174,3,none⟩=some (.int .i64 a0_3):=(blk_cell BK174.out 3).trans rfl;have hcz18_4:w17.cell? ⟨gb174,4,none⟩=some (.string a0_4):=(blk_cell BK174.out 4).trans rfl;have hcz18_5:w17.cell? ⟨gb174,5,none⟩=some (.slice A0_5 l0_5.length c0_5):=(blk_cell BK174.out 5).trans rfl;have hfz18_0:=blk_frozen BK174.out 0;have hfz18_1:=blk_frozen BK174.out 1;have hfz18_2:=blk_frozen BK174.out 2;have hfz18_3:=blk_frozen BK174.out 3;have hfz18_4:=blk_frozen BK174.out 4;have hfz18_5:=blk_frozen BK174.out 5))
      repeat (go_quiet (fail))
      go_ret
      exact ⟨by rfl,by exact HB.out⟩
    ·replace c9:=Bool.eq_false_iff.mpr c9;subst c9;have H1:(some false)=some r:=by rw [if_neg (show ¬ (false=true) by decide)] at H;exact H
     clear H;have H:=H1;clear H1;obtain rfl:=Option.some.inj H;have hcz19_0:wr.cell? ⟨gb174,0,none⟩=some (.string a0_0):=(blk_cell BK174.out 0).trans rfl;have hcz19_1:wr.cell? ⟨gb174,1,none⟩=some (.int .i64 a0_1):=(blk_cell BK174.out 1).trans rfl;have hcz19_2:wr.cell? ⟨gb174,2,none⟩=some (.int .i64 a0_2):=(blk_cell BK174.out 2).trans rfl;have hcz19_3:wr.cell? ⟨gb174,3,none⟩=some (.int .i64 a0_3):=(blk_cell BK174.out 3).trans rfl
     have hcz19_4:wr.cell? ⟨gb174,4,none⟩=some (.string a0_4):=(blk_cell BK174.out 4).trans rfl;have hcz19_5:wr.cell? ⟨gb174,5,none⟩=some (.slice A0_5 l0_5.length c0_5):=(blk_cell BK174.out 5).trans rfl;have hfz19_0:=blk_frozen BK174.out 0;have hfz19_1:=blk_frozen BK174.out 1;have hfz19_2:=blk_frozen BK174.out 2;have hfz19_3:=blk_frozen BK174.out 3;have hfz19_4:=blk_frozen BK174.out 4;have hfz19_5:=blk_frozen BK174.out 5
     go_wp2_with ((go_at_call 121;(with_reducible refine (spec_Fits.calls k1 a0_0 a0_1 a0_2 a0_3 a0_4 false _ A8.out).mono ?_);rintro e w20 ⟨rfl,hb⟩;have n0_:=a_ (blk_below (g:=gb174) (o:=.cells #[.string a0_0,.int .i64 a0_1,.int .i64 a0_2,.int .i64 a0_3,.string a0_4,.slice A0_5 l0_5.length c0_5] 54 (0,0)) (by exact BK174.out) hb);have n1_:=a_ (below_step HB.out hb);clear BK174;clear HB;have BK174:=n0_;have HB:=n1_;clear n0_ n1_;(try clear hb)))
     repeat (go_quiet (fail))
     go_ret
     exact ⟨by rfl,by exact HB.out⟩
end Go.Proofs.YtfpdikledfhcaaaGreatDoor.PFnExactClientOk
