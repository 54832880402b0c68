import Derived.Test.YtmkdeknpphimbaaDoorCCePFnClosedx0
import Derived.Test.YtmkdeknpphimbaaDoorCCePFnClosedx5
import Derived.Test.YtmkdeknpphimbaaDoorCCePFnClosedx6
import Derived.Test.YtmkdeknpphimbaaDoorCCePFnClosedx10
import Derived.Test.YtmkdeknpphimbaaDoorCCePFnClosedx11
import Derived.Test.YtmkdeknpphimbaaDoorCCePFnClosedx12
namespace Go.Proofs.YtmkdeknpphimbaaDoor.PFnClosed
open Go.RowKit Go.Proofs.YtmkdeknpphimbaaDoorW.PrintWords Go.Proofs.YtmkdeknpphimbaaDoorW.PrintLast Go.Proofs.YtmkdeknpphimbaaDoorW.PrintMore
attribute [local go_sem] max2_int min2_int max_two min_two max_three min_three max_four min_four
set_option linter.unusedVariables false
set_option linter.unusedSimpArgs false
mutual
def spec_l15Roots.l0:Nat → List (S47) → List (S36) → Int → List Int → Int → Int → Option ((List (S36)) × Int × Int)
 | 0,_,_,_,_,_,_=>none
 | k + 1,x1,x5,x6,x1000,x1001,x1002=>if x6 > 0 then (spec_l15Roots.j1 k x1 x5 x6 (decide ((x1.length:Int) > 0)) x1000 x1001 x1002) else (spec_l15Roots.j1 k x1 x5 x6 false x1000 x1001 x1002)
def spec_l15Roots.j1:Nat → List (S47) → List (S36) → Int → Bool → List Int → Int → Int → Option ((List (S36)) × Int × Int)
 | 0,_,_,_,_,_,_,_=>none
 | k + 1,x1,x5,x6,x18,x1000,x1001,x1002=>if x18=true then ((spec_l1Below.f x1000 x1001 x1002 (x1.length:Int)).bind fun bt351=>(if 0 ≤ bt351.1 then (if bt351.1 < (x1.length:Int) then ((spec_l5Put.f k x5 ((rd_T47 x1 bt351.1).f0) ((rd_T47 x1 bt351.1).f1.f0) ((rd_T47 x1 bt351.1).f1.f1) ((rd_T47 x1 bt351.1).f1.f2) ((rd_T47 x1 bt351.1).f1.f3)).bind fun t356=>(spec_l15Roots.l0 k x1 t356 (wrap64 (x6 - 1)) x1000 bt351.2.1 bt351.2.2)) else (none)) else (none))) else (some (x5,x1001,x1002))
end
def spec_l15Roots.f (k:Nat) (s0_0:List Int) (s0_1:Int) (s0_2:Int) (l1:List (S47)):Option ((List (S36)) × Int × Int):=(spec_l1Below.f s0_0 s0_1 s0_2 3).bind fun bt348=>(spec_l15Roots.l0 k l1 (([]:List (S36))) (wrap64 (1 + bt348.1)) s0_0 bt348.2.1 bt348.2.2)
theorem spec_l15Roots.mono_l : ∀ k,(∀ y0 y1 y2 y3 y4 y5,LeO (spec_l15Roots.l0 k y0 y1 y2 y3 y4 y5) (spec_l15Roots.l0 (k + 1) y0 y1 y2 y3 y4 y5)) ∧ (∀ y0 y1 y2 y3 y4 y5 y6,LeO (spec_l15Roots.j1 k y0 y1 y2 y3 y4 y5 y6) (spec_l15Roots.j1 (k + 1) y0 y1 y2 y3 y4 y5 y6))
 | 0=>⟨fun _ _ _ _ _ _ r h=>by simp [spec_l15Roots.l0] at h,fun _ _ _ _ _ _ _ r h=>by simp [spec_l15Roots.j1] at h⟩
 | k + 1=>by
  obtain ⟨ih0,ih1⟩:=spec_l15Roots.mono_l k;refine ⟨?_,?_⟩
  ·intro y0 y1 y2 y3 y4 y5;unfold spec_l15Roots.l0
   repeat' first
   | (with_reducible exact ih1 _ _ _ _ _ _ _)
   | (with_reducible refine LeO.ite ?_ ?_)
  ·intro y0 y1 y2 y3 y4 y5 y6;unfold spec_l15Roots.j1
   repeat' first
   | (with_reducible exact ih0 _ _ _ _ _ _)
   | (with_reducible exact spec_l5Put.mono _ _ _ _ _ _ _)
   | (with_reducible exact LeO.refl _)
   | (with_reducible refine LeO.ite ?_ ?_)
   | (with_reducible refine LeO.bind ?_ (fun _=>?_))
theorem spec_l15Roots.mono : ∀ a0 a1 a2 a3 k,LeO (spec_l15Roots.f k a0 a1 a2 a3) (spec_l15Roots.f (k + 1) a0 a1 a2 a3):=by
 intro a0 a1 a2 a3 k;obtain ⟨ih0,ih1⟩:=spec_l15Roots.mono_l k;unfold spec_l15Roots.f
 repeat' first
  | (with_reducible exact ih0 _ _ _ _ _ _)
  | (with_reducible exact LeO.refl _)
  | (with_reducible refine LeO.bind ?_ (fun _=>?_))
set_option maxHeartbeats 8000000 in
set_option maxRecDepth 100000 in
theorem spec_l15Roots.calls (k:Nat) (g:Nat) (s0_0:List Int) (s0_1:Int) (s0_2:Int) (A1:Option Addr) (c1:Nat) (l1:List (S47)) (r1:List (S36)) (r2:Int) (r3:Int) (w0 w:World) (hI:IsS82 w0 w g s0_0 s0_1 s0_2) (hB:Below w0.heap.size w0 w) (hr1 : ∀ W_,KeepBut w W_ g none → Kd.C k47 W_ A1 l1.length l1) (hc1:l1.length ≤ c1) (h:spec_l15Roots.f k s0_0 s0_1 s0_2 l1=some (r1,r2,r3)) :
 Calls Tryd.prog 40 #[.pointer (some ⟨g,0,none⟩),.slice A1 l1.length c1] w fun e w'=>∃ v0_:Value,e = .returned (v0_) ∧ Kd.R k36 36 w' w.heap.size (fun _=>True) v0_ r1 ∧ IsS82 w0 w' g s0_0 r2 r3 ∧ Below w0.heap.size w0 w' ∧ KeepBut w w' g none:=by
 have hu47:=Tryd.underlying47;have hu33:=Tryd.underlying33;have hu36:=Tryd.underlying36;have HR1:=a_ hr1;have HC1:=a_ hc1;clear hr1 hc1;have HI0:=a_ hI;have HK:=a_ (KeepBut.refl w g none);have HL:=a_ hB.size;clear hI;have HW0:=a_ hB.size;have HB:=a_ hB;clear hB;have H:((spec_l1Below.f s0_0 s0_1 s0_2 3).bind fun bt348=>(spec_l15Roots.l0 k l1 (([]:List (S36))) (wrap64 (1 + bt348.1)) s0_0 bt348.2.1 bt348.2.2))=some (r1,r2,r3):=h
 clear h;obtain ⟨y345,hy345⟩ : ∃ y_:List (S36),y_=(([]:List (S36))):=⟨_,rfl⟩;replace H:((spec_l1Below.f s0_0 s0_1 s0_2 3).bind fun bt348=>(spec_l15Roots.l0 k l1 y345 (wrap64 (1 + bt348.1)) s0_0 bt348.2.1 bt348.2.2))=some (r1,r2,r3):=by (rw [hy345];with_reducible exact H)
 have Ny345:=a_ hy345;clear hy345;replace H:=Option.bind_eq_some_iff.mp H;obtain ⟨⟨t348,t349,t350⟩,A30,H⟩:=H;replace H:(spec_l15Roots.l0 k l1 y345 (wrap64 (1 + t348)) s0_0 t349 t350)=some (r1,r2,r3):=H;have A3:=a_ A30;clear A30;have H':=a_ H;clear H
 go_enter Tryd.func40,Tryd.ntmps40
 go_wp2_with (first | ((with_reducible refine gate_dst (N:=8) rfl ?_);(try (refine gate_guard (by rfl) ?_;dsimp only));refine Kd.R_lit k36 _ 36 ?hg (N:=8) ?hd (xs:=([]:List (S36))) (inner:=[]) (ok:=fun _=>True) (okp:=fun _=>True) ?hr ?hp (fun _ hk=>hk) trivial (Below.refl _ _) (Nat.le_refl _) (by simp) ?_;(case hd=>rfl);(case hg=>rfl);(case hr=>(go_simp;done));(case hp=>exact (Reps.none _ _));intro v346 w4 ho5 hb hg_ hnew_;clear hg_ hnew_;(rw [← Ny345.out] at ho5);have n0_:=a_ (Kd.R_lower ho5 (keep_size (w:=w) (g:=g) (row:=none) HK.out));have n1_:=a_ (IsS82.below (by exact HI0.out) hb);have n2_:=a_ (KeepBut.trans HK.out (KeepBut.of_below hb g none) (.inl rfl));have n3_:=a_ (below_step HB.out hb);clear HI0;clear HK;clear HB;have HO347:=n0_;have HI0:=n1_;have HK:=n2_;have HB:=n3_;clear n0_ n1_ n2_ n3_;clear hb ho5) | ((with_reducible refine gate_callee (f:=32) rfl ?_);refine goesL_ (some 10) rfl rfl Tryd.func32 (by kernel_rfl) rfl #[.pointer (some ⟨g,0,none⟩),.int .i64 3] rfl (by (try simp only [List.map_toArray,List.map_cons,List.map_nil]);rfl) ?_;(with_reducible refine (spec_l1Below.calls g s0_0 s0_1 s0_2 3 t348 t349 t350 w0 _ ?side1 ?side2 A3.out).mono ?_);(case side1=>exact HI0.out);(case side2=>exact HB.out);rintro e w6 ⟨rfl,hi,hb,hk⟩;refine ⟨_,rfl,?_⟩;have n0_:=a_ (Kd.R_mono (Kd.R_keep (IsS82.apart (show IsS82 w0 _ g s0_0 s0_1 s0_2 from by exact HI0.out) (by exact HO347.out) (by decide)) hk (fun _ h=>h.2)) (fun _ h=>h.1));have n1_:=a_ (KeepBut.trans HK.out hk (.inl rfl));have n2_:=a_ (hb);have n3_:=a_ (hi);clear HO347;clear HK;clear HB;clear HI0;have HO347:=n0_;have HK:=n1_;have HB:=n2_;have HI0:=n3_;clear n0_ n1_ n2_ n3_;(try clear hb);(try clear hk);(try clear hi)))
 go_loopg [5,6] k (fun kq v5 v6 w'=>∃ (x5_1:List (S36)) (x6_1:Int) (x1001_1:Int) (x1002_1:Int),v6 = .int .i64 x6_1 ∧ Aside0 (spec_l15Roots.l0 kq l1 x5_1 x6_1 s0_0 x1001_1 x1002_1=some (r1,r2,r3)) ∧ Aside0 (kq ≤ k) ∧ Aside0 (Kd.R k36 36 w' w.heap.size (fun _=>True) v5 x5_1) ∧ Aside0 (IsS82 w0 w' g s0_0 x1001_1 x1002_1) ∧ Aside0 (KeepBut w w' g none) ∧ Aside0 (Below w0.heap.size w0 w'))
 case atStart=>exact ⟨(y345),(wrap64 (1 + t348)),(t349),(t350),(by rfl),H',⟨Nat.le_refl _⟩,⟨by exact HO347.out⟩,⟨by exact HI0.out⟩,⟨by exact HK.out⟩,⟨by exact HB.out⟩⟩
 case round=>
  clear H';obtain ⟨x5_1,x6_1,x1001_1,x1002_1,rfl,HA,HK1,HO_5,HI0,HK,HB⟩:=hrel
  cases gk with
  | zero=>exact absurd HA.out (by simp [spec_l15Roots.l0])
  | succ k1=>
   have H:=HA.out;clear HA;simp only [spec_l15Roots.l0] at H;have HC7:=a_ H;clear H
   go_upto_region 3 with (fail)
   go_cut [18] (fun v18 wc=>∃ (kq:Nat) (x18_6:Bool),v18 = .bool x18_6 ∧ Aside0 (spec_l15Roots.j1 kq l1 x5_1 x6_1 x18_6 s0_0 x1001_1 x1002_1=some (r1,r2,r3)) ∧ Aside0 (kq ≤ k1) ∧ Aside0 (Kd.R k36 36 wc w.heap.size (fun _=>True) u5 x5_1) ∧ Aside0 (IsS82 w0 wc g s0_0 x1001_1 x1002_1) ∧ Aside0 (KeepBut w wc g none) ∧ Aside0 (Below w0.heap.size w0 wc))
   case first=>
    have H:=HC7.out;clear HC7
    by_cases c8:x6_1 > 0
    ·rw [if_pos c8] at H;have c8b0:decide (0 < x6_1)=true:=decide_eq_true c8;clear c8
     (skip)
     have H':=a_ H;clear H
     go_wp2
     go_meet
     case rel=>exact ⟨_,(decide ((l1.length:Int) > 0)),(by (simp;done)),H',⟨by have:=HK1.out;omega⟩,⟨by exact HO_5.out⟩,⟨by exact HI0.out⟩,⟨by exact HK.out⟩,⟨by exact HB.out⟩⟩
    ·rw [if_neg c8] at H;have c8b0:decide (0 < x6_1)=false:=decide_eq_false c8;clear c8
     (skip)
     have H':=a_ H;clear H
     go_wp2
     go_meet
     case rel=>exact ⟨_,(false),(by rfl),H',⟨by have:=HK1.out;omega⟩,⟨by exact HO_5.out⟩,⟨by exact HI0.out⟩,⟨by exact HK.out⟩,⟨by exact HB.out⟩⟩
   case rest=>
    clear HC7;obtain ⟨kq,x18_6,rfl,HA,HJ6,HO_5,HI0,HK,HB⟩:=hcut
    cases kq with
    | zero=>exact absurd HA.out (by simp [spec_l15Roots.j1])
    | succ kj6=>
     have H:=HA.out;clear HA;simp only [spec_l15Roots.j1] at H
     by_cases c9:x18_6=true
     ·subst c9;have H1:((spec_l1Below.f s0_0 x1001_1 x1002_1 (l1.length:Int)).bind fun bt351=>(if 0 ≤ bt351.1 then (if bt351.1 < (l1.length:Int) then ((spec_l5Put.f kj6 x5_1 ((rd_T47 l1 bt351.1).f0) ((rd_T47 l1 bt351.1).f1.f0) ((rd_T47 l1 bt351.1).f1.f1) ((rd_T47 l1 bt351.1).f1.f2) ((rd_T47 l1 bt351.1).f1.f3)).bind fun t356=>(spec_l15Roots.l0 kj6 l1 t356 (wrap64 (x6_1 - 1)) s0_0 bt351.2.1 bt351.2.2)) else (none)) else (none)))=some (r1,r2,r3):=by rw [if_pos rfl] at H;exact H
      clear H;have H:=H1;clear H1;replace H:=Option.bind_eq_some_iff.mp H;obtain ⟨⟨t351,t352,t353⟩,A100,H⟩:=H;replace H:(if 0 ≤ t351 then (if t351 < (l1.length:Int) then ((spec_l5Put.f kj6 x5_1 ((rd_T47 l1 t351).f0) ((rd_T47 l1 t351).f1.f0) ((rd_T47 l1 t351).f1.f1) ((rd_T47 l1 t351).f1.f2) ((rd_T47 l1 t351).f1.f3)).bind fun t356=>(spec_l15Roots.l0 kj6 l1 t356 (wrap64 (x6_1 - 1)) s0_0 t352 t353)) else (none)) else (none))=some (r1,r2,r3):=H
      have A10:=a_ A100;clear A100
      by_cases c11:0 ≤ t351
      ·rw [if_pos c11] at H;have c11b0:decide (0 ≤ t351)=true:=decide_eq_true c11;clear c11
       by_cases c12:t351 < (l1.length:Int)
       ·rw [if_pos c12] at H;have c12b0:decide (t351 < (l1.length:Int))=true:=decide_eq_true c12;clear c12;replace H:=Option.bind_eq_some_iff.mp H;obtain ⟨t356,A130,H⟩:=H;replace H:(spec_l15Roots.l0 kj6 l1 t356 (wrap64 (x6_1 - 1)) s0_0 t352 t353)=some (r1,r2,r3):=H;have A13:=a_ A130;clear A130;have H':=a_ H;clear H
        go_wp2_with (first | ((with_reducible refine gate_callee (f:=32) rfl ?_);refine goesL_ (some 25) rfl rfl Tryd.func32 (by kernel_rfl) rfl #[.pointer (some ⟨g,0,none⟩),.int .i64 (l1.length:Int)] rfl (by (try simp only [List.map_toArray,List.map_cons,List.map_nil]);rfl) ?_;(with_reducible refine (spec_l1Below.calls g s0_0 x1001_1 x1002_1 (l1.length:Int) t351 t352 t353 w0 _ ?side1 ?side2 A10.out).mono ?_);(case side1=>exact HI0.out);(case side2=>exact HB.out);rintro e w14 ⟨rfl,hi,hb,hk⟩;refine ⟨_,rfl,?_⟩;have n0_:=a_ (Kd.R_mono (Kd.R_keep (IsS82.apart (show IsS82 w0 _ g s0_0 x1001_1 x1002_1 from by exact HI0.out) (by exact HO_5.out) (by decide)) hk (fun _ h=>h.2)) (fun _ h=>h.1));have n1_:=a_ (KeepBut.trans HK.out hk (.inl rfl));have n2_:=a_ (hb);have n3_:=a_ (hi);clear HO_5;clear HK;clear HB;clear HI0;have HO_5:=n0_;have HK:=n1_;have HB:=n2_;have HI0:=n3_;clear n0_ n1_ n2_ n3_;(try clear hb);(try clear hk);(try clear hi);have p354:0 ≤ (t351:Int):=of_decide_eq_true (by (with_reducible assumption));have q354:t351 < (l1.length:Int):=of_decide_eq_true (by (with_reducible assumption));obtain ⟨ad354,A354_5,c354_5,e354,hx354_0,hx354_1,hx354_2,hx354_3,hx354_4,hx354_5,hl354_5,hi354_5⟩:=at_T47 (Kd.C_foot_now HR1.out HK.out) t351 p354 q354;cases e354;have HR354_5:=a_ hi354_5;have HC354_5:=a_ hl354_5;clear hi354_5 hl354_5;replace p354:=eq_true p354;replace q354:=eq_true q354) | ((with_reducible refine gate_dst (N:=7) rfl ?_);(try (refine gate_guard (by rfl) ?_;dsimp only));refine box_event ?hg (N:=7) ?hd (cs:=#[.string (⟨#[]⟩:ByteArray),.int .i64 0,.int .i64 0,.int .i64 0,.string (⟨#[]⟩:ByteArray),.slice none 0 0]) (t:=47) ?hr ?_;(case hd=>rfl);(case hg=>rfl);(case hr=>(go_simp;done));intro gb355 hg w15 hbox hb;have n0_:=a_ (Kd.R_below (by exact HO_5.out) hb);have n1_:=a_ (IsS82.below (by exact HI0.out) hb);have n2_:=a_ (Kd.C_below (by exact HR354_5.out) hb);have n3_:=a_ (KeepBut.trans HK.out (KeepBut.of_below hb g none) (.inl rfl));have n4_:=a_ (below_step HB.out hb);have n5_:=a_ (hbox);have n6_:=a_ ((by rw [hg];exact (keep_size (w:=w) (g:=g) (row:=none) HK.out):w.heap.size ≤ gb355));have n7_:=a_ ((Nat.le_trans HW0.out (by rw [hg];exact (keep_size (w:=w) (g:=g) (row:=none) HK.out):w.heap.size ≤ gb355):w0.heap.size ≤ gb355));have n8_:=a_ ((by rw [hg];exact Nat.ne_of_lt (IsS82.lt (show IsS82 w0 _ g s0_0 t352 t353 from by exact HI0.out)):g ≠ gb355));have n9_:=a_ ((by rw [hg];exact Nat.ne_of_gt (IsS82.lt (show IsS82 w0 _ g s0_0 t352 t353 from by exact HI0.out)):gb355 ≠ g));clear HO_5;clear HI0;clear HR354_5;clear HK;clear HB;have HO_5:=n0_;have HI0:=n1_;have HR354_5:=n2_;have HK:=n3_;have HB:=n4_;have BK355:=n5_;have GW355:=n6_;have GE355:=n7_;have NB0_355:=n8_;have NB355_0:=n9_;clear n0_ n1_ n2_ n3_ n4_ n5_ n6_ n7_ n8_ n9_;clear hb hbox hg;have hnb16:=NB355_0.out;have hnc16:=NB0_355.out;have hcz17_0:w15.cell? ⟨gb355,0,none⟩=some (.string (⟨#[]⟩:ByteArray)):=(blk_cell BK355.out 0).trans rfl;have hcz17_1:w15.cell? ⟨gb355,1,none⟩=some (.int .i64 0):=(blk_cell BK355.out 1).trans rfl;have hcz17_2:w15.cell? ⟨gb355,2,none⟩=some (.int .i64 0):=(blk_cell BK355.out 2).trans rfl;have hcz17_3:w15.cell? ⟨gb355,3,none⟩=some (.int .i64 0):=(blk_cell BK355.out 3).trans rfl;have hcz17_4:w15.cell? ⟨gb355,4,none⟩=some (.string (⟨#[]⟩:ByteArray)):=(blk_cell BK355.out 4).trans rfl;have hcz17_5:w15.cell? ⟨gb355,5,none⟩=some (.slice none 0 0):=(blk_cell BK355.out 5).trans rfl;have hfz17_0:=blk_frozen BK355.out 0;have hfz17_1:=blk_frozen BK355.out 1;have hfz17_2:=blk_frozen BK355.out 2;have hfz17_3:=blk_frozen BK355.out 3;have hfz17_4:=blk_frozen BK355.out 4;have hfz17_5:=blk_frozen BK355.out 5;obtain ⟨Ao18,co18,eo18⟩:=Kd.R_slice HO_5.out;subst eo18) | ((with_reducible refine gate_callee (f:=49) rfl ?_);refine goesL_ (some 34) rfl rfl Tryd.func49 (by kernel_rfl) rfl #[.slice Ao18 x5_1.length co18,.agg #[.string ((rd_T47 l1 t351).f0),.int .i64 ((rd_T47 l1 t351).f1.f0),.int .i64 ((rd_T47 l1 t351).f1.f1),.int .i64 ((rd_T47 l1 t351).f1.f2),.string ((rd_T47 l1 t351).f1.f3)]] rfl (by (try simp only [List.map_toArray,List.map_cons,List.map_nil]);rfl) ?_;(with_reducible refine (spec_l5Put.calls kj6 _ _ x5_1 ((rd_T47 l1 t351).f0) ((rd_T47 l1 t351).f1.f0) ((rd_T47 l1 t351).f1.f1) ((rd_T47 l1 t351).f1.f2) ((rd_T47 l1 t351).f1.f3) t356 _ ?side1 ?side2 A13.out).mono ?_);(case side1=>refine (Kd.R_reads' (e:=36) (base:=w.heap.size) (ok:=fun k_=>True) (n:=x5_1.length) (c:=co18) ?_).2.2;exact (by exact (Kd.R_mono (Kd.R_far (p:=⟨gb355,5,none⟩) (Kd.R_far (p:=⟨gb355,4,none⟩) (Kd.R_far (p:=⟨gb355,3,none⟩) (Kd.R_far (p:=⟨gb355,2,none⟩) (Kd.R_far (p:=⟨gb355,1,none⟩) (Kd.R_far (p:=⟨gb355,0,none⟩) (Kd.R_types HO_5.out BK355.out (by decide)) (fun _ hk=>hk.2) (.string ((rd_T47 l1 t351).f0))) (fun _ hk=>hk.2) (.int .i64 ((rd_T47 l1 t351).f1.f0))) (fun _ hk=>hk.2) (.int .i64 ((rd_T47 l1 t351).f1.f1))) (fun _ hk=>hk.2) (.int .i64 ((rd_T47 l1 t351).f1.f2))) (fun _ hk=>hk.2) (.string ((rd_T47 l1 t351).f1.f3))) (fun _ hk=>hk.2) (.slice A354_5 ((rd_T47 l1 t351).f2).length c354_5)) (fun _ h_=>h_.1))));(case side2=>exact (Kd.R_reads' HO_5.out).2.1);rintro e w19 ⟨v357,rfl,ho0,hb⟩;refine ⟨_,rfl,?_⟩;have n0_:=a_ (Kd.R_elder' (by exact (Kd.R_mono (Kd.R_far (p:=⟨gb355,5,none⟩) (Kd.R_far (p:=⟨gb355,4,none⟩) (Kd.R_far (p:=⟨gb355,3,none⟩) (Kd.R_far (p:=⟨gb355,2,none⟩) (Kd.R_far (p:=⟨gb355,1,none⟩) (Kd.R_far (p:=⟨gb355,0,none⟩) (Kd.R_types HO_5.out BK355.out (by decide)) (fun _ hk=>hk.2) (.string ((rd_T47 l1 t351).f0))) (fun _ hk=>hk.2) (.int .i64 ((rd_T47 l1 t351).f1.f0))) (fun _ hk=>hk.2) (.int .i64 ((rd_T47 l1 t351).f1.f1))) (fun _ hk=>hk.2) (.int .i64 ((rd_T47 l1 t351).f1.f2))) (fun _ hk=>hk.2) (.string ((rd_T47 l1 t351).f1.f3))) (fun _ hk=>hk.2) (.slice A354_5 ((rd_T47 l1 t351).f2).length c354_5)) (fun _ h_=>h_.1))) (Kd.R_base ho0) hb);have n1_:=a_ (Kd.R_lower (Kd.R_new' ho0 (Kd.R_lt (by exact (Kd.R_mono (Kd.R_far (p:=⟨gb355,5,none⟩) (Kd.R_far (p:=⟨gb355,4,none⟩) (Kd.R_far (p:=⟨gb355,3,none⟩) (Kd.R_far (p:=⟨gb355,2,none⟩) (Kd.R_far (p:=⟨gb355,1,none⟩) (Kd.R_far (p:=⟨gb355,0,none⟩) (Kd.R_types HO_5.out BK355.out (by decide)) (fun _ hk=>hk.2) (.string ((rd_T47 l1 t351).f0))) (fun _ hk=>hk.2) (.int .i64 ((rd_T47 l1 t351).f1.f0))) (fun _ hk=>hk.2) (.int .i64 ((rd_T47 l1 t351).f1.f1))) (fun _ hk=>hk.2) (.int .i64 ((rd_T47 l1 t351).f1.f2))) (fun _ hk=>hk.2) (.string ((rd_T47 l1 t351).f1.f3))) (fun _ hk=>hk.2) (.slice A354_5 ((rd_T47 l1 t351).f2).length c354_5)) (fun _ h_=>h_.1))))) (keep_size (w:=w) (g:=g) (row:=none) (by repeat (with_reducible first | exact HK.out | refine keep_far ?_ GW355.out _))));have n2_:=a_ (IsS82.below (show IsS82 w0 ((((((w15.setCell ⟨gb355,0,none⟩ (.string ((rd_T47 l1 t351).f0))).setCell ⟨gb355,1,none⟩ (.int .i64 ((rd_T47 l1 t351).f1.f0))).setCell ⟨gb355,2,none⟩ (.int .i64 ((rd_T47 l1 t351).f1.f1))).setCell ⟨gb355,3,none⟩ (.int .i64 ((rd_T47 l1 t351).f1.f2))).setCell ⟨gb355,4,none⟩ (.string ((rd_T47 l1 t351).f1.f3))).setCell ⟨gb355,5,none⟩ (.slice A354_5 ((rd_T47 l1 t351).f2).length c354_5)) g s0_0 t352 t353 from by repeat (with_reducible first | exact HI0.out | refine IsS82.far ?_ NB0_355.out _)) hb);have n3_:=a_ (blk_below (g:=gb355) (o:=.cells #[.string ((rd_T47 l1 t351).f0),.int .i64 ((rd_T47 l1 t351).f1.f0),.int .i64 ((rd_T47 l1 t351).f1.f1),.int .i64 ((rd_T47 l1 t351).f1.f2),.string ((rd_T47 l1 t351).f1.f3),.slice A354_5 ((rd_T47 l1 t351).f2).length c354_5] 47 (0,0)) (by refine blk_put (cs:=#[.string ((rd_T47 l1 t351).f0),.int .i64 ((rd_T47 l1 t351).f1.f0),.int .i64 ((rd_T47 l1 t351).f1.f1),.int .i64 ((rd_T47 l1 t351).f1.f2),.string ((rd_T47 l1 t351).f1.f3),.slice none 0 0]) ?_ 5 _ rfl;refine blk_put (cs:=#[.string ((rd_T47 l1 t351).f0),.int .i64 ((rd_T47 l1 t351).f1.f0),.int .i64 ((rd_T47 l1 t351).f1.f1),.int .i64 ((rd_T47 l1 t351).f1.f2),.string (⟨#[]⟩:ByteArray),.slice none 0 0]) ?_ 4 _ rfl;refine blk_put (cs:=#[.string ((rd_T47 l1 t351).f0),.int .i64 ((rd_T47 l1 t351).f1.f0),.int .i64 ((rd_T47 l1 t351).f1.f1),.int .i64 0,.string (⟨#[]⟩:ByteArray),.slice none 0 0]) ?_ 3 _ rfl;refine blk_put (cs:=#[.string ((rd_T47 l1 t351).f0),.int .i64 ((rd_T47 l1 t351).f1.f0),.int .i64 0,.int .i64 0,.string (⟨#[]⟩:ByteArray),.slice none 0 0]) ?_ 2 _ rfl;refine blk_put (cs:=#[.string ((rd_T47 l1 t351).f0),.int .i64 0,.int .i64 0,.int .i64 0,.string (⟨#[]⟩:ByteArray),.slice none 0 0]) ?_ 1 _ rfl;refine blk_put (cs:=#[.string (⟨#[]⟩:ByteArray),.int .i64 0,.int .i64 0,.int .i64 0,.string (⟨#[]⟩:ByteArray),.slice none 0 0]) ?_ 0 _ rfl;exact BK355.out) hb);have n4_:=a_ (KeepBut.trans (by repeat (with_reducible first | exact HK.out | refine keep_far ?_ GW355.out _)) (KeepBut.of_below hb g none) (.inl rfl));have n5_:=a_ (below_step (by repeat (with_reducible first | exact HB.out | refine below_set ?_ GE355.out)) hb);clear HO_5;clear HI0;clear BK355;clear HK;clear HB;have HO_5:=n0_;have HO358:=n1_;have HI0:=n2_;have BK355:=n3_;have HK:=n4_;have HB:=n5_;clear n0_ n1_ n2_ n3_ n4_ n5_;(try clear hb);(try clear ho0)))
        go_roundg kj6
        case measure=>have:=HK1.out;have:=HJ6.out;omega
        case rel=>exact ⟨(t356),(wrap64 (x6_1 - 1)),(t352),(t353),(by rfl),H',⟨by have:=HK1.out;have:=HJ6.out;omega⟩,⟨by exact Kd.R_mono HO358.out (fun _ hk=>trivial)⟩,⟨by exact HI0.out⟩,⟨by exact HK.out⟩,⟨by exact HB.out⟩⟩
       ·rw [if_neg c12] at H;exact absurd H (by simp)
      ·rw [if_neg c11] at H;exact absurd H (by simp)
     ·replace c9:=Bool.eq_false_iff.mpr c9;subst c9;have H1:(some (x5_1,x1001_1,x1002_1))=some (r1,r2,r3):=by rw [if_neg (show ¬ (false=true) by decide)] at H;exact H
      clear H;have H:=H1;clear H1;simp only [Option.some.injEq,Prod.mk.injEq] at H;obtain ⟨rfl,rfl,rfl⟩:=H
      go_wp2
      go_ret
      exact ⟨_,by rfl,by exact HO_5.out,by exact HI0.out,by exact HB.out,by exact HK.out⟩
def spec_l3Part.l0:Nat → ByteArray → Int → Option (Bool)
 | 0,_,_=>none
 | k + 1,x0,x3=>if x3 < (x0.size:Int) then (if 0 ≤ x3 then ((spec_l1In.f (wrap64 (bt x0 x3)) 97 122).bind fun t362=>(if t362=true then (spec_l3Part.l0 k x0 (wrap64 (x3 + 1))) else ((spec_l1In.f (wrap64 (bt x0 x3)) 65 90).bind fun t363=>(if t363=true then (spec_l3Part.l0 k x0 (wrap64 (x3 + 1))) else ((spec_l1In.f (wrap64 (bt x0 x3)) 48 57).bind fun t364=>(if t364=true then (spec_l3Part.l0 k x0 (wrap64 (x3 + 1))) else (if (wrap64 (bt x0 x3))=45 then (spec_l3Part.l0 k x0 (wrap64 (x3 + 1))) else (some false)))))))) else (none)) else ((spec_l1In.f (x0.size:Int) 1 8).bind fun t359=>(if t359=true then ((spec_l3Digits.f k x0).bind fun t360=>(if t360=true then ((spec_l3Number.f k x0).bind fun t361=>(some (decide (t361 ≥ 0)))) else (some true))) else (some false)))
def spec_l3Part.f (k:Nat) (a0:ByteArray):Option (Bool):=spec_l3Part.l0 k a0 0
theorem spec_l3Part.mono_l : ∀ k,(∀ y0 y1,LeO (spec_l3Part.l0 k y0 y1) (spec_l3Part.l0 (k + 1) y0 y1))
 | 0=>fun _ _ r h=>by simp [spec_l3Part.l0] at h
 | k + 1=>by
  have ih0:=spec_l3Part.mono_l k
  ·intro y0 y1;unfold spec_l3Part.l0
   repeat' first
   | (with_reducible exact ih0 _ _)
   | (with_reducible exact spec_l3Digits.mono _ _)
   | (with_reducible exact spec_l3Number.mono _ _)
   | (with_reducible exact LeO.refl _)
   | (with_reducible refine LeO.ite ?_ ?_)
   | (with_reducible refine LeO.bind ?_ (fun _=>?_))
theorem spec_l3Part.mono : ∀ a0 k,LeO (spec_l3Part.f k a0) (spec_l3Part.f (k + 1) a0):=by
 intro a0 k;have ih0:=spec_l3Part.mono_l k;unfold spec_l3Part.f
 repeat' (with_reducible exact ih0 _ _)
set_option maxHeartbeats 8000000 in
set_option maxRecDepth 100000 in
theorem spec_l3Part.calls (k:Nat) (a0:ByteArray) (r:Bool) (w:World) (h:spec_l3Part.f k a0=some r) :
 Calls Tryd.prog 104 #[.string a0] w fun e w'=>e = .returned (.bool r) ∧ Drawn0 w w':=by
 have H:(spec_l3Part.l0 k a0 0)=some r:=h;clear h;have H':=a_ H;clear H
 go_enter Tryd.func104,Tryd.ntmps104
 go_wp2
 go_loopg [3] k (fun kq v3 w'=>∃ (x3_1:Int),v3 = .int .i64 x3_1 ∧ Aside0 (spec_l3Part.l0 kq a0 x3_1=some r) ∧ Aside0 (kq ≤ k) ∧ Drawn0 w w')
 case atStart=>exact ⟨(0),(by rfl),H',⟨Nat.le_refl _⟩,by repeat (exact Drawn0.refl _)⟩
 case round=>
  clear H';obtain ⟨x3_1,rfl,HA,HK1,⟨m1,rfl⟩⟩:=hrel
  cases gk with
  | zero=>exact absurd HA.out (by simp [spec_l3Part.l0])
  | succ k1=>
   have H:=HA.out;clear HA;simp only [spec_l3Part.l0] at H
   by_cases c2:x3_1 < (a0.size:Int)
   ·rw [if_pos c2] at H;have c2b0:decide (x3_1 < (a0.size:Int))=true:=decide_eq_true c2;clear c2
    by_cases c3:0 ≤ x3_1
    ·rw [if_pos c3] at H;have c3b0:decide (0 ≤ x3_1)=true:=decide_eq_true c3;clear c3;replace H:=Option.bind_eq_some_iff.mp H;obtain ⟨t362,A50,H⟩:=H;replace H:(if t362=true then (spec_l3Part.l0 k1 a0 (wrap64 (x3_1 + 1))) else ((spec_l1In.f (wrap64 (bt a0 x3_1)) 65 90).bind fun t363=>(if t363=true then (spec_l3Part.l0 k1 a0 (wrap64 (x3_1 + 1))) else ((spec_l1In.f (wrap64 (bt a0 x3_1)) 48 57).bind fun t364=>(if t364=true then (spec_l3Part.l0 k1 a0 (wrap64 (x3_1 + 1))) else (if (wrap64 (bt a0 x3_1))=45 then (spec_l3Part.l0 k1 a0 (wrap64 (x3_1 + 1))) else (some false)))))))=some r:=H
     have A5:=a_ A50;clear A50
     by_cases c6:t362=true
     ·subst c6;have H1:(spec_l3Part.l0 k1 a0 (wrap64 (x3_1 + 1)))=some r:=by rw [if_pos rfl] at H;exact H
      clear H;have H:=H1;clear H1;have H':=a_ H;clear H;have p4:0 ≤ (x3_1:Int):=of_decide_eq_true (by (with_reducible assumption));have q4:x3_1 < (a0.size:Int):=of_decide_eq_true (by (with_reducible assumption));have hx4:=bt_at a0 x3_1;replace p4:=eq_true p4;replace q4:=eq_true q4
      go_wp2_with (((with_reducible refine gate_callee (f:=88) rfl ?_);refine goesL_ (some 16) rfl rfl Tryd.func88 (by kernel_rfl) rfl #[.int .i64 (wrap64 (bt a0 x3_1)),.int .i64 97,.int .i64 122] rfl (by (try simp only [List.map_toArray,List.map_cons,List.map_nil]);rfl) ?_;(with_reducible refine (spec_l1In.calls (wrap64 (bt a0 x3_1)) 97 122 true _ A5.out).mono ?_);rintro e w' ⟨rfl,⟨nd,rfl⟩⟩;refine ⟨_,rfl,?_⟩))
      go_roundg k1
      case measure=>have:=HK1.out;omega
      case rel=>exact ⟨(wrap64 (x3_1 + 1)),(by rfl),H',⟨by have:=HK1.out;omega⟩,by repeat (first | exact Drawn0.refl _ | apply Drawn0.step)⟩
     ·replace c6:=Bool.eq_false_iff.mpr c6;subst c6;have H1:((spec_l1In.f (wrap64 (bt a0 x3_1)) 65 90).bind fun t363=>(if t363=true then (spec_l3Part.l0 k1 a0 (wrap64 (x3_1 + 1))) else ((spec_l1In.f (wrap64 (bt a0 x3_1)) 48 57).bind fun t364=>(if t364=true then (spec_l3Part.l0 k1 a0 (wrap64 (x3_1 + 1))) else (if (wrap64 (bt a0 x3_1))=45 then (spec_l3Part.l0 k1 a0 (wrap64 (x3_1 + 1))) else (some false))))))=some r:=by rw [if_neg (show ¬ (false=true) by decide)] at H;exact H
      clear H;have H:=H1;clear H1;replace H:=Option.bind_eq_some_iff.mp H;obtain ⟨t363,A70,H⟩:=H;replace H:(if t363=true then (spec_l3Part.l0 k1 a0 (wrap64 (x3_1 + 1))) else ((spec_l1In.f (wrap64 (bt a0 x3_1)) 48 57).bind fun t364=>(if t364=true then (spec_l3Part.l0 k1 a0 (wrap64 (x3_1 + 1))) else (if (wrap64 (bt a0 x3_1))=45 then (spec_l3Part.l0 k1 a0 (wrap64 (x3_1 + 1))) else (some false)))))=some r:=H
      have A7:=a_ A70;clear A70
      by_cases c8:t363=true
      ·subst c8;have H1:(spec_l3Part.l0 k1 a0 (wrap64 (x3_1 + 1)))=some r:=by rw [if_pos rfl] at H;exact H
       clear H;have H:=H1;clear H1;have H':=a_ H;clear H;have p4:0 ≤ (x3_1:Int):=of_decide_eq_true (by (with_reducible assumption));have q4:x3_1 < (a0.size:Int):=of_decide_eq_true (by (with_reducible assumption));have hx4:=bt_at a0 x3_1;replace p4:=eq_true p4;replace q4:=eq_true q4
       go_wp2_with (first | ((with_reducible refine gate_callee (f:=88) rfl ?_);refine goesL_ (some 16) rfl rfl Tryd.func88 (by kernel_rfl) rfl #[.int .i64 (wrap64 (bt a0 x3_1)),.int .i64 97,.int .i64 122] rfl (by (try simp only [List.map_toArray,List.map_cons,List.map_nil]);rfl) ?_;(with_reducible refine (spec_l1In.calls (wrap64 (bt a0 x3_1)) 97 122 false _ A5.out).mono ?_);rintro e w' ⟨rfl,⟨nd,rfl⟩⟩;refine ⟨_,rfl,?_⟩) | (go_at_call 88;(with_reducible refine (spec_l1In.calls (wrap64 (bt a0 x3_1)) 65 90 true _ A7.out).mono ?_);rintro e w' ⟨rfl,⟨nd,rfl⟩⟩))
       go_roundg k1
       case measure=>have:=HK1.out;omega
       case rel=>exact ⟨(wrap64 (x3_1 + 1)),(by rfl),H',⟨by have:=HK1.out;omega⟩,by repeat (first | exact Drawn0.refl _ | apply Drawn0.step)⟩
      ·replace c8:=Bool.eq_false_iff.mpr c8;subst c8;have H1:((spec_l1In.f (wrap64 (bt a0 x3_1)) 48 57).bind fun t364=>(if t364=true then (spec_l3Part.l0 k1 a0 (wrap64 (x3_1 + 1))) else (if (wrap64 (bt a0 x3_1))=45 then (spec_l3Part.l0 k1 a0 (wrap64 (x3_1 + 1))) else (some false))))=some r:=by rw [if_neg (show ¬ (false=true) by decide)] at H;exact H
       clear H;have H:=H1;clear H1;replace H:=Option.bind_eq_some_iff.mp H;obtain ⟨t364,A90,H⟩:=H;replace H:(if t364=true then (spec_l3Part.l0 k1 a0 (wrap64 (x3_1 + 1))) else (if (wrap64 (bt a0 x3_1))=45 then (spec_l3Part.l0 k1 a0 (wrap64 (x3_1 + 1))) else (some false)))=some r:=H;have A9:=a_ A90;clear A90
       by_cases c10:t364=true
       ·subst c10;have H1:(spec_l3Part.l0 k1 a0 (wrap64 (x3_1 + 1)))=some r:=by rw [if_pos rfl] at H;exact H
        clear H;have H:=H1;clear H1;have H':=a_ H;clear H;have p4:0 ≤ (x3_1:Int):=of_decide_eq_true (by (with_reducible assumption));have q4:x3_1 < (a0.size:Int):=of_decide_eq_true (by (with_reducible assumption));have hx4:=bt_at a0 x3_1;replace p4:=eq_true p4;replace q4:=eq_true q4
        go_wp2_with (first | ((with_reducible refine gate_callee (f:=88) rfl ?_);refine goesL_ (some 16) rfl rfl Tryd.func88 (by kernel_rfl) rfl #[.int .i64 (wrap64 (bt a0 x3_1)),.int .i64 97,.int .i64 122] rfl (by (try simp only [List.map_toArray,List.map_cons,List.map_nil]);rfl) ?_;(with_reducible refine (spec_l1In.calls (wrap64 (bt a0 x3_1)) 97 122 false _ A5.out).mono ?_);rintro e w' ⟨rfl,⟨nd,rfl⟩⟩;refine ⟨_,rfl,?_⟩) | (go_at_call 88;(with_reducible refine (spec_l1In.calls (wrap64 (bt a0 x3_1)) 65 90 false _ A7.out).mono ?_);rintro e w' ⟨rfl,⟨nd,rfl⟩⟩) | (go_at_call 88;(with_reducible refine (spec_l1In.calls (wrap64 (bt a0 x3_1)) 48 57 true _ A9.out).mono ?_);rintro e w' ⟨rfl,⟨nd,rfl⟩⟩))
        go_roundg k1
        case measure=>have:=HK1.out;omega
        case rel=>exact ⟨(wrap64 (x3_1 + 1)),(by rfl),H',⟨by have:=HK1.out;omega⟩,by repeat (first | exact Drawn0.refl _ | apply Drawn0.step)⟩
       ·replace c10:=Bool.eq_false_iff.mpr c10;subst c10;have H1:(if (wrap64 (bt a0 x3_1))=45 then (spec_l3Part.l0 k1 a0 (wrap64 (x3_1 + 1))) else (some false))=some r:=by rw [if_neg (show ¬ (false=true) by decide)] at H;exact H
        clear H;have H:=H1;clear H1
        by_cases c11:(wrap64 (bt a0 x3_1))=45
        ·rw [if_pos c11] at H;have c11b0:((wrap64 (bt a0 x3_1)) == 45)=true:=beq_iff_eq.mpr c11;have c11b1:((wrap64 (bt a0 x3_1)) != 45)=false:=bne_eq_false_iff_eq.mpr c11;clear c11;have H':=a_ H;clear H;have p4:0 ≤ (x3_1:Int):=of_decide_eq_true (by (with_reducible assumption));have q4:x3_1 < (a0.size:Int):=of_decide_eq_true (by (with_reducible assumption));have hx4:=bt_at a0 x3_1;replace p4:=eq_true p4
         replace q4:=eq_true q4
         go_wp2_with (first | ((with_reducible refine gate_callee (f:=88) rfl ?_);refine goesL_ (some 16) rfl rfl Tryd.func88 (by kernel_rfl) rfl #[.int .i64 (wrap64 (bt a0 x3_1)),.int .i64 97,.int .i64 122] rfl (by (try simp only [List.map_toArray,List.map_cons,List.map_nil]);rfl) ?_;(with_reducible refine (spec_l1In.calls (wrap64 (bt a0 x3_1)) 97 122 false _ A5.out).mono ?_);rintro e w' ⟨rfl,⟨nd,rfl⟩⟩;refine ⟨_,rfl,?_⟩) | (go_at_call 88;(with_reducible refine (spec_l1In.calls (wrap64 (bt a0 x3_1)) 65 90 false _ A7.out).mono ?_);rintro e w' ⟨rfl,⟨nd,rfl⟩⟩) | (go_at_call 88;(with_reducible refine (spec_l1In.calls (wrap64 (bt a0 x3_1)) 48 57 false _ A9.out).mono ?_);rintro e w' ⟨rfl,⟨nd,rfl⟩⟩))
         go_roundg k1
         case measure=>have:=HK1.out;omega
         case rel=>exact ⟨(wrap64 (x3_1 + 1)),(by rfl),H',⟨by have:=HK1.out;omega⟩,by repeat (first | exact Drawn0.refl _ | apply Drawn0.step)⟩
        ·rw [if_neg c11] at H;have c11b0:((wrap64 (bt a0 x3_1)) == 45)=false:=beq_eq_false_iff_ne.mpr c11;have c11b1:((wrap64 (bt a0 x3_1)) != 45)=true:=bne_iff_ne.mpr c11;obtain rfl:=Option.some.inj H;have p4:0 ≤ (x3_1:Int):=of_decide_eq_true (by (with_reducible assumption));have q4:x3_1 < (a0.size:Int):=of_decide_eq_true (by (with_reducible assumption));have hx4:=bt_at a0 x3_1;replace p4:=eq_true p4
         replace q4:=eq_true q4
         go_wp2_with (first | ((with_reducible refine gate_callee (f:=88) rfl ?_);refine goesL_ (some 16) rfl rfl Tryd.func88 (by kernel_rfl) rfl #[.int .i64 (wrap64 (bt a0 x3_1)),.int .i64 97,.int .i64 122] rfl (by (try simp only [List.map_toArray,List.map_cons,List.map_nil]);rfl) ?_;(with_reducible refine (spec_l1In.calls (wrap64 (bt a0 x3_1)) 97 122 false _ A5.out).mono ?_);rintro e w' ⟨rfl,⟨nd,rfl⟩⟩;refine ⟨_,rfl,?_⟩) | (go_at_call 88;(with_reducible refine (spec_l1In.calls (wrap64 (bt a0 x3_1)) 65 90 false _ A7.out).mono ?_);rintro e w' ⟨rfl,⟨nd,rfl⟩⟩) | (go_at_call 88;(with_reducible refine (spec_l1In.calls (wrap64 (bt a0 x3_1)) 48 57 false _ A9.out).mono ?_);rintro e w' ⟨rfl,⟨nd,rfl⟩⟩))
         go_ret
         exact ⟨by rfl,by repeat (first | exact Drawn0.refl _ | apply Drawn0.step)⟩
    ·rw [if_neg c3] at H;exact absurd H (by simp)
   ·rw [if_neg c2] at H;have c2b0:decide (x3_1 < (a0.size:Int))=false:=decide_eq_false c2;clear c2;replace H:=Option.bind_eq_some_iff.mp H;obtain ⟨t359,A120,H⟩:=H;replace H:(if t359=true then ((spec_l3Digits.f k1 a0).bind fun t360=>(if t360=true then ((spec_l3Number.f k1 a0).bind fun t361=>(some (decide (t361 ≥ 0)))) else (some true))) else (some false))=some r:=H;have A12:=a_ A120;clear A120
    by_cases c13:t359=true
    ·subst c13;have H1:((spec_l3Digits.f k1 a0).bind fun t360=>(if t360=true then ((spec_l3Number.f k1 a0).bind fun t361=>(some (decide (t361 ≥ 0)))) else (some true)))=some r:=by rw [if_pos rfl] at H;exact H
     clear H;have H:=H1;clear H1;replace H:=Option.bind_eq_some_iff.mp H;obtain ⟨t360,A140,H⟩:=H;replace H:(if t360=true then ((spec_l3Number.f k1 a0).bind fun t361=>(some (decide (t361 ≥ 0)))) else (some true))=some r:=H;have A14:=a_ A140;clear A140
     by_cases c15:t360=true
     ·subst c15;have H1:((spec_l3Number.f k1 a0).bind fun t361=>(some (decide (t361 ≥ 0))))=some r:=by rw [if_pos rfl] at H;exact H
      clear H;have H:=H1;clear H1;replace H:=Option.bind_eq_some_iff.mp H;obtain ⟨t361,A160,H⟩:=H;replace H:(some (decide (t361 ≥ 0)))=some r:=H;have A16:=a_ A160;clear A160;obtain rfl:=Option.some.inj H
      go_wp2_with (first | ((with_reducible refine gate_callee (f:=88) rfl ?_);refine goesL_ (some 34) rfl rfl Tryd.func88 (by kernel_rfl) rfl #[.int .i64 (a0.size:Int),.int .i64 1,.int .i64 8] rfl (by (try simp only [List.map_toArray,List.map_cons,List.map_nil]);rfl) ?_;(with_reducible refine (spec_l1In.calls (a0.size:Int) 1 8 true _ A12.out).mono ?_);rintro e w' ⟨rfl,⟨nd,rfl⟩⟩;refine ⟨_,rfl,?_⟩) | (go_at_call 85;(with_reducible refine (spec_l3Digits.calls k1 a0 true _ A14.out).mono ?_);rintro e w' ⟨rfl,⟨nd,rfl⟩⟩) | (go_at_call 73;(with_reducible refine (spec_l3Number.calls k1 a0 t361 _ A16.out).mono ?_);rintro e w' ⟨rfl,⟨nd,rfl⟩⟩))
      go_ret
      exact ⟨by rfl,by repeat (first | exact Drawn0.refl _ | apply Drawn0.step)⟩
     ·replace c15:=Bool.eq_false_iff.mpr c15;subst c15;have H1:(some true)=some r:=by rw [if_neg (show ¬ (false=true) by decide)] at H;exact H
      clear H;have H:=H1;clear H1;obtain rfl:=Option.some.inj H
      go_wp2_with (first | ((with_reducible refine gate_callee (f:=88) rfl ?_);refine goesL_ (some 34) rfl rfl Tryd.func88 (by kernel_rfl) rfl #[.int .i64 (a0.size:Int),.int .i64 1,.int .i64 8] rfl (by (try simp only [List.map_toArray,List.map_cons,List.map_nil]);rfl) ?_;(with_reducible refine (spec_l1In.calls (a0.size:Int) 1 8 true _ A12.out).mono ?_);rintro e w' ⟨rfl,⟨nd,rfl⟩⟩;refine ⟨_,rfl,?_⟩) | (go_at_call 85;(with_reducible refine (spec_l3Digits.calls k1 a0 false _ A14.out).mono ?_);rintro e w' ⟨rfl,⟨nd,rfl⟩⟩))
      go_ret
      exact ⟨by rfl,by repeat (first | exact Drawn0.refl _ | apply Drawn0.step)⟩
    ·replace c13:=Bool.eq_false_iff.mpr c13;subst c13;have H1:(some false)=some r:=by rw [if_neg (show ¬ (false=true) by decide)] at H;exact H
     clear H;have H:=H1;clear H1;obtain rfl:=Option.some.inj H
     go_wp2_with (((with_reducible refine gate_callee (f:=88) rfl ?_);refine goesL_ (some 34) rfl rfl Tryd.func88 (by kernel_rfl) rfl #[.int .i64 (a0.size:Int),.int .i64 1,.int .i64 8] rfl (by (try simp only [List.map_toArray,List.map_cons,List.map_nil]);rfl) ?_;(with_reducible refine (spec_l1In.calls (a0.size:Int) 1 8 false _ A12.out).mono ?_);rintro e w' ⟨rfl,⟨nd,rfl⟩⟩;refine ⟨_,rfl,?_⟩))
     go_ret
     exact ⟨by rfl,by repeat (first | exact Drawn0.refl _ | apply Drawn0.step)⟩
def spec_l3Pre.l0:Nat → List ByteArray → Int → Option (Bool)
 | 0,_,_=>none
 | k + 1,x3,x4=>if x4 < (x3.length:Int) then (if 0 ≤ x4 then ((spec_l3Part.f k (rdOf ByteArray.empty x3 x4)).bind fun t369=>(if t369=true then (spec_l3Pre.l0 k x3 (wrap64 (x4 + 1))) else (some false))) else (none)) else (some (decide ((x3.length:Int) ≤ 4)))
def spec_l3Pre.f (k:Nat) (a0:ByteArray):Option (Bool):=(spec_l3Split.f k a0 46).bind fun t365=>(spec_l3Pre.l0 k t365 0)
theorem spec_l3Pre.mono_l : ∀ k,(∀ y0 y1,LeO (spec_l3Pre.l0 k y0 y1) (spec_l3Pre.l0 (k + 1) y0 y1))
 | 0=>fun _ _ r h=>by simp [spec_l3Pre.l0] at h
 | k + 1=>by
  have ih0:=spec_l3Pre.mono_l k
  ·intro y0 y1;unfold spec_l3Pre.l0
   repeat' first
   | (with_reducible exact ih0 _ _)
   | (with_reducible exact spec_l3Part.mono _ _)
   | (with_reducible exact LeO.refl _)
   | (with_reducible refine LeO.ite ?_ ?_)
   | (with_reducible refine LeO.bind ?_ (fun _=>?_))
theorem spec_l3Pre.mono : ∀ a0 k,LeO (spec_l3Pre.f k a0) (spec_l3Pre.f (k + 1) a0):=by
 intro a0 k;have ih0:=spec_l3Pre.mono_l k;unfold spec_l3Pre.f
 repeat' first
  | (with_reducible exact ih0 _ _)
  | (with_reducible exact spec_l3Split.mono _ _ _)
  | (with_reducible refine LeO.bind ?_ (fun _=>?_))
set_option maxHeartbeats 8000000 in
set_option maxRecDepth 100000 in
theorem spec_l3Pre.calls (k:Nat) (a0:ByteArray) (r:Bool) (w:World) (h:spec_l3Pre.f k a0=some r) :
 Calls Tryd.prog 101 #[.string a0] w fun e w'=>e = .returned (.bool r) ∧ Below w.heap.size w w':=by
 have HB:=a_ (Below.refl w.heap.size w);have H:((spec_l3Split.f k a0 46).bind fun t365=>(spec_l3Pre.l0 k t365 0))=some r:=h;clear h;replace H:=Option.bind_eq_some_iff.mp H;obtain ⟨t365,A20,H⟩:=H;replace H:(spec_l3Pre.l0 k t365 0)=some r:=H;have A2:=a_ A20;clear A20;have H':=a_ H;clear H
 go_enter Tryd.func101,Tryd.ntmps101
 go_wp2_with (((with_reducible refine gate_callee (f:=58) rfl ?_);refine goesL_ (some 6) rfl rfl Tryd.func58 (by kernel_rfl) rfl #[.string a0,.int .u8 46] rfl (by (try simp only [List.map_toArray,List.map_cons,List.map_nil]);rfl) ?_;(with_reducible refine (spec_l3Split.calls k a0 46 t365 _ A2.out).mono ?_);rintro e w3 ⟨v366,rfl,ho0,hb⟩;refine ⟨_,rfl,?_⟩;have n0_:=a_ (Kd.R_lower ho0 (below_size HB.out));have n1_:=a_ (below_step HB.out hb);clear HB;have HO367:=n0_;have HB:=n1_;clear n0_ n1_;(try clear hb);(try clear ho0)))
 go_loopg [4] k (fun kq v4 w'=>∃ (x4_1:Int),v4 = .int .i64 x4_1 ∧ Aside0 (spec_l3Pre.l0 kq t365 x4_1=some r) ∧ Aside0 (kq ≤ k) ∧ Aside0 (Kd.R Kd.string 9 w' w.heap.size (fun _=>True) v366 t365) ∧ Aside0 (Below w.heap.size w w'))
 case atStart=>exact ⟨(0),(by rfl),H',⟨Nat.le_refl _⟩,⟨by exact HO367.out⟩,⟨by exact HB.out⟩⟩
 case round=>
  clear H';obtain ⟨x4_1,rfl,HA,HK1,HO_3,HB⟩:=hrel
  cases gk with
  | zero=>exact absurd HA.out (by simp [spec_l3Pre.l0])
  | succ k1=>
   have H:=HA.out;clear HA;simp only [spec_l3Pre.l0] at H
   by_cases c4:x4_1 < (t365.length:Int)
   ·rw [if_pos c4] at H;have c4b0:decide (x4_1 < (t365.length:Int))=true:=decide_eq_true c4;clear c4
    by_cases c5:0 ≤ x4_1
    ·rw [if_pos c5] at H;have c5b0:decide (0 ≤ x4_1)=true:=decide_eq_true c5;clear c5;replace H:=Option.bind_eq_some_iff.mp H;obtain ⟨t369,A60,H⟩:=H;replace H:(if t369=true then (spec_l3Pre.l0 k1 t365 (wrap64 (x4_1 + 1))) else (some false))=some r:=H;have A6:=a_ A60;clear A60
     by_cases c7:t369=true
     ·subst c7;have H1:(spec_l3Pre.l0 k1 t365 (wrap64 (x4_1 + 1)))=some r:=by rw [if_pos rfl] at H;exact H
      clear H;have H:=H1;clear H1;have H':=a_ H;clear H;obtain ⟨Ao8,co8,eo8⟩:=Kd.R_slice HO_3.out;subst eo8;have p368:0 ≤ (x4_1:Int):=of_decide_eq_true (by (with_reducible assumption));have q368:x4_1 < (t365.length:Int):=of_decide_eq_true (by (with_reducible assumption));obtain ⟨ad368,e368,hx368_0⟩:=Kd.at_string (Kd.R_reads' HO_3.out).2.2 x4_1 p368 q368;cases e368;replace p368:=eq_true p368;replace q368:=eq_true q368
      go_wp2_with (((with_reducible refine gate_callee (f:=104) rfl ?_);refine goesL_ (some 17) rfl rfl Tryd.func104 (by kernel_rfl) rfl #[.string (rdOf ByteArray.empty t365 x4_1)] rfl (by (try simp only [List.map_toArray,List.map_cons,List.map_nil]);rfl) ?_;(with_reducible refine (spec_l3Part.calls k1 (rdOf ByteArray.empty t365 x4_1) true _ A6.out).mono ?_);rintro e w' ⟨rfl,⟨nd,rfl⟩⟩;refine ⟨_,rfl,?_⟩))
      go_roundg k1
      case measure=>have:=HK1.out;omega
      case rel=>exact ⟨(wrap64 (x4_1 + 1)),(by rfl),H',⟨by have:=HK1.out;omega⟩,⟨by (with_reducible repeat (apply Kd.R_drewN));exact HO_3.out⟩,⟨by repeat (with_reducible first | exact HB.out | apply pw_below_drewN)⟩⟩
     ·replace c7:=Bool.eq_false_iff.mpr c7;subst c7;have H1:(some false)=some r:=by rw [if_neg (show ¬ (false=true) by decide)] at H;exact H
      clear H;have H:=H1;clear H1;obtain rfl:=Option.some.inj H;obtain ⟨Ao9,co9,eo9⟩:=Kd.R_slice HO_3.out;subst eo9;have p368:0 ≤ (x4_1:Int):=of_decide_eq_true (by (with_reducible assumption));have q368:x4_1 < (t365.length:Int):=of_decide_eq_true (by (with_reducible assumption));obtain ⟨ad368,e368,hx368_0⟩:=Kd.at_string (Kd.R_reads' HO_3.out).2.2 x4_1 p368 q368;cases e368;replace p368:=eq_true p368
      replace q368:=eq_true q368
      go_wp2_with (((with_reducible refine gate_callee (f:=104) rfl ?_);refine goesL_ (some 17) rfl rfl Tryd.func104 (by kernel_rfl) rfl #[.string (rdOf ByteArray.empty t365 x4_1)] rfl (by (try simp only [List.map_toArray,List.map_cons,List.map_nil]);rfl) ?_;(with_reducible refine (spec_l3Part.calls k1 (rdOf ByteArray.empty t365 x4_1) false _ A6.out).mono ?_);rintro e w' ⟨rfl,⟨nd,rfl⟩⟩;refine ⟨_,rfl,?_⟩))
      go_ret
      exact ⟨by rfl,by repeat (with_reducible first | exact HB.out | apply pw_below_drewN)⟩
    ·rw [if_neg c5] at H;exact absurd H (by simp)
   ·rw [if_neg c4] at H;have c4b0:decide (x4_1 < (t365.length:Int))=false:=decide_eq_false c4;clear c4;obtain rfl:=Option.some.inj H;obtain ⟨Ao10,co10,eo10⟩:=Kd.R_slice HO_3.out;subst eo10
    go_wp2
    go_ret
    exact ⟨by rfl,by exact HB.out⟩
def spec_VersionOk.f (k:Nat) (a0_0:Int) (a0_1:Int) (a0_2:Int) (a0_3:ByteArray):Option (Bool):=(spec_l1In.f a0_0 0 1000000).bind fun t371=>(if t371=true then ((spec_l1In.f a0_1 0 1000000).bind fun t372=>(if t372=true then ((spec_l1In.f a0_2 0 1000000).bind fun t373=>(if t373=true then (if a0_3.toList=([]:List UInt8) then (some true) else ((spec_l3Pre.f k a0_3).bind fun t374=>(some t374))) else (some false))) else (some false))) else (some false))
theorem spec_VersionOk.mono : ∀ a0 a1 a2 a3 k,LeO (spec_VersionOk.f k a0 a1 a2 a3) (spec_VersionOk.f (k + 1) a0 a1 a2 a3):=by
 intro a0 a1 a2 a3 k;unfold spec_VersionOk.f
 repeat' first
  | (with_reducible exact spec_l3Pre.mono _ _)
  | (with_reducible exact LeO.refl _)
  | (with_reducible refine LeO.ite ?_ ?_)
  | (with_reducible refine LeO.bind ?_ (fun _=>?_))
set_option maxHeartbeats 8000000 in
set_option maxRecDepth 100000 in
theorem spec_VersionOk.calls (k:Nat) (a0_0:Int) (a0_1:Int) (a0_2:Int) (a0_3:ByteArray) (r:Bool) (w:World) (h:spec_VersionOk.f k a0_0 a0_1 a0_2 a0_3=some r) :
 Calls Tryd.prog 94 #[.agg #[.int .i64 a0_0,.int .i64 a0_1,.int .i64 a0_2,.string a0_3]] w fun e w'=>e = .returned (.bool r) ∧ Below w.heap.size w w':=by
 have hu33:=Tryd.underlying33;have HB:=a_ (Below.refl w.heap.size w);have H:((spec_l1In.f a0_0 0 1000000).bind fun t371=>(if t371=true then ((spec_l1In.f a0_1 0 1000000).bind fun t372=>(if t372=true then ((spec_l1In.f a0_2 0 1000000).bind fun t373=>(if t373=true then (if a0_3.toList=([]:List UInt8) then (some true) else ((spec_l3Pre.f k a0_3).bind fun t374=>(some t374))) else (some false))) else (some false))) else (some false)))=some r:=h
 clear h;replace H:=Option.bind_eq_some_iff.mp H;obtain ⟨t371,A20,H⟩:=H;replace H:(if t371=true then ((spec_l1In.f a0_1 0 1000000).bind fun t372=>(if t372=true then ((spec_l1In.f a0_2 0 1000000).bind fun t373=>(if t373=true then (if a0_3.toList=([]:List UInt8) then (some true) else ((spec_l3Pre.f k a0_3).bind fun t374=>(some t374))) else (some false))) else (some false))) else (some false))=some r:=H
 have A2:=a_ A20;clear A20
 by_cases c3:t371=true
 ·subst c3;have H1:((spec_l1In.f a0_1 0 1000000).bind fun t372=>(if t372=true then ((spec_l1In.f a0_2 0 1000000).bind fun t373=>(if t373=true then (if a0_3.toList=([]:List UInt8) then (some true) else ((spec_l3Pre.f k a0_3).bind fun t374=>(some t374))) else (some false))) else (some false)))=some r:=by rw [if_pos rfl] at H;exact H
  clear H;have H:=H1;clear H1;replace H:=Option.bind_eq_some_iff.mp H;obtain ⟨t372,A40,H⟩:=H;replace H:(if t372=true then ((spec_l1In.f a0_2 0 1000000).bind fun t373=>(if t373=true then (if a0_3.toList=([]:List UInt8) then (some true) else ((spec_l3Pre.f k a0_3).bind fun t374=>(some t374))) else (some false))) else (some false))=some r:=H;have A4:=a_ A40;clear A40
  by_cases c5:t372=true
  ·subst c5;have H1:((spec_l1In.f a0_2 0 1000000).bind fun t373=>(if t373=true then (if a0_3.toList=([]:List UInt8) then (some true) else ((spec_l3Pre.f k a0_3).bind fun t374=>(some t374))) else (some false)))=some r:=by rw [if_pos rfl] at H;exact H
   clear H;have H:=H1;clear H1;replace H:=Option.bind_eq_some_iff.mp H;obtain ⟨t373,A60,H⟩:=H;replace H:(if t373=true then (if a0_3.toList=([]:List UInt8) then (some true) else ((spec_l3Pre.f k a0_3).bind fun t374=>(some t374))) else (some false))=some r:=H;have A6:=a_ A60;clear A60
   by_cases c7:t373=true
   ·subst c7;have H1:(if a0_3.toList=([]:List UInt8) then (some true) else ((spec_l3Pre.f k a0_3).bind fun t374=>(some t374)))=some r:=by rw [if_pos rfl] at H;exact H
    clear H;have H:=H1;clear H1
    by_cases c8:a0_3.toList=([]:List UInt8)
    ·rw [if_pos c8] at H;have c8b0:(a0_3.toList == ([]:List UInt8))=true:=beq_iff_eq.mpr c8;have c8b1:(a0_3.toList != ([]:List UInt8))=false:=bne_eq_false_iff_eq.mpr c8;clear c8;obtain rfl:=Option.some.inj H
     go_enter Tryd.func94,Tryd.ntmps94
     go_wp2_with (first | ((with_reducible refine gate_dst (N:=1) rfl ?_);refine box_event ?hg (N:=1) ?hd (cs:=#[.int .i64 a0_0,.int .i64 a0_1,.int .i64 a0_2,.string a0_3]) (t:=33) ?hr ?_;(case hd=>rfl);(case hg=>rfl);(case hr=>(go_simp;done));intro gb370 hg w9 hbox hb;have n0_:=a_ (below_step HB.out hb);have n1_:=a_ (hbox);have n2_:=a_ ((by rw [hg];exact (below_size HB.out):w.heap.size ≤ gb370));have n3_:=a_ ((by rw [hg];exact (below_size HB.out):w.heap.size ≤ gb370));clear HB;have HB:=n0_;have BK370:=n1_;have GW370:=n2_;have GE370:=n3_;clear n0_ n1_ n2_ n3_;clear hb hbox hg;have hcz10_0:w9.cell? ⟨gb370,0,none⟩=some (.int .i64 a0_0):=(blk_cell BK370.out 0).trans rfl;have hcz10_1:w9.cell? ⟨gb370,1,none⟩=some (.int .i64 a0_1):=(blk_cell BK370.out 1).trans rfl;have hcz10_2:w9.cell? ⟨gb370,2,none⟩=some (.int .i64 a0_2):=(blk_cell BK370.out 2).trans rfl;have hcz10_3:w9.cell? ⟨gb370,3,none⟩=some (.string a0_3):=(blk_cell BK370.out 3).trans rfl;have hfz10_0:=blk_frozen BK370.out 0;have hfz10_1:=blk_frozen BK370.out 1;have hfz10_2:=blk_frozen BK370.out 2;have hfz10_3:=blk_frozen BK370.out 3) | ((with_reducible refine gate_callee (f:=88) rfl ?_);refine goesL_ (some 5) rfl rfl Tryd.func88 (by kernel_rfl) rfl #[.int .i64 a0_0,.int .i64 0,.int .i64 1000000] rfl (by (try simp only [List.map_toArray,List.map_cons,List.map_nil]);rfl) ?_;(with_reducible refine (spec_l1In.calls a0_0 0 1000000 true _ A2.out).mono ?_);rintro e w' ⟨rfl,⟨nd,rfl⟩⟩;refine ⟨_,rfl,?_⟩) | (go_at_call 88;(with_reducible refine (spec_l1In.calls a0_1 0 1000000 true _ A4.out).mono ?_);rintro e w' ⟨rfl,⟨nd,rfl⟩⟩) | (go_at_call 88;(with_reducible refine (spec_l1In.calls a0_2 0 1000000 true _ A6.out).mono ?_);rintro e w' ⟨rfl,⟨nd,rfl⟩⟩))
     go_ret
     exact ⟨by rfl,by repeat (with_reducible first | exact HB.out | apply pw_below_drewN)⟩
    ·rw [if_neg c8] at H;have c8b0:(a0_3.toList == ([]:List UInt8))=false:=beq_eq_false_iff_ne.mpr c8;have c8b1:(a0_3.toList != ([]:List UInt8))=true:=bne_iff_ne.mpr c8;replace H:=Option.bind_eq_some_iff.mp H;obtain ⟨t374,A110,H⟩:=H;replace H:(some t374)=some r:=H;have A11:=a_ A110;clear A110;obtain rfl:=Option.some.inj H
     go_enter Tryd.func94,Tryd.ntmps94
     go_wp2_with (first | ((with_reducible refine gate_dst (N:=1) rfl ?_);refine box_event ?hg (N:=1) ?hd (cs:=#[.int .i64 a0_0,.int .i64 a0_1,.int .i64 a0_2,.string a0_3]) (t:=33) ?hr ?_;(case hd=>rfl);(case hg=>rfl);(case hr=>(go_simp;done));intro gb370 hg w12 hbox hb;have n0_:=a_ (below_step HB.out hb);have n1_:=a_ (hbox);have n2_:=a_ ((by rw [hg];exact (below_size HB.out):w.heap.size ≤ gb370));have n3_:=a_ ((by rw [hg];exact (below_size HB.out):w.heap.size ≤ gb370));clear HB;have HB:=n0_;have BK370:=n1_;have GW370:=n2_;have GE370:=n3_;clear n0_ n1_ n2_ n3_;clear hb hbox hg;have hcz13_0:w12.cell? ⟨gb370,0,none⟩=some (.int .i64 a0_0):=(blk_cell BK370.out 0).trans rfl;have hcz13_1:w12.cell? ⟨gb370,1,none⟩=some (.int .i64 a0_1):=(blk_cell BK370.out 1).trans rfl;have hcz13_2:w12.cell? ⟨gb370,2,none⟩=some (.int .i64 a0_2):=(blk_cell BK370.out 2).trans rfl;have hcz13_3:w12.cell? ⟨gb370,3,none⟩=some (.string a0_3):=(blk_cell BK370.out 3).trans rfl;have hfz13_0:=blk_frozen BK370.out 0;have hfz13_1:=blk_frozen BK370.out 1;have hfz13_2:=blk_frozen BK370.out 2;have hfz13_3:=blk_frozen BK370.out 3) | ((with_reducible refine gate_callee (f:=88) rfl ?_);refine goesL_ (some 5) rfl rfl Tryd.func88 (by kernel_rfl) rfl #[.int .i64 a0_0,.int .i64 0,.int .i64 1000000] rfl (by (try simp only [List.map_toArray,List.map_cons,List.map_nil]);rfl) ?_;(with_reducible refine (spec_l1In.calls a0_0 0 1000000 true _ A2.out).mono ?_);rintro e w' ⟨rfl,⟨nd,rfl⟩⟩;refine ⟨_,rfl,?_⟩) | (go_at_call 88;(with_reducible refine (spec_l1In.calls a0_1 0 1000000 true _ A4.out).mono ?_);rintro e w' ⟨rfl,⟨nd,rfl⟩⟩) | (go_at_call 88;(with_reducible refine (spec_l1In.calls a0_2 0 1000000 true _ A6.out).mono ?_);rintro e w' ⟨rfl,⟨nd,rfl⟩⟩) | (go_at_call 101;(with_reducible refine (spec_l3Pre.calls k a0_3 t374 _ A11.out).mono ?_);rintro e w14 ⟨rfl,hb⟩;have n0_:=a_ (blk_below (g:=gb370) (o:=.cells #[.int .i64 a0_0,.int .i64 a0_1,.int .i64 a0_2,.string a0_3] 33 (0,0)) (by (with_reducible repeat (refine blk_drewN ?_ _));exact BK370.out) hb);have n1_:=a_ (below_step (by repeat (with_reducible first | exact HB.out | apply pw_below_drewN)) hb);clear BK370;clear HB;have BK370:=n0_;have HB:=n1_;clear n0_ n1_;(try clear hb)))
     go_ret
     exact ⟨by rfl,by exact HB.out⟩
   ·replace c7:=Bool.eq_false_iff.mpr c7;subst c7;have H1:(some false)=some r:=by rw [if_neg (show ¬ (false=true) by decide)] at H;exact H
    clear H;have H:=H1;clear H1;obtain rfl:=Option.some.inj H
    go_enter Tryd.func94,Tryd.ntmps94
    go_wp2_with (first | ((with_reducible refine gate_dst (N:=1) rfl ?_);refine box_event ?hg (N:=1) ?hd (cs:=#[.int .i64 a0_0,.int .i64 a0_1,.int .i64 a0_2,.string a0_3]) (t:=33) ?hr ?_;(case hd=>rfl);(case hg=>rfl);(case hr=>(go_simp;done));intro gb370 hg w15 hbox hb;have n0_:=a_ (below_step HB.out hb);have n1_:=a_ (hbox);have n2_:=a_ ((by rw [hg];exact (below_size HB.out):w.heap.size ≤ gb370));have n3_:=a_ ((by rw [hg];exact (below_size HB.out):w.heap.size ≤ gb370));clear HB;have HB:=n0_;have BK370:=n1_;have GW370:=n2_;have GE370:=n3_;clear n0_ n1_ n2_ n3_;clear hb hbox hg;have hcz16_0:w15.cell? ⟨gb370,0,none⟩=some (.int .i64 a0_0):=(blk_cell BK370.out 0).trans rfl;have hcz16_1:w15.cell? ⟨gb370,1,none⟩=some (.int .i64 a0_1):=(blk_cell BK370.out 1).trans rfl;have hcz16_2:w15.cell? ⟨gb370,2,none⟩=some (.int .i64 a0_2):=(blk_cell BK370.out 2).trans rfl;have hcz16_3:w15.cell? ⟨gb370,3,none⟩=some (.string a0_3):=(blk_cell BK370.out 3).trans rfl;have hfz16_0:=blk_frozen BK370.out 0;have hfz16_1:=blk_frozen BK370.out 1;have hfz16_2:=blk_frozen BK370.out 2;have hfz16_3:=blk_frozen BK370.out 3) | ((with_reducible refine gate_callee (f:=88) rfl ?_);refine goesL_ (some 5) rfl rfl Tryd.func88 (by kernel_rfl) rfl #[.int .i64 a0_0,.int .i64 0,.int .i64 1000000] rfl (by (try simp only [List.map_toArray,List.map_cons,List.map_nil]);rfl) ?_;(with_reducible refine (spec_l1In.calls a0_0 0 1000000 true _ A2.out).mono ?_);rintro e w' ⟨rfl,⟨nd,rfl⟩⟩;refine ⟨_,rfl,?_⟩) | (go_at_call 88;(with_reducible refine (spec_l1In.calls a0_1 0 1000000 true _ A4.out).mono ?_);rintro e w' ⟨rfl,⟨nd,rfl⟩⟩) | (go_at_call 88;(with_reducible refine (spec_l1In.calls a0_2 0 1000000 false _ A6.out).mono ?_);rintro e w' ⟨rfl,⟨nd,rfl⟩⟩))
    go_ret
    exact ⟨by rfl,by repeat (with_reducible first | exact HB.out | apply pw_below_drewN)⟩
  ·replace c5:=Bool.eq_false_iff.mpr c5;subst c5;have H1:(some false)=some r:=by rw [if_neg (show ¬ (false=true) by decide)] at H;exact H
   clear H;have H:=H1;clear H1;obtain rfl:=Option.some.inj H
   go_enter Tryd.func94,Tryd.ntmps94
   go_wp2_with (first | ((with_reducible refine gate_dst (N:=1) rfl ?_);refine box_event ?hg (N:=1) ?hd (cs:=#[.int .i64 a0_0,.int .i64 a0_1,.int .i64 a0_2,.string a0_3]) (t:=33) ?hr ?_;(case hd=>rfl);(case hg=>rfl);(case hr=>(go_simp;done));intro gb370 hg w17 hbox hb;have n0_:=a_ (below_step HB.out hb);have n1_:=a_ (hbox);have n2_:=a_ ((by rw [hg];exact (below_size HB.out):w.heap.size ≤ gb370));have n3_:=a_ ((by rw [hg];exact (below_size HB.out):w.heap.size ≤ gb370));clear HB;have HB:=n0_;have BK370:=n1_;have GW370:=n2_;have GE370:=n3_;clear n0_ n1_ n2_ n3_;clear hb hbox hg;have hcz18_0:w17.cell? ⟨gb370,0,none⟩=some (.int .i64 a0_0):=(blk_cell BK370.out 0).trans rfl;have hcz18_1:w17.cell? ⟨gb370,1,none⟩=some (.int .i64 a0_1):=(blk_cell BK370.out 1).trans rfl;have hcz18_2:w17.cell? ⟨gb370,2,none⟩=some (.int .i64 a0_2):=(blk_cell BK370.out 2).trans rfl;have hcz18_3:w17.cell? ⟨gb370,3,none⟩=some (.string a0_3):=(blk_cell BK370.out 3).trans rfl;have hfz18_0:=blk_frozen BK370.out 0;have hfz18_1:=blk_frozen BK370.out 1;have hfz18_2:=blk_frozen BK370.out 2;have hfz18_3:=blk_frozen BK370.out 3) | ((with_reducible refine gate_callee (f:=88) rfl ?_);refine goesL_ (some 5) rfl rfl Tryd.func88 (by kernel_rfl) rfl #[.int .i64 a0_0,.int .i64 0,.int .i64 1000000] rfl (by (try simp only [List.map_toArray,List.map_cons,List.map_nil]);rfl) ?_;(with_reducible refine (spec_l1In.calls a0_0 0 1000000 true _ A2.out).mono ?_);rintro e w' ⟨rfl,⟨nd,rfl⟩⟩;refine ⟨_,rfl,?_⟩) | (go_at_call 88;(with_reducible refine (spec_l1In.calls a0_1 0 1000000 false _ A4.out).mono ?_);rintro e w' ⟨rfl,⟨nd,rfl⟩⟩))
   go_ret
   exact ⟨by rfl,by repeat (with_reducible first | exact HB.out | apply pw_below_drewN)⟩
 ·replace c3:=Bool.eq_false_iff.mpr c3;subst c3;have H1:(some false)=some r:=by rw [if_neg (show ¬ (false=true) by decide)] at H;exact H
  clear H;have H:=H1;clear H1;obtain rfl:=Option.some.inj H
  go_enter Tryd.func94,Tryd.ntmps94
  go_wp2_with (first | ((with_reducible refine gate_dst (N:=1) rfl ?_);refine box_event ?hg (N:=1) ?hd (cs:=#[.int .i64 a0_0,.int .i64 a0_1,.int .i64 a0_2,.string a0_3]) (t:=33) ?hr ?_;(case hd=>rfl);(case hg=>rfl);(case hr=>(go_simp;done));intro gb370 hg w19 hbox hb;have n0_:=a_ (below_step HB.out hb);have n1_:=a_ (hbox);have n2_:=a_ ((by rw [hg];exact (below_size HB.out):w.heap.size ≤ gb370));have n3_:=a_ ((by rw [hg];exact (below_size HB.out):w.heap.size ≤ gb370));clear HB;have HB:=n0_;have BK370:=n1_;have GW370:=n2_;have GE370:=n3_;clear n0_ n1_ n2_ n3_;clear hb hbox hg;have hcz20_0:w19.cell? ⟨gb370,0,none⟩=some (.int .i64 a0_0):=(blk_cell BK370.out 0).trans rfl;have hcz20_1:w19.cell? ⟨gb370,1,none⟩=some (.int .i64 a0_1):=(blk_cell BK370.out 1).trans rfl;have hcz20_2:w19.cell? ⟨gb370,2,none⟩=some (.int .i64 a0_2):=(blk_cell BK370.out 2).trans rfl;have hcz20_3:w19.cell? ⟨gb370,3,none⟩=some (.string a0_3):=(blk_cell BK370.out 3).trans rfl;have hfz20_0:=blk_frozen BK370.out 0;have hfz20_1:=blk_frozen BK370.out 1;have hfz20_2:=blk_frozen BK370.out 2;have hfz20_3:=blk_frozen BK370.out 3) | ((with_reducible refine gate_callee (f:=88) rfl ?_);refine goesL_ (some 5) rfl rfl Tryd.func88 (by kernel_rfl) rfl #[.int .i64 a0_0,.int .i64 0,.int .i64 1000000] rfl (by (try simp only [List.map_toArray,List.map_cons,List.map_nil]);rfl) ?_;(with_reducible refine (spec_l1In.calls a0_0 0 1000000 false _ A2.out).mono ?_);rintro e w' ⟨rfl,⟨nd,rfl⟩⟩;refine ⟨_,rfl,?_⟩))
  go_ret
  exact ⟨by rfl,by repeat (with_reducible first | exact HB.out | apply pw_below_drewN)⟩
def spec_Fits.f (k:Nat) (a0:ByteArray) (a1_0:Int) (a1_1:Int) (a1_2:Int) (a1_3:ByteArray):Option (Bool):=(spec_MajorOf.f k a0).bind fun t376=>(if t376 > 0 then ((spec_VersionOk.f k a1_0 a1_1 a1_2 a1_3).bind fun t377=>(if t377=true then (if a1_0=t376 then (some true) else (if t376=1 then (some (a1_0 == 0)) else (some false))) else (some false))) else (some false))
theorem spec_Fits.mono : ∀ a0 a1 a2 a3 a4 k,LeO (spec_Fits.f k a0 a1 a2 a3 a4) (spec_Fits.f (k + 1) a0 a1 a2 a3 a4):=by
 intro a0 a1 a2 a3 a4 k;unfold spec_Fits.f
 repeat' first
  | (with_reducible exact spec_MajorOf.mono _ _)
  | (with_reducible exact spec_VersionOk.mono _ _ _ _ _)
  | (with_reducible exact LeO.refl _)
  | (with_reducible refine LeO.ite ?_ ?_)
  | (with_reducible refine LeO.bind ?_ (fun _=>?_))
set_option maxHeartbeats 8000000 in
set_option maxRecDepth 100000 in
theorem spec_Fits.calls (k:Nat) (a0:ByteArray) (a1_0:Int) (a1_1:Int) (a1_2:Int) (a1_3:ByteArray) (r:Bool) (w:World) (h:spec_Fits.f k a0 a1_0 a1_1 a1_2 a1_3=some r) :
 Calls Tryd.prog 84 #[.string a0,.agg #[.int .i64 a1_0,.int .i64 a1_1,.int .i64 a1_2,.string a1_3]] w fun e w'=>e = .returned (.bool r) ∧ Below w.heap.size w w':=by
 have hu33:=Tryd.underlying33;have HB:=a_ (Below.refl w.heap.size w);have H:((spec_MajorOf.f k a0).bind fun t376=>(if t376 > 0 then ((spec_VersionOk.f k a1_0 a1_1 a1_2 a1_3).bind fun t377=>(if t377=true then (if a1_0=t376 then (some true) else (if t376=1 then (some (a1_0 == 0)) else (some false))) else (some false))) else (some false)))=some r:=h;clear h;replace H:=Option.bind_eq_some_iff.mp H;obtain ⟨t376,A30,H⟩:=H
 replace H:(if t376 > 0 then ((spec_VersionOk.f k a1_0 a1_1 a1_2 a1_3).bind fun t377=>(if t377=true then (if a1_0=t376 then (some true) else (if t376=1 then (some (a1_0 == 0)) else (some false))) else (some false))) else (some false))=some r:=H;have A3:=a_ A30;clear A30
 by_cases c4:t376 > 0
 ·rw [if_pos c4] at H;have c4b0:decide (0 < t376)=true:=decide_eq_true c4;clear c4;replace H:=Option.bind_eq_some_iff.mp H;obtain ⟨t377,A50,H⟩:=H;replace H:(if t377=true then (if a1_0=t376 then (some true) else (if t376=1 then (some (a1_0 == 0)) else (some false))) else (some false))=some r:=H;have A5:=a_ A50;clear A50
  by_cases c6:t377=true
  ·subst c6;have H1:(if a1_0=t376 then (some true) else (if t376=1 then (some (a1_0 == 0)) else (some false)))=some r:=by rw [if_pos rfl] at H;exact H
   clear H;have H:=H1;clear H1
   by_cases c7:a1_0=t376
   ·rw [if_pos c7] at H;have c7b0:(a1_0 == t376)=true:=beq_iff_eq.mpr c7;have c7b1:(a1_0 != t376)=false:=bne_eq_false_iff_eq.mpr c7;clear c7;obtain rfl:=Option.some.inj H
    go_enter Tryd.func84,Tryd.ntmps84
    go_wp2_with (first | ((with_reducible refine gate_dst (N:=3) rfl ?_);refine box_event ?hg (N:=3) ?hd (cs:=#[.int .i64 a1_0,.int .i64 a1_1,.int .i64 a1_2,.string a1_3]) (t:=33) ?hr ?_;(case hd=>rfl);(case hg=>rfl);(case hr=>(go_simp;done));intro gb375 hg w8 hbox hb;have n0_:=a_ (below_step HB.out hb);have n1_:=a_ (hbox);have n2_:=a_ ((by rw [hg];exact (below_size HB.out):w.heap.size ≤ gb375));have n3_:=a_ ((by rw [hg];exact (below_size HB.out):w.heap.size ≤ gb375));clear HB;have HB:=n0_;have BK375:=n1_;have GW375:=n2_;have GE375:=n3_;clear n0_ n1_ n2_ n3_;clear hb hbox hg) | ((with_reducible refine gate_callee (f:=65) rfl ?_);refine goesL_ (some 7) rfl rfl Tryd.func65 (by kernel_rfl) rfl #[.string a0] rfl (by (try simp only [List.map_toArray,List.map_cons,List.map_nil]);rfl) ?_;(with_reducible refine (spec_MajorOf.calls k a0 t376 _ A3.out).mono ?_);rintro e w9 ⟨rfl,hb⟩;refine ⟨_,rfl,?_⟩;have n0_:=a_ (blk_below (g:=gb375) (o:=.cells #[.int .i64 a1_0,.int .i64 a1_1,.int .i64 a1_2,.string a1_3] 33 (0,0)) (by exact BK375.out) hb);have n1_:=a_ (below_step HB.out hb);clear BK375;clear HB;have BK375:=n0_;have HB:=n1_;clear n0_ n1_;(try clear hb);have hcz10_0:w9.cell? ⟨gb375,0,none⟩=some (.int .i64 a1_0):=(blk_cell BK375.out 0).trans rfl;have hcz10_1:w9.cell? ⟨gb375,1,none⟩=some (.int .i64 a1_1):=(blk_cell BK375.out 1).trans rfl;have hcz10_2:w9.cell? ⟨gb375,2,none⟩=some (.int .i64 a1_2):=(blk_cell BK375.out 2).trans rfl;have hcz10_3:w9.cell? ⟨gb375,3,none⟩=some (.string a1_3):=(blk_cell BK375.out 3).trans rfl;have hfz10_0:=blk_frozen BK375.out 0;have hfz10_1:=blk_frozen BK375.out 1;have hfz10_2:=blk_frozen BK375.out 2;have hfz10_3:=blk_frozen BK375.out 3) | (go_at_call 94;(with_reducible refine (spec_VersionOk.calls k a1_0 a1_1 a1_2 a1_3 true _ A5.out).mono ?_);rintro e w11 ⟨rfl,hb⟩;have n0_:=a_ (blk_below (g:=gb375) (o:=.cells #[.int .i64 a1_0,.int .i64 a1_1,.int .i64 a1_2,.string a1_3] 33 (0,0)) (by exact BK375.out) hb);have n1_:=a_ (below_step HB.out hb);clear BK375;clear HB;have BK375:=n0_;have HB:=n1_;clear n0_ n1_;(try clear hb);have hcz12_0:w11.cell? ⟨gb375,0,none⟩=some (.int .i64 a1_0):=(blk_cell BK375.out 0).trans rfl;have hcz12_1:w11.cell? ⟨gb375,1,none⟩=some (.int .i64 a1_1):=(blk_cell BK375.out 1).trans rfl;have hcz12_2:w11.cell? ⟨gb375,2,none⟩=some (.int .i64 a1_2):=(blk_cell BK375.out 2).trans rfl;have hcz12_3:w11.cell? ⟨gb375,3,none⟩=some (.string a1_3):=(blk_cell BK375.out 3).trans rfl;have hfz12_0:=blk_frozen BK375.out 0;have hfz12_1:=blk_frozen BK375.out 1;have hfz12_2:=blk_frozen BK375.out 2;have hfz12_3:=blk_frozen BK375.out 3))
    go_ret
    exact ⟨by rfl,by exact HB.out⟩
   ·rw [if_neg c7] at H;have c7b0:(a1_0 == t376)=false:=beq_eq_false_iff_ne.mpr c7;have c7b1:(a1_0 != t376)=true:=bne_iff_ne.mpr c7
    by_cases c13:t376=1
    ·rw [if_pos c13] at H;have c13b0:(t376 == 1)=true:=beq_iff_eq.mpr c13;have c13b1:(t376 != 1)=false:=bne_eq_false_iff_eq.mpr c13;clear c13;obtain rfl:=Option.some.inj H
     go_enter Tryd.func84,Tryd.ntmps84
     go_wp2_with (first | ((with_reducible refine gate_dst (N:=3) rfl ?_);refine box_event ?hg (N:=3) ?hd (cs:=#[.int .i64 a1_0,.int .i64 a1_1,.int .i64 a1_2,.string a1_3]) (t:=33) ?hr ?_;(case hd=>rfl);(case hg=>rfl);(case hr=>(go_simp;done));intro gb375 hg w14 hbox hb;have n0_:=a_ (below_step HB.out hb);have n1_:=a_ (hbox);have n2_:=a_ ((by rw [hg];exact (below_size HB.out):w.heap.size ≤ gb375));have n3_:=a_ ((by rw [hg];exact (below_size HB.out):w.heap.size ≤ gb375));clear HB;have HB:=n0_;have BK375:=n1_;have GW375:=n2_;have GE375:=n3_;clear n0_ n1_ n2_ n3_;clear hb hbox hg) | ((with_reducible refine gate_callee (f:=65) rfl ?_);refine goesL_ (some 7) rfl rfl Tryd.func65 (by kernel_rfl) rfl #[.string a0] rfl (by (try simp only [List.map_toArray,List.map_cons,List.map_nil]);rfl) ?_;(with_reducible refine (spec_MajorOf.calls k a0 t376 _ A3.out).mono ?_);rintro e w15 ⟨rfl,hb⟩;refine ⟨_,rfl,?_⟩;have n0_:=a_ (blk_below (g:=gb375) (o:=.cells #[.int .i64 a1_0,.int .i64 a1_1,.int .i64 a1_2,.string a1_3] 33 (0,0)) (by exact BK375.out) hb);have n1_:=a_ (below_step HB.out hb);clear BK375;clear HB;have BK375:=n0_;have HB:=n1_;clear n0_ n1_;(try clear hb);have hcz16_0:w15.cell? ⟨gb375,0,none⟩=some (.int .i64 a1_0):=(blk_cell BK375.out 0).trans rfl;have hcz16_1:w15.cell? ⟨gb375,1,none⟩=some (.int .i64 a1_1):=(blk_cell BK375.out 1).trans rfl;have hcz16_2:w15.cell? ⟨gb375,2,none⟩=some (.int .i64 a1_2):=(blk_cell BK375.out 2).trans rfl;have hcz16_3:w15.cell? ⟨gb375,3,none⟩=some (.string a1_3):=(blk_cell BK375.out 3).trans rfl;have hfz16_0:=blk_frozen BK375.out 0;have hfz16_1:=blk_frozen BK375.out 1;have hfz16_2:=blk_frozen BK375.out 2;have hfz16_3:=blk_frozen BK375.out 3) | (go_at_call 94;(with_reducible refine (spec_VersionOk.calls k a1_0 a1_1 a1_2 a1_3 true _ A5.out).mono ?_);rintro e w17 ⟨rfl,hb⟩;have n0_:=a_ (blk_below (g:=gb375) (o:=.cells #[.int .i64 a1_0,.int .i64 a1_1,.int .i64 a1_2,.string a1_3] 33 (0,0)) (by exact BK375.out) hb);have n1_:=a_ (below_step HB.out hb);clear BK375;clear HB;have BK375:=n0_;have HB:=n1_;clear n0_ n1_;(try clear hb);have hcz18_0:w17.cell? ⟨gb375,0,none⟩=some (.int .i64 a1_0):=(blk_cell BK375.out 0).trans rfl;have hcz18_1:w17.cell? ⟨gb375,1,none⟩=some (.int .i64 a1_1):=(blk_cell BK375.out 1).trans rfl;have hcz18_2:w17.cell? ⟨gb375,2,none⟩=some (.int .i64 a1_2):=(blk_cell BK375.out 2).trans rfl;have hcz18_3:w17.cell? ⟨gb375,3,none⟩=some (.string a1_3):=(blk_cell BK375.out 3).trans rfl;have hfz18_0:=blk_frozen BK375.out 0;have hfz18_1:=blk_frozen BK375.out 1;have hfz18_2:=blk_frozen BK375.out 2;have hfz18_3:=blk_frozen BK375.out 3))
     go_ret
     exact ⟨by rfl,by exact HB.out⟩
    ·rw [if_neg c13] at H;have c13b0:(t376 == 1)=false:=beq_eq_false_iff_ne.mpr c13;have c13b1:(t376 != 1)=true:=bne_iff_ne.mpr c13;obtain rfl:=Option.some.inj H
     go_enter Tryd.func84,Tryd.ntmps84
     go_wp2_with (first | ((with_reducible refine gate_dst (N:=3) rfl ?_);refine box_event ?hg (N:=3) ?hd (cs:=#[.int .i64 a1_0,.int .i64 a1_1,.int .i64 a1_2,.string a1_3]) (t:=33) ?hr ?_;(case hd=>rfl);(case hg=>rfl);(case hr=>(go_simp;done));intro gb375 hg w19 hbox hb;have n0_:=a_ (below_step HB.out hb);have n1_:=a_ (hbox);have n2_:=a_ ((by rw [hg];exact (below_size HB.out):w.heap.size ≤ gb375));have n3_:=a_ ((by rw [hg];exact (below_size HB.out):w.heap.size ≤ gb375));clear HB;have HB:=n0_;have BK375:=n1_;have GW375:=n2_;have GE375:=n3_;clear n0_ n1_ n2_ n3_;clear hb hbox hg) | ((with_reducible refine gate_callee (f:=65) rfl ?_);refine goesL_ (some 7) rfl rfl Tryd.func65 (by kernel_rfl) rfl #[.string a0] rfl (by (try simp only [List.map_toArray,List.map_cons,List.map_nil]);rfl) ?_;(with_reducible refine (spec_MajorOf.calls k a0 t376 _ A3.out).mono ?_);rintro e w20 ⟨rfl,hb⟩;refine ⟨_,rfl,?_⟩;have n0_:=a_ (blk_below (g:=gb375) (o:=.cells #[.int .i64 a1_0,.int .i64 a1_1,.int .i64 a1_2,.string a1_3] 33 (0,0)) (by exact BK375.out) hb);have n1_:=a_ (below_step HB.out hb);clear BK375;clear HB;have BK375:=n0_;have HB:=n1_;clear n0_ n1_;(try clear hb);have hcz21_0:w20.cell? ⟨gb375,0,none⟩=some (.int .i64 a1_0):=(blk_cell BK375.out 0).trans rfl;have hcz21_1:w20.cell? ⟨gb375,1,none⟩=some (.int .i64 a1_1):=(blk_cell BK375.out 1).trans rfl;have hcz21_2:w20.cell? ⟨gb375,2,none⟩=some (.int .i64 a1_2):=(blk_cell BK375.out 2).trans rfl;have hcz21_3:w20.cell? ⟨gb375,3,none⟩=some (.string a1_3):=(blk_cell BK375.out 3).trans rfl;have hfz21_0:=blk_frozen BK375.out 0;have hfz21_1:=blk_frozen BK375.out 1;have hfz21_2:=blk_frozen BK375.out 2;have hfz21_3:=blk_frozen BK375.out 3) | (go_at_call 94;(with_reducible refine (spec_VersionOk.calls k a1_0 a1_1 a1_2 a1_3 true _ A5.out).mono ?_);rintro e w22 ⟨rfl,hb⟩;have n0_:=a_ (blk_below (g:=gb375) (o:=.cells #[.int .i64 a1_0,.int .i64 a1_1,.int .i64 a1_2,.string a1_3] 33 (0,0)) (by exact BK375.out) hb);have n1_:=a_ (below_step HB.out hb);clear BK375;clear HB;have BK375:=n0_;have HB:=n1_;clear n0_ n1_;(try clear hb);have hcz23_0:w22.cell? ⟨gb375,0,none⟩=some (.int .i64 a1_0):=(blk_cell BK375.out 0).trans rfl;have hcz23_1:w22.cell? ⟨gb375,1,none⟩=some (.int .i64 a1_1):=(blk_cell BK375.out 1).trans rfl;have hcz23_2:w22.cell? ⟨gb375,2,none⟩=some (.int .i64 a1_2):=(blk_cell BK375.out 2).trans rfl;have hcz23_3:w22.cell? ⟨gb375,3,none⟩=some (.string a1_3):=(blk_cell BK375.out 3).trans rfl;have hfz23_0:=blk_frozen BK375.out 0;have hfz23_1:=blk_frozen BK375.out 1;have hfz23_2:=blk_frozen BK375.out 2;have hfz23_3:=blk_frozen BK375.out 3))
     go_ret
     exact ⟨by rfl,by exact HB.out⟩
  ·replace c6:=Bool.eq_false_iff.mpr c6;subst c6;have H1:(some false)=some r:=by rw [if_neg (show ¬ (false=true) by decide)] at H;exact H
   clear H;have H:=H1;clear H1;obtain rfl:=Option.some.inj H
   go_enter Tryd.func84,Tryd.ntmps84
   go_wp2_with (first | ((with_reducible refine gate_dst (N:=3) rfl ?_);refine box_event ?hg (N:=3) ?hd (cs:=#[.int .i64 a1_0,.int .i64 a1_1,.int .i64 a1_2,.string a1_3]) (t:=33) ?hr ?_;(case hd=>rfl);(case hg=>rfl);(case hr=>(go_simp;done));intro gb375 hg w24 hbox hb;have n0_:=a_ (below_step HB.out hb);have n1_:=a_ (hbox);have n2_:=a_ ((by rw [hg];exact (below_size HB.out):w.heap.size ≤ gb375));have n3_:=a_ ((by rw [hg];exact (below_size HB.out):w.heap.size ≤ gb375));clear HB;have HB:=n0_;have BK375:=n1_;have GW375:=n2_;have GE375:=n3_;clear n0_ n1_ n2_ n3_;clear hb hbox hg) | ((with_reducible refine gate_callee (f:=65) rfl ?_);refine goesL_ (some 7) rfl rfl Tryd.func65 (by kernel_rfl) rfl #[.string a0] rfl (by (try simp only [List.map_toArray,List.map_cons,List.map_nil]);rfl) ?_;(with_reducible refine (spec_MajorOf.calls k a0 t376 _ A3.out).mono ?_);rintro e w25 ⟨rfl,hb⟩;refine ⟨_,rfl,?_⟩;have n0_:=a_ (blk_below (g:=gb375) (o:=.cells #[.int .i64 a1_0,.int .i64 a1_1,.int .i64 a1_2,.string a1_3] 33 (0,0)) (by exact BK375.out) hb);have n1_:=a_ (below_step HB.out hb);clear BK375;clear HB;have BK375:=n0_;have HB:=n1_;clear n0_ n1_;(try clear hb);have hcz26_0:w25.cell? ⟨gb375,0,none⟩=some (.int .i64 a1_0):=(blk_cell BK375.out 0).trans rfl;have hcz26_1:w25.cell? ⟨gb375,1,none⟩=some (.int .i64 a1_1):=(blk_cell BK375.out 1).trans rfl;have hcz26_2:w25.cell? ⟨gb375,2,none⟩=some (.int .i64 a1_2):=(blk_cell BK375.out 2).trans rfl;have hcz26_3:w25.cell? ⟨gb375,3,none⟩=some (.string a1_3):=(blk_cell BK375.out 3).trans rfl;have hfz26_0:=blk_frozen BK375.out 0;have hfz26_1:=blk_frozen BK375.out 1;have hfz26_2:=blk_frozen BK375.out 2;have hfz26_3:=blk_frozen BK375.out 3) | (go_at_call 94;(with_reducible refine (spec_VersionOk.calls k a1_0 a1_1 a1_2 a1_3 false _ A5.out).mono ?_);rintro e w27 ⟨rfl,hb⟩;have n0_:=a_ (blk_below (g:=gb375) (o:=.cells #[.int .i64 a1_0,.int .i64 a1_1,.int .i64 a1_2,.string a1_3] 33 (0,0)) (by exact BK375.out) hb);have n1_:=a_ (below_step HB.out hb);clear BK375;clear HB;have BK375:=n0_;have HB:=n1_;clear n0_ n1_;(try clear hb)))
   go_ret
   exact ⟨by rfl,by exact HB.out⟩
 ·rw [if_neg c4] at H;have c4b0:decide (0 < t376)=false:=decide_eq_false c4;clear c4;obtain rfl:=Option.some.inj H
  go_enter Tryd.func84,Tryd.ntmps84
  go_wp2_with (first | ((with_reducible refine gate_dst (N:=3) rfl ?_);refine box_event ?hg (N:=3) ?hd (cs:=#[.int .i64 a1_0,.int .i64 a1_1,.int .i64 a1_2,.string a1_3]) (t:=33) ?hr ?_;(case hd=>rfl);(case hg=>rfl);(case hr=>(go_simp;done));intro gb375 hg w28 hbox hb;have n0_:=a_ (below_step HB.out hb);have n1_:=a_ (hbox);have n2_:=a_ ((by rw [hg];exact (below_size HB.out):w.heap.size ≤ gb375));have n3_:=a_ ((by rw [hg];exact (below_size HB.out):w.heap.size ≤ gb375));clear HB;have HB:=n0_;have BK375:=n1_;have GW375:=n2_;have GE375:=n3_;clear n0_ n1_ n2_ n3_;clear hb hbox hg) | ((with_reducible refine gate_callee (f:=65) rfl ?_);refine goesL_ (some 7) rfl rfl Tryd.func65 (by kernel_rfl) rfl #[.string a0] rfl (by (try simp only [List.map_toArray,List.map_cons,List.map_nil]);rfl) ?_;(with_reducible refine (spec_MajorOf.calls k a0 t376 _ A3.out).mono ?_);rintro e w29 ⟨rfl,hb⟩;refine ⟨_,rfl,?_⟩;have n0_:=a_ (blk_below (g:=gb375) (o:=.cells #[.int .i64 a1_0,.int .i64 a1_1,.int .i64 a1_2,.string a1_3] 33 (0,0)) (by exact BK375.out) hb);have n1_:=a_ (below_step HB.out hb);clear BK375;clear HB;have BK375:=n0_;have HB:=n1_;clear n0_ n1_;(try clear hb)))
  go_ret
  exact ⟨by rfl,by exact HB.out⟩
def spec_NeedOk.f (k:Nat) (a0_0:ByteArray) (a0_1:Int) (a0_2:Int) (a0_3:Int) (a0_4:ByteArray):Option (Bool):=(spec_Fits.f k a0_0 a0_1 a0_2 a0_3 a0_4).bind fun t379=>(some t379)
theorem spec_NeedOk.mono : ∀ a0 a1 a2 a3 a4 k,LeO (spec_NeedOk.f k a0 a1 a2 a3 a4) (spec_NeedOk.f (k + 1) a0 a1 a2 a3 a4):=by
 intro a0 a1 a2 a3 a4 k;unfold spec_NeedOk.f
 repeat' first
  | (with_reducible exact spec_Fits.mono _ _ _ _ _ _)
  | (with_reducible exact LeO.refl _)
  | (with_reducible refine LeO.bind ?_ (fun _=>?_))
set_option maxHeartbeats 8000000 in
set_option maxRecDepth 100000 in
theorem spec_NeedOk.calls (k:Nat) (a0_0:ByteArray) (a0_1:Int) (a0_2:Int) (a0_3:Int) (a0_4:ByteArray) (r:Bool) (w:World) (h:spec_NeedOk.f k a0_0 a0_1 a0_2 a0_3 a0_4=some r) :
 Calls Tryd.prog 93 #[.agg #[.string a0_0,.int .i64 a0_1,.int .i64 a0_2,.int .i64 a0_3,.string a0_4]] w fun e w'=>e = .returned (.bool r) ∧ Below w.heap.size w w':=by
 have hu36:=Tryd.underlying36;have hu33:=Tryd.underlying33;have HB:=a_ (Below.refl w.heap.size w);have H:((spec_Fits.f k a0_0 a0_1 a0_2 a0_3 a0_4).bind fun t379=>(some t379))=some r:=h;clear h;replace H:=Option.bind_eq_some_iff.mp H;obtain ⟨t379,A20,H⟩:=H;replace H:(some t379)=some r:=H;have A2:=a_ A20;clear A20;obtain rfl:=Option.some.inj H
 go_enter Tryd.func93,Tryd.ntmps93
 go_wp2_with (first | ((with_reducible refine gate_dst (N:=1) rfl ?_);refine box_event ?hg (N:=1) ?hd (cs:=#[.string a0_0,.int .i64 a0_1,.int .i64 a0_2,.int .i64 a0_3,.string a0_4]) (t:=36) ?hr ?_;(case hd=>rfl);(case hg=>rfl);(case hr=>(go_simp;done));intro gb378 hg w3 hbox hb;have n0_:=a_ (below_step HB.out hb);have n1_:=a_ (hbox);have n2_:=a_ ((by rw [hg];exact (below_size HB.out):w.heap.size ≤ gb378));have n3_:=a_ ((by rw [hg];exact (below_size HB.out):w.heap.size ≤ gb378));clear HB;have HB:=n0_;have BK378:=n1_;have GW378:=n2_;have GE378:=n3_;clear n0_ n1_ n2_ n3_;clear hb hbox hg;have hcz4_0:w3.cell? ⟨gb378,0,none⟩=some (.string a0_0):=(blk_cell BK378.out 0).trans rfl;have hcz4_1:w3.cell? ⟨gb378,1,none⟩=some (.int .i64 a0_1):=(blk_cell BK378.out 1).trans rfl;have hcz4_2:w3.cell? ⟨gb378,2,none⟩=some (.int .i64 a0_2):=(blk_cell BK378.out 2).trans rfl;have hcz4_3:w3.cell? ⟨gb378,3,none⟩=some (.int .i64 a0_3):=(blk_cell BK378.out 3).trans rfl;have hcz4_4:w3.cell? ⟨gb378,4,none⟩=some (.string a0_4):=(blk_cell BK378.out 4).trans rfl;have hfz4_0:=blk_frozen BK378.out 0;have hfz4_1:=blk_frozen BK378.out 1;have hfz4_2:=blk_frozen BK378.out 2;have hfz4_3:=blk_frozen BK378.out 3;have hfz4_4:=blk_frozen BK378.out 4) | ((with_reducible refine gate_callee (f:=84) rfl ?_);refine goesL_ (some 7) rfl rfl Tryd.func84 (by kernel_rfl) rfl #[.string a0_0,.agg #[.int .i64 a0_1,.int .i64 a0_2,.int .i64 a0_3,.string a0_4]] rfl (by (try simp only [List.map_toArray,List.map_cons,List.map_nil]);rfl) ?_;(with_reducible refine (spec_Fits.calls k a0_0 a0_1 a0_2 a0_3 a0_4 t379 _ A2.out).mono ?_);rintro e w5 ⟨rfl,hb⟩;refine ⟨_,rfl,?_⟩;have n0_:=a_ (blk_below (g:=gb378) (o:=.cells #[.string a0_0,.int .i64 a0_1,.int .i64 a0_2,.int .i64 a0_3,.string a0_4] 36 (0,0)) (by exact BK378.out) hb);have n1_:=a_ (below_step HB.out hb);clear BK378;clear HB;have BK378:=n0_;have HB:=n1_;clear n0_ n1_;(try clear hb)))
 go_ret
 exact ⟨by rfl,by exact HB.out⟩
end Go.Proofs.YtmkdeknpphimbaaDoor.PFnClosed
