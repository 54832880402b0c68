import Derived.Test.YtmkdeknpphimbaaDoorCCePFnClosedx0
import Derived.Test.YtmkdeknpphimbaaDoorCCePFnClosedx9
import Derived.Test.YtmkdeknpphimbaaDoorCCePFnClosedx16
namespace Go.Proofs.YtmkdeknpphimbaaDoor.PFnClosed
open Go.RowKit Go.Proofs.YtmkdeknpphimbaaDoorW.PrintWords Go.Proofs.YtmkdeknpphimbaaDoorW.PrintLast Go.Proofs.YtmkdeknpphimbaaDoorW.PrintMore
attribute [local go_sem] max2_int min2_int max_two min_two max_three min_three max_four min_four
set_option linter.unusedVariables false
set_option linter.unusedSimpArgs false
mutual
def spec_Reach.l0:Nat → List (S47) → List (S36) → List (S36) → Int → Option ((List (S36)) × Int)
 | 0,_,_,_,_=>none
 | k + 1,x0,x6,x7,x8=>if x8 < (x7.length:Int) then (if 0 ≤ x8 then ((spec_l15At.f k x0 ((rd_T36 x7 x8).f0) ((rd_T36 x7 x8).f1.f0) ((rd_T36 x7 x8).f1.f1) ((rd_T36 x7 x8).f1.f2) ((rd_T36 x7 x8).f1.f3)).bind fun t403=>(if t403 < 0 then (spec_Reach.j1 k x0 x6 x7 x8 t403 true) else (if 0 ≤ t403 then (if t403 < (x0.length:Int) then ((spec_EntryOk.f k ((rd_T47 x0 t403).f0) ((rd_T47 x0 t403).f1.f0) ((rd_T47 x0 t403).f1.f1) ((rd_T47 x0 t403).f1.f2) ((rd_T47 x0 t403).f1.f3) ((rd_T47 x0 t403).f2)).bind fun t405=>(spec_Reach.j1 k x0 x6 x7 x8 t403 (!t405))) else (none)) else (none)))) else (none)) else (some (x7,0))
def spec_Reach.j1:Nat → List (S47) → List (S36) → List (S36) → Int → Int → Bool → Option ((List (S36)) × Int)
 | 0,_,_,_,_,_,_=>none
 | k + 1,x0,x6,x7,x8,x9,x46=>if x46=true then (some (x6,2)) else (spec_Reach.l1 k x0 x6 x7 x8 x9 0)
def spec_Reach.l1:Nat → List (S47) → List (S36) → List (S36) → Int → Int → Int → Option ((List (S36)) × Int)
 | 0,_,_,_,_,_,_=>none
 | k + 1,x0,x6,x7,x8,x9,x10=>if 0 ≤ x9 then (if x9 < (x0.length:Int) then (if x10 < (((rd_T47 x0 x9).f2).length:Int) then (if 0 ≤ x10 then ((spec_l16Has.f k x7 ((rd_T36 ((rd_T47 x0 x9).f2) x10).f0) ((rd_T36 ((rd_T47 x0 x9).f2) x10).f1.f0) ((rd_T36 ((rd_T47 x0 x9).f2) x10).f1.f1) ((rd_T36 ((rd_T47 x0 x9).f2) x10).f1.f2) ((rd_T36 ((rd_T47 x0 x9).f2) x10).f1.f3)).bind fun t409=>(if t409=true then (if (x7.length:Int) > 60 then (some (x6,3)) else (spec_Reach.l1 k x0 x6 x7 x8 x9 (wrap64 (x10 + 1)))) else (if x7.length < 2513169434916 then ((some (x7 ++ [(⟨(rd_T36 ((rd_T47 x0 x9).f2) x10).f0,(⟨(rd_T36 ((rd_T47 x0 x9).f2) x10).f1.f0,(rd_T36 ((rd_T47 x0 x9).f2) x10).f1.f1,(rd_T36 ((rd_T47 x0 x9).f2) x10).f1.f2,(rd_T36 ((rd_T47 x0 x9).f2) x10).f1.f3⟩:S33)⟩:S36)]:List (S36))).bind fun y412=>(if (y412.length:Int) > 60 then (some (x6,3)) else (spec_Reach.l1 k x0 x6 y412 x8 x9 (wrap64 (x10 + 1))))) else (none)))) else (none)) else (spec_Reach.l0 k x0 x6 x7 (wrap64 (x8 + 1)))) else (none)) else (none)
end
def spec_Reach.f (k:Nat) (l0:List (S47)) (l1:List (S36)):Option ((List (S36)) × Int):=(some (([]:List (S36)):List (S36))).bind fun y391=>((spec_NeedsOk.f k l1).bind fun t394=>(if t394=true then ((some (([]:List (S36)):List (S36))).bind fun y395=>(if y395.length + l1.length < 2513169434916 then (spec_Reach.l0 k l0 y391 (y395 ++ l1) 0) else (none))) else (some (y391,1))))
theorem spec_Reach.mono_l : ∀ k,(∀ y0 y1 y2 y3,LeO (spec_Reach.l0 k y0 y1 y2 y3) (spec_Reach.l0 (k + 1) y0 y1 y2 y3)) ∧ (∀ y0 y1 y2 y3 y4 y5,LeO (spec_Reach.j1 k y0 y1 y2 y3 y4 y5) (spec_Reach.j1 (k + 1) y0 y1 y2 y3 y4 y5)) ∧ (∀ y0 y1 y2 y3 y4 y5,LeO (spec_Reach.l1 k y0 y1 y2 y3 y4 y5) (spec_Reach.l1 (k + 1) y0 y1 y2 y3 y4 y5))
 | 0=>⟨fun _ _ _ _ r h=>by simp [spec_Reach.l0] at h,fun _ _ _ _ _ _ r h=>by simp [spec_Reach.j1] at h,fun _ _ _ _ _ _ r h=>by simp [spec_Reach.l1] at h⟩
 | k + 1=>by
  obtain ⟨ih0,ih1,ih2⟩:=spec_Reach.mono_l k;refine ⟨?_,?_,?_⟩
  ·intro y0 y1 y2 y3;unfold spec_Reach.l0
   repeat' first
   | (with_reducible exact ih1 _ _ _ _ _ _)
   | (with_reducible exact spec_EntryOk.mono _ _ _ _ _ _ _)
   | (with_reducible exact spec_l15At.mono _ _ _ _ _ _ _)
   | (with_reducible exact LeO.refl _)
   | (with_reducible refine LeO.ite ?_ ?_)
   | (with_reducible refine LeO.bind ?_ (fun _=>?_))
  ·intro y0 y1 y2 y3 y4 y5;unfold spec_Reach.j1
   repeat' first
   | (with_reducible exact ih2 _ _ _ _ _ _)
   | (with_reducible exact LeO.refl _)
   | (with_reducible refine LeO.ite ?_ ?_)
  ·intro y0 y1 y2 y3 y4 y5;unfold spec_Reach.l1
   repeat' first
   | (with_reducible exact ih0 _ _ _ _)
   | (with_reducible exact ih2 _ _ _ _ _ _)
   | (with_reducible exact spec_l16Has.mono _ _ _ _ _ _ _)
   | (with_reducible exact LeO.refl _)
   | (with_reducible refine LeO.ite ?_ ?_)
   | (with_reducible refine LeO.bind ?_ (fun _=>?_))
theorem spec_Reach.mono : ∀ a0 a1 k,LeO (spec_Reach.f k a0 a1) (spec_Reach.f (k + 1) a0 a1):=by
 intro a0 a1 k;obtain ⟨ih0,ih1,ih2⟩:=spec_Reach.mono_l k;unfold spec_Reach.f
 repeat' first
  | (with_reducible exact ih0 _ _ _ _)
  | (with_reducible exact spec_NeedsOk.mono _ _)
  | (with_reducible exact LeO.refl _)
  | (with_reducible refine LeO.ite ?_ ?_)
  | (with_reducible refine LeO.bind ?_ (fun _=>?_))
def spec_Reach.T8:Bool × List (List Nat × List Nat):=(true,[([],[]),([],[]),([],[]),([1,2],[1,2]),([3],[3]),([4],[4]),([],[]),([],[]),([6,7],[6,7]),([8],[8]),([9],[9]),([0,5,10],[0,5,10]),([11,11,0,1,2,3,4,5,6,7,8,9,10,11],[11])])
def spec_Reach.B8:List Nat:=[0,0,0,6,14,30,0,0,192,448,960,2047,4095]
theorem spec_Reach.tab8:rtab .any (opsOf Tryd.f55 8)=spec_Reach.T8:=by kernel_rfl
theorem spec_Reach.bits8:waitsOk spec_Reach.T8.2 spec_Reach.B8=true:=by kernel_rfl
set_option maxHeartbeats 8000000 in
set_option maxRecDepth 100000 in
theorem spec_Reach.calls (k:Nat) (A0:Option Addr) (c0:Nat) (l0:List (S47)) (A1:Option Addr) (c1:Nat) (l1:List (S36)) (r1:List (S36)) (r2:Int) (w:World) (hr0:Kd.C k47 w A0 l0.length l0) (hc0:l0.length ≤ c0) (hr1:Kd.C k36 w A1 l1.length l1) (hc1:l1.length ≤ c1) (h:spec_Reach.f k l0 l1=some (r1,r2)) :
 Calls Tryd.prog 55 #[.slice A0 l0.length c0,.slice A1 l1.length c1] w fun e w'=>∃ v0_:Value,e = .returned (.tuple #[v0_,.int .i64 r2]) ∧ Kd.R k36 36 w' w.heap.size (fun _=>True) v0_ r1 ∧ Below w.heap.size w w':=by
 have hu33:=Tryd.underlying33;have hu47:=Tryd.underlying47;have hu36:=Tryd.underlying36;have HR0:=a_ hr0;have HC0:=a_ hc0;clear hr0 hc0;have HR1:=a_ hr1;have HC1:=a_ hc1;clear hr1 hc1;have HB:=a_ (Below.refl w.heap.size w);have H:((some (([]:List (S36)):List (S36))).bind fun y391=>((spec_NeedsOk.f k l1).bind fun t394=>(if t394=true then ((some (([]:List (S36)):List (S36))).bind fun y395=>(if y395.length + l1.length < 2513169434916 then (spec_Reach.l0 k l0 y391 (y395 ++ l1) 0) else (none))) else (some (y391,1)))))=some (r1,r2):=h
 clear h;obtain ⟨y391,hy391⟩ : ∃ y_:List (S36),y_=(([]:List (S36))):=⟨_,rfl⟩;replace H:((spec_NeedsOk.f k l1).bind fun t394=>(if t394=true then ((some (([]:List (S36)):List (S36))).bind fun y395=>(if y395.length + l1.length < 2513169434916 then (spec_Reach.l0 k l0 y391 (y395 ++ l1) 0) else (none))) else (some (y391,1))))=some (r1,r2):=by (have H2_:=(Option.bind_some _ _).symm.trans H;rw [hy391];with_reducible exact H2_)
 have Ny391:=a_ hy391;clear hy391;replace H:=Option.bind_eq_some_iff.mp H;obtain ⟨t394,A30,H⟩:=H;replace H:(if t394=true then ((some (([]:List (S36)):List (S36))).bind fun y395=>(if y395.length + l1.length < 2513169434916 then (spec_Reach.l0 k l0 y391 (y395 ++ l1) 0) else (none))) else (some (y391,1)))=some (r1,r2):=H;have A3:=a_ A30;clear A30
 by_cases c4:t394=true
 ·subst c4;have H1:((some (([]:List (S36)):List (S36))).bind fun y395=>(if y395.length + l1.length < 2513169434916 then (spec_Reach.l0 k l0 y391 (y395 ++ l1) 0) else (none)))=some (r1,r2):=by rw [if_pos rfl] at H;exact H
  clear H;have H:=H1;clear H1;obtain ⟨y395,hy395⟩ : ∃ y_:List (S36),y_=(([]:List (S36))):=⟨_,rfl⟩;replace H:(if y395.length + l1.length < 2513169434916 then (spec_Reach.l0 k l0 y391 (y395 ++ l1) 0) else (none))=some (r1,r2):=by (have H2_:=(Option.bind_some _ _).symm.trans H;rw [hy395];with_reducible exact H2_)
  have Ny395:=a_ hy395;clear hy395
  by_cases c5:y395.length + l1.length < 2513169434916
  ·rw [if_pos c5] at H;have LMc5:=a_ c5;clear c5;obtain ⟨y398,hy398⟩ : ∃ y_:List (S36),y_=(y395 ++ l1):=⟨_,rfl⟩;replace H:(spec_Reach.l0 k l0 y391 y398 0)=some (r1,r2):=by (rw [hy398];with_reducible exact H)
   have Ny398:=a_ hy398;clear hy398;have H':=a_ H;clear H
   go_enter Tryd.func55,Tryd.ntmps55
   go_wp2_with (first | ((with_reducible refine gate_dst (N:=11) rfl ?_);refine Kd.R_lit k36 _ 36 ?hg (N:=11) ?hd (xs:=([]:List (S36))) (inner:=[]) (ok:=fun _=>True) (okp:=fun _=>True) ?hr ?hp (fun _ hk=>hk) trivial (Below.refl _ _) (Nat.le_refl _) (by simp) ?_;(case hd=>rfl);(case hg=>rfl);(case hr=>(go_simp;done));(case hp=>exact (Reps.none _ _));intro v392 w6 ho7 hb hg_ hnew_;clear hg_ hnew_;(rw [← Ny391.out] at ho7);have n0_:=a_ (Kd.R_lower ho7 (below_size HB.out));have n1_:=a_ (below_step HB.out hb);clear HB;have HO393:=n0_;have HB:=n1_;clear n0_ n1_;clear hb ho7) | ((with_reducible refine gate_callee (f:=70) rfl ?_);refine goesL_ (some 13) rfl rfl Tryd.func70 (by kernel_rfl) rfl #[.slice A1 l1.length c1] rfl (by (try simp only [List.map_toArray,List.map_cons,List.map_nil]);rfl) ?_;(with_reducible refine (spec_NeedsOk.calls k _ _ l1 true _ ?side1 ?side2 A3.out).mono ?_);(case side1=>repeat (exact (Kd.C_below HR1.out HB.out)));(case side2=>exact HC1.out);rintro e w8 ⟨rfl,hb⟩;refine ⟨_,rfl,?_⟩;have n0_:=a_ (Kd.R_below (by exact HO393.out) hb);have n1_:=a_ (below_step HB.out hb);clear HO393;clear HB;have HO393:=n0_;have HB:=n1_;clear n0_ n1_;(try clear hb)) | ((with_reducible refine gate_dst (N:=16) rfl ?_);refine Kd.R_lit k36 _ 36 ?hg (N:=16) ?hd (xs:=([]:List (S36))) (inner:=[]) (ok:=fun _=>True) (okp:=fun _=>True) ?hr ?hp (fun _ hk=>hk) trivial (Below.refl _ _) (Nat.le_refl _) (by simp) ?_;(case hd=>rfl);(case hg=>rfl);(case hr=>(go_simp;done));(case hp=>exact (Reps.none _ _));intro v396 w9 ho10 hb hg_ hnew_;clear hg_ hnew_;(rw [← Ny395.out] at ho10);have n0_:=a_ (Kd.R_elder' (by exact HO393.out) (Kd.R_base ho10) hb);have n1_:=a_ (Kd.R_lower (Kd.R_new' ho10 (Kd.R_lt (by exact HO393.out))) (below_size HB.out));have n2_:=a_ (below_step HB.out hb);clear HO393;clear HB;have HO393:=n0_;have HO397:=n1_;have HB:=n2_;clear n0_ n1_ n2_;clear hb ho10) | ((with_reducible refine gate_builtin (b:=.append) (xs:=#[.tmp 16,.tmp 17]) rfl ?_);at_builtin;refine Kd.R_append_rows k36 (w0:=w) w.heap.size rfl (.tmp 16) (.tmp 17) 25 36 (.agg #[(.string ⟨#[]⟩),(.int .i64 0),(.int .i64 0),(.int .i64 0),(.string ⟨#[]⟩)]) 56 rfl Tryd.underlying25 info36 rfl (by decide) (by omega) v396 y395 l1 _ _ _ (fun k_=>some k_ ≠ (v392:Value).ownBlock) (fun _=>False) rfl rfl ?aO ?aR (fun _ _ h=>h) (fun _ h=>h.elim) ?aF ?aB ?aS ?aL ?_;(case aR=>repeat (exact (Kd.C_below HR1.out HB.out)));(case aB=>exact HB.out);(case aF=>exact (fun k_ hk=>Kd.fresh' (Kd.R_lt (by exact HO393.out)) k_ hk));(case aO=>exact (by exact Kd.R_mono HO397.out (fun _ hk=>hk.2)));(case aS=>exact (below_size HB.out));(case aL=>have:=LMc5.out;omega);intro v399 w11 ho hb hg hat;rw [← Ny398.out] at ho;have n0_:=a_ (Kd.R_after (ok:=(fun _=>True)) (by exact HO393.out) hg hat);have n1_:=a_ (hb);have n2_:=a_ (ho);clear HO393;clear HB;clear HO397;have HO393:=n0_;have HB:=n1_;have HO400:=n2_;clear n0_ n1_ n2_;clear ho hb hg hat))
   go_loopg [7,8] k (fun kq v7 v8 w'=>∃ (x7_1:List (S36)) (x8_1:Int),v8 = .int .i64 x8_1 ∧ Aside0 (spec_Reach.l0 kq l0 y391 x7_1 x8_1=some (r1,r2)) ∧ Aside0 (kq ≤ k) ∧ Aside0 (Kd.R k36 36 w' w.heap.size (fun k_=>some k_ ≠ (v7:Value).ownBlock) v392 y391) ∧ Aside0 (Kd.R k36 36 w' w.heap.size (fun k_=>some k_ ≠ (v392:Value).ownBlock) v7 x7_1) ∧ Aside0 (Below w.heap.size w w'))
   case atStart=>exact ⟨(y398),(0),(by rfl),H',⟨Nat.le_refl _⟩,⟨by exact Kd.R_mono HO393.out (fun _ hk=>hk.2)⟩,⟨by exact HO400.out⟩,⟨by exact HB.out⟩⟩
   case round=>
    clear H';obtain ⟨x7_1,x8_1,rfl,HA,HK1,HO_6,HO_7,HB⟩:=hrel
    cases gk with
    | zero=>exact absurd HA.out (by simp [spec_Reach.l0])
    | succ k1=>
     have H:=HA.out;clear HA;simp only [spec_Reach.l0] at H
     by_cases c12:x8_1 < (x7_1.length:Int)
     ·rw [if_pos c12] at H;have c12b0:decide (x8_1 < (x7_1.length:Int))=true:=decide_eq_true c12;clear c12
      by_cases c13:0 ≤ x8_1
      ·rw [if_pos c13] at H;have c13b0:decide (0 ≤ x8_1)=true:=decide_eq_true c13;clear c13;replace H:=Option.bind_eq_some_iff.mp H;obtain ⟨t403,A140,H⟩:=H;replace H:(if t403 < 0 then (spec_Reach.j1 k1 l0 y391 x7_1 x8_1 t403 true) else (if 0 ≤ t403 then (if t403 < (l0.length:Int) then ((spec_EntryOk.f k1 ((rd_T47 l0 t403).f0) ((rd_T47 l0 t403).f1.f0) ((rd_T47 l0 t403).f1.f1) ((rd_T47 l0 t403).f1.f2) ((rd_T47 l0 t403).f1.f3) ((rd_T47 l0 t403).f2)).bind fun t405=>(spec_Reach.j1 k1 l0 y391 x7_1 x8_1 t403 (!t405))) else (none)) else (none)))=some (r1,r2):=H
       have A14:=a_ A140;clear A140;have HC15:=a_ H;clear H;obtain ⟨Ao16,co16,eo16⟩:=Kd.R_slice HO_7.out;subst eo16
       try go_wp2
       have n0_:=a_ (Kd.R_drew HO_6.out);have n1_:=a_ (Kd.R_drew HO_7.out);have n2_:=a_ (below_drew1 HB.out);clear HO_6;clear HO_7;clear HB;have HO_6:=n0_;have HO_7:=n1_;have HB:=n2_;clear n0_ n1_ n2_;have p401:0 ≤ (x8_1:Int):=of_decide_eq_true (by (with_reducible assumption));have q401:x8_1 < (x7_1.length:Int):=of_decide_eq_true (by (with_reducible assumption));obtain ⟨ad401,e401,hx401_0,hx401_1,hx401_2,hx401_3,hx401_4⟩:=at_T36 (Kd.R_reads' HO_7.out).2.2 x8_1 p401 q401
       cases e401;replace p401:=eq_true p401
       replace q401:=eq_true q401;have p402:0 ≤ (x8_1:Int):=of_decide_eq_true (by (with_reducible assumption));have q402:x8_1 < (x7_1.length:Int):=of_decide_eq_true (by (with_reducible assumption));obtain ⟨ad402,e402,hx402_0,hx402_1,hx402_2,hx402_3,hx402_4⟩:=at_T36 (Kd.R_reads' HO_7.out).2.2 x8_1 p402 q402;obtain rfl:ad401=ad402:=(by injection e402);replace p402:=eq_true p402;replace q402:=eq_true q402
       refine start_ (n:=13) (S:=fun w'=>w'.cell? (ad401.add ((x8_1).toNat * 5))=some (.string ((rd_T36 x7_1 x8_1).f0)) ∧ w'.cell? ⟨(ad401.add ((x8_1).toNat * 5)).block,(ad401.add ((x8_1).toNat * 5)).off + 1,none⟩=some (.int .i64 ((rd_T36 x7_1 x8_1).f1.f0)) ∧ w'.cell? ⟨(ad401.add ((x8_1).toNat * 5)).block,(ad401.add ((x8_1).toNat * 5)).off + 2,none⟩=some (.int .i64 ((rd_T36 x7_1 x8_1).f1.f1)) ∧ w'.cell? ⟨(ad401.add ((x8_1).toNat * 5)).block,(ad401.add ((x8_1).toNat * 5)).off + 3,none⟩=some (.int .i64 ((rd_T36 x7_1 x8_1).f1.f2)) ∧ w'.cell? ⟨(ad401.add ((x8_1).toNat * 5)).block,(ad401.add ((x8_1).toNat * 5)).off + 4,none⟩=some (.string ((rd_T36 x7_1 x8_1).f1.f3)) ∧ w'.cell? (ad401.add ((x8_1).toNat * 5))=some (.string ((rd_T36 x7_1 x8_1).f0)) ∧ w'.cell? ⟨(ad401.add ((x8_1).toNat * 5)).block,(ad401.add ((x8_1).toNat * 5)).off + 1,none⟩=some (.int .i64 ((rd_T36 x7_1 x8_1).f1.f0)) ∧ w'.cell? ⟨(ad401.add ((x8_1).toNat * 5)).block,(ad401.add ((x8_1).toNat * 5)).off + 2,none⟩=some (.int .i64 ((rd_T36 x7_1 x8_1).f1.f1)) ∧ w'.cell? ⟨(ad401.add ((x8_1).toNat * 5)).block,(ad401.add ((x8_1).toNat * 5)).off + 3,none⟩=some (.int .i64 ((rd_T36 x7_1 x8_1).f1.f2)) ∧ w'.cell? ⟨(ad401.add ((x8_1).toNat * 5)).block,(ad401.add ((x8_1).toNat * 5)).off + 4,none⟩=some (.string ((rd_T36 x7_1 x8_1).f1.f3))) (ds:=[]) (m_ 0 13) (by kernel_rfl) rfl rfl ⟨hx401_0,hx401_1,hx401_2,hx401_3,hx401_4,hx402_0,hx402_1,hx402_2,hx402_3,hx402_4⟩ (fun hHeld=>?_);refine with_tabW spec_Reach.tab8 spec_Reach.bits8 (fun HT_ HW_=>?_)
       generalize wr.drew=w17 at HO_6 HO_7 HB hx401_0 hx401_1 hx401_2 hx401_3 hx401_4 hx402_0 hx402_1 hx402_2 hx402_3 hx402_4 hHeld ⊢
       refine pure_ (i:=0) (N:=some 25) (v:=?_) (a':=?_) (m_ 1 12) rfl rfl (any_of HT_.out (by kernel_rfl)) (fun _ _ _ h=>h) (Or.inl ⟨by rfl,?_⟩) ?_ ?_;rotate_left
       ·intro w';go_simp
        with_reducible rfl
       rotate_left
       ·simp only [Act.put,s1_,s2_,s3_,i64_w,i32_w];rfl
       refine pure_ (i:=1) (N:=some 26) (v:=?_) (a':=?_) (m_ 2 11) rfl rfl (any_of HT_.out (by kernel_rfl)) (fun _ _ _ h=>h) (Or.inl ⟨by rfl,?_⟩) ?_ ?_;rotate_left
       ·intro w';go_simp
        with_reducible rfl
       rotate_left
       ·simp only [Act.put,s1_,s2_,s3_,i64_w,i32_w];rfl
       refine pure_ (i:=2) (N:=some 27) (v:=?_) (a':=?_) (m_ 3 10) rfl rfl (any_of HT_.out (by kernel_rfl)) (fun _ _ _ h=>h) (Or.inl ⟨by rfl,?_⟩) ?_ ?_;rotate_left
       ·intro w';go_simp
        with_reducible rfl
       rotate_left
       ·simp only [Act.put,s1_,s2_,s3_,i64_w,i32_w];rfl
       refine pure_ (i:=3) (N:=some 28) (v:=?_) (a':=?_) (m_ 4 9) rfl rfl (any_of HT_.out (by kernel_rfl)) (fun _ _ _ h=>h) (Or.inl ⟨by rfl,?_⟩) ?_ ?_;rotate_left
       ·intro w';go_simp
        with_reducible rfl
       rotate_left
       ·simp only [Act.put,s1_,s2_,s3_,i64_w,i32_w];rfl
       refine pure_ (i:=4) (N:=some 29) (v:=?_) (a':=?_) (m_ 5 8) rfl rfl (any_of HT_.out (by kernel_rfl)) (fun _ _ _ h=>h) (Or.inl ⟨by rfl,?_⟩) ?_ ?_;rotate_left
       ·intro w';go_simp
        with_reducible rfl
       rotate_left
       ·simp only [Act.put,s1_,s2_,s3_,i64_w,i32_w];rfl
       refine pure_ (i:=6) (N:=some 31) (v:=?_) (a':=?_) #[true,true,true,true,true,false,true,false,false,false,false,false,false] rfl rfl (any_of HT_.out (by kernel_rfl)) (fun _ _ _ h=>h) (Or.inl ⟨by rfl,?_⟩) ?_ ?_;rotate_left
       ·intro w';go_simp
        with_reducible rfl
       rotate_left
       ·simp only [Act.put,s1_,s2_,s3_,i64_w,i32_w];rfl
       refine pure_ (i:=7) (N:=some 32) (v:=?_) (a':=?_) #[true,true,true,true,true,false,true,true,false,false,false,false,false] rfl rfl (any_of HT_.out (by kernel_rfl)) (fun _ _ _ h=>h) (Or.inl ⟨by rfl,?_⟩) ?_ ?_;rotate_left
       ·intro w';go_simp
        with_reducible rfl
       rotate_left
       ·simp only [Act.put,s1_,s2_,s3_,i64_w,i32_w];rfl
       refine pure_ (i:=8) (N:=some 33) (v:=?_) (a':=?_) #[true,true,true,true,true,false,true,true,true,false,false,false,false] rfl rfl (any_of HT_.out (by kernel_rfl)) (fun _ _ _ h=>h) (Or.inl ⟨by rfl,?_⟩) ?_ ?_;rotate_left
       ·intro w';go_simp
        with_reducible rfl
       rotate_left
       ·simp only [Act.put,s1_,s2_,s3_,i64_w,i32_w];rfl
       refine pure_ (i:=9) (N:=some 34) (v:=?_) (a':=?_) #[true,true,true,true,true,false,true,true,true,true,false,false,false] rfl rfl (any_of HT_.out (by kernel_rfl)) (fun _ _ _ h=>h) (Or.inl ⟨by rfl,?_⟩) ?_ ?_;rotate_left
       ·intro w';go_simp
        with_reducible rfl
       rotate_left
       ·simp only [Act.put,s1_,s2_,s3_,i64_w,i32_w];rfl
       refine take_ (i:=5) (N:=some 30) (v:=?_) (a':=?_) (m_ 10 3) rfl rfl (take_ofW HT_.out HW_.out (by kernel_rfl)) (fun _ _ _ h=>h) (Or.inl ⟨by rfl,?_⟩) hHeld ?_ ?_;rotate_left
       ·rintro w' ⟨s0,s1,s2,s3,s4,s5,s6,s7,s8,s9⟩;go_simp
        with_reducible rfl
       rotate_left
       ·simp only [Act.put,s1_,s2_,s3_,i64_w,i32_w];rfl
       refine take_ (i:=10) (N:=some 35) (v:=?_) (a':=?_) (m_ 11 2) rfl rfl (take_ofW HT_.out HW_.out (by kernel_rfl)) (fun _ _ _ h=>h) (Or.inl ⟨by rfl,?_⟩) hHeld ?_ ?_;rotate_left
       ·rintro w' ⟨s0,s1,s2,s3,s4,s5,s6,s7,s8,s9⟩;go_simp
        with_reducible rfl
       rotate_left
       ·simp only [Act.put,s1_,s2_,s3_,i64_w,i32_w];rfl
       refine one_ (i:=11) (N:=some 36) (m_ 12 1) rfl rfl (one_of HT_.out (by kernel_rfl)) (by decide) (fun K hK=>?_);refine goes_ Tryd.func35 (by kernel_rfl) rfl #[.slice A0 l0.length c0,.string ((rd_T36 x7_1 x8_1).f0),.agg #[.int .i64 ((rd_T36 x7_1 x8_1).f1.f0),.int .i64 ((rd_T36 x7_1 x8_1).f1.f1),.int .i64 ((rd_T36 x7_1 x8_1).f1.f2),.string ((rd_T36 x7_1 x8_1).f1.f3)]] (by rfl) rfl rfl (by (try simp only [List.map_toArray,List.map_cons,List.map_nil]);rfl) ?_
       with_reducible refine (spec_l15At.calls k1 _ _ l0 ((rd_T36 x7_1 x8_1).f0) ((rd_T36 x7_1 x8_1).f1.f0) ((rd_T36 x7_1 x8_1).f1.f1) ((rd_T36 x7_1 x8_1).f1.f2) ((rd_T36 x7_1 x8_1).f1.f3) t403 _ ?side1 ?side2 A14.out).mono ?_
       (case side1=>repeat (exact (Kd.C_below HR0.out HB.out)))
       (case side2=>exact HC0.out)
       rintro e w18 ⟨rfl,hb⟩;have HS0_:=(hb.cell (World.block_lt_of_cell? _ _ (hHeld.1))).trans (hHeld.1);have HS1_:=(hb.cell (World.block_lt_of_cell? _ _ (hHeld.2.1))).trans (hHeld.2.1);have HS2_:=(hb.cell (World.block_lt_of_cell? _ _ (hHeld.2.2.1))).trans (hHeld.2.2.1);have HS3_:=(hb.cell (World.block_lt_of_cell? _ _ (hHeld.2.2.2.1))).trans (hHeld.2.2.2.1);have HS4_:=(hb.cell (World.block_lt_of_cell? _ _ (hHeld.2.2.2.2.1))).trans (hHeld.2.2.2.2.1)
       have HS5_:=(hb.cell (World.block_lt_of_cell? _ _ (hHeld.2.2.2.2.2.1))).trans (hHeld.2.2.2.2.2.1);have HS6_:=(hb.cell (World.block_lt_of_cell? _ _ (hHeld.2.2.2.2.2.2.1))).trans (hHeld.2.2.2.2.2.2.1);have HS7_:=(hb.cell (World.block_lt_of_cell? _ _ (hHeld.2.2.2.2.2.2.2.1))).trans (hHeld.2.2.2.2.2.2.2.1);have HS8_:=(hb.cell (World.block_lt_of_cell? _ _ (hHeld.2.2.2.2.2.2.2.2.1))).trans (hHeld.2.2.2.2.2.2.2.2.1)
       have HS9_:=(hb.cell (World.block_lt_of_cell? _ _ (hHeld.2.2.2.2.2.2.2.2.2))).trans (hHeld.2.2.2.2.2.2.2.2.2);refine ⟨_,rfl,?_⟩;have n0_:=a_ (Kd.R_below (by exact HO_6.out) hb);have n1_:=a_ (Kd.R_below (by exact HO_7.out) hb);have n2_:=a_ (below_step HB.out hb);clear HO_6;clear HO_7;clear HB;have HO_6:=n0_;have HO_7:=n1_;have HB:=n2_;clear n0_ n1_ n2_
       (try clear hb)
       (skip)
       (skip)
       (skip)
       refine hK.out _ _ ⟨HS0_,HS1_,HS2_,HS3_,HS4_,HS5_,HS6_,HS7_,HS8_,HS9_⟩ (fun hHeld=>?_);clear hK K;refine norm_ (a':=?_) ?_ ?_;rotate_left
       ·show Act.put _ (some 36) _=_;simp only [Act.put,s1_,s2_,s3_,i64_w,i32_w];rfl
       refine pure_ (i:=12) (N:=some 9) (v:=?_) (a':=?_) (m_ 13 0) rfl rfl (any_of HT_.out (by kernel_rfl)) (fun _ _ _ h=>h) (Or.inl ⟨by rfl,?_⟩) ?_ ?_;rotate_left
       ·intro w';go_simp
        with_reducible rfl
       rotate_left
       ·simp only [Act.put,s1_,s2_,s3_,i64_w,i32_w];rfl
       refine done_ (done_of HT_.out (by kernel_rfl)) ?_
       go_upto_region 9 with (fail)
       go_cut [46] (fun v46 wc=>∃ (kq:Nat) (x46_14:Bool),v46 = .bool x46_14 ∧ Aside0 (spec_Reach.j1 kq l0 y391 x7_1 x8_1 t403 x46_14=some (r1,r2)) ∧ Aside0 (kq ≤ k1) ∧ Aside0 (Kd.R k36 36 wc w.heap.size (fun k_=>some k_ ≠ ((.slice (some ad401) x7_1.length co16):Value).ownBlock) v392 y391) ∧ Aside0 (Kd.R k36 36 wc w.heap.size (fun k_=>some k_ ≠ (v392:Value).ownBlock) (.slice (some ad401) x7_1.length co16) x7_1) ∧ Aside0 (Below w.heap.size w wc))
       case first=>
        have H:=HC15.out;clear HC15
        by_cases c19:t403 < 0
        ·rw [if_pos c19] at H;have c19b0:decide (t403 < 0)=true:=decide_eq_true c19;clear c19
         (skip)
         have H':=a_ H;clear H
         go_wp2
         go_meet
         case rel=>exact ⟨_,(true),(by rfl),H',⟨by have:=HK1.out;omega⟩,⟨by exact HO_6.out⟩,⟨by exact HO_7.out⟩,⟨by exact HB.out⟩⟩
        ·rw [if_neg c19] at H;have c19b0:decide (t403 < 0)=false:=decide_eq_false c19;clear c19
         (skip)
         by_cases c20:0 ≤ t403
         ·rw [if_pos c20] at H;have c20b0:decide (0 ≤ t403)=true:=decide_eq_true c20;clear c20
          by_cases c21:t403 < (l0.length:Int)
          ·rw [if_pos c21] at H;have c21b0:decide (t403 < (l0.length:Int))=true:=decide_eq_true c21;clear c21;replace H:=Option.bind_eq_some_iff.mp H;obtain ⟨t405,A220,H⟩:=H;replace H:(spec_Reach.j1 k1 l0 y391 x7_1 x8_1 t403 (!t405))=some (r1,r2):=H;have A22:=a_ A220;clear A220;have H':=a_ H;clear H;have p404:0 ≤ (t403:Int):=of_decide_eq_true (by (with_reducible assumption));have q404:t403 < (l0.length:Int):=of_decide_eq_true (by (with_reducible assumption))
           obtain ⟨ad404,A404_5,c404_5,e404,hx404_0,hx404_1,hx404_2,hx404_3,hx404_4,hx404_5,hl404_5,hi404_5⟩:=at_T47 HR0.out t403 p404 q404;cases e404;replace hx404_0:=bc_ HB hx404_0;replace hx404_1:=bc_ HB hx404_1;replace hx404_2:=bc_ HB hx404_2;replace hx404_3:=bc_ HB hx404_3;replace hx404_4:=bc_ HB hx404_4;replace hx404_5:=bc_ HB hx404_5;have HR404_5:=a_ hi404_5;have HC404_5:=a_ hl404_5;clear hi404_5 hl404_5
           replace p404:=eq_true p404;replace q404:=eq_true q404
           go_wp2_with ((go_at_call 71;(with_reducible refine (spec_EntryOk.calls k1 ((rd_T47 l0 t403).f0) ((rd_T47 l0 t403).f1.f0) ((rd_T47 l0 t403).f1.f1) ((rd_T47 l0 t403).f1.f2) ((rd_T47 l0 t403).f1.f3) _ _ ((rd_T47 l0 t403).f2) t405 _ ?side1 ?side2 A22.out).mono ?_);(case side1=>repeat (exact (Kd.C_below HR404_5.out HB.out)));(case side2=>exact HC404_5.out);rintro e w23 ⟨rfl,hb⟩;have n0_:=a_ (Kd.R_below (by exact HO_6.out) hb);have n1_:=a_ (Kd.R_below (by exact HO_7.out) hb);have n2_:=a_ (below_step HB.out hb);clear HO_6;clear HO_7;clear HB;have HO_6:=n0_;have HO_7:=n1_;have HB:=n2_;clear n0_ n1_ n2_;(try clear hb)))
           go_meet
           case rel=>exact ⟨_,(!t405),(by rfl),H',⟨by have:=HK1.out;omega⟩,⟨by exact HO_6.out⟩,⟨by exact HO_7.out⟩,⟨by exact HB.out⟩⟩
          ·rw [if_neg c21] at H;exact absurd H (by simp)
         ·rw [if_neg c20] at H;exact absurd H (by simp)
       case rest=>
        clear HC15
        try clear c12b0
        try clear c13b0
        try clear hx401_0
        try clear hx401_1
        try clear hx401_2
        try clear hx401_3
        try clear hx401_4
        try clear hx402_0
        try clear hx402_1
        try clear hx402_2
        try clear hx402_3
        try clear hx402_4
        try clear p401
        try clear p402
        try clear q401
        try clear q402
        obtain ⟨kq,x46_14,rfl,HA,HJ14,HO_6,HO_7,HB⟩:=hcut
        cases kq with
        | zero=>exact absurd HA.out (by simp [spec_Reach.j1])
        | succ kj14=>
         have H:=HA.out;clear HA;simp only [spec_Reach.j1] at H
         by_cases c24:x46_14=true
         ·subst c24;have H1:(some (y391,2))=some (r1,r2):=by rw [if_pos rfl] at H;exact H
          clear H;have H:=H1;clear H1;simp only [Option.some.injEq,Prod.mk.injEq] at H;obtain ⟨rfl,rfl⟩:=H
          go_wp2
          go_ret2
          exact ⟨_,by rfl,by exact Kd.R_mono HO_6.out (fun _ hk=>trivial),by exact HB.out⟩
         ·replace c24:=Bool.eq_false_iff.mpr c24;subst c24;have H1:(spec_Reach.l1 kj14 l0 y391 x7_1 x8_1 t403 0)=some (r1,r2):=by rw [if_neg (show ¬ (false=true) by decide)] at H;exact H
          clear H;have H:=H1;clear H1;have H':=a_ H;clear H
          go_wp2
          go_loopg [7,10] kj14 (fun kq v7 v10 w'=>∃ (x7_3:List (S36)) (x10_3:Int),v10 = .int .i64 x10_3 ∧ Aside0 (spec_Reach.l1 kq l0 y391 x7_3 x8_1 t403 x10_3=some (r1,r2)) ∧ Aside0 (kq ≤ kj14) ∧ Aside0 (Kd.R k36 36 w' w.heap.size (fun k_=>some k_ ≠ (v7:Value).ownBlock) v392 y391) ∧ Aside0 (Kd.R k36 36 w' w.heap.size (fun k_=>some k_ ≠ (v392:Value).ownBlock) v7 x7_3) ∧ Aside0 (Below w.heap.size w w'))
          case atStart=>exact ⟨(x7_1),(0),(by rfl),H',⟨Nat.le_refl _⟩,⟨by exact HO_6.out⟩,⟨by exact HO_7.out⟩,⟨by exact HB.out⟩⟩
          case round=>
           clear H';obtain ⟨x7_3,x10_3,rfl,HA,HK3,HO_6,HO_7,HB⟩:=hrel
           cases gk with
           | zero=>exact absurd HA.out (by simp [spec_Reach.l1])
           | succ k3=>
            have H:=HA.out;clear HA;simp only [spec_Reach.l1] at H
            by_cases c25:0 ≤ t403
            ·rw [if_pos c25] at H;have c25b0:decide (0 ≤ t403)=true:=decide_eq_true c25;clear c25
             by_cases c26:t403 < (l0.length:Int)
             ·rw [if_pos c26] at H;have c26b0:decide (t403 < (l0.length:Int))=true:=decide_eq_true c26;clear c26
              by_cases c27:x10_3 < (((rd_T47 l0 t403).f2).length:Int)
              ·rw [if_pos c27] at H;have c27b0:decide (x10_3 < (((rd_T47 l0 t403).f2).length:Int))=true:=decide_eq_true c27;clear c27
               by_cases c28:0 ≤ x10_3
               ·rw [if_pos c28] at H;have c28b0:decide (0 ≤ x10_3)=true:=decide_eq_true c28;clear c28;replace H:=Option.bind_eq_some_iff.mp H;obtain ⟨t409,A290,H⟩:=H;replace H:(if t409=true then (if (x7_3.length:Int) > 60 then (some (y391,3)) else (spec_Reach.l1 k3 l0 y391 x7_3 x8_1 t403 (wrap64 (x10_3 + 1)))) else (if x7_3.length < 2513169434916 then ((some (x7_3 ++ [(⟨(rd_T36 ((rd_T47 l0 t403).f2) x10_3).f0,(⟨(rd_T36 ((rd_T47 l0 t403).f2) x10_3).f1.f0,(rd_T36 ((rd_T47 l0 t403).f2) x10_3).f1.f1,(rd_T36 ((rd_T47 l0 t403).f2) x10_3).f1.f2,(rd_T36 ((rd_T47 l0 t403).f2) x10_3).f1.f3⟩:S33)⟩:S36)]:List (S36))).bind fun y412=>(if (y412.length:Int) > 60 then (some (y391,3)) else (spec_Reach.l1 k3 l0 y391 y412 x8_1 t403 (wrap64 (x10_3 + 1))))) else (none)))=some (r1,r2):=H
                have A29:=a_ A290;clear A290
                by_cases c30:t409=true
                ·subst c30;have H1:(if (x7_3.length:Int) > 60 then (some (y391,3)) else (spec_Reach.l1 k3 l0 y391 x7_3 x8_1 t403 (wrap64 (x10_3 + 1))))=some (r1,r2):=by rw [if_pos rfl] at H;exact H
                 clear H;have H:=H1;clear H1
                 by_cases c31:(x7_3.length:Int) > 60
                 ·rw [if_pos c31] at H;have c31b0:decide (60 < (x7_3.length:Int))=true:=decide_eq_true c31;have c31b1:decide (60 < x7_3.length)=true:=decide_eq_true (by omega);clear c31;simp only [Option.some.injEq,Prod.mk.injEq] at H;obtain ⟨rfl,rfl⟩:=H;have p406:0 ≤ (t403:Int):=of_decide_eq_true (by (with_reducible assumption));have q406:t403 < (l0.length:Int):=of_decide_eq_true (by (with_reducible assumption))
                  obtain ⟨ad406,A406_5,c406_5,e406,hx406_0,hx406_1,hx406_2,hx406_3,hx406_4,hx406_5,hl406_5,hi406_5⟩:=at_T47 HR0.out t403 p406 q406;cases e406;replace hx406_0:=bc_ HB hx406_0;replace hx406_1:=bc_ HB hx406_1;replace hx406_2:=bc_ HB hx406_2;replace hx406_3:=bc_ HB hx406_3;replace hx406_4:=bc_ HB hx406_4;replace hx406_5:=bc_ HB hx406_5;have HR406_5:=a_ hi406_5;have HC406_5:=a_ hl406_5;clear hi406_5 hl406_5
                  replace p406:=eq_true p406;replace q406:=eq_true q406;have p407:0 ≤ (t403:Int):=of_decide_eq_true (by (with_reducible assumption));have q407:t403 < (l0.length:Int):=of_decide_eq_true (by (with_reducible assumption));obtain ⟨ad407,A407_5,c407_5,e407,hx407_0,hx407_1,hx407_2,hx407_3,hx407_4,hx407_5,hl407_5,hi407_5⟩:=at_T47 HR0.out t403 p407 q407;obtain rfl:ad406=ad407:=(by injection e407)
                  replace hx407_0:=bc_ HB hx407_0;replace hx407_1:=bc_ HB hx407_1;replace hx407_2:=bc_ HB hx407_2;replace hx407_3:=bc_ HB hx407_3;replace hx407_4:=bc_ HB hx407_4;replace hx407_5:=bc_ HB hx407_5;have HR407_5:=a_ hi407_5;have HC407_5:=a_ hl407_5;clear hi407_5 hl407_5;replace p407:=eq_true p407;replace q407:=eq_true q407;have ea_:=Option.some.inj (hx406_5.symm.trans hx407_5)
                  injection ea_ with ea_ en_ ec_
                  subst ea_;subst ec_;clear en_;have p408:0 ≤ (x10_3:Int):=of_decide_eq_true (by (with_reducible assumption));have q408:x10_3 < (((rd_T47 l0 t403).f2).length:Int):=of_decide_eq_true (by (with_reducible assumption));obtain ⟨ad408,e408,hx408_0,hx408_1,hx408_2,hx408_3,hx408_4⟩:=at_T36 HR407_5.out x10_3 p408 q408;cases e408;replace hx408_0:=bc_ HB hx408_0;replace hx408_1:=bc_ HB hx408_1
                  replace hx408_2:=bc_ HB hx408_2;replace hx408_3:=bc_ HB hx408_3;replace hx408_4:=bc_ HB hx408_4;replace p408:=eq_true p408;replace q408:=eq_true q408;obtain ⟨Ao32,co32,eo32⟩:=Kd.R_slice HO_7.out;subst eo32
                  go_wp2_with (((with_reducible refine gate_callee (f:=72) rfl ?_);refine goesL_ (some 67) rfl rfl Tryd.func72 (by kernel_rfl) rfl #[.slice Ao32 x7_3.length co32,.agg #[.string ((rd_T36 ((rd_T47 l0 t403).f2) x10_3).f0),.int .i64 ((rd_T36 ((rd_T47 l0 t403).f2) x10_3).f1.f0),.int .i64 ((rd_T36 ((rd_T47 l0 t403).f2) x10_3).f1.f1),.int .i64 ((rd_T36 ((rd_T47 l0 t403).f2) x10_3).f1.f2),.string ((rd_T36 ((rd_T47 l0 t403).f2) x10_3).f1.f3)]] rfl (by (try simp only [List.map_toArray,List.map_cons,List.map_nil]);rfl) ?_;(with_reducible refine (spec_l16Has.calls k3 _ _ x7_3 ((rd_T36 ((rd_T47 l0 t403).f2) x10_3).f0) ((rd_T36 ((rd_T47 l0 t403).f2) x10_3).f1.f0) ((rd_T36 ((rd_T47 l0 t403).f2) x10_3).f1.f1) ((rd_T36 ((rd_T47 l0 t403).f2) x10_3).f1.f2) ((rd_T36 ((rd_T47 l0 t403).f2) x10_3).f1.f3) true _ ?side1 ?side2 A29.out).mono ?_);(case side1=>repeat (exact (Kd.R_reads' HO_7.out).2.2));(case side2=>exact (Kd.R_reads' HO_7.out).2.1);rintro e w33 ⟨rfl,hb⟩;refine ⟨_,rfl,?_⟩;have n0_:=a_ (Kd.R_below (by exact HO_6.out) hb);have n1_:=a_ (Kd.R_below (by exact HO_7.out) hb);have n2_:=a_ (below_step HB.out hb);clear HO_6;clear HO_7;clear HB;have HO_6:=n0_;have HO_7:=n1_;have HB:=n2_;clear n0_ n1_ n2_;(try clear hb)))
                  go_ret2
                  exact ⟨_,by rfl,by exact Kd.R_mono HO_6.out (fun _ hk=>trivial),by exact HB.out⟩
                 ·rw [if_neg c31] at H;have c31b0:decide (60 < (x7_3.length:Int))=false:=decide_eq_false c31;have c31b1:decide (60 < x7_3.length)=false:=decide_eq_false (by omega);clear c31;have H':=a_ H;clear H;have p406:0 ≤ (t403:Int):=of_decide_eq_true (by (with_reducible assumption));have q406:t403 < (l0.length:Int):=of_decide_eq_true (by (with_reducible assumption));obtain ⟨ad406,A406_5,c406_5,e406,hx406_0,hx406_1,hx406_2,hx406_3,hx406_4,hx406_5,hl406_5,hi406_5⟩:=at_T47 HR0.out t403 p406 q406
                  cases e406;replace hx406_0:=bc_ HB hx406_0
                  replace hx406_1:=bc_ HB hx406_1;replace hx406_2:=bc_ HB hx406_2;replace hx406_3:=bc_ HB hx406_3;replace hx406_4:=bc_ HB hx406_4;replace hx406_5:=bc_ HB hx406_5;have HR406_5:=a_ hi406_5;have HC406_5:=a_ hl406_5;clear hi406_5 hl406_5;replace p406:=eq_true p406;replace q406:=eq_true q406;have p407:0 ≤ (t403:Int):=of_decide_eq_true (by (with_reducible assumption));have q407:t403 < (l0.length:Int):=of_decide_eq_true (by (with_reducible assumption))
                  obtain ⟨ad407,A407_5,c407_5,e407,hx407_0,hx407_1,hx407_2,hx407_3,hx407_4,hx407_5,hl407_5,hi407_5⟩:=at_T47 HR0.out t403 p407 q407;obtain rfl:ad406=ad407:=(by injection e407);replace hx407_0:=bc_ HB hx407_0;replace hx407_1:=bc_ HB hx407_1;replace hx407_2:=bc_ HB hx407_2;replace hx407_3:=bc_ HB hx407_3;replace hx407_4:=bc_ HB hx407_4;replace hx407_5:=bc_ HB hx407_5;have HR407_5:=a_ hi407_5
                  have HC407_5:=a_ hl407_5;clear hi407_5 hl407_5;replace p407:=eq_true p407;replace q407:=eq_true q407;have ea_:=Option.some.inj (hx406_5.symm.trans hx407_5)
                  injection ea_ with ea_ en_ ec_
                  subst ea_;subst ec_;clear en_;have p408:0 ≤ (x10_3:Int):=of_decide_eq_true (by (with_reducible assumption));have q408:x10_3 < (((rd_T47 l0 t403).f2).length:Int):=of_decide_eq_true (by (with_reducible assumption));obtain ⟨ad408,e408,hx408_0,hx408_1,hx408_2,hx408_3,hx408_4⟩:=at_T36 HR407_5.out x10_3 p408 q408;cases e408;replace hx408_0:=bc_ HB hx408_0;replace hx408_1:=bc_ HB hx408_1
                  replace hx408_2:=bc_ HB hx408_2;replace hx408_3:=bc_ HB hx408_3;replace hx408_4:=bc_ HB hx408_4;replace p408:=eq_true p408;replace q408:=eq_true q408;obtain ⟨Ao34,co34,eo34⟩:=Kd.R_slice HO_7.out;subst eo34
                  go_wp2_with (((with_reducible refine gate_callee (f:=72) rfl ?_);refine goesL_ (some 67) rfl rfl Tryd.func72 (by kernel_rfl) rfl #[.slice Ao34 x7_3.length co34,.agg #[.string ((rd_T36 ((rd_T47 l0 t403).f2) x10_3).f0),.int .i64 ((rd_T36 ((rd_T47 l0 t403).f2) x10_3).f1.f0),.int .i64 ((rd_T36 ((rd_T47 l0 t403).f2) x10_3).f1.f1),.int .i64 ((rd_T36 ((rd_T47 l0 t403).f2) x10_3).f1.f2),.string ((rd_T36 ((rd_T47 l0 t403).f2) x10_3).f1.f3)]] rfl (by (try simp only [List.map_toArray,List.map_cons,List.map_nil]);rfl) ?_;(with_reducible refine (spec_l16Has.calls k3 _ _ x7_3 ((rd_T36 ((rd_T47 l0 t403).f2) x10_3).f0) ((rd_T36 ((rd_T47 l0 t403).f2) x10_3).f1.f0) ((rd_T36 ((rd_T47 l0 t403).f2) x10_3).f1.f1) ((rd_T36 ((rd_T47 l0 t403).f2) x10_3).f1.f2) ((rd_T36 ((rd_T47 l0 t403).f2) x10_3).f1.f3) true _ ?side1 ?side2 A29.out).mono ?_);(case side1=>repeat (exact (Kd.R_reads' HO_7.out).2.2));(case side2=>exact (Kd.R_reads' HO_7.out).2.1);rintro e w35 ⟨rfl,hb⟩;refine ⟨_,rfl,?_⟩;have n0_:=a_ (Kd.R_below (by exact HO_6.out) hb);have n1_:=a_ (Kd.R_below (by exact HO_7.out) hb);have n2_:=a_ (below_step HB.out hb);clear HO_6;clear HO_7;clear HB;have HO_6:=n0_;have HO_7:=n1_;have HB:=n2_;clear n0_ n1_ n2_;(try clear hb)))
                  go_roundg k3
                  case measure=>have:=HK1.out;have:=HJ14.out;have:=HK3.out;omega
                  case rel=>exact ⟨(x7_3),(wrap64 (x10_3 + 1)),(by rfl),H',⟨by have:=HK1.out;have:=HJ14.out;have:=HK3.out;omega⟩,⟨by exact HO_6.out⟩,⟨by exact HO_7.out⟩,⟨by exact HB.out⟩⟩
                ·replace c30:=Bool.eq_false_iff.mpr c30;subst c30;have H1:(if x7_3.length < 2513169434916 then ((some (x7_3 ++ [(⟨(rd_T36 ((rd_T47 l0 t403).f2) x10_3).f0,(⟨(rd_T36 ((rd_T47 l0 t403).f2) x10_3).f1.f0,(rd_T36 ((rd_T47 l0 t403).f2) x10_3).f1.f1,(rd_T36 ((rd_T47 l0 t403).f2) x10_3).f1.f2,(rd_T36 ((rd_T47 l0 t403).f2) x10_3).f1.f3⟩:S33)⟩:S36)]:List (S36))).bind fun y412=>(if (y412.length:Int) > 60 then (some (y391,3)) else (spec_Reach.l1 k3 l0 y391 y412 x8_1 t403 (wrap64 (x10_3 + 1))))) else (none))=some (r1,r2):=by rw [if_neg (show ¬ (false=true) by decide)] at H;exact H
                 clear H;have H:=H1;clear H1
                 by_cases c36:x7_3.length < 2513169434916
                 ·rw [if_pos c36] at H;have LMc36:=a_ c36;clear c36;obtain ⟨y412,hy412⟩ : ∃ y_:List (S36),y_=(x7_3 ++ [(⟨(rd_T36 ((rd_T47 l0 t403).f2) x10_3).f0,(⟨(rd_T36 ((rd_T47 l0 t403).f2) x10_3).f1.f0,(rd_T36 ((rd_T47 l0 t403).f2) x10_3).f1.f1,(rd_T36 ((rd_T47 l0 t403).f2) x10_3).f1.f2,(rd_T36 ((rd_T47 l0 t403).f2) x10_3).f1.f3⟩:S33)⟩:S36)]):=⟨_,rfl⟩;replace H:(if (y412.length:Int) > 60 then (some (y391,3)) else (spec_Reach.l1 k3 l0 y391 y412 x8_1 t403 (wrap64 (x10_3 + 1))))=some (r1,r2):=by (have H2_:=(Option.bind_some _ _).symm.trans H;rw [hy412];with_reducible exact H2_)
                  have Ny412:=a_ hy412;clear hy412
                  by_cases c37:(y412.length:Int) > 60
                  ·rw [if_pos c37] at H;have c37b0:decide (60 < (y412.length:Int))=true:=decide_eq_true c37;have c37b1:decide (60 < y412.length)=true:=decide_eq_true (by omega);clear c37;simp only [Option.some.injEq,Prod.mk.injEq] at H;obtain ⟨rfl,rfl⟩:=H;have p406:0 ≤ (t403:Int):=of_decide_eq_true (by (with_reducible assumption));have q406:t403 < (l0.length:Int):=of_decide_eq_true (by (with_reducible assumption))
                   obtain ⟨ad406,A406_5,c406_5,e406,hx406_0,hx406_1,hx406_2,hx406_3,hx406_4,hx406_5,hl406_5,hi406_5⟩:=at_T47 HR0.out t403 p406 q406;cases e406;replace hx406_0:=bc_ HB hx406_0;replace hx406_1:=bc_ HB hx406_1;replace hx406_2:=bc_ HB hx406_2;replace hx406_3:=bc_ HB hx406_3;replace hx406_4:=bc_ HB hx406_4;replace hx406_5:=bc_ HB hx406_5;have HR406_5:=a_ hi406_5;have HC406_5:=a_ hl406_5
                   clear hi406_5 hl406_5;replace p406:=eq_true p406;replace q406:=eq_true q406;have p407:0 ≤ (t403:Int):=of_decide_eq_true (by (with_reducible assumption));have q407:t403 < (l0.length:Int):=of_decide_eq_true (by (with_reducible assumption));obtain ⟨ad407,A407_5,c407_5,e407,hx407_0,hx407_1,hx407_2,hx407_3,hx407_4,hx407_5,hl407_5,hi407_5⟩:=at_T47 HR0.out t403 p407 q407;obtain rfl:ad406=ad407:=(by injection e407)
                   replace hx407_0:=bc_ HB hx407_0;replace hx407_1:=bc_ HB hx407_1;replace hx407_2:=bc_ HB hx407_2;replace hx407_3:=bc_ HB hx407_3;replace hx407_4:=bc_ HB hx407_4;replace hx407_5:=bc_ HB hx407_5;have HR407_5:=a_ hi407_5;have HC407_5:=a_ hl407_5;clear hi407_5 hl407_5;replace p407:=eq_true p407;replace q407:=eq_true q407;have ea_:=Option.some.inj (hx406_5.symm.trans hx407_5)
                   injection ea_ with ea_ en_ ec_
                   subst ea_;subst ec_;clear en_;have p408:0 ≤ (x10_3:Int):=of_decide_eq_true (by (with_reducible assumption));have q408:x10_3 < (((rd_T47 l0 t403).f2).length:Int):=of_decide_eq_true (by (with_reducible assumption));obtain ⟨ad408,e408,hx408_0,hx408_1,hx408_2,hx408_3,hx408_4⟩:=at_T36 HR407_5.out x10_3 p408 q408;cases e408;replace hx408_0:=bc_ HB hx408_0;replace hx408_1:=bc_ HB hx408_1
                   replace hx408_2:=bc_ HB hx408_2;replace hx408_3:=bc_ HB hx408_3;replace hx408_4:=bc_ HB hx408_4;replace p408:=eq_true p408;replace q408:=eq_true q408;obtain ⟨Ao38,co38,eo38⟩:=Kd.R_slice HO_7.out;subst eo38
                   go_wp2_with (first | ((with_reducible refine gate_callee (f:=72) rfl ?_);refine goesL_ (some 67) rfl rfl Tryd.func72 (by kernel_rfl) rfl #[.slice Ao38 x7_3.length co38,.agg #[.string ((rd_T36 ((rd_T47 l0 t403).f2) x10_3).f0),.int .i64 ((rd_T36 ((rd_T47 l0 t403).f2) x10_3).f1.f0),.int .i64 ((rd_T36 ((rd_T47 l0 t403).f2) x10_3).f1.f1),.int .i64 ((rd_T36 ((rd_T47 l0 t403).f2) x10_3).f1.f2),.string ((rd_T36 ((rd_T47 l0 t403).f2) x10_3).f1.f3)]] rfl (by (try simp only [List.map_toArray,List.map_cons,List.map_nil]);rfl) ?_;(with_reducible refine (spec_l16Has.calls k3 _ _ x7_3 ((rd_T36 ((rd_T47 l0 t403).f2) x10_3).f0) ((rd_T36 ((rd_T47 l0 t403).f2) x10_3).f1.f0) ((rd_T36 ((rd_T47 l0 t403).f2) x10_3).f1.f1) ((rd_T36 ((rd_T47 l0 t403).f2) x10_3).f1.f2) ((rd_T36 ((rd_T47 l0 t403).f2) x10_3).f1.f3) false _ ?side1 ?side2 A29.out).mono ?_);(case side1=>repeat (exact (Kd.R_reads' HO_7.out).2.2));(case side2=>exact (Kd.R_reads' HO_7.out).2.1);rintro e w39 ⟨rfl,hb⟩;refine ⟨_,rfl,?_⟩;have n0_:=a_ (Kd.R_below (by exact HO_6.out) hb);have n1_:=a_ (Kd.R_below (by exact HO_7.out) hb);have n2_:=a_ (below_step HB.out hb);clear HO_6;clear HO_7;clear HB;have HO_6:=n0_;have HO_7:=n1_;have HB:=n2_;clear n0_ n1_ n2_;(try clear hb);have p410:0 ≤ (t403:Int):=of_decide_eq_true (by (with_reducible assumption));have q410:t403 < (l0.length:Int):=of_decide_eq_true (by (with_reducible assumption));obtain ⟨ad410,A410_5,c410_5,e410,hx410_0,hx410_1,hx410_2,hx410_3,hx410_4,hx410_5,hl410_5,hi410_5⟩:=at_T47 HR0.out t403 p410 q410;obtain rfl:ad406=ad410:=(by injection e410);replace hx410_0:=bc_ HB hx410_0;replace hx410_1:=bc_ HB hx410_1;replace hx410_2:=bc_ HB hx410_2;replace hx410_3:=bc_ HB hx410_3;replace hx410_4:=bc_ HB hx410_4;replace hx410_5:=bc_ HB hx410_5;have HR410_5:=a_ hi410_5;have HC410_5:=a_ hl410_5;clear hi410_5 hl410_5;replace p410:=eq_true p410;replace q410:=eq_true q410;have p411:0 ≤ (x10_3:Int):=of_decide_eq_true (by (with_reducible assumption));have q411:x10_3 < (((rd_T47 l0 t403).f2).length:Int):=of_decide_eq_true (by (with_reducible assumption));obtain ⟨ad411,e411,hx411_0,hx411_1,hx411_2,hx411_3,hx411_4⟩:=at_T36 HR410_5.out x10_3 p411 q411;cases e411;replace hx411_0:=bc_ HB hx411_0;replace hx411_1:=bc_ HB hx411_1;replace hx411_2:=bc_ HB hx411_2;replace hx411_3:=bc_ HB hx411_3;replace hx411_4:=bc_ HB hx411_4;replace p411:=eq_true p411;replace q411:=eq_true q411) | ((with_reducible refine gate_builtin (b:=.append) (xs:=#[.tmp 69,.tmp 78]) rfl ?_);at_builtin;refine Kd.R_append k36 (w0:=w) w.heap.size rfl (.tmp 69) (.tmp 78) 25 36 (.agg #[(.string ⟨#[]⟩),(.int .i64 0),(.int .i64 0),(.int .i64 0),(.string ⟨#[]⟩)]) 56 rfl Tryd.underlying25 info36 rfl (by decide) (by omega) (.slice Ao38 x7_3.length co38) x7_3 (⟨(rd_T36 ((rd_T47 l0 t403).f2) x10_3).f0,(⟨(rd_T36 ((rd_T47 l0 t403).f2) x10_3).f1.f0,(rd_T36 ((rd_T47 l0 t403).f2) x10_3).f1.f1,(rd_T36 ((rd_T47 l0 t403).f2) x10_3).f1.f2,(rd_T36 ((rd_T47 l0 t403).f2) x10_3).f1.f3⟩:S33)⟩:S36) [.string ((rd_T36 ((rd_T47 l0 t403).f2) x10_3).f0),.int .i64 ((rd_T36 ((rd_T47 l0 t403).f2) x10_3).f1.f0),.int .i64 ((rd_T36 ((rd_T47 l0 t403).f2) x10_3).f1.f1),.int .i64 ((rd_T36 ((rd_T47 l0 t403).f2) x10_3).f1.f2),.string ((rd_T36 ((rd_T47 l0 t403).f2) x10_3).f1.f3)] (fun k_=>some k_ ≠ (v392:Value).ownBlock) (fun _=>False) rfl rfl ?aP (fun _ hk=>hk.elim) ?aF ?aO ?aB ?aS ?aL ?_;(case aP=>exact k36_mkM _ _ _ (⟨(rd_T36 ((rd_T47 l0 t403).f2) x10_3).f0,(⟨(rd_T36 ((rd_T47 l0 t403).f2) x10_3).f1.f0,(rd_T36 ((rd_T47 l0 t403).f2) x10_3).f1.f1,(rd_T36 ((rd_T47 l0 t403).f2) x10_3).f1.f2,(rd_T36 ((rd_T47 l0 t403).f2) x10_3).f1.f3⟩:S33)⟩:S36));(case aB=>exact HB.out);(case aF=>exact (fun k_ hk=>Kd.fresh' (Kd.R_lt (by exact HO_6.out)) k_ hk));(case aO=>exact (by exact HO_7.out));(case aS=>exact (below_size HB.out));(case aL=>have:=LMc36.out;omega);intro v413 w40 ho hb hg hat;rw [← Ny412.out] at ho;have n0_:=a_ (Kd.R_after (ok:=(fun _=>True)) (by exact Kd.R_mono HO_6.out (fun _ hk=>⟨trivial,hk⟩)) hg hat);have n1_:=a_ (hb);have n2_:=a_ (ho);clear HO_6;clear HB;clear HO_7;have HO_6:=n0_;have HB:=n1_;have HO414:=n2_;clear n0_ n1_ n2_;clear ho hb hg hat;obtain ⟨Ao41,co41,eo41⟩:=Kd.R_slice HO414.out;subst eo41))
                   go_ret2
                   exact ⟨_,by rfl,by exact Kd.R_mono HO_6.out (fun _ hk=>trivial),by exact HB.out⟩
                  ·rw [if_neg c37] at H;have c37b0:decide (60 < (y412.length:Int))=false:=decide_eq_false c37;have c37b1:decide (60 < y412.length)=false:=decide_eq_false (by omega);clear c37;have H':=a_ H;clear H;have p406:0 ≤ (t403:Int):=of_decide_eq_true (by (with_reducible assumption));have q406:t403 < (l0.length:Int):=of_decide_eq_true (by (with_reducible assumption));obtain ⟨ad406,A406_5,c406_5,e406,hx406_0,hx406_1,hx406_2,hx406_3,hx406_4,hx406_5,hl406_5,hi406_5⟩:=at_T47 HR0.out t403 p406 q406
                   cases e406;replace hx406_0:=bc_ HB hx406_0
                   replace hx406_1:=bc_ HB hx406_1;replace hx406_2:=bc_ HB hx406_2;replace hx406_3:=bc_ HB hx406_3;replace hx406_4:=bc_ HB hx406_4;replace hx406_5:=bc_ HB hx406_5;have HR406_5:=a_ hi406_5;have HC406_5:=a_ hl406_5;clear hi406_5 hl406_5;replace p406:=eq_true p406;replace q406:=eq_true q406;have p407:0 ≤ (t403:Int):=of_decide_eq_true (by (with_reducible assumption));have q407:t403 < (l0.length:Int):=of_decide_eq_true (by (with_reducible assumption))
                   obtain ⟨ad407,A407_5,c407_5,e407,hx407_0,hx407_1,hx407_2,hx407_3,hx407_4,hx407_5,hl407_5,hi407_5⟩:=at_T47 HR0.out t403 p407 q407;obtain rfl:ad406=ad407:=(by injection e407);replace hx407_0:=bc_ HB hx407_0;replace hx407_1:=bc_ HB hx407_1;replace hx407_2:=bc_ HB hx407_2;replace hx407_3:=bc_ HB hx407_3;replace hx407_4:=bc_ HB hx407_4;replace hx407_5:=bc_ HB hx407_5;have HR407_5:=a_ hi407_5
                   have HC407_5:=a_ hl407_5;clear hi407_5 hl407_5;replace p407:=eq_true p407;replace q407:=eq_true q407;have ea_:=Option.some.inj (hx406_5.symm.trans hx407_5)
                   injection ea_ with ea_ en_ ec_
                   subst ea_;subst ec_;clear en_;have p408:0 ≤ (x10_3:Int):=of_decide_eq_true (by (with_reducible assumption));have q408:x10_3 < (((rd_T47 l0 t403).f2).length:Int):=of_decide_eq_true (by (with_reducible assumption));obtain ⟨ad408,e408,hx408_0,hx408_1,hx408_2,hx408_3,hx408_4⟩:=at_T36 HR407_5.out x10_3 p408 q408;cases e408;replace hx408_0:=bc_ HB hx408_0;replace hx408_1:=bc_ HB hx408_1
                   replace hx408_2:=bc_ HB hx408_2;replace hx408_3:=bc_ HB hx408_3;replace hx408_4:=bc_ HB hx408_4;replace p408:=eq_true p408;replace q408:=eq_true q408;obtain ⟨Ao42,co42,eo42⟩:=Kd.R_slice HO_7.out;subst eo42
                   go_wp2_with (first | ((with_reducible refine gate_callee (f:=72) rfl ?_);refine goesL_ (some 67) rfl rfl Tryd.func72 (by kernel_rfl) rfl #[.slice Ao42 x7_3.length co42,.agg #[.string ((rd_T36 ((rd_T47 l0 t403).f2) x10_3).f0),.int .i64 ((rd_T36 ((rd_T47 l0 t403).f2) x10_3).f1.f0),.int .i64 ((rd_T36 ((rd_T47 l0 t403).f2) x10_3).f1.f1),.int .i64 ((rd_T36 ((rd_T47 l0 t403).f2) x10_3).f1.f2),.string ((rd_T36 ((rd_T47 l0 t403).f2) x10_3).f1.f3)]] rfl (by (try simp only [List.map_toArray,List.map_cons,List.map_nil]);rfl) ?_;(with_reducible refine (spec_l16Has.calls k3 _ _ x7_3 ((rd_T36 ((rd_T47 l0 t403).f2) x10_3).f0) ((rd_T36 ((rd_T47 l0 t403).f2) x10_3).f1.f0) ((rd_T36 ((rd_T47 l0 t403).f2) x10_3).f1.f1) ((rd_T36 ((rd_T47 l0 t403).f2) x10_3).f1.f2) ((rd_T36 ((rd_T47 l0 t403).f2) x10_3).f1.f3) false _ ?side1 ?side2 A29.out).mono ?_);(case side1=>repeat (exact (Kd.R_reads' HO_7.out).2.2));(case side2=>exact (Kd.R_reads' HO_7.out).2.1);rintro e w43 ⟨rfl,hb⟩;refine ⟨_,rfl,?_⟩;have n0_:=a_ (Kd.R_below (by exact HO_6.out) hb);have n1_:=a_ (Kd.R_below (by exact HO_7.out) hb);have n2_:=a_ (below_step HB.out hb);clear HO_6;clear HO_7;clear HB;have HO_6:=n0_;have HO_7:=n1_;have HB:=n2_;clear n0_ n1_ n2_;(try clear hb);have p410:0 ≤ (t403:Int):=of_decide_eq_true (by (with_reducible assumption));have q410:t403 < (l0.length:Int):=of_decide_eq_true (by (with_reducible assumption));obtain ⟨ad410,A410_5,c410_5,e410,hx410_0,hx410_1,hx410_2,hx410_3,hx410_4,hx410_5,hl410_5,hi410_5⟩:=at_T47 HR0.out t403 p410 q410;obtain rfl:ad406=ad410:=(by injection e410);replace hx410_0:=bc_ HB hx410_0;replace hx410_1:=bc_ HB hx410_1;replace hx410_2:=bc_ HB hx410_2;replace hx410_3:=bc_ HB hx410_3;replace hx410_4:=bc_ HB hx410_4;replace hx410_5:=bc_ HB hx410_5;have HR410_5:=a_ hi410_5;have HC410_5:=a_ hl410_5;clear hi410_5 hl410_5;replace p410:=eq_true p410;replace q410:=eq_true q410;have p411:0 ≤ (x10_3:Int):=of_decide_eq_true (by (with_reducible assumption));have q411:x10_3 < (((rd_T47 l0 t403).f2).length:Int):=of_decide_eq_true (by (with_reducible assumption));obtain ⟨ad411,e411,hx411_0,hx411_1,hx411_2,hx411_3,hx411_4⟩:=at_T36 HR410_5.out x10_3 p411 q411;cases e411;replace hx411_0:=bc_ HB hx411_0;replace hx411_1:=bc_ HB hx411_1;replace hx411_2:=bc_ HB hx411_2;replace hx411_3:=bc_ HB hx411_3;replace hx411_4:=bc_ HB hx411_4;replace p411:=eq_true p411;replace q411:=eq_true q411) | ((with_reducible refine gate_builtin (b:=.append) (xs:=#[.tmp 69,.tmp 78]) rfl ?_);at_builtin;refine Kd.R_append k36 (w0:=w) w.heap.size rfl (.tmp 69) (.tmp 78) 25 36 (.agg #[(.string ⟨#[]⟩),(.int .i64 0),(.int .i64 0),(.int .i64 0),(.string ⟨#[]⟩)]) 56 rfl Tryd.underlying25 info36 rfl (by decide) (by omega) (.slice Ao42 x7_3.length co42) x7_3 (⟨(rd_T36 ((rd_T47 l0 t403).f2) x10_3).f0,(⟨(rd_T36 ((rd_T47 l0 t403).f2) x10_3).f1.f0,(rd_T36 ((rd_T47 l0 t403).f2) x10_3).f1.f1,(rd_T36 ((rd_T47 l0 t403).f2) x10_3).f1.f2,(rd_T36 ((rd_T47 l0 t403).f2) x10_3).f1.f3⟩:S33)⟩:S36) [.string ((rd_T36 ((rd_T47 l0 t403).f2) x10_3).f0),.int .i64 ((rd_T36 ((rd_T47 l0 t403).f2) x10_3).f1.f0),.int .i64 ((rd_T36 ((rd_T47 l0 t403).f2) x10_3).f1.f1),.int .i64 ((rd_T36 ((rd_T47 l0 t403).f2) x10_3).f1.f2),.string ((rd_T36 ((rd_T47 l0 t403).f2) x10_3).f1.f3)] (fun k_=>some k_ ≠ (v392:Value).ownBlock) (fun _=>False) rfl rfl ?aP (fun _ hk=>hk.elim) ?aF ?aO ?aB ?aS ?aL ?_;(case aP=>exact k36_mkM _ _ _ (⟨(rd_T36 ((rd_T47 l0 t403).f2) x10_3).f0,(⟨(rd_T36 ((rd_T47 l0 t403).f2) x10_3).f1.f0,(rd_T36 ((rd_T47 l0 t403).f2) x10_3).f1.f1,(rd_T36 ((rd_T47 l0 t403).f2) x10_3).f1.f2,(rd_T36 ((rd_T47 l0 t403).f2) x10_3).f1.f3⟩:S33)⟩:S36));(case aB=>exact HB.out);(case aF=>exact (fun k_ hk=>Kd.fresh' (Kd.R_lt (by exact HO_6.out)) k_ hk));(case aO=>exact (by exact HO_7.out));(case aS=>exact (below_size HB.out));(case aL=>have:=LMc36.out;omega);intro v413 w44 ho hb hg hat;rw [← Ny412.out] at ho;have n0_:=a_ (Kd.R_after (ok:=(fun _=>True)) (by exact Kd.R_mono HO_6.out (fun _ hk=>⟨trivial,hk⟩)) hg hat);have n1_:=a_ (hb);have n2_:=a_ (ho);clear HO_6;clear HB;clear HO_7;have HO_6:=n0_;have HB:=n1_;have HO414:=n2_;clear n0_ n1_ n2_;clear ho hb hg hat;obtain ⟨Ao45,co45,eo45⟩:=Kd.R_slice HO414.out;subst eo45))
                   go_roundg k3
                   case measure=>have:=HK1.out;have:=HJ14.out;have:=HK3.out;omega
                   case rel=>exact ⟨(y412),(wrap64 (x10_3 + 1)),(by rfl),H',⟨by have:=HK1.out;have:=HJ14.out;have:=HK3.out;omega⟩,⟨by exact Kd.R_mono HO_6.out (fun _ hk=>hk.2)⟩,⟨by exact HO414.out⟩,⟨by exact HB.out⟩⟩
                 ·rw [if_neg c36] at H;exact absurd H (by simp)
               ·rw [if_neg c28] at H;exact absurd H (by simp)
              ·rw [if_neg c27] at H;have c27b0:decide (x10_3 < (((rd_T47 l0 t403).f2).length:Int))=false:=decide_eq_false c27;clear c27;have H':=a_ H;clear H;have p406:0 ≤ (t403:Int):=of_decide_eq_true (by (with_reducible assumption));have q406:t403 < (l0.length:Int):=of_decide_eq_true (by (with_reducible assumption));obtain ⟨ad406,A406_5,c406_5,e406,hx406_0,hx406_1,hx406_2,hx406_3,hx406_4,hx406_5,hl406_5,hi406_5⟩:=at_T47 HR0.out t403 p406 q406
               cases e406;replace hx406_0:=bc_ HB hx406_0
               replace hx406_1:=bc_ HB hx406_1;replace hx406_2:=bc_ HB hx406_2;replace hx406_3:=bc_ HB hx406_3;replace hx406_4:=bc_ HB hx406_4;replace hx406_5:=bc_ HB hx406_5;have HR406_5:=a_ hi406_5;have HC406_5:=a_ hl406_5;clear hi406_5 hl406_5;replace p406:=eq_true p406;replace q406:=eq_true q406
               go_wp2
               go_roundg k3
               case measure=>have:=HK1.out;have:=HJ14.out;have:=HK3.out;omega
               case rel=>exact ⟨(x7_3),(wrap64 (x8_1 + 1)),(by rfl),H',⟨by have:=HK1.out;have:=HJ14.out;have:=HK3.out;omega⟩,⟨by exact HO_6.out⟩,⟨by exact HO_7.out⟩,⟨by exact HB.out⟩⟩
             ·rw [if_neg c26] at H;exact absurd H (by simp)
            ·rw [if_neg c25] at H;exact absurd H (by simp)
      ·rw [if_neg c13] at H;exact absurd H (by simp)
     ·rw [if_neg c12] at H;have c12b0:decide (x8_1 < (x7_1.length:Int))=false:=decide_eq_false c12;clear c12;simp only [Option.some.injEq,Prod.mk.injEq] at H;obtain ⟨rfl,rfl⟩:=H;obtain ⟨Ao46,co46,eo46⟩:=Kd.R_slice HO_7.out;subst eo46
      go_wp2
      go_ret2
      exact ⟨_,by rfl,by exact Kd.R_mono HO_7.out (fun _ hk=>trivial),by exact HB.out⟩
  ·rw [if_neg c5] at H;exact absurd H (by simp)
 ·replace c4:=Bool.eq_false_iff.mpr c4;subst c4;have H1:(some (y391,1))=some (r1,r2):=by rw [if_neg (show ¬ (false=true) by decide)] at H;exact H
  clear H;have H:=H1;clear H1;simp only [Option.some.injEq,Prod.mk.injEq] at H;obtain ⟨rfl,rfl⟩:=H
  go_enter Tryd.func55,Tryd.ntmps55
  go_wp2_with (first | ((with_reducible refine gate_dst (N:=11) rfl ?_);refine Kd.R_lit k36 _ 36 ?hg (N:=11) ?hd (xs:=([]:List (S36))) (inner:=[]) (ok:=fun _=>True) (okp:=fun _=>True) ?hr ?hp (fun _ hk=>hk) trivial (Below.refl _ _) (Nat.le_refl _) (by simp) ?_;(case hd=>rfl);(case hg=>rfl);(case hr=>(go_simp;done));(case hp=>exact (Reps.none _ _));intro v392 w47 ho48 hb hg_ hnew_;clear hg_ hnew_;(rw [← Ny391.out] at ho48);have n0_:=a_ (Kd.R_lower ho48 (below_size HB.out));have n1_:=a_ (below_step HB.out hb);clear HB;have HO393:=n0_;have HB:=n1_;clear n0_ n1_;clear hb ho48) | ((with_reducible refine gate_callee (f:=70) rfl ?_);refine goesL_ (some 13) rfl rfl Tryd.func70 (by kernel_rfl) rfl #[.slice A1 l1.length c1] rfl (by (try simp only [List.map_toArray,List.map_cons,List.map_nil]);rfl) ?_;(with_reducible refine (spec_NeedsOk.calls k _ _ l1 false _ ?side1 ?side2 A3.out).mono ?_);(case side1=>repeat (exact (Kd.C_below HR1.out HB.out)));(case side2=>exact HC1.out);rintro e w49 ⟨rfl,hb⟩;refine ⟨_,rfl,?_⟩;have n0_:=a_ (Kd.R_below (by exact HO393.out) hb);have n1_:=a_ (below_step HB.out hb);clear HO393;clear HB;have HO393:=n0_;have HB:=n1_;clear n0_ n1_;(try clear hb)))
  go_ret2
  exact ⟨_,by rfl,by exact HO393.out,by exact HB.out⟩
end Go.Proofs.YtmkdeknpphimbaaDoor.PFnClosed
