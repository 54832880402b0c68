import Derived.Test.YtmkdeknpphimbaaDoorCCePFnClosedx0
import Derived.Test.YtmkdeknpphimbaaDoorCCePFnClosedx3
namespace Go.Proofs.YtmkdeknpphimbaaDoor.PFnClosed
open Go.RowKit Go.Proofs.YtmkdeknpphimbaaDoorW.PrintWords Go.Proofs.YtmkdeknpphimbaaDoorW.PrintLast Go.Proofs.YtmkdeknpphimbaaDoorW.PrintMore
attribute [local go_sem] max2_int min2_int max_two min_two max_three min_three max_four min_four
set_option linter.unusedVariables false
set_option linter.unusedSimpArgs false
mutual
def impl_comparePart.j0:Nat → ByteArray → ByteArray → Bool → Bool → Option (Int)
 | 0,_,_,_,_=>none
 | k + 1,x0,x1,x5,x6=>if x5=true then (impl_comparePart.j1 k x0 x1 x5 x6 x6) else (impl_comparePart.j1 k x0 x1 x5 x6 false)
def impl_comparePart.j1:Nat → ByteArray → ByteArray → Bool → Bool → Bool → Option (Int)
 | 0,_,_,_,_,_=>none
 | k + 1,x0,x1,x5,x6,x21=>if x21=true then ((cmp_Compare_int.f (x0.size:Int) (x1.size:Int)).bind fun t111=>((cmp_Compare_string.f x0 x1).bind fun t112=>((cmp_Or_int.f k ([t111,t112]:List Int)).bind fun t116=>(some t116)))) else (if x5=true then (some (-1)) else (if x6=true then (some 1) else ((cmp_Compare_string.f x0 x1).bind fun t117=>(some t117))))
end
def impl_comparePart.f (k:Nat) (a0:ByteArray) (a1:ByteArray):Option (Int):=(impl_isNumber.f k a0).bind fun t108=>(if t108=true then ((impl_isNumber.f k a1).bind fun t109=>(if t109=true then (impl_comparePart.j0 k a0 a1 (decide ((a0.size:Int) ≤ 8)) (decide ((a1.size:Int) ≤ 8))) else (impl_comparePart.j0 k a0 a1 (decide ((a0.size:Int) ≤ 8)) false))) else ((impl_isNumber.f k a1).bind fun t110=>(if t110=true then (impl_comparePart.j0 k a0 a1 false (decide ((a1.size:Int) ≤ 8))) else (impl_comparePart.j0 k a0 a1 false false))))
theorem impl_comparePart.mono_l : ∀ k,(∀ y0 y1 y2 y3,LeO (impl_comparePart.j0 k y0 y1 y2 y3) (impl_comparePart.j0 (k + 1) y0 y1 y2 y3)) ∧ (∀ y0 y1 y2 y3 y4,LeO (impl_comparePart.j1 k y0 y1 y2 y3 y4) (impl_comparePart.j1 (k + 1) y0 y1 y2 y3 y4))
 | 0=>⟨fun _ _ _ _ r h=>by simp [impl_comparePart.j0] at h,fun _ _ _ _ _ r h=>by simp [impl_comparePart.j1] at h⟩
 | k + 1=>by
  obtain ⟨ih0,ih1⟩:=impl_comparePart.mono_l k;refine ⟨?_,?_⟩
  ·intro y0 y1 y2 y3;unfold impl_comparePart.j0
   repeat' first
   | (with_reducible exact ih1 _ _ _ _ _)
   | (with_reducible refine LeO.ite ?_ ?_)
  ·intro y0 y1 y2 y3 y4;unfold impl_comparePart.j1
   repeat' first
   | (with_reducible exact cmp_Or_int.mono _ _)
   | (with_reducible exact LeO.refl _)
   | (with_reducible refine LeO.ite ?_ ?_)
   | (with_reducible refine LeO.bind ?_ (fun _=>?_))
theorem impl_comparePart.mono : ∀ a0 a1 k,LeO (impl_comparePart.f k a0 a1) (impl_comparePart.f (k + 1) a0 a1):=by
 intro a0 a1 k;obtain ⟨ih0,ih1⟩:=impl_comparePart.mono_l k;unfold impl_comparePart.f
 repeat' first
  | (with_reducible exact ih0 _ _ _ _)
  | (with_reducible exact impl_isNumber.mono _ _)
  | (with_reducible refine LeO.ite ?_ ?_)
  | (with_reducible refine LeO.bind ?_ (fun _=>?_))
set_option maxHeartbeats 8000000 in
set_option maxRecDepth 100000 in
theorem impl_comparePart.calls (k:Nat) (a0:ByteArray) (a1:ByteArray) (r:Int) (w:World) (h:impl_comparePart.f k a0 a1=some r) :
 Calls Tryd.prog 75 #[.string a0,.string a1] w fun e w'=>e = .returned (.int .i64 r) ∧ Below w.heap.size w w':=by
 have HB:=a_ (Below.refl w.heap.size w);have H:((impl_isNumber.f k a0).bind fun t108=>(if t108=true then ((impl_isNumber.f k a1).bind fun t109=>(if t109=true then (impl_comparePart.j0 k a0 a1 (decide ((a0.size:Int) ≤ 8)) (decide ((a1.size:Int) ≤ 8))) else (impl_comparePart.j0 k a0 a1 (decide ((a0.size:Int) ≤ 8)) false))) else ((impl_isNumber.f k a1).bind fun t110=>(if t110=true then (impl_comparePart.j0 k a0 a1 false (decide ((a1.size:Int) ≤ 8))) else (impl_comparePart.j0 k a0 a1 false false)))))=some r:=h
 clear h;have HC3:=a_ H;clear H
 go_enter Tryd.func75,Tryd.ntmps75
 go_upto_region 1 with (fail)
 go_cut [5,6] (fun v5 v6 wc=>∃ (kq:Nat) (x5_2:Bool) (x6_2:Bool),v5 = .bool x5_2 ∧ v6 = .bool x6_2 ∧ Aside0 (impl_comparePart.j0 kq a0 a1 x5_2 x6_2=some r) ∧ Aside0 (kq ≤ k) ∧ Aside0 (Below w.heap.size w wc))
 case first=>
  have H:=HC3.out;clear HC3;replace H:=Option.bind_eq_some_iff.mp H;obtain ⟨t108,A40,H⟩:=H;replace H:(if t108=true then ((impl_isNumber.f k a1).bind fun t109=>(if t109=true then (impl_comparePart.j0 k a0 a1 (decide ((a0.size:Int) ≤ 8)) (decide ((a1.size:Int) ≤ 8))) else (impl_comparePart.j0 k a0 a1 (decide ((a0.size:Int) ≤ 8)) false))) else ((impl_isNumber.f k a1).bind fun t110=>(if t110=true then (impl_comparePart.j0 k a0 a1 false (decide ((a1.size:Int) ≤ 8))) else (impl_comparePart.j0 k a0 a1 false false))))=some r:=H
  have A4:=a_ A40;clear A40
  by_cases c5:t108=true
  ·subst c5;have H1:((impl_isNumber.f k a1).bind fun t109=>(if t109=true then (impl_comparePart.j0 k a0 a1 (decide ((a0.size:Int) ≤ 8)) (decide ((a1.size:Int) ≤ 8))) else (impl_comparePart.j0 k a0 a1 (decide ((a0.size:Int) ≤ 8)) false)))=some r:=by rw [if_pos rfl] at H;exact H
   clear H;have H:=H1;clear H1;replace H:=Option.bind_eq_some_iff.mp H;obtain ⟨t109,A60,H⟩:=H;replace H:(if t109=true then (impl_comparePart.j0 k a0 a1 (decide ((a0.size:Int) ≤ 8)) (decide ((a1.size:Int) ≤ 8))) else (impl_comparePart.j0 k a0 a1 (decide ((a0.size:Int) ≤ 8)) false))=some r:=H;have A6:=a_ A60;clear A60
   by_cases c7:t109=true
   ·subst c7;have H1:(impl_comparePart.j0 k a0 a1 (decide ((a0.size:Int) ≤ 8)) (decide ((a1.size:Int) ≤ 8)))=some r:=by rw [if_pos rfl] at H;exact H
    clear H;have H:=H1;clear H1;have H':=a_ H;clear H
    go_wp2_with (first | ((with_reducible refine gate_callee (f:=69) rfl ?_);refine goesL_ (some 8) rfl rfl Tryd.func69 (by kernel_rfl) rfl #[.string a0] rfl (by (try simp only [List.map_toArray,List.map_cons,List.map_nil]);rfl) ?_;(with_reducible refine (impl_isNumber.calls k a0 true _ A4.out).mono ?_);rintro e w' ⟨rfl,⟨nd,rfl⟩⟩;refine ⟨_,rfl,?_⟩) | ((with_reducible refine gate_callee (f:=69) rfl ?_);refine goesL_ (some 15) rfl rfl Tryd.func69 (by kernel_rfl) rfl #[.string a1] rfl (by (try simp only [List.map_toArray,List.map_cons,List.map_nil]);rfl) ?_;(with_reducible refine (impl_isNumber.calls k a1 true _ A6.out).mono ?_);rintro e w' ⟨rfl,⟨nd,rfl⟩⟩;refine ⟨_,rfl,?_⟩))
    go_meet
    case rel=>exact ⟨_,(decide ((a0.size:Int) ≤ 8)),(decide ((a1.size:Int) ≤ 8)),(by rfl),(by rfl),H',⟨by omega⟩,⟨by repeat (with_reducible first | exact HB.out | apply pw_below_drewN)⟩⟩
   ·replace c7:=Bool.eq_false_iff.mpr c7;subst c7;have H1:(impl_comparePart.j0 k a0 a1 (decide ((a0.size:Int) ≤ 8)) false)=some r:=by rw [if_neg (show ¬ (false=true) by decide)] at H;exact H
    clear H;have H:=H1;clear H1;have H':=a_ H;clear H
    go_wp2_with (first | ((with_reducible refine gate_callee (f:=69) rfl ?_);refine goesL_ (some 8) rfl rfl Tryd.func69 (by kernel_rfl) rfl #[.string a0] rfl (by (try simp only [List.map_toArray,List.map_cons,List.map_nil]);rfl) ?_;(with_reducible refine (impl_isNumber.calls k a0 true _ A4.out).mono ?_);rintro e w' ⟨rfl,⟨nd,rfl⟩⟩;refine ⟨_,rfl,?_⟩) | ((with_reducible refine gate_callee (f:=69) rfl ?_);refine goesL_ (some 15) rfl rfl Tryd.func69 (by kernel_rfl) rfl #[.string a1] rfl (by (try simp only [List.map_toArray,List.map_cons,List.map_nil]);rfl) ?_;(with_reducible refine (impl_isNumber.calls k a1 false _ A6.out).mono ?_);rintro e w' ⟨rfl,⟨nd,rfl⟩⟩;refine ⟨_,rfl,?_⟩))
    go_meet
    case rel=>exact ⟨_,(decide ((a0.size:Int) ≤ 8)),(false),(by rfl),(by rfl),H',⟨by omega⟩,⟨by repeat (with_reducible first | exact HB.out | apply pw_below_drewN)⟩⟩
  ·replace c5:=Bool.eq_false_iff.mpr c5;subst c5;have H1:((impl_isNumber.f k a1).bind fun t110=>(if t110=true then (impl_comparePart.j0 k a0 a1 false (decide ((a1.size:Int) ≤ 8))) else (impl_comparePart.j0 k a0 a1 false false)))=some r:=by rw [if_neg (show ¬ (false=true) by decide)] at H;exact H
   clear H;have H:=H1;clear H1;replace H:=Option.bind_eq_some_iff.mp H;obtain ⟨t110,A80,H⟩:=H;replace H:(if t110=true then (impl_comparePart.j0 k a0 a1 false (decide ((a1.size:Int) ≤ 8))) else (impl_comparePart.j0 k a0 a1 false false))=some r:=H;have A8:=a_ A80;clear A80
   by_cases c9:t110=true
   ·subst c9;have H1:(impl_comparePart.j0 k a0 a1 false (decide ((a1.size:Int) ≤ 8)))=some r:=by rw [if_pos rfl] at H;exact H
    clear H;have H:=H1;clear H1;have H':=a_ H;clear H
    go_wp2_with (first | ((with_reducible refine gate_callee (f:=69) rfl ?_);refine goesL_ (some 8) rfl rfl Tryd.func69 (by kernel_rfl) rfl #[.string a0] rfl (by (try simp only [List.map_toArray,List.map_cons,List.map_nil]);rfl) ?_;(with_reducible refine (impl_isNumber.calls k a0 false _ A4.out).mono ?_);rintro e w' ⟨rfl,⟨nd,rfl⟩⟩;refine ⟨_,rfl,?_⟩) | ((with_reducible refine gate_callee (f:=69) rfl ?_);refine goesL_ (some 15) rfl rfl Tryd.func69 (by kernel_rfl) rfl #[.string a1] rfl (by (try simp only [List.map_toArray,List.map_cons,List.map_nil]);rfl) ?_;(with_reducible refine (impl_isNumber.calls k a1 true _ A8.out).mono ?_);rintro e w' ⟨rfl,⟨nd,rfl⟩⟩;refine ⟨_,rfl,?_⟩))
    go_meet
    case rel=>exact ⟨_,(false),(decide ((a1.size:Int) ≤ 8)),(by rfl),(by rfl),H',⟨by omega⟩,⟨by repeat (with_reducible first | exact HB.out | apply pw_below_drewN)⟩⟩
   ·replace c9:=Bool.eq_false_iff.mpr c9;subst c9;have H1:(impl_comparePart.j0 k a0 a1 false false)=some r:=by rw [if_neg (show ¬ (false=true) by decide)] at H;exact H
    clear H;have H:=H1;clear H1;have H':=a_ H;clear H
    go_wp2_with (first | ((with_reducible refine gate_callee (f:=69) rfl ?_);refine goesL_ (some 8) rfl rfl Tryd.func69 (by kernel_rfl) rfl #[.string a0] rfl (by (try simp only [List.map_toArray,List.map_cons,List.map_nil]);rfl) ?_;(with_reducible refine (impl_isNumber.calls k a0 false _ A4.out).mono ?_);rintro e w' ⟨rfl,⟨nd,rfl⟩⟩;refine ⟨_,rfl,?_⟩) | ((with_reducible refine gate_callee (f:=69) rfl ?_);refine goesL_ (some 15) rfl rfl Tryd.func69 (by kernel_rfl) rfl #[.string a1] rfl (by (try simp only [List.map_toArray,List.map_cons,List.map_nil]);rfl) ?_;(with_reducible refine (impl_isNumber.calls k a1 false _ A8.out).mono ?_);rintro e w' ⟨rfl,⟨nd,rfl⟩⟩;refine ⟨_,rfl,?_⟩))
    go_meet
    case rel=>exact ⟨_,(false),(false),(by rfl),(by rfl),H',⟨by omega⟩,⟨by repeat (with_reducible first | exact HB.out | apply pw_below_drewN)⟩⟩
 case rest=>
  clear HC3;obtain ⟨kq,x5_2,x6_2,rfl,rfl,HA,HJ2,HB⟩:=hcut
  cases kq with
  | zero=>exact absurd HA.out (by simp [impl_comparePart.j0])
  | succ kj2=>
   have H:=HA.out;clear HA;simp only [impl_comparePart.j0] at H;have HC10:=a_ H;clear H
   go_upto_region 2 with (fail)
   go_cut [21] (fun v21 wc=>∃ (kq:Nat) (x21_9:Bool),v21 = .bool x21_9 ∧ Aside0 (impl_comparePart.j1 kq a0 a1 x5_2 x6_2 x21_9=some r) ∧ Aside0 (kq ≤ kj2) ∧ Aside0 (Below w.heap.size w wc))
   case first=>
    have H:=HC10.out;clear HC10
    by_cases c11:x5_2=true
    ·subst c11;have H1:(impl_comparePart.j1 kj2 a0 a1 true x6_2 x6_2)=some r:=by rw [if_pos rfl] at H;exact H
     clear H;have H:=H1;clear H1;have H':=a_ H;clear H
     go_wp2
     go_meet
     case rel=>exact ⟨_,(x6_2),(by rfl),H',⟨by have:=HJ2.out;omega⟩,⟨by exact HB.out⟩⟩
    ·replace c11:=Bool.eq_false_iff.mpr c11;subst c11;have H1:(impl_comparePart.j1 kj2 a0 a1 false x6_2 false)=some r:=by rw [if_neg (show ¬ (false=true) by decide)] at H;exact H
     clear H;have H:=H1;clear H1;have H':=a_ H;clear H
     go_wp2
     go_meet
     case rel=>exact ⟨_,(false),(by rfl),H',⟨by have:=HJ2.out;omega⟩,⟨by exact HB.out⟩⟩
   case rest=>
    clear HC10;obtain ⟨kq,x21_9,rfl,HA,HJ9,HB⟩:=hcut
    cases kq with
    | zero=>exact absurd HA.out (by simp [impl_comparePart.j1])
    | succ kj9=>
     have H:=HA.out;clear HA;simp only [impl_comparePart.j1] at H
     by_cases c12:x21_9=true
     ·subst c12;have H1:((cmp_Compare_int.f (a0.size:Int) (a1.size:Int)).bind fun t111=>((cmp_Compare_string.f a0 a1).bind fun t112=>((cmp_Or_int.f kj9 ([t111,t112]:List Int)).bind fun t116=>(some t116))))=some r:=by rw [if_pos rfl] at H;exact H
      clear H;have H:=H1;clear H1;replace H:=Option.bind_eq_some_iff.mp H;obtain ⟨t111,A130,H⟩:=H;replace H:((cmp_Compare_string.f a0 a1).bind fun t112=>((cmp_Or_int.f kj9 ([t111,t112]:List Int)).bind fun t116=>(some t116)))=some r:=H;have A13:=a_ A130;clear A130;replace H:=Option.bind_eq_some_iff.mp H;obtain ⟨t112,A140,H⟩:=H;replace H:((cmp_Or_int.f kj9 ([t111,t112]:List Int)).bind fun t116=>(some t116))=some r:=H
      have A14:=a_ A140;clear A140;obtain ⟨y113,hy113⟩ : ∃ y_:List Int,y_=([t111,t112]:List Int):=⟨_,rfl⟩;replace H:((cmp_Or_int.f kj9 y113).bind fun t116=>(some t116))=some r:=by (rw [hy113];with_reducible exact H)
      have Ny113:=a_ hy113;clear hy113;replace H:=Option.bind_eq_some_iff.mp H;obtain ⟨t116,A150,H⟩:=H;replace H:(some t116)=some r:=H;have A15:=a_ A150;clear A150;obtain rfl:=Option.some.inj H
      go_wp2_with (first | ((with_reducible refine gate_callee (f:=61) rfl ?_);refine goesL_ (some 30) rfl rfl Tryd.func61 (by kernel_rfl) rfl #[.int .i64 (a0.size:Int),.int .i64 (a1.size:Int)] rfl (by (try simp only [List.map_toArray,List.map_cons,List.map_nil]);rfl) ?_;(with_reducible refine (cmp_Compare_int.calls (a0.size:Int) (a1.size:Int) t111 _ A13.out).mono ?_);rintro e w' ⟨rfl,⟨nd,rfl⟩⟩;refine ⟨_,rfl,?_⟩) | ((with_reducible refine gate_callee (f:=86) rfl ?_);refine goesL_ (some 33) rfl rfl Tryd.func86 (by kernel_rfl) rfl #[.string a0,.string a1] rfl (by (try simp only [List.map_toArray,List.map_cons,List.map_nil]);rfl) ?_;(with_reducible refine (cmp_Compare_string.calls a0 a1 t112 _ A14.out).mono ?_);rintro e w' ⟨rfl,⟨nd,rfl⟩⟩;refine ⟨_,rfl,?_⟩) | ((with_reducible refine gate_dst (N:=34) rfl ?_);(try (refine gate_guard (by rfl) ?_;dsimp only));refine Kd.R_lit (Kd.int .i64) _ 3 ?hg (N:=34) ?hd (xs:=([t111,t112]:List Int)) (inner:=[.int .i64 t111,.int .i64 t112]) (ok:=fun _=>True) (okp:=fun _=>True) ?hr ?hp (fun _ hk=>hk) trivial (Below.refl _ _) (Nat.le_refl _) (by simp) ?_;(case hd=>rfl);(case hg=>rfl);(case hr=>(go_simp;done));(case hp=>exact (Reps.one (show Kd.M (Kd.int .i64) _ _ _ t111 [.int .i64 t111] from rfl) (Reps.one (show Kd.M (Kd.int .i64) _ _ _ t112 [.int .i64 t112] from rfl) (Reps.none _ _))));intro v114 w16 ho17 hb hg_ hnew_;clear hg_ hnew_;(rw [← Ny113.out] at ho17);have n0_:=a_ (Kd.R_lower ho17 (below_size (by repeat (with_reducible first | exact HB.out | apply pw_below_drewN))));have n1_:=a_ (below_step (by repeat (with_reducible first | exact HB.out | apply pw_below_drewN)) hb);clear HB;have HO115:=n0_;have HB:=n1_;clear n0_ n1_;clear hb ho17;obtain ⟨Ao18,co18,eo18⟩:=Kd.R_slice HO115.out;subst eo18) | ((with_reducible refine gate_callee (f:=60) rfl ?_);refine goesL_ (some 35) rfl rfl Tryd.func60 (by kernel_rfl) rfl #[.slice Ao18 y113.length co18] rfl (by (try simp only [List.map_toArray,List.map_cons,List.map_nil]);rfl) ?_;(with_reducible refine (cmp_Or_int.calls kj9 _ _ y113 t116 _ ?side1 ?side2 A15.out).mono ?_);(case side1=>repeat (exact (Kd.R_reads' HO115.out).2.2));(case side2=>exact (Kd.R_reads' HO115.out).2.1);rintro e w' ⟨rfl,⟨nd,rfl⟩⟩;refine ⟨_,rfl,?_⟩))
      go_ret
      exact ⟨by rfl,by repeat (with_reducible first | exact HB.out | apply pw_below_drewN)⟩
     ·replace c12:=Bool.eq_false_iff.mpr c12;subst c12;have H1:(if x5_2=true then (some (-1)) else (if x6_2=true then (some 1) else ((cmp_Compare_string.f a0 a1).bind fun t117=>(some t117))))=some r:=by rw [if_neg (show ¬ (false=true) by decide)] at H;exact H
      clear H;have H:=H1;clear H1
      by_cases c19:x5_2=true
      ·subst c19;have H1:(some (-1))=some r:=by rw [if_pos rfl] at H;exact H
       clear H;have H:=H1;clear H1;obtain rfl:=Option.some.inj H
       go_wp2
       go_ret
       exact ⟨by rfl,by exact HB.out⟩
      ·replace c19:=Bool.eq_false_iff.mpr c19;subst c19;have H1:(if x6_2=true then (some 1) else ((cmp_Compare_string.f a0 a1).bind fun t117=>(some t117)))=some r:=by rw [if_neg (show ¬ (false=true) by decide)] at H;exact H
       clear H;have H:=H1;clear H1
       by_cases c20:x6_2=true
       ·subst c20;have H1:(some 1)=some r:=by rw [if_pos rfl] at H;exact H
        clear H;have H:=H1;clear H1;obtain rfl:=Option.some.inj H
        go_wp2
        go_ret
        exact ⟨by rfl,by exact HB.out⟩
       ·replace c20:=Bool.eq_false_iff.mpr c20;subst c20;have H1:((cmp_Compare_string.f a0 a1).bind fun t117=>(some t117))=some r:=by rw [if_neg (show ¬ (false=true) by decide)] at H;exact H
        clear H;have H:=H1;clear H1;replace H:=Option.bind_eq_some_iff.mp H;obtain ⟨t117,A210,H⟩:=H;replace H:(some t117)=some r:=H;have A21:=a_ A210;clear A210;obtain rfl:=Option.some.inj H
        go_wp2_with (((with_reducible refine gate_callee (f:=86) rfl ?_);refine goesL_ (some 42) rfl rfl Tryd.func86 (by kernel_rfl) rfl #[.string a0,.string a1] rfl (by (try simp only [List.map_toArray,List.map_cons,List.map_nil]);rfl) ?_;(with_reducible refine (cmp_Compare_string.calls a0 a1 t117 _ A21.out).mono ?_);rintro e w' ⟨rfl,⟨nd,rfl⟩⟩;refine ⟨_,rfl,?_⟩))
        go_ret
        exact ⟨by rfl,by repeat (with_reducible first | exact HB.out | apply pw_below_drewN)⟩
def impl_comparePre.l0:Nat → List ByteArray → List ByteArray → Int → Int → Option (Int)
 | 0,_,_,_,_=>none
 | k + 1,x5,x6,x27,x28=>if x28 < x27 then (if 0 ≤ x28 then (if x28 < (x5.length:Int) then (if x28 < (x6.length:Int) then ((impl_comparePart.f k (rdOf ByteArray.empty x5 x28) (rdOf ByteArray.empty x6 x28)).bind fun t126=>(if t126=0 then (impl_comparePre.l0 k x5 x6 x27 (wrap64 (x28 + 1))) else (some t126))) else (none)) else (none)) else (none)) else ((cmp_Compare_int.f (x5.length:Int) (x6.length:Int)).bind fun t127=>(some t127))
def impl_comparePre.f (k:Nat) (a0:ByteArray) (a1:ByteArray):Option (Int):=if a0.toList=a1.toList then (some 0) else (if a0.toList=([]:List UInt8) then (some 1) else (if a1.toList=([]:List UInt8) then (some (-1)) else ((strings_Split.f a0 (⟨#[46]⟩:ByteArray)).bind fun t118=>((strings_Split.f a1 (⟨#[46]⟩:ByteArray)).bind fun t121=>(impl_comparePre.l0 k t118 t121 (mn (t118.length:Int) (t121.length:Int)) 0)))))
theorem impl_comparePre.mono_l : ∀ k,(∀ y0 y1 y2 y3,LeO (impl_comparePre.l0 k y0 y1 y2 y3) (impl_comparePre.l0 (k + 1) y0 y1 y2 y3))
 | 0=>fun _ _ _ _ r h=>by simp [impl_comparePre.l0] at h
 | k + 1=>by
  have ih0:=impl_comparePre.mono_l k
  ·intro y0 y1 y2 y3;unfold impl_comparePre.l0
   repeat' first
   | (with_reducible exact ih0 _ _ _ _)
   | (with_reducible exact impl_comparePart.mono _ _ _)
   | (with_reducible exact LeO.refl _)
   | (with_reducible refine LeO.ite ?_ ?_)
   | (with_reducible refine LeO.bind ?_ (fun _=>?_))
theorem impl_comparePre.mono : ∀ a0 a1 k,LeO (impl_comparePre.f k a0 a1) (impl_comparePre.f (k + 1) a0 a1):=by
 intro a0 a1 k;have ih0:=impl_comparePre.mono_l k;unfold impl_comparePre.f
 repeat' first
  | (with_reducible exact ih0 _ _ _ _)
  | (with_reducible exact LeO.refl _)
  | (with_reducible refine LeO.ite ?_ ?_)
  | (with_reducible refine LeO.bind ?_ (fun _=>?_))
def impl_comparePre.T11:Bool × List (List Nat × List Nat):=(true,[([],[]),([],[]),([0,1],[0,1]),([2],[2]),([],[]),([],[]),([4,5],[4,5]),([6],[6]),([3,7],[3,7]),([8,8,0,1,2,3,4,5,6,7,8],[8])])
def impl_comparePre.B11:List Nat:=[0,0,3,7,0,0,48,112,255,511]
theorem impl_comparePre.tab11:rtab .any (opsOf Tryd.f62 11)=impl_comparePre.T11:=by kernel_rfl
theorem impl_comparePre.bits11:waitsOk impl_comparePre.T11.2 impl_comparePre.B11=true:=by kernel_rfl
set_option maxHeartbeats 8000000 in
set_option maxRecDepth 100000 in
theorem impl_comparePre.calls (k:Nat) (a0:ByteArray) (a1:ByteArray) (r:Int) (w:World) (h:impl_comparePre.f k a0 a1=some r) :
 Calls Tryd.prog 62 #[.string a0,.string a1] w fun e w'=>e = .returned (.int .i64 r) ∧ Below w.heap.size w w':=by
 have HB:=a_ (Below.refl w.heap.size w);have H:(if a0.toList=a1.toList then (some 0) else (if a0.toList=([]:List UInt8) then (some 1) else (if a1.toList=([]:List UInt8) then (some (-1)) else ((strings_Split.f a0 (⟨#[46]⟩:ByteArray)).bind fun t118=>((strings_Split.f a1 (⟨#[46]⟩:ByteArray)).bind fun t121=>(impl_comparePre.l0 k t118 t121 (mn (t118.length:Int) (t121.length:Int)) 0))))))=some r:=h;clear h
 by_cases c3:a0.toList=a1.toList
 ·rw [if_pos c3] at H;have c3b0:(a0.toList == a1.toList)=true:=beq_iff_eq.mpr c3;have c3b1:(a0.toList != a1.toList)=false:=bne_eq_false_iff_eq.mpr c3;clear c3;obtain rfl:=Option.some.inj H
  go_enter Tryd.func62,Tryd.ntmps62
  go_wp2
  go_ret
  exact ⟨by rfl,by exact HB.out⟩
 ·rw [if_neg c3] at H;have c3b0:(a0.toList == a1.toList)=false:=beq_eq_false_iff_ne.mpr c3;have c3b1:(a0.toList != a1.toList)=true:=bne_iff_ne.mpr c3
  by_cases c4:a0.toList=([]:List UInt8)
  ·rw [if_pos c4] at H;have c4b0:(a0.toList == ([]:List UInt8))=true:=beq_iff_eq.mpr c4;have c4b1:(a0.toList != ([]:List UInt8))=false:=bne_eq_false_iff_eq.mpr c4;clear c4;obtain rfl:=Option.some.inj H
   go_enter Tryd.func62,Tryd.ntmps62
   go_wp2
   go_ret
   exact ⟨by rfl,by exact HB.out⟩
  ·rw [if_neg c4] at H;have c4b0:(a0.toList == ([]:List UInt8))=false:=beq_eq_false_iff_ne.mpr c4;have c4b1:(a0.toList != ([]:List UInt8))=true:=bne_iff_ne.mpr c4
   by_cases c5:a1.toList=([]:List UInt8)
   ·rw [if_pos c5] at H;have c5b0:(a1.toList == ([]:List UInt8))=true:=beq_iff_eq.mpr c5;have c5b1:(a1.toList != ([]:List UInt8))=false:=bne_eq_false_iff_eq.mpr c5;clear c5;obtain rfl:=Option.some.inj H
    go_enter Tryd.func62,Tryd.ntmps62
    go_wp2
    go_ret
    exact ⟨by rfl,by exact HB.out⟩
   ·rw [if_neg c5] at H;have c5b0:(a1.toList == ([]:List UInt8))=false:=beq_eq_false_iff_ne.mpr c5;have c5b1:(a1.toList != ([]:List UInt8))=true:=bne_iff_ne.mpr c5;replace H:=Option.bind_eq_some_iff.mp H;obtain ⟨t118,A60,H⟩:=H;replace H:((strings_Split.f a1 (⟨#[46]⟩:ByteArray)).bind fun t121=>(impl_comparePre.l0 k t118 t121 (mn (t118.length:Int) (t121.length:Int)) 0))=some r:=H;have A6:=a_ A60;clear A60
    replace H:=Option.bind_eq_some_iff.mp H;obtain ⟨t121,A70,H⟩:=H;replace H:(impl_comparePre.l0 k t118 t121 (mn (t118.length:Int) (t121.length:Int)) 0)=some r:=H;have A7:=a_ A70;clear A70;obtain ⟨ji8,hji8⟩ : ∃ j_:Int,(mn (t118.length:Int) (t121.length:Int))=j_:=⟨_,rfl⟩;replace H:(impl_comparePre.l0 k t118 t121 ji8 0)=some r:=by (rw [hji8] at H;exact H)
    (skip)
    (skip)
    (try (have hji8l:0 ≤ ji8:=by (rw [← hji8];unfold mn;(repeat' split) <;> omega)))
    (try (have hji8m:0 ≤ ji8:=by omega))
    have hji8_:(if (t121.length:Int) < (t118.length:Int) then (t121.length:Int) else (t118.length:Int))=ji8:=hji8;have hji8n_:(if t121.length < t118.length then (t121.length:Int) else (t118.length:Int))=ji8:=by (try simp only [Int.ofNat_lt] at hji8_);exact hji8_
    have H':=a_ H;clear H
    go_enter Tryd.func62,Tryd.ntmps62
    go_wp2_with (first | ((with_reducible refine gate_callee (f:=53) rfl ?_);refine goesL_ (some 20) rfl rfl Tryd.func53 (by kernel_rfl) rfl #[.string a0,.string (⟨#[46]⟩:ByteArray)] rfl (by (try simp only [List.map_toArray,List.map_cons,List.map_nil]);rfl) ?_;(with_reducible refine (strings_Split.calls a0 (⟨#[46]⟩:ByteArray) t118 _ A6.out).mono ?_);rintro e w9 ⟨v119,rfl,ho0,hb⟩;refine ⟨_,rfl,?_⟩;have n0_:=a_ (Kd.R_lower ho0 (below_size HB.out));have n1_:=a_ (below_step HB.out hb);clear HB;have HO120:=n0_;have HB:=n1_;clear n0_ n1_;(try clear hb);(try clear ho0)) | ((with_reducible refine gate_callee (f:=53) rfl ?_);refine goesL_ (some 22) rfl rfl Tryd.func53 (by kernel_rfl) rfl #[.string a1,.string (⟨#[46]⟩:ByteArray)] rfl (by (try simp only [List.map_toArray,List.map_cons,List.map_nil]);rfl) ?_;(with_reducible refine (strings_Split.calls a1 (⟨#[46]⟩:ByteArray) t121 _ A7.out).mono ?_);rintro e w10 ⟨v122,rfl,ho0,hb⟩;refine ⟨_,rfl,?_⟩;have n0_:=a_ (Kd.R_elder' (by exact HO120.out) (Kd.R_base ho0) hb);have n1_:=a_ (Kd.R_lower (Kd.R_new' ho0 (Kd.R_lt (by exact HO120.out))) (below_size HB.out));have n2_:=a_ (below_step HB.out hb);clear HO120;clear HB;have HO120:=n0_;have HO123:=n1_;have HB:=n2_;clear n0_ n1_ n2_;(try clear hb);(try clear ho0);obtain ⟨Ao11,co11,eo11⟩:=Kd.R_slice HO120.out;subst eo11;obtain ⟨Ao12,co12,eo12⟩:=Kd.R_slice HO123.out;subst eo12))
    go_loopg [28] k (fun kq v28 w'=>∃ (x28_1:Int),v28 = .int .i64 x28_1 ∧ Aside0 (impl_comparePre.l0 kq t118 t121 ji8 x28_1=some r) ∧ Aside0 (kq ≤ k) ∧ Aside0 (Kd.R Kd.string 9 w' w.heap.size (fun k_=>some k_ ≠ ((.slice Ao12 t121.length co12):Value).ownBlock) (.slice Ao11 t118.length co11) t118) ∧ Aside0 (Kd.R Kd.string 9 w' w.heap.size (fun k_=>some k_ ≠ ((.slice Ao11 t118.length co11):Value).ownBlock) (.slice Ao12 t121.length co12) t121) ∧ Aside0 (Below w.heap.size w w'))
    case atStart=>exact ⟨(0),(by rfl),H',⟨Nat.le_refl _⟩,⟨by exact Kd.R_mono HO120.out (fun _ hk=>hk.2)⟩,⟨by exact Kd.R_mono HO123.out (fun _ hk=>hk.2)⟩,⟨by exact HB.out⟩⟩
    case round=>
     clear H'
     try clear c3
     try clear c3b0
     try clear c3b1
     try clear c4
     try clear c4b0
     try clear c4b1
     try clear c5
     try clear c5b0
     try clear c5b1
     obtain ⟨x28_1,rfl,HA,HK1,HO_5,HO_6,HB⟩:=hrel
     cases gk with
     | zero=>exact absurd HA.out (by simp [impl_comparePre.l0])
     | succ k1=>
      have H:=HA.out;clear HA;simp only [impl_comparePre.l0] at H
      by_cases c13:x28_1 < ji8
      ·rw [if_pos c13] at H;have c13b0:decide (x28_1 < ji8)=true:=decide_eq_true c13;clear c13
       by_cases c14:0 ≤ x28_1
       ·rw [if_pos c14] at H;have c14b0:decide (0 ≤ x28_1)=true:=decide_eq_true c14;clear c14
        by_cases c15:x28_1 < (t118.length:Int)
        ·rw [if_pos c15] at H;have c15b0:decide (x28_1 < (t118.length:Int))=true:=decide_eq_true c15;clear c15
         by_cases c16:x28_1 < (t121.length:Int)
         ·rw [if_pos c16] at H;have c16b0:decide (x28_1 < (t121.length:Int))=true:=decide_eq_true c16;clear c16;replace H:=Option.bind_eq_some_iff.mp H;obtain ⟨t126,A170,H⟩:=H;replace H:(if t126=0 then (impl_comparePre.l0 k1 t118 t121 ji8 (wrap64 (x28_1 + 1))) else (some t126))=some r:=H;have A17:=a_ A170;clear A170
          by_cases c18:t126=0
          ·rw [if_pos c18] at H;have c18b0:(t126 == 0)=true:=beq_iff_eq.mpr c18;have c18b1:(t126 != 0)=false:=bne_eq_false_iff_eq.mpr c18;clear c18;have H':=a_ H;clear H
           try go_wp2
           have n0_:=a_ (Kd.R_drew HO_5.out);have n1_:=a_ (Kd.R_drew HO_6.out);have n2_:=a_ (below_drew1 HB.out);clear HO_5;clear HO_6;clear HB;have HO_5:=n0_;have HO_6:=n1_;have HB:=n2_;clear n0_ n1_ n2_;have p124:0 ≤ (x28_1:Int):=of_decide_eq_true (by (with_reducible assumption));have q124:x28_1 < (t118.length:Int):=of_decide_eq_true (by (with_reducible assumption));obtain ⟨ad124,e124,hx124_0⟩:=Kd.at_string (Kd.R_reads' HO_5.out).2.2 x28_1 p124 q124
           cases e124;replace p124:=eq_true p124
           replace q124:=eq_true q124;have p125:0 ≤ (x28_1:Int):=of_decide_eq_true (by (with_reducible assumption));have q125:x28_1 < (t121.length:Int):=of_decide_eq_true (by (with_reducible assumption));obtain ⟨ad125,e125,hx125_0⟩:=Kd.at_string (Kd.R_reads' HO_6.out).2.2 x28_1 p125 q125;cases e125;replace p125:=eq_true p125;replace q125:=eq_true q125;refine start_ (n:=10) (S:=fun w'=>w'.cell? (ad124.add (x28_1).toNat)=some (.string (rdOf ByteArray.empty t118 x28_1)) ∧ w'.cell? (ad125.add (x28_1).toNat)=some (.string (rdOf ByteArray.empty t121 x28_1))) (ds:=[]) (m_ 0 10) (by kernel_rfl) rfl rfl ⟨hx124_0,hx125_0⟩ (fun hHeld=>?_);refine with_tabW impl_comparePre.tab11 impl_comparePre.bits11 (fun HT_ HW_=>?_)
           generalize wr.drew=w19 at HO_5 HO_6 HB hx124_0 hx125_0 hHeld ⊢
           refine pure_ (i:=0) (N:=some 31) (v:=?_) (a':=?_) (m_ 1 9) rfl rfl (any_of HT_.out (by kernel_rfl)) (fun _ _ _ h=>h) (Or.inl ⟨by rfl,?_⟩) ?_ ?_;rotate_left
           ·intro w';go_simp
            with_reducible rfl
           rotate_left
           ·simp only [Act.put,s1_,s2_,s3_,i64_w,i32_w];rfl
           refine pure_ (i:=1) (N:=some 32) (v:=?_) (a':=?_) (m_ 2 8) rfl rfl (any_of HT_.out (by kernel_rfl)) (fun _ _ _ h=>h) (Or.inl ⟨by rfl,?_⟩) ?_ ?_;rotate_left
           ·intro w';go_simp
            with_reducible rfl
           rotate_left
           ·simp only [Act.put,s1_,s2_,s3_,i64_w,i32_w];rfl
           refine pure_ (i:=2) (N:=some 33) (v:=?_) (a':=?_) (m_ 3 7) rfl rfl (any_of HT_.out (by kernel_rfl)) (fun _ _ _ h=>h) (Or.inl ⟨by rfl,?_⟩) ?_ ?_;rotate_left
           ·intro w';go_simp
            with_reducible rfl
           rotate_left
           ·simp only [Act.put,s1_,s2_,s3_,i64_w,i32_w];rfl
           refine pure_ (i:=4) (N:=some 35) (v:=?_) (a':=?_) #[true,true,true,false,true,false,false,false,false,false] rfl rfl (any_of HT_.out (by kernel_rfl)) (fun _ _ _ h=>h) (Or.inl ⟨by rfl,?_⟩) ?_ ?_;rotate_left
           ·intro w';go_simp
            with_reducible rfl
           rotate_left
           ·simp only [Act.put,s1_,s2_,s3_,i64_w,i32_w];rfl
           refine pure_ (i:=5) (N:=some 36) (v:=?_) (a':=?_) #[true,true,true,false,true,true,false,false,false,false] rfl rfl (any_of HT_.out (by kernel_rfl)) (fun _ _ _ h=>h) (Or.inl ⟨by rfl,?_⟩) ?_ ?_;rotate_left
           ·intro w';go_simp
            with_reducible rfl
           rotate_left
           ·simp only [Act.put,s1_,s2_,s3_,i64_w,i32_w];rfl
           refine pure_ (i:=6) (N:=some 37) (v:=?_) (a':=?_) #[true,true,true,false,true,true,true,false,false,false] rfl rfl (any_of HT_.out (by kernel_rfl)) (fun _ _ _ h=>h) (Or.inl ⟨by rfl,?_⟩) ?_ ?_;rotate_left
           ·intro w';go_simp
            with_reducible rfl
           rotate_left
           ·simp only [Act.put,s1_,s2_,s3_,i64_w,i32_w];rfl
           refine take_ (i:=3) (N:=some 34) (v:=?_) (a':=?_) (m_ 7 3) rfl rfl (take_ofW HT_.out HW_.out (by kernel_rfl)) (fun _ _ _ h=>h) (Or.inl ⟨by rfl,?_⟩) hHeld ?_ ?_;rotate_left
           ·rintro w' ⟨s0,s1⟩;go_simp
            with_reducible rfl
           rotate_left
           ·simp only [Act.put,s1_,s2_,s3_,i64_w,i32_w];rfl
           refine take_ (i:=7) (N:=some 38) (v:=?_) (a':=?_) (m_ 8 2) rfl rfl (take_ofW HT_.out HW_.out (by kernel_rfl)) (fun _ _ _ h=>h) (Or.inl ⟨by rfl,?_⟩) hHeld ?_ ?_;rotate_left
           ·rintro w' ⟨s0,s1⟩;go_simp
            with_reducible rfl
           rotate_left
           ·simp only [Act.put,s1_,s2_,s3_,i64_w,i32_w];rfl
           refine one_ (i:=8) (N:=some 39) (m_ 9 1) rfl rfl (one_of HT_.out (by kernel_rfl)) (by decide) (fun K hK=>?_);refine goes_ Tryd.func75 (by kernel_rfl) rfl #[.string (rdOf ByteArray.empty t118 x28_1),.string (rdOf ByteArray.empty t121 x28_1)] (by rfl) rfl rfl (by (try simp only [List.map_toArray,List.map_cons,List.map_nil]);rfl) ?_
           with_reducible refine (impl_comparePart.calls k1 (rdOf ByteArray.empty t118 x28_1) (rdOf ByteArray.empty t121 x28_1) t126 _ A17.out).mono ?_
           rintro e w20 ⟨rfl,hb⟩;have HS0_:=(hb.cell (World.block_lt_of_cell? _ _ (hHeld.1))).trans (hHeld.1);have HS1_:=(hb.cell (World.block_lt_of_cell? _ _ (hHeld.2))).trans (hHeld.2);refine ⟨_,rfl,?_⟩;have n0_:=a_ (Kd.R_below (by exact HO_5.out) hb);have n1_:=a_ (Kd.R_below (by exact HO_6.out) hb);have n2_:=a_ (below_step HB.out hb);clear HO_5;clear HO_6;clear HB;have HO_5:=n0_;have HO_6:=n1_;have HB:=n2_
           clear n0_ n1_ n2_
           (try clear hb)
           (skip)
           (skip)
           (skip)
           refine hK.out _ _ ⟨HS0_,HS1_⟩ (fun hHeld=>?_);clear hK K;refine norm_ (a':=?_) ?_ ?_;rotate_left
           ·show Act.put _ (some 39) _=_;simp only [Act.put,s1_,s2_,s3_,i64_w,i32_w];rfl
           refine pure_ (i:=9) (N:=some 8) (v:=?_) (a':=?_) (m_ 10 0) rfl rfl (any_of HT_.out (by kernel_rfl)) (fun _ _ _ h=>h) (Or.inl ⟨by rfl,?_⟩) ?_ ?_;rotate_left
           ·intro w';go_simp
            with_reducible rfl
           rotate_left
           ·simp only [Act.put,s1_,s2_,s3_,i64_w,i32_w];rfl
           refine done_ (done_of HT_.out (by kernel_rfl)) ?_
           try go_wp2
           go_roundg k1
           case measure=>have:=HK1.out;omega
           case rel=>exact ⟨(wrap64 (x28_1 + 1)),(by rfl),H',⟨by have:=HK1.out;omega⟩,⟨by exact HO_5.out⟩,⟨by exact HO_6.out⟩,⟨by exact HB.out⟩⟩
          ·rw [if_neg c18] at H;have c18b0:(t126 == 0)=false:=beq_eq_false_iff_ne.mpr c18;have c18b1:(t126 != 0)=true:=bne_iff_ne.mpr c18;obtain rfl:=Option.some.inj H
           try go_wp2
           have n0_:=a_ (Kd.R_drew HO_5.out);have n1_:=a_ (Kd.R_drew HO_6.out);have n2_:=a_ (below_drew1 HB.out);clear HO_5;clear HO_6;clear HB;have HO_5:=n0_;have HO_6:=n1_;have HB:=n2_;clear n0_ n1_ n2_;have p124:0 ≤ (x28_1:Int):=of_decide_eq_true (by (with_reducible assumption));have q124:x28_1 < (t118.length:Int):=of_decide_eq_true (by (with_reducible assumption));obtain ⟨ad124,e124,hx124_0⟩:=Kd.at_string (Kd.R_reads' HO_5.out).2.2 x28_1 p124 q124
           cases e124;replace p124:=eq_true p124
           replace q124:=eq_true q124;have p125:0 ≤ (x28_1:Int):=of_decide_eq_true (by (with_reducible assumption));have q125:x28_1 < (t121.length:Int):=of_decide_eq_true (by (with_reducible assumption));obtain ⟨ad125,e125,hx125_0⟩:=Kd.at_string (Kd.R_reads' HO_6.out).2.2 x28_1 p125 q125;cases e125;replace p125:=eq_true p125;replace q125:=eq_true q125;refine start_ (n:=10) (S:=fun w'=>w'.cell? (ad124.add (x28_1).toNat)=some (.string (rdOf ByteArray.empty t118 x28_1)) ∧ w'.cell? (ad125.add (x28_1).toNat)=some (.string (rdOf ByteArray.empty t121 x28_1))) (ds:=[]) (m_ 0 10) (by kernel_rfl) rfl rfl ⟨hx124_0,hx125_0⟩ (fun hHeld=>?_);refine with_tabW impl_comparePre.tab11 impl_comparePre.bits11 (fun HT_ HW_=>?_)
           generalize wr.drew=w21 at HO_5 HO_6 HB hx124_0 hx125_0 hHeld ⊢
           refine pure_ (i:=0) (N:=some 31) (v:=?_) (a':=?_) (m_ 1 9) rfl rfl (any_of HT_.out (by kernel_rfl)) (fun _ _ _ h=>h) (Or.inl ⟨by rfl,?_⟩) ?_ ?_;rotate_left
           ·intro w';go_simp
            with_reducible rfl
           rotate_left
           ·simp only [Act.put,s1_,s2_,s3_,i64_w,i32_w];rfl
           refine pure_ (i:=1) (N:=some 32) (v:=?_) (a':=?_) (m_ 2 8) rfl rfl (any_of HT_.out (by kernel_rfl)) (fun _ _ _ h=>h) (Or.inl ⟨by rfl,?_⟩) ?_ ?_;rotate_left
           ·intro w';go_simp
            with_reducible rfl
           rotate_left
           ·simp only [Act.put,s1_,s2_,s3_,i64_w,i32_w];rfl
           refine pure_ (i:=2) (N:=some 33) (v:=?_) (a':=?_) (m_ 3 7) rfl rfl (any_of HT_.out (by kernel_rfl)) (fun _ _ _ h=>h) (Or.inl ⟨by rfl,?_⟩) ?_ ?_;rotate_left
           ·intro w';go_simp
            with_reducible rfl
           rotate_left
           ·simp only [Act.put,s1_,s2_,s3_,i64_w,i32_w];rfl
           refine pure_ (i:=4) (N:=some 35) (v:=?_) (a':=?_) #[true,true,true,false,true,false,false,false,false,false] rfl rfl (any_of HT_.out (by kernel_rfl)) (fun _ _ _ h=>h) (Or.inl ⟨by rfl,?_⟩) ?_ ?_;rotate_left
           ·intro w';go_simp
            with_reducible rfl
           rotate_left
           ·simp only [Act.put,s1_,s2_,s3_,i64_w,i32_w];rfl
           refine pure_ (i:=5) (N:=some 36) (v:=?_) (a':=?_) #[true,true,true,false,true,true,false,false,false,false] rfl rfl (any_of HT_.out (by kernel_rfl)) (fun _ _ _ h=>h) (Or.inl ⟨by rfl,?_⟩) ?_ ?_;rotate_left
           ·intro w';go_simp
            with_reducible rfl
           rotate_left
           ·simp only [Act.put,s1_,s2_,s3_,i64_w,i32_w];rfl
           refine pure_ (i:=6) (N:=some 37) (v:=?_) (a':=?_) #[true,true,true,false,true,true,true,false,false,false] rfl rfl (any_of HT_.out (by kernel_rfl)) (fun _ _ _ h=>h) (Or.inl ⟨by rfl,?_⟩) ?_ ?_;rotate_left
           ·intro w';go_simp
            with_reducible rfl
           rotate_left
           ·simp only [Act.put,s1_,s2_,s3_,i64_w,i32_w];rfl
           refine take_ (i:=3) (N:=some 34) (v:=?_) (a':=?_) (m_ 7 3) rfl rfl (take_ofW HT_.out HW_.out (by kernel_rfl)) (fun _ _ _ h=>h) (Or.inl ⟨by rfl,?_⟩) hHeld ?_ ?_;rotate_left
           ·rintro w' ⟨s0,s1⟩;go_simp
            with_reducible rfl
           rotate_left
           ·simp only [Act.put,s1_,s2_,s3_,i64_w,i32_w];rfl
           refine take_ (i:=7) (N:=some 38) (v:=?_) (a':=?_) (m_ 8 2) rfl rfl (take_ofW HT_.out HW_.out (by kernel_rfl)) (fun _ _ _ h=>h) (Or.inl ⟨by rfl,?_⟩) hHeld ?_ ?_;rotate_left
           ·rintro w' ⟨s0,s1⟩;go_simp
            with_reducible rfl
           rotate_left
           ·simp only [Act.put,s1_,s2_,s3_,i64_w,i32_w];rfl
           refine one_ (i:=8) (N:=some 39) (m_ 9 1) rfl rfl (one_of HT_.out (by kernel_rfl)) (by decide) (fun K hK=>?_);refine goes_ Tryd.func75 (by kernel_rfl) rfl #[.string (rdOf ByteArray.empty t118 x28_1),.string (rdOf ByteArray.empty t121 x28_1)] (by rfl) rfl rfl (by (try simp only [List.map_toArray,List.map_cons,List.map_nil]);rfl) ?_
           with_reducible refine (impl_comparePart.calls k1 (rdOf ByteArray.empty t118 x28_1) (rdOf ByteArray.empty t121 x28_1) t126 _ A17.out).mono ?_
           rintro e w22 ⟨rfl,hb⟩;have HS0_:=(hb.cell (World.block_lt_of_cell? _ _ (hHeld.1))).trans (hHeld.1);have HS1_:=(hb.cell (World.block_lt_of_cell? _ _ (hHeld.2))).trans (hHeld.2);refine ⟨_,rfl,?_⟩;have n0_:=a_ (Kd.R_below (by exact HO_5.out) hb);have n1_:=a_ (Kd.R_below (by exact HO_6.out) hb);have n2_:=a_ (below_step HB.out hb);clear HO_5;clear HO_6;clear HB;have HO_5:=n0_;have HO_6:=n1_;have HB:=n2_
           clear n0_ n1_ n2_
           (try clear hb)
           (skip)
           (skip)
           (skip)
           refine hK.out _ _ ⟨HS0_,HS1_⟩ (fun hHeld=>?_);clear hK K;refine norm_ (a':=?_) ?_ ?_;rotate_left
           ·show Act.put _ (some 39) _=_;simp only [Act.put,s1_,s2_,s3_,i64_w,i32_w];rfl
           refine pure_ (i:=9) (N:=some 8) (v:=?_) (a':=?_) (m_ 10 0) rfl rfl (any_of HT_.out (by kernel_rfl)) (fun _ _ _ h=>h) (Or.inl ⟨by rfl,?_⟩) ?_ ?_;rotate_left
           ·intro w';go_simp
            with_reducible rfl
           rotate_left
           ·simp only [Act.put,s1_,s2_,s3_,i64_w,i32_w];rfl
           refine done_ (done_of HT_.out (by kernel_rfl)) ?_
           try go_wp2
           go_ret
           exact ⟨by rfl,by exact HB.out⟩
         ·rw [if_neg c16] at H;exact absurd H (by simp)
        ·rw [if_neg c15] at H;exact absurd H (by simp)
       ·rw [if_neg c14] at H;exact absurd H (by simp)
      ·rw [if_neg c13] at H;have c13b0:decide (x28_1 < ji8)=false:=decide_eq_false c13;clear c13;replace H:=Option.bind_eq_some_iff.mp H;obtain ⟨t127,A230,H⟩:=H;replace H:(some t127)=some r:=H;have A23:=a_ A230;clear A230;obtain rfl:=Option.some.inj H
       go_wp2_with (((with_reducible refine gate_callee (f:=61) rfl ?_);refine goesL_ (some 48) rfl rfl Tryd.func61 (by kernel_rfl) rfl #[.int .i64 (t118.length:Int),.int .i64 (t121.length:Int)] rfl (by (try simp only [List.map_toArray,List.map_cons,List.map_nil]);rfl) ?_;(with_reducible refine (cmp_Compare_int.calls (t118.length:Int) (t121.length:Int) t127 _ A23.out).mono ?_);rintro e w' ⟨rfl,⟨nd,rfl⟩⟩;refine ⟨_,rfl,?_⟩))
       go_ret
       exact ⟨by rfl,by repeat (with_reducible first | exact HB.out | apply pw_below_drewN)⟩
end Go.Proofs.YtmkdeknpphimbaaDoor.PFnClosed
