import Derived.Test.YtmkdeknpphimbaaDoorCCePFnClosedx0
import Derived.Test.YtmkdeknpphimbaaDoorCCePFnClosedx7
namespace Go.Proofs.YtmkdeknpphimbaaDoor.PFnClosed
open Go.RowKit Go.Proofs.YtmkdeknpphimbaaDoorW.PrintWords Go.Proofs.YtmkdeknpphimbaaDoorW.PrintLast Go.Proofs.YtmkdeknpphimbaaDoorW.PrintMore
attribute [local go_sem] max2_int min2_int max_two min_two max_three min_three max_four min_four
set_option linter.unusedVariables false
set_option linter.unusedSimpArgs false
mutual
def spec_Covers.l0:Nat → List (S36) → List (S36) → Int → Option (Bool)
 | 0,_,_,_=>none
 | k + 1,x0,x1,x5=>if x5 < (x1.length:Int) then (spec_Covers.l1 k x0 x1 x5 false 0) else (some true)
def spec_Covers.l1:Nat → List (S36) → List (S36) → Int → Bool → Int → Option (Bool)
 | 0,_,_,_,_,_=>none
 | k + 1,x0,x1,x5,x6,x7=>if x7 < (x0.length:Int) then (if x6=true then (spec_Covers.l1 k x0 x1 x5 true (wrap64 (x7 + 1))) else (if 0 ≤ x7 then (if 0 ≤ x5 then (if x5 < (x1.length:Int) then (if ((rd_T36 x0 x7).f0).toList=((rd_T36 x1 x5).f0).toList then ((spec_LessVersion.f k ((rd_T36 x0 x7).f1.f0) ((rd_T36 x0 x7).f1.f1) ((rd_T36 x0 x7).f1.f2) ((rd_T36 x0 x7).f1.f3) ((rd_T36 x1 x5).f1.f0) ((rd_T36 x1 x5).f1.f1) ((rd_T36 x1 x5).f1.f2) ((rd_T36 x1 x5).f1.f3)).bind fun t172=>(spec_Covers.l1 k x0 x1 x5 (!t172) (wrap64 (x7 + 1)))) else (spec_Covers.l1 k x0 x1 x5 false (wrap64 (x7 + 1)))) else (none)) else (none)) else (none))) else (if x6=true then (spec_Covers.l0 k x0 x1 (wrap64 (x5 + 1))) else (some false))
end
def spec_Covers.f (k:Nat) (l0:List (S36)) (l1:List (S36)):Option (Bool):=spec_Covers.l0 k l0 l1 0
theorem spec_Covers.mono_l : ∀ k,(∀ y0 y1 y2,LeO (spec_Covers.l0 k y0 y1 y2) (spec_Covers.l0 (k + 1) y0 y1 y2)) ∧ (∀ y0 y1 y2 y3 y4,LeO (spec_Covers.l1 k y0 y1 y2 y3 y4) (spec_Covers.l1 (k + 1) y0 y1 y2 y3 y4))
 | 0=>⟨fun _ _ _ r h=>by simp [spec_Covers.l0] at h,fun _ _ _ _ _ r h=>by simp [spec_Covers.l1] at h⟩
 | k + 1=>by
  obtain ⟨ih0,ih1⟩:=spec_Covers.mono_l k;refine ⟨?_,?_⟩
  ·intro y0 y1 y2;unfold spec_Covers.l0
   repeat' first
   | (with_reducible exact ih1 _ _ _ _ _)
   | (with_reducible exact LeO.refl _)
   | (with_reducible refine LeO.ite ?_ ?_)
  ·intro y0 y1 y2 y3 y4;unfold spec_Covers.l1
   repeat' first
   | (with_reducible exact ih0 _ _ _)
   | (with_reducible exact ih1 _ _ _ _ _)
   | (with_reducible exact spec_LessVersion.mono _ _ _ _ _ _ _ _ _)
   | (with_reducible exact LeO.refl _)
   | (with_reducible refine LeO.ite ?_ ?_)
   | (with_reducible refine LeO.bind ?_ (fun _=>?_))
theorem spec_Covers.mono : ∀ a0 a1 k,LeO (spec_Covers.f k a0 a1) (spec_Covers.f (k + 1) a0 a1):=by
 intro a0 a1 k;obtain ⟨ih0,ih1⟩:=spec_Covers.mono_l k;unfold spec_Covers.f
 repeat' (with_reducible exact ih0 _ _ _)
def spec_Covers.T8:Bool × List (List Nat × List Nat):=(true,[([],[]),([0],[0]),([1],[1]),([1],[1]),([2,3,1],[1,2,3]),([4,1],[1,4]),([5,1],[1,5]),([1],[1]),([1],[1]),([7,8,1],[1,7,8]),([9,1],[1,9]),([10,1],[1,10]),([6,11,1],[1,6,11]),([12,1,1],[1,12]),([13],[13]),([13],[13]),([14,15,13],[13,14,15]),([16,13],[13,16]),([17,13],[13,17]),([13],[13]),([13],[13]),([19,20,13],[13,19,20]),([21,13],[13,21]),([22,13],[13,22]),([18,23,13,13],[13,18,23]),([24,13],[13,24]),([13,25,1],[1,13,25]),([1,26],[1,26]),([27,24,0,1,2,3,4,5,6,7,8,9,10,11,12,13,14,15,16,17,18,19,20,21,22,23,24,25,26,27],[0,27])])
def spec_Covers.B8:List Nat:=[0,1,3,3,15,31,63,3,3,387,899,1923,4095,8191,16383,16383,65535,131071,262143,16383,16383,1589247,3686399,7880703,16777215,33554431,67108863,134217727,268435455]
theorem spec_Covers.tab8:rtab .any (opsOf Tryd.f8 8)=spec_Covers.T8:=by kernel_rfl
theorem spec_Covers.bits8:waitsOk spec_Covers.T8.2 spec_Covers.B8=true:=by kernel_rfl
set_option maxHeartbeats 8000000 in
set_option maxRecDepth 100000 in
theorem spec_Covers.calls (k:Nat) (A0:Option Addr) (c0:Nat) (l0:List (S36)) (A1:Option Addr) (c1:Nat) (l1:List (S36)) (r:Bool) (w:World) (hr0:Kd.C k36 w A0 l0.length l0) (hc0:l0.length ≤ c0) (hr1:Kd.C k36 w A1 l1.length l1) (hc1:l1.length ≤ c1) (h:spec_Covers.f k l0 l1=some r) :
 Calls Tryd.prog 8 #[.slice A0 l0.length c0,.slice A1 l1.length c1] w fun e w'=>e = .returned (.bool r) ∧ Below w.heap.size w w':=by
 have hu33:=Tryd.underlying33;have HR0:=a_ hr0;have HC0:=a_ hc0;clear hr0 hc0;have HR1:=a_ hr1;have HC1:=a_ hc1;clear hr1 hc1;have HB:=a_ (Below.refl w.heap.size w);have H:(spec_Covers.l0 k l0 l1 0)=some r:=h;clear h;have H':=a_ H;clear H
 go_enter Tryd.func8,Tryd.ntmps8
 go_wp2
 go_loopg [5] k (fun kq v5 w'=>∃ (x5_1:Int),v5 = .int .i64 x5_1 ∧ Aside0 (spec_Covers.l0 kq l0 l1 x5_1=some r) ∧ Aside0 (kq ≤ k) ∧ Aside0 (Below w.heap.size w w'))
 case atStart=>exact ⟨(0),(by rfl),H',⟨Nat.le_refl _⟩,⟨by exact HB.out⟩⟩
 case round=>
  clear H';obtain ⟨x5_1,rfl,HA,HK1,HB⟩:=hrel
  cases gk with
  | zero=>exact absurd HA.out (by simp [spec_Covers.l0])
  | succ k1=>
   have H:=HA.out;clear HA;simp only [spec_Covers.l0] at H
   by_cases c3:x5_1 < (l1.length:Int)
   ·rw [if_pos c3] at H;have c3b0:decide (x5_1 < (l1.length:Int))=true:=decide_eq_true c3;clear c3;have H':=a_ H;clear H
    go_wp2
    go_loopg [6,7] k1 (fun kq v6 v7 w'=>∃ (x6_2:Bool) (x7_2:Int),v6 = .bool x6_2 ∧ v7 = .int .i64 x7_2 ∧ Aside0 (spec_Covers.l1 kq l0 l1 x5_1 x6_2 x7_2=some r) ∧ Aside0 (kq ≤ k1) ∧ Aside0 (Below w.heap.size w w'))
    case atStart=>exact ⟨(false),(0),(by rfl),(by rfl),H',⟨Nat.le_refl _⟩,⟨by exact HB.out⟩⟩
    case round=>
     clear H'
     try clear c3b0
     obtain ⟨x6_2,x7_2,rfl,rfl,HA,HK2,HB⟩:=hrel
     cases gk with
     | zero=>exact absurd HA.out (by simp [spec_Covers.l1])
     | succ k2=>
      have H:=HA.out;clear HA;simp only [spec_Covers.l1] at H
      by_cases c4:x7_2 < (l0.length:Int)
      ·rw [if_pos c4] at H;have c4b0:decide (x7_2 < (l0.length:Int))=true:=decide_eq_true c4;clear c4
       by_cases c5:x6_2=true
       ·subst c5;have H1:(spec_Covers.l1 k2 l0 l1 x5_1 true (wrap64 (x7_2 + 1)))=some r:=by rw [if_pos rfl] at H;exact H
        clear H;have H:=H1;clear H1;have H':=a_ H;clear H
        try go_wp2
        have n0_:=a_ (below_drew1 HB.out);clear HB;have HB:=n0_;clear n0_;refine start_ (n:=29) (S:=fun w'=>True) (ds:=[]) (m_ 0 29) (by kernel_rfl) rfl rfl trivial (fun hHeld=>?_);refine with_tabW spec_Covers.tab8 spec_Covers.bits8 (fun HT_ HW_=>?_)
        generalize wr.drew=w6 at HB hHeld ⊢
        refine pure_ (i:=0) (N:=some 20) (v:=?_) (a':=?_) (m_ 1 28) rfl rfl (any_of HT_.out (by kernel_rfl)) (fun _ _ _ h=>h) (Or.inl ⟨by rfl,?_⟩) ?_ ?_;rotate_left
        ·intro w';go_simp
         with_reducible rfl
        rotate_left
        ·simp only [Act.put,s1_,s2_,s3_,i64_w,i32_w];rfl
        refine pure_ (i:=1) (N:=some 21) (v:=?_) (a':=?_) (m_ 2 27) rfl rfl (any_of HT_.out (by kernel_rfl)) (fun _ _ _ h=>h) (Or.inl ⟨by rfl,?_⟩) ?_ ?_;rotate_left
        ·intro w';go_simp
         with_reducible rfl
        rotate_left
        ·simp only [Act.put,s1_,s2_,s3_,i64_w,i32_w];rfl
        refine pure_ (i:=2) (N:=some 22) (v:=undef) (a':=?_) (m_ 3 26) rfl rfl (any_of HT_.out (by kernel_rfl)) (fun _ _ _ h=>h) (Or.inr ⟨by rfl,rfl⟩) ?_ ?_;rotate_left
        ·simp only [Act.put,s1_,s2_,s3_,i64_w,i32_w];rfl
        refine pure_ (i:=3) (N:=some 23) (v:=undef) (a':=?_) (m_ 4 25) rfl rfl (any_of HT_.out (by kernel_rfl)) (fun _ _ _ h=>h) (Or.inr ⟨by rfl,rfl⟩) ?_ ?_;rotate_left
        ·simp only [Act.put,s1_,s2_,s3_,i64_w,i32_w];rfl
        refine pure_ (i:=4) (N:=some 24) (v:=undef) (a':=?_) (m_ 5 24) rfl rfl (any_of HT_.out (by kernel_rfl)) (fun _ _ _ h=>h) (Or.inr ⟨by rfl,rfl⟩) ?_ ?_;rotate_left
        ·simp only [Act.put,s1_,s2_,s3_,i64_w,i32_w];rfl
        refine pure_ (i:=5) (N:=some 25) (v:=undef) (a':=?_) (m_ 6 23) rfl rfl (any_of HT_.out (by kernel_rfl)) (fun _ _ _ h=>h) (Or.inr ⟨by rfl,rfl⟩) ?_ ?_;rotate_left
        ·simp only [Act.put,s1_,s2_,s3_,i64_w,i32_w];rfl
        refine pure_ (i:=6) (N:=some 26) (v:=undef) (a':=?_) (m_ 7 22) rfl rfl (any_of HT_.out (by kernel_rfl)) (fun _ _ _ h=>h) (Or.inr ⟨by rfl,rfl⟩) ?_ ?_;rotate_left
        ·simp only [Act.put,s1_,s2_,s3_,i64_w,i32_w];rfl
        refine pure_ (i:=7) (N:=some 27) (v:=undef) (a':=?_) (m_ 8 21) rfl rfl (any_of HT_.out (by kernel_rfl)) (fun _ _ _ h=>h) (Or.inr ⟨by rfl,rfl⟩) ?_ ?_;rotate_left
        ·simp only [Act.put,s1_,s2_,s3_,i64_w,i32_w];rfl
        refine pure_ (i:=8) (N:=some 28) (v:=undef) (a':=?_) (m_ 9 20) rfl rfl (any_of HT_.out (by kernel_rfl)) (fun _ _ _ h=>h) (Or.inr ⟨by rfl,rfl⟩) ?_ ?_;rotate_left
        ·simp only [Act.put,s1_,s2_,s3_,i64_w,i32_w];rfl
        refine pure_ (i:=9) (N:=some 29) (v:=undef) (a':=?_) (m_ 10 19) rfl rfl (any_of HT_.out (by kernel_rfl)) (fun _ _ _ h=>h) (Or.inr ⟨by rfl,rfl⟩) ?_ ?_;rotate_left
        ·simp only [Act.put,s1_,s2_,s3_,i64_w,i32_w];rfl
        refine pure_ (i:=10) (N:=some 30) (v:=undef) (a':=?_) (m_ 11 18) rfl rfl (any_of HT_.out (by kernel_rfl)) (fun _ _ _ h=>h) (Or.inr ⟨by rfl,rfl⟩) ?_ ?_;rotate_left
        ·simp only [Act.put,s1_,s2_,s3_,i64_w,i32_w];rfl
        refine pure_ (i:=11) (N:=some 31) (v:=undef) (a':=?_) (m_ 12 17) rfl rfl (any_of HT_.out (by kernel_rfl)) (fun _ _ _ h=>h) (Or.inr ⟨by rfl,rfl⟩) ?_ ?_;rotate_left
        ·simp only [Act.put,s1_,s2_,s3_,i64_w,i32_w];rfl
        refine pure_ (i:=12) (N:=some 32) (v:=undef) (a':=?_) (m_ 13 16) rfl rfl (any_of HT_.out (by kernel_rfl)) (fun _ _ _ h=>h) (Or.inr ⟨by rfl,rfl⟩) ?_ ?_;rotate_left
        ·simp only [Act.put,s1_,s2_,s3_,i64_w,i32_w];rfl
        refine pure_ (i:=13) (N:=some 33) (v:=undef) (a':=?_) (m_ 14 15) rfl rfl (any_of HT_.out (by kernel_rfl)) (fun _ _ _ h=>h) (Or.inr ⟨by rfl,rfl⟩) ?_ ?_;rotate_left
        ·simp only [Act.put,s1_,s2_,s3_,i64_w,i32_w];rfl
        refine pure_ (i:=14) (N:=some 34) (v:=undef) (a':=?_) (m_ 15 14) rfl rfl (any_of HT_.out (by kernel_rfl)) (fun _ _ _ h=>h) (Or.inr ⟨by rfl,rfl⟩) ?_ ?_;rotate_left
        ·simp only [Act.put,s1_,s2_,s3_,i64_w,i32_w];rfl
        refine pure_ (i:=15) (N:=some 35) (v:=undef) (a':=?_) (m_ 16 13) rfl rfl (any_of HT_.out (by kernel_rfl)) (fun _ _ _ h=>h) (Or.inr ⟨by rfl,rfl⟩) ?_ ?_;rotate_left
        ·simp only [Act.put,s1_,s2_,s3_,i64_w,i32_w];rfl
        refine pure_ (i:=16) (N:=some 36) (v:=undef) (a':=?_) (m_ 17 12) rfl rfl (any_of HT_.out (by kernel_rfl)) (fun _ _ _ h=>h) (Or.inr ⟨by rfl,rfl⟩) ?_ ?_;rotate_left
        ·simp only [Act.put,s1_,s2_,s3_,i64_w,i32_w];rfl
        refine pure_ (i:=17) (N:=some 37) (v:=undef) (a':=?_) (m_ 18 11) rfl rfl (any_of HT_.out (by kernel_rfl)) (fun _ _ _ h=>h) (Or.inr ⟨by rfl,rfl⟩) ?_ ?_;rotate_left
        ·simp only [Act.put,s1_,s2_,s3_,i64_w,i32_w];rfl
        refine pure_ (i:=18) (N:=some 38) (v:=undef) (a':=?_) (m_ 19 10) rfl rfl (any_of HT_.out (by kernel_rfl)) (fun _ _ _ h=>h) (Or.inr ⟨by rfl,rfl⟩) ?_ ?_;rotate_left
        ·simp only [Act.put,s1_,s2_,s3_,i64_w,i32_w];rfl
        refine pure_ (i:=19) (N:=some 39) (v:=undef) (a':=?_) (m_ 20 9) rfl rfl (any_of HT_.out (by kernel_rfl)) (fun _ _ _ h=>h) (Or.inr ⟨by rfl,rfl⟩) ?_ ?_;rotate_left
        ·simp only [Act.put,s1_,s2_,s3_,i64_w,i32_w];rfl
        refine pure_ (i:=20) (N:=some 40) (v:=undef) (a':=?_) (m_ 21 8) rfl rfl (any_of HT_.out (by kernel_rfl)) (fun _ _ _ h=>h) (Or.inr ⟨by rfl,rfl⟩) ?_ ?_;rotate_left
        ·simp only [Act.put,s1_,s2_,s3_,i64_w,i32_w];rfl
        refine pure_ (i:=21) (N:=some 41) (v:=undef) (a':=?_) (m_ 22 7) rfl rfl (any_of HT_.out (by kernel_rfl)) (fun _ _ _ h=>h) (Or.inr ⟨by rfl,rfl⟩) ?_ ?_;rotate_left
        ·simp only [Act.put,s1_,s2_,s3_,i64_w,i32_w];rfl
        refine pure_ (i:=22) (N:=some 42) (v:=undef) (a':=?_) (m_ 23 6) rfl rfl (any_of HT_.out (by kernel_rfl)) (fun _ _ _ h=>h) (Or.inr ⟨by rfl,rfl⟩) ?_ ?_;rotate_left
        ·simp only [Act.put,s1_,s2_,s3_,i64_w,i32_w];rfl
        refine pure_ (i:=23) (N:=some 43) (v:=undef) (a':=?_) (m_ 24 5) rfl rfl (any_of HT_.out (by kernel_rfl)) (fun _ _ _ h=>h) (Or.inr ⟨by rfl,rfl⟩) ?_ ?_;rotate_left
        ·simp only [Act.put,s1_,s2_,s3_,i64_w,i32_w];rfl
        refine pure_ (i:=24) (N:=some 44) (v:=undef) (a':=?_) (m_ 25 4) rfl rfl (any_of HT_.out (by kernel_rfl)) (fun _ _ _ h=>h) (Or.inr ⟨by rfl,rfl⟩) ?_ ?_;rotate_left
        ·simp only [Act.put,s1_,s2_,s3_,i64_w,i32_w];rfl
        refine pure_ (i:=25) (N:=some 45) (v:=undef) (a':=?_) (m_ 26 3) rfl rfl (any_of HT_.out (by kernel_rfl)) (fun _ _ _ h=>h) (Or.inr ⟨by rfl,rfl⟩) ?_ ?_;rotate_left
        ·simp only [Act.put,s1_,s2_,s3_,i64_w,i32_w];rfl
        refine pure_ (i:=26) (N:=some 46) (v:=undef) (a':=?_) (m_ 27 2) rfl rfl (any_of HT_.out (by kernel_rfl)) (fun _ _ _ h=>h) (Or.inr ⟨by rfl,rfl⟩) ?_ ?_;rotate_left
        ·simp only [Act.put,s1_,s2_,s3_,i64_w,i32_w];rfl
        refine pure_ (i:=27) (N:=some 47) (v:=?_) (a':=?_) (m_ 28 1) rfl rfl (any_of HT_.out (by kernel_rfl)) (fun _ _ _ h=>h) (Or.inl ⟨by rfl,?_⟩) ?_ ?_;rotate_left
        ·intro w';go_simp
         with_reducible rfl
        rotate_left
        ·simp only [Act.put,s1_,s2_,s3_,i64_w,i32_w];rfl
        refine pure_ (i:=28) (N:=some 6) (v:=?_) (a':=?_) (m_ 29 0) rfl rfl (any_of HT_.out (by kernel_rfl)) (fun _ _ _ h=>h) (Or.inl ⟨by rfl,?_⟩) ?_ ?_;rotate_left
        ·intro w';go_simp
         with_reducible rfl
        rotate_left
        ·simp only [Act.put,s1_,s2_,s3_,i64_w,i32_w];rfl
        refine done_ (done_of HT_.out (by kernel_rfl)) ?_
        try go_wp2
        go_roundg k2
        case measure=>have:=HK1.out;have:=HK2.out;omega
        case rel=>exact ⟨(true),(wrap64 (x7_2 + 1)),(by rfl),(by rfl),H',⟨by have:=HK1.out;have:=HK2.out;omega⟩,⟨by exact HB.out⟩⟩
       ·replace c5:=Bool.eq_false_iff.mpr c5;subst c5;have H1:(if 0 ≤ x7_2 then (if 0 ≤ x5_1 then (if x5_1 < (l1.length:Int) then (if ((rd_T36 l0 x7_2).f0).toList=((rd_T36 l1 x5_1).f0).toList then ((spec_LessVersion.f k2 ((rd_T36 l0 x7_2).f1.f0) ((rd_T36 l0 x7_2).f1.f1) ((rd_T36 l0 x7_2).f1.f2) ((rd_T36 l0 x7_2).f1.f3) ((rd_T36 l1 x5_1).f1.f0) ((rd_T36 l1 x5_1).f1.f1) ((rd_T36 l1 x5_1).f1.f2) ((rd_T36 l1 x5_1).f1.f3)).bind fun t172=>(spec_Covers.l1 k2 l0 l1 x5_1 (!t172) (wrap64 (x7_2 + 1)))) else (spec_Covers.l1 k2 l0 l1 x5_1 false (wrap64 (x7_2 + 1)))) else (none)) else (none)) else (none))=some r:=by rw [if_neg (show ¬ (false=true) by decide)] at H;exact H
        clear H;have H:=H1;clear H1
        by_cases c7:0 ≤ x7_2
        ·rw [if_pos c7] at H;have c7b0:decide (0 ≤ x7_2)=true:=decide_eq_true c7;clear c7
         by_cases c8:0 ≤ x5_1
         ·rw [if_pos c8] at H;have c8b0:decide (0 ≤ x5_1)=true:=decide_eq_true c8;clear c8
          by_cases c9:x5_1 < (l1.length:Int)
          ·rw [if_pos c9] at H;have c9b0:decide (x5_1 < (l1.length:Int))=true:=decide_eq_true c9;clear c9
           by_cases c10:((rd_T36 l0 x7_2).f0).toList=((rd_T36 l1 x5_1).f0).toList
           ·rw [if_pos c10] at H;have c10b0:(((rd_T36 l0 x7_2).f0).toList == ((rd_T36 l1 x5_1).f0).toList)=true:=beq_iff_eq.mpr c10;have c10b1:(((rd_T36 l0 x7_2).f0).toList != ((rd_T36 l1 x5_1).f0).toList)=false:=bne_eq_false_iff_eq.mpr c10;clear c10;replace H:=Option.bind_eq_some_iff.mp H;obtain ⟨t172,A110,H⟩:=H;replace H:(spec_Covers.l1 k2 l0 l1 x5_1 (!t172) (wrap64 (x7_2 + 1)))=some r:=H;have A11:=a_ A110
            clear A110;have H':=a_ H;clear H
            try go_wp2
            have n0_:=a_ (below_drew1 HB.out);clear HB;have HB:=n0_;clear n0_;have p168:0 ≤ (x7_2:Int):=of_decide_eq_true (by (with_reducible assumption));have q168:x7_2 < (l0.length:Int):=of_decide_eq_true (by (with_reducible assumption));obtain ⟨ad168,e168,hx168_0,hx168_1,hx168_2,hx168_3,hx168_4⟩:=at_T36 HR0.out x7_2 p168 q168;have hw168_4:=hx168_4;have hw168_3:=hx168_3;have hw168_2:=hx168_2;have hw168_1:=hx168_1
            have hw168_0:=hx168_0;cases e168;replace hx168_0:=bc_ HB hx168_0;replace hx168_1:=bc_ HB hx168_1;replace hx168_2:=bc_ HB hx168_2;replace hx168_3:=bc_ HB hx168_3;replace hx168_4:=bc_ HB hx168_4;replace p168:=eq_true p168;replace q168:=eq_true q168;have p169:0 ≤ (x5_1:Int):=of_decide_eq_true (by (with_reducible assumption));have q169:x5_1 < (l1.length:Int):=of_decide_eq_true (by (with_reducible assumption))
            obtain ⟨ad169,e169,hx169_0,hx169_1,hx169_2,hx169_3,hx169_4⟩:=at_T36 HR1.out x5_1 p169 q169;have hw169_4:=hx169_4;have hw169_3:=hx169_3;have hw169_2:=hx169_2;have hw169_1:=hx169_1;have hw169_0:=hx169_0;cases e169;replace hx169_0:=bc_ HB hx169_0;replace hx169_1:=bc_ HB hx169_1;replace hx169_2:=bc_ HB hx169_2;replace hx169_3:=bc_ HB hx169_3;replace hx169_4:=bc_ HB hx169_4;replace p169:=eq_true p169
            replace q169:=eq_true q169;have p170:0 ≤ (x7_2:Int):=of_decide_eq_true (by (with_reducible assumption));have q170:x7_2 < (l0.length:Int):=of_decide_eq_true (by (with_reducible assumption));obtain ⟨ad170,e170,hx170_0,hx170_1,hx170_2,hx170_3,hx170_4⟩:=at_T36 HR0.out x7_2 p170 q170;have hw170_4:=hx170_4;have hw170_3:=hx170_3;have hw170_2:=hx170_2;have hw170_1:=hx170_1;have hw170_0:=hx170_0
            obtain rfl:ad168=ad170:=(by injection e170);replace hx170_0:=bc_ HB hx170_0;replace hx170_1:=bc_ HB hx170_1;replace hx170_2:=bc_ HB hx170_2;replace hx170_3:=bc_ HB hx170_3;replace hx170_4:=bc_ HB hx170_4;replace p170:=eq_true p170;replace q170:=eq_true q170;have p171:0 ≤ (x5_1:Int):=of_decide_eq_true (by (with_reducible assumption));have q171:x5_1 < (l1.length:Int):=of_decide_eq_true (by (with_reducible assumption))
            obtain ⟨ad171,e171,hx171_0,hx171_1,hx171_2,hx171_3,hx171_4⟩:=at_T36 HR1.out x5_1 p171 q171;have hw171_4:=hx171_4;have hw171_3:=hx171_3;have hw171_2:=hx171_2;have hw171_1:=hx171_1;have hw171_0:=hx171_0;obtain rfl:ad169=ad171:=(by injection e171);replace hx171_0:=bc_ HB hx171_0;replace hx171_1:=bc_ HB hx171_1;replace hx171_2:=bc_ HB hx171_2;replace hx171_3:=bc_ HB hx171_3;replace hx171_4:=bc_ HB hx171_4
            replace p171:=eq_true p171;replace q171:=eq_true q171;refine start_ (n:=29) (S:=fun w'=>w'.cell? (ad168.add ((x7_2).toNat * 5))=some (.string ((rd_T36 l0 x7_2).f0)) ∧ w'.cell? ⟨(ad168.add ((x7_2).toNat * 5)).block,(ad168.add ((x7_2).toNat * 5)).off + 1,none⟩=some (.int .i64 ((rd_T36 l0 x7_2).f1.f0)) ∧ w'.cell? ⟨(ad168.add ((x7_2).toNat * 5)).block,(ad168.add ((x7_2).toNat * 5)).off + 2,none⟩=some (.int .i64 ((rd_T36 l0 x7_2).f1.f1)) ∧ w'.cell? ⟨(ad168.add ((x7_2).toNat * 5)).block,(ad168.add ((x7_2).toNat * 5)).off + 3,none⟩=some (.int .i64 ((rd_T36 l0 x7_2).f1.f2)) ∧ w'.cell? ⟨(ad168.add ((x7_2).toNat * 5)).block,(ad168.add ((x7_2).toNat * 5)).off + 4,none⟩=some (.string ((rd_T36 l0 x7_2).f1.f3)) ∧ w'.cell? (ad169.add ((x5_1).toNat * 5))=some (.string ((rd_T36 l1 x5_1).f0)) ∧ w'.cell? ⟨(ad169.add ((x5_1).toNat * 5)).block,(ad169.add ((x5_1).toNat * 5)).off + 1,none⟩=some (.int .i64 ((rd_T36 l1 x5_1).f1.f0)) ∧ w'.cell? ⟨(ad169.add ((x5_1).toNat * 5)).block,(ad169.add ((x5_1).toNat * 5)).off + 2,none⟩=some (.int .i64 ((rd_T36 l1 x5_1).f1.f1)) ∧ w'.cell? ⟨(ad169.add ((x5_1).toNat * 5)).block,(ad169.add ((x5_1).toNat * 5)).off + 3,none⟩=some (.int .i64 ((rd_T36 l1 x5_1).f1.f2)) ∧ w'.cell? ⟨(ad169.add ((x5_1).toNat * 5)).block,(ad169.add ((x5_1).toNat * 5)).off + 4,none⟩=some (.string ((rd_T36 l1 x5_1).f1.f3)) ∧ w'.cell? (ad168.add ((x7_2).toNat * 5))=some (.string ((rd_T36 l0 x7_2).f0)) ∧ w'.cell? ⟨(ad168.add ((x7_2).toNat * 5)).block,(ad168.add ((x7_2).toNat * 5)).off + 1,none⟩=some (.int .i64 ((rd_T36 l0 x7_2).f1.f0)) ∧ w'.cell? ⟨(ad168.add ((x7_2).toNat * 5)).block,(ad168.add ((x7_2).toNat * 5)).off + 2,none⟩=some (.int .i64 ((rd_T36 l0 x7_2).f1.f1)) ∧ w'.cell? ⟨(ad168.add ((x7_2).toNat * 5)).block,(ad168.add ((x7_2).toNat * 5)).off + 3,none⟩=some (.int .i64 ((rd_T36 l0 x7_2).f1.f2)) ∧ w'.cell? ⟨(ad168.add ((x7_2).toNat * 5)).block,(ad168.add ((x7_2).toNat * 5)).off + 4,none⟩=some (.string ((rd_T36 l0 x7_2).f1.f3)) ∧ w'.cell? (ad169.add ((x5_1).toNat * 5))=some (.string ((rd_T36 l1 x5_1).f0)) ∧ w'.cell? ⟨(ad169.add ((x5_1).toNat * 5)).block,(ad169.add ((x5_1).toNat * 5)).off + 1,none⟩=some (.int .i64 ((rd_T36 l1 x5_1).f1.f0)) ∧ w'.cell? ⟨(ad169.add ((x5_1).toNat * 5)).block,(ad169.add ((x5_1).toNat * 5)).off + 2,none⟩=some (.int .i64 ((rd_T36 l1 x5_1).f1.f1)) ∧ w'.cell? ⟨(ad169.add ((x5_1).toNat * 5)).block,(ad169.add ((x5_1).toNat * 5)).off + 3,none⟩=some (.int .i64 ((rd_T36 l1 x5_1).f1.f2)) ∧ w'.cell? ⟨(ad169.add ((x5_1).toNat * 5)).block,(ad169.add ((x5_1).toNat * 5)).off + 4,none⟩=some (.string ((rd_T36 l1 x5_1).f1.f3))) (ds:=[]) (m_ 0 29) (by kernel_rfl) rfl rfl ⟨(bc_ HB hw168_0),(bc_ HB hw168_1),(bc_ HB hw168_2),(bc_ HB hw168_3),(bc_ HB hw168_4),(bc_ HB hw169_0),(bc_ HB hw169_1),(bc_ HB hw169_2),(bc_ HB hw169_3),(bc_ HB hw169_4),(bc_ HB hw170_0),(bc_ HB hw170_1),(bc_ HB hw170_2),(bc_ HB hw170_3),(bc_ HB hw170_4),(bc_ HB hw171_0),(bc_ HB hw171_1),(bc_ HB hw171_2),(bc_ HB hw171_3),(bc_ HB hw171_4)⟩ (fun hHeld=>?_);refine with_tabW spec_Covers.tab8 spec_Covers.bits8 (fun HT_ HW_=>?_)
            generalize wr.drew=w12 at HB hx168_0 hx168_1 hx168_2 hx168_3 hx168_4 hx169_0 hx169_1 hx169_2 hx169_3 hx169_4 hx170_0 hx170_1 hx170_2 hx170_3 hx170_4 hx171_0 hx171_1 hx171_2 hx171_3 hx171_4 hHeld ⊢
            refine pure_ (i:=0) (N:=some 20) (v:=?_) (a':=?_) (m_ 1 28) rfl rfl (any_of HT_.out (by kernel_rfl)) (fun _ _ _ h=>h) (Or.inl ⟨by rfl,?_⟩) ?_ ?_;rotate_left
            ·intro w';go_simp
             with_reducible rfl
            rotate_left
            ·simp only [Act.put,s1_,s2_,s3_,i64_w,i32_w];rfl
            refine pure_ (i:=1) (N:=some 21) (v:=?_) (a':=?_) (m_ 2 27) rfl rfl (any_of HT_.out (by kernel_rfl)) (fun _ _ _ h=>h) (Or.inl ⟨by rfl,?_⟩) ?_ ?_;rotate_left
            ·intro w';go_simp
             with_reducible rfl
            rotate_left
            ·simp only [Act.put,s1_,s2_,s3_,i64_w,i32_w];rfl
            refine pure_ (i:=2) (N:=some 22) (v:=?_) (a':=?_) (m_ 3 26) rfl rfl (any_of HT_.out (by kernel_rfl)) (fun _ _ _ h=>h) (Or.inl ⟨by rfl,?_⟩) ?_ ?_;rotate_left
            ·intro w';go_simp
             with_reducible rfl
            rotate_left
            ·simp only [Act.put,s1_,s2_,s3_,i64_w,i32_w];rfl
            refine pure_ (i:=3) (N:=some 23) (v:=?_) (a':=?_) (m_ 4 25) rfl rfl (any_of HT_.out (by kernel_rfl)) (fun _ _ _ h=>h) (Or.inl ⟨by rfl,?_⟩) ?_ ?_;rotate_left
            ·intro w';go_simp
             with_reducible rfl
            rotate_left
            ·simp only [Act.put,s1_,s2_,s3_,i64_w,i32_w];rfl
            refine pure_ (i:=4) (N:=some 24) (v:=?_) (a':=?_) (m_ 5 24) rfl rfl (any_of HT_.out (by kernel_rfl)) (fun _ _ _ h=>h) (Or.inl ⟨by rfl,?_⟩) ?_ ?_;rotate_left
            ·intro w';go_simp
             with_reducible rfl
            rotate_left
            ·simp only [Act.put,s1_,s2_,s3_,i64_w,i32_w];rfl
            refine pure_ (i:=5) (N:=some 25) (v:=?_) (a':=?_) (m_ 6 23) rfl rfl (any_of HT_.out (by kernel_rfl)) (fun _ _ _ h=>h) (Or.inl ⟨by rfl,?_⟩) ?_ ?_;rotate_left
            ·intro w';go_simp
             with_reducible rfl
            rotate_left
            ·simp only [Act.put,s1_,s2_,s3_,i64_w,i32_w];rfl
            refine pure_ (i:=7) (N:=some 27) (v:=?_) (a':=?_) #[true,true,true,true,true,true,false,true,false,false,false,false,false,false,false,false,false,false,false,false,false,false,false,false,false,false,false,false,false] rfl rfl (any_of HT_.out (by kernel_rfl)) (fun _ _ _ h=>h) (Or.inl ⟨by rfl,?_⟩) ?_ ?_;rotate_left
            ·intro w';go_simp
             with_reducible rfl
            rotate_left
            ·simp only [Act.put,s1_,s2_,s3_,i64_w,i32_w];rfl
            refine pure_ (i:=8) (N:=some 28) (v:=?_) (a':=?_) #[true,true,true,true,true,true,false,true,true,false,false,false,false,false,false,false,false,false,false,false,false,false,false,false,false,false,false,false,false] rfl rfl (any_of HT_.out (by kernel_rfl)) (fun _ _ _ h=>h) (Or.inl ⟨by rfl,?_⟩) ?_ ?_;rotate_left
            ·intro w';go_simp
             with_reducible rfl
            rotate_left
            ·simp only [Act.put,s1_,s2_,s3_,i64_w,i32_w];rfl
            refine pure_ (i:=9) (N:=some 29) (v:=?_) (a':=?_) #[true,true,true,true,true,true,false,true,true,true,false,false,false,false,false,false,false,false,false,false,false,false,false,false,false,false,false,false,false] rfl rfl (any_of HT_.out (by kernel_rfl)) (fun _ _ _ h=>h) (Or.inl ⟨by rfl,?_⟩) ?_ ?_;rotate_left
            ·intro w';go_simp
             with_reducible rfl
            rotate_left
            ·simp only [Act.put,s1_,s2_,s3_,i64_w,i32_w];rfl
            refine pure_ (i:=10) (N:=some 30) (v:=?_) (a':=?_) #[true,true,true,true,true,true,false,true,true,true,true,false,false,false,false,false,false,false,false,false,false,false,false,false,false,false,false,false,false] rfl rfl (any_of HT_.out (by kernel_rfl)) (fun _ _ _ h=>h) (Or.inl ⟨by rfl,?_⟩) ?_ ?_;rotate_left
            ·intro w';go_simp
             with_reducible rfl
            rotate_left
            ·simp only [Act.put,s1_,s2_,s3_,i64_w,i32_w];rfl
            refine take_ (i:=6) (N:=some 26) (v:=?_) (a':=?_) (m_ 11 18) rfl rfl (take_ofW HT_.out HW_.out (by kernel_rfl)) (fun _ _ _ h=>h) (Or.inl ⟨by rfl,?_⟩) hHeld ?_ ?_;rotate_left
            ·rintro w' ⟨s0,s1,s2,s3,s4,s5,s6,s7,s8,s9,s10,s11,s12,s13,s14,s15,s16,s17,s18,s19⟩;go_simp
             with_reducible rfl
            rotate_left
            ·simp only [Act.put,s1_,s2_,s3_,i64_w,i32_w];rfl
            refine take_ (i:=11) (N:=some 31) (v:=?_) (a':=?_) (m_ 12 17) rfl rfl (take_ofW HT_.out HW_.out (by kernel_rfl)) (fun _ _ _ h=>h) (Or.inl ⟨by rfl,?_⟩) hHeld ?_ ?_;rotate_left
            ·rintro w' ⟨s0,s1,s2,s3,s4,s5,s6,s7,s8,s9,s10,s11,s12,s13,s14,s15,s16,s17,s18,s19⟩;go_simp
             with_reducible rfl
            rotate_left
            ·simp only [Act.put,s1_,s2_,s3_,i64_w,i32_w];rfl
            refine pure_ (i:=12) (N:=some 32) (v:=?_) (a':=?_) (m_ 13 16) rfl rfl (any_of HT_.out (by kernel_rfl)) (fun _ _ _ h=>h) (Or.inl ⟨by rfl,?_⟩) ?_ ?_;rotate_left
            ·intro w';go_simp
             with_reducible rfl
            rotate_left
            ·simp only [Act.put,s1_,s2_,s3_,i64_w,i32_w];rfl
            refine pure_ (i:=13) (N:=some 33) (v:=?_) (a':=?_) (m_ 14 15) rfl rfl (any_of HT_.out (by kernel_rfl)) (fun _ _ _ h=>h) (Or.inl ⟨by rfl,?_⟩) ?_ ?_;rotate_left
            ·intro w';go_simp
             with_reducible rfl
            rotate_left
            ·simp only [Act.put,s1_,s2_,s3_,i64_w,i32_w];rfl
            refine pure_ (i:=14) (N:=some 34) (v:=?_) (a':=?_) (m_ 15 14) rfl rfl (any_of HT_.out (by kernel_rfl)) (fun _ _ _ h=>h) (Or.inl ⟨by rfl,?_⟩) ?_ ?_;rotate_left
            ·intro w';go_simp
             with_reducible rfl
            rotate_left
            ·simp only [Act.put,s1_,s2_,s3_,i64_w,i32_w];rfl
            refine pure_ (i:=15) (N:=some 35) (v:=?_) (a':=?_) (m_ 16 13) rfl rfl (any_of HT_.out (by kernel_rfl)) (fun _ _ _ h=>h) (Or.inl ⟨by rfl,?_⟩) ?_ ?_;rotate_left
            ·intro w';go_simp
             with_reducible rfl
            rotate_left
            ·simp only [Act.put,s1_,s2_,s3_,i64_w,i32_w];rfl
            refine pure_ (i:=16) (N:=some 36) (v:=?_) (a':=?_) (m_ 17 12) rfl rfl (any_of HT_.out (by kernel_rfl)) (fun _ _ _ h=>h) (Or.inl ⟨by rfl,?_⟩) ?_ ?_;rotate_left
            ·intro w';go_simp
             with_reducible rfl
            rotate_left
            ·simp only [Act.put,s1_,s2_,s3_,i64_w,i32_w];rfl
            refine pure_ (i:=17) (N:=some 37) (v:=?_) (a':=?_) (m_ 18 11) rfl rfl (any_of HT_.out (by kernel_rfl)) (fun _ _ _ h=>h) (Or.inl ⟨by rfl,?_⟩) ?_ ?_;rotate_left
            ·intro w';go_simp
             with_reducible rfl
            rotate_left
            ·simp only [Act.put,s1_,s2_,s3_,i64_w,i32_w];rfl
            refine pure_ (i:=19) (N:=some 39) (v:=?_) (a':=?_) #[true,true,true,true,true,true,true,true,true,true,true,true,true,true,true,true,true,true,false,true,false,false,false,false,false,false,false,false,false] rfl rfl (any_of HT_.out (by kernel_rfl)) (fun _ _ _ h=>h) (Or.inl ⟨by rfl,?_⟩) ?_ ?_;rotate_left
            ·intro w';go_simp
             with_reducible rfl
            rotate_left
            ·simp only [Act.put,s1_,s2_,s3_,i64_w,i32_w];rfl
            refine pure_ (i:=20) (N:=some 40) (v:=?_) (a':=?_) #[true,true,true,true,true,true,true,true,true,true,true,true,true,true,true,true,true,true,false,true,true,false,false,false,false,false,false,false,false] rfl rfl (any_of HT_.out (by kernel_rfl)) (fun _ _ _ h=>h) (Or.inl ⟨by rfl,?_⟩) ?_ ?_;rotate_left
            ·intro w';go_simp
             with_reducible rfl
            rotate_left
            ·simp only [Act.put,s1_,s2_,s3_,i64_w,i32_w];rfl
            refine pure_ (i:=21) (N:=some 41) (v:=?_) (a':=?_) #[true,true,true,true,true,true,true,true,true,true,true,true,true,true,true,true,true,true,false,true,true,true,false,false,false,false,false,false,false] rfl rfl (any_of HT_.out (by kernel_rfl)) (fun _ _ _ h=>h) (Or.inl ⟨by rfl,?_⟩) ?_ ?_;rotate_left
            ·intro w';go_simp
             with_reducible rfl
            rotate_left
            ·simp only [Act.put,s1_,s2_,s3_,i64_w,i32_w];rfl
            refine pure_ (i:=22) (N:=some 42) (v:=?_) (a':=?_) #[true,true,true,true,true,true,true,true,true,true,true,true,true,true,true,true,true,true,false,true,true,true,true,false,false,false,false,false,false] rfl rfl (any_of HT_.out (by kernel_rfl)) (fun _ _ _ h=>h) (Or.inl ⟨by rfl,?_⟩) ?_ ?_;rotate_left
            ·intro w';go_simp
             with_reducible rfl
            rotate_left
            ·simp only [Act.put,s1_,s2_,s3_,i64_w,i32_w];rfl
            refine take_ (i:=18) (N:=some 38) (v:=?_) (a':=?_) (m_ 23 6) rfl rfl (take_ofW HT_.out HW_.out (by kernel_rfl)) (fun _ _ _ h=>h) (Or.inl ⟨by rfl,?_⟩) hHeld ?_ ?_;rotate_left
            ·rintro w' ⟨s0,s1,s2,s3,s4,s5,s6,s7,s8,s9,s10,s11,s12,s13,s14,s15,s16,s17,s18,s19⟩;go_simp
             with_reducible rfl
            rotate_left
            ·simp only [Act.put,s1_,s2_,s3_,i64_w,i32_w];rfl
            refine take_ (i:=23) (N:=some 43) (v:=?_) (a':=?_) (m_ 24 5) rfl rfl (take_ofW HT_.out HW_.out (by kernel_rfl)) (fun _ _ _ h=>h) (Or.inl ⟨by rfl,?_⟩) hHeld ?_ ?_;rotate_left
            ·rintro w' ⟨s0,s1,s2,s3,s4,s5,s6,s7,s8,s9,s10,s11,s12,s13,s14,s15,s16,s17,s18,s19⟩;go_simp
             with_reducible rfl
            rotate_left
            ·simp only [Act.put,s1_,s2_,s3_,i64_w,i32_w];rfl
            refine one_ (i:=24) (N:=some 44) (m_ 25 4) rfl rfl (one_of HT_.out (by kernel_rfl)) (by decide) (fun K hK=>?_);refine goes_ Tryd.func23 (by kernel_rfl) rfl #[.agg #[.int .i64 ((rd_T36 l0 x7_2).f1.f0),.int .i64 ((rd_T36 l0 x7_2).f1.f1),.int .i64 ((rd_T36 l0 x7_2).f1.f2),.string ((rd_T36 l0 x7_2).f1.f3)],.agg #[.int .i64 ((rd_T36 l1 x5_1).f1.f0),.int .i64 ((rd_T36 l1 x5_1).f1.f1),.int .i64 ((rd_T36 l1 x5_1).f1.f2),.string ((rd_T36 l1 x5_1).f1.f3)]] (by rfl) rfl rfl (by (try simp only [List.map_toArray,List.map_cons,List.map_nil]);rfl) ?_
            with_reducible refine (spec_LessVersion.calls k2 ((rd_T36 l0 x7_2).f1.f0) ((rd_T36 l0 x7_2).f1.f1) ((rd_T36 l0 x7_2).f1.f2) ((rd_T36 l0 x7_2).f1.f3) ((rd_T36 l1 x5_1).f1.f0) ((rd_T36 l1 x5_1).f1.f1) ((rd_T36 l1 x5_1).f1.f2) ((rd_T36 l1 x5_1).f1.f3) t172 _ A11.out).mono ?_
            rintro e w13 ⟨rfl,hb⟩;refine ⟨_,rfl,?_⟩;have n0_:=a_ (below_step HB.out hb);clear HB;have HB:=n0_;clear n0_
            (try clear hb)
            (skip)
            (skip)
            (skip)
            refine hK.out _ _ ⟨(bc_ HB hw168_0),(bc_ HB hw168_1),(bc_ HB hw168_2),(bc_ HB hw168_3),(bc_ HB hw168_4),(bc_ HB hw169_0),(bc_ HB hw169_1),(bc_ HB hw169_2),(bc_ HB hw169_3),(bc_ HB hw169_4),(bc_ HB hw170_0),(bc_ HB hw170_1),(bc_ HB hw170_2),(bc_ HB hw170_3),(bc_ HB hw170_4),(bc_ HB hw171_0),(bc_ HB hw171_1),(bc_ HB hw171_2),(bc_ HB hw171_3),(bc_ HB hw171_4)⟩ (fun hHeld=>?_);clear hK K;refine norm_ (a':=?_) ?_ ?_
            rotate_left
            ·show Act.put _ (some 44) _=_;simp only [Act.put,s1_,s2_,s3_,i64_w,i32_w];rfl
            refine pure_ (i:=25) (N:=some 45) (v:=?_) (a':=?_) (m_ 26 3) rfl rfl (any_of HT_.out (by kernel_rfl)) (fun _ _ _ h=>h) (Or.inl ⟨by rfl,?_⟩) ?_ ?_;rotate_left
            ·intro w';go_simp
             with_reducible rfl
            rotate_left
            ·simp only [Act.put,s1_,s2_,s3_,i64_w,i32_w];rfl
            refine pure_ (i:=26) (N:=some 46) (v:=?_) (a':=?_) (m_ 27 2) rfl rfl (any_of HT_.out (by kernel_rfl)) (fun _ _ _ h=>h) (Or.inl ⟨by rfl,?_⟩) ?_ ?_;rotate_left
            ·intro w';go_simp
             with_reducible rfl
            rotate_left
            ·simp only [Act.put,s1_,s2_,s3_,i64_w,i32_w];rfl
            refine pure_ (i:=27) (N:=some 47) (v:=?_) (a':=?_) (m_ 28 1) rfl rfl (any_of HT_.out (by kernel_rfl)) (fun _ _ _ h=>h) (Or.inl ⟨by rfl,?_⟩) ?_ ?_;rotate_left
            ·intro w';go_simp
             with_reducible rfl
            rotate_left
            ·simp only [Act.put,s1_,s2_,s3_,i64_w,i32_w];rfl
            refine pure_ (i:=28) (N:=some 6) (v:=?_) (a':=?_) (m_ 29 0) rfl rfl (any_of HT_.out (by kernel_rfl)) (fun _ _ _ h=>h) (Or.inl ⟨by rfl,?_⟩) ?_ ?_;rotate_left
            ·intro w';go_simp
             with_reducible rfl
            rotate_left
            ·simp only [Act.put,s1_,s2_,s3_,i64_w,i32_w];rfl
            refine done_ (done_of HT_.out (by kernel_rfl)) ?_
            try go_wp2
            go_roundg k2
            case measure=>have:=HK1.out;have:=HK2.out;omega
            case rel=>exact ⟨(!t172),(wrap64 (x7_2 + 1)),(by rfl),(by rfl),H',⟨by have:=HK1.out;have:=HK2.out;omega⟩,⟨by exact HB.out⟩⟩
           ·rw [if_neg c10] at H;have c10b0:(((rd_T36 l0 x7_2).f0).toList == ((rd_T36 l1 x5_1).f0).toList)=false:=beq_eq_false_iff_ne.mpr c10;have c10b1:(((rd_T36 l0 x7_2).f0).toList != ((rd_T36 l1 x5_1).f0).toList)=true:=bne_iff_ne.mpr c10;have H':=a_ H;clear H
            try go_wp2
            have n0_:=a_ (below_drew1 HB.out);clear HB;have HB:=n0_;clear n0_;have p168:0 ≤ (x7_2:Int):=of_decide_eq_true (by (with_reducible assumption));have q168:x7_2 < (l0.length:Int):=of_decide_eq_true (by (with_reducible assumption));obtain ⟨ad168,e168,hx168_0,hx168_1,hx168_2,hx168_3,hx168_4⟩:=at_T36 HR0.out x7_2 p168 q168;have hw168_4:=hx168_4;have hw168_3:=hx168_3;have hw168_2:=hx168_2;have hw168_1:=hx168_1
            have hw168_0:=hx168_0;cases e168;replace hx168_0:=bc_ HB hx168_0;replace hx168_1:=bc_ HB hx168_1;replace hx168_2:=bc_ HB hx168_2;replace hx168_3:=bc_ HB hx168_3;replace hx168_4:=bc_ HB hx168_4;replace p168:=eq_true p168;replace q168:=eq_true q168;have p169:0 ≤ (x5_1:Int):=of_decide_eq_true (by (with_reducible assumption));have q169:x5_1 < (l1.length:Int):=of_decide_eq_true (by (with_reducible assumption))
            obtain ⟨ad169,e169,hx169_0,hx169_1,hx169_2,hx169_3,hx169_4⟩:=at_T36 HR1.out x5_1 p169 q169;have hw169_4:=hx169_4;have hw169_3:=hx169_3;have hw169_2:=hx169_2;have hw169_1:=hx169_1;have hw169_0:=hx169_0;cases e169;replace hx169_0:=bc_ HB hx169_0;replace hx169_1:=bc_ HB hx169_1;replace hx169_2:=bc_ HB hx169_2;replace hx169_3:=bc_ HB hx169_3;replace hx169_4:=bc_ HB hx169_4;replace p169:=eq_true p169
            replace q169:=eq_true q169;refine start_ (n:=29) (S:=fun w'=>w'.cell? (ad168.add ((x7_2).toNat * 5))=some (.string ((rd_T36 l0 x7_2).f0)) ∧ w'.cell? ⟨(ad168.add ((x7_2).toNat * 5)).block,(ad168.add ((x7_2).toNat * 5)).off + 1,none⟩=some (.int .i64 ((rd_T36 l0 x7_2).f1.f0)) ∧ w'.cell? ⟨(ad168.add ((x7_2).toNat * 5)).block,(ad168.add ((x7_2).toNat * 5)).off + 2,none⟩=some (.int .i64 ((rd_T36 l0 x7_2).f1.f1)) ∧ w'.cell? ⟨(ad168.add ((x7_2).toNat * 5)).block,(ad168.add ((x7_2).toNat * 5)).off + 3,none⟩=some (.int .i64 ((rd_T36 l0 x7_2).f1.f2)) ∧ w'.cell? ⟨(ad168.add ((x7_2).toNat * 5)).block,(ad168.add ((x7_2).toNat * 5)).off + 4,none⟩=some (.string ((rd_T36 l0 x7_2).f1.f3)) ∧ w'.cell? (ad169.add ((x5_1).toNat * 5))=some (.string ((rd_T36 l1 x5_1).f0)) ∧ w'.cell? ⟨(ad169.add ((x5_1).toNat * 5)).block,(ad169.add ((x5_1).toNat * 5)).off + 1,none⟩=some (.int .i64 ((rd_T36 l1 x5_1).f1.f0)) ∧ w'.cell? ⟨(ad169.add ((x5_1).toNat * 5)).block,(ad169.add ((x5_1).toNat * 5)).off + 2,none⟩=some (.int .i64 ((rd_T36 l1 x5_1).f1.f1)) ∧ w'.cell? ⟨(ad169.add ((x5_1).toNat * 5)).block,(ad169.add ((x5_1).toNat * 5)).off + 3,none⟩=some (.int .i64 ((rd_T36 l1 x5_1).f1.f2)) ∧ w'.cell? ⟨(ad169.add ((x5_1).toNat * 5)).block,(ad169.add ((x5_1).toNat * 5)).off + 4,none⟩=some (.string ((rd_T36 l1 x5_1).f1.f3))) (ds:=[]) (m_ 0 29) (by kernel_rfl) rfl rfl ⟨(bc_ HB hw168_0),(bc_ HB hw168_1),(bc_ HB hw168_2),(bc_ HB hw168_3),(bc_ HB hw168_4),(bc_ HB hw169_0),(bc_ HB hw169_1),(bc_ HB hw169_2),(bc_ HB hw169_3),(bc_ HB hw169_4)⟩ (fun hHeld=>?_);refine with_tabW spec_Covers.tab8 spec_Covers.bits8 (fun HT_ HW_=>?_)
            generalize wr.drew=w14 at HB hx168_0 hx168_1 hx168_2 hx168_3 hx168_4 hx169_0 hx169_1 hx169_2 hx169_3 hx169_4 hHeld ⊢
            refine pure_ (i:=0) (N:=some 20) (v:=?_) (a':=?_) (m_ 1 28) rfl rfl (any_of HT_.out (by kernel_rfl)) (fun _ _ _ h=>h) (Or.inl ⟨by rfl,?_⟩) ?_ ?_;rotate_left
            ·intro w';go_simp
             with_reducible rfl
            rotate_left
            ·simp only [Act.put,s1_,s2_,s3_,i64_w,i32_w];rfl
            refine pure_ (i:=1) (N:=some 21) (v:=?_) (a':=?_) (m_ 2 27) rfl rfl (any_of HT_.out (by kernel_rfl)) (fun _ _ _ h=>h) (Or.inl ⟨by rfl,?_⟩) ?_ ?_;rotate_left
            ·intro w';go_simp
             with_reducible rfl
            rotate_left
            ·simp only [Act.put,s1_,s2_,s3_,i64_w,i32_w];rfl
            refine pure_ (i:=2) (N:=some 22) (v:=?_) (a':=?_) (m_ 3 26) rfl rfl (any_of HT_.out (by kernel_rfl)) (fun _ _ _ h=>h) (Or.inl ⟨by rfl,?_⟩) ?_ ?_;rotate_left
            ·intro w';go_simp
             with_reducible rfl
            rotate_left
            ·simp only [Act.put,s1_,s2_,s3_,i64_w,i32_w];rfl
            refine pure_ (i:=3) (N:=some 23) (v:=?_) (a':=?_) (m_ 4 25) rfl rfl (any_of HT_.out (by kernel_rfl)) (fun _ _ _ h=>h) (Or.inl ⟨by rfl,?_⟩) ?_ ?_;rotate_left
            ·intro w';go_simp
             with_reducible rfl
            rotate_left
            ·simp only [Act.put,s1_,s2_,s3_,i64_w,i32_w];rfl
            refine pure_ (i:=4) (N:=some 24) (v:=?_) (a':=?_) (m_ 5 24) rfl rfl (any_of HT_.out (by kernel_rfl)) (fun _ _ _ h=>h) (Or.inl ⟨by rfl,?_⟩) ?_ ?_;rotate_left
            ·intro w';go_simp
             with_reducible rfl
            rotate_left
            ·simp only [Act.put,s1_,s2_,s3_,i64_w,i32_w];rfl
            refine pure_ (i:=5) (N:=some 25) (v:=?_) (a':=?_) (m_ 6 23) rfl rfl (any_of HT_.out (by kernel_rfl)) (fun _ _ _ h=>h) (Or.inl ⟨by rfl,?_⟩) ?_ ?_;rotate_left
            ·intro w';go_simp
             with_reducible rfl
            rotate_left
            ·simp only [Act.put,s1_,s2_,s3_,i64_w,i32_w];rfl
            refine pure_ (i:=7) (N:=some 27) (v:=?_) (a':=?_) #[true,true,true,true,true,true,false,true,false,false,false,false,false,false,false,false,false,false,false,false,false,false,false,false,false,false,false,false,false] rfl rfl (any_of HT_.out (by kernel_rfl)) (fun _ _ _ h=>h) (Or.inl ⟨by rfl,?_⟩) ?_ ?_;rotate_left
            ·intro w';go_simp
             with_reducible rfl
            rotate_left
            ·simp only [Act.put,s1_,s2_,s3_,i64_w,i32_w];rfl
            refine pure_ (i:=8) (N:=some 28) (v:=?_) (a':=?_) #[true,true,true,true,true,true,false,true,true,false,false,false,false,false,false,false,false,false,false,false,false,false,false,false,false,false,false,false,false] rfl rfl (any_of HT_.out (by kernel_rfl)) (fun _ _ _ h=>h) (Or.inl ⟨by rfl,?_⟩) ?_ ?_;rotate_left
            ·intro w';go_simp
             with_reducible rfl
            rotate_left
            ·simp only [Act.put,s1_,s2_,s3_,i64_w,i32_w];rfl
            refine pure_ (i:=9) (N:=some 29) (v:=?_) (a':=?_) #[true,true,true,true,true,true,false,true,true,true,false,false,false,false,false,false,false,false,false,false,false,false,false,false,false,false,false,false,false] rfl rfl (any_of HT_.out (by kernel_rfl)) (fun _ _ _ h=>h) (Or.inl ⟨by rfl,?_⟩) ?_ ?_;rotate_left
            ·intro w';go_simp
             with_reducible rfl
            rotate_left
            ·simp only [Act.put,s1_,s2_,s3_,i64_w,i32_w];rfl
            refine pure_ (i:=10) (N:=some 30) (v:=?_) (a':=?_) #[true,true,true,true,true,true,false,true,true,true,true,false,false,false,false,false,false,false,false,false,false,false,false,false,false,false,false,false,false] rfl rfl (any_of HT_.out (by kernel_rfl)) (fun _ _ _ h=>h) (Or.inl ⟨by rfl,?_⟩) ?_ ?_;rotate_left
            ·intro w';go_simp
             with_reducible rfl
            rotate_left
            ·simp only [Act.put,s1_,s2_,s3_,i64_w,i32_w];rfl
            refine take_ (i:=6) (N:=some 26) (v:=?_) (a':=?_) (m_ 11 18) rfl rfl (take_ofW HT_.out HW_.out (by kernel_rfl)) (fun _ _ _ h=>h) (Or.inl ⟨by rfl,?_⟩) hHeld ?_ ?_;rotate_left
            ·rintro w' ⟨s0,s1,s2,s3,s4,s5,s6,s7,s8,s9⟩;go_simp
             with_reducible rfl
            rotate_left
            ·simp only [Act.put,s1_,s2_,s3_,i64_w,i32_w];rfl
            refine take_ (i:=11) (N:=some 31) (v:=?_) (a':=?_) (m_ 12 17) rfl rfl (take_ofW HT_.out HW_.out (by kernel_rfl)) (fun _ _ _ h=>h) (Or.inl ⟨by rfl,?_⟩) hHeld ?_ ?_;rotate_left
            ·rintro w' ⟨s0,s1,s2,s3,s4,s5,s6,s7,s8,s9⟩;go_simp
             with_reducible rfl
            rotate_left
            ·simp only [Act.put,s1_,s2_,s3_,i64_w,i32_w];rfl
            refine pure_ (i:=12) (N:=some 32) (v:=?_) (a':=?_) (m_ 13 16) rfl rfl (any_of HT_.out (by kernel_rfl)) (fun _ _ _ h=>h) (Or.inl ⟨by rfl,?_⟩) ?_ ?_;rotate_left
            ·intro w';go_simp
             with_reducible rfl
            rotate_left
            ·simp only [Act.put,s1_,s2_,s3_,i64_w,i32_w];rfl
            refine pure_ (i:=13) (N:=some 33) (v:=?_) (a':=?_) (m_ 14 15) rfl rfl (any_of HT_.out (by kernel_rfl)) (fun _ _ _ h=>h) (Or.inl ⟨by rfl,?_⟩) ?_ ?_;rotate_left
            ·intro w';go_simp
             with_reducible rfl
            rotate_left
            ·simp only [Act.put,s1_,s2_,s3_,i64_w,i32_w];rfl
            refine pure_ (i:=14) (N:=some 34) (v:=undef) (a':=?_) (m_ 15 14) rfl rfl (any_of HT_.out (by kernel_rfl)) (fun _ _ _ h=>h) (Or.inr ⟨by rfl,rfl⟩) ?_ ?_;rotate_left
            ·simp only [Act.put,s1_,s2_,s3_,i64_w,i32_w];rfl
            refine pure_ (i:=15) (N:=some 35) (v:=undef) (a':=?_) (m_ 16 13) rfl rfl (any_of HT_.out (by kernel_rfl)) (fun _ _ _ h=>h) (Or.inr ⟨by rfl,rfl⟩) ?_ ?_;rotate_left
            ·simp only [Act.put,s1_,s2_,s3_,i64_w,i32_w];rfl
            refine pure_ (i:=16) (N:=some 36) (v:=undef) (a':=?_) (m_ 17 12) rfl rfl (any_of HT_.out (by kernel_rfl)) (fun _ _ _ h=>h) (Or.inr ⟨by rfl,rfl⟩) ?_ ?_;rotate_left
            ·simp only [Act.put,s1_,s2_,s3_,i64_w,i32_w];rfl
            refine pure_ (i:=17) (N:=some 37) (v:=undef) (a':=?_) (m_ 18 11) rfl rfl (any_of HT_.out (by kernel_rfl)) (fun _ _ _ h=>h) (Or.inr ⟨by rfl,rfl⟩) ?_ ?_;rotate_left
            ·simp only [Act.put,s1_,s2_,s3_,i64_w,i32_w];rfl
            refine pure_ (i:=18) (N:=some 38) (v:=undef) (a':=?_) (m_ 19 10) rfl rfl (any_of HT_.out (by kernel_rfl)) (fun _ _ _ h=>h) (Or.inr ⟨by rfl,rfl⟩) ?_ ?_;rotate_left
            ·simp only [Act.put,s1_,s2_,s3_,i64_w,i32_w];rfl
            refine pure_ (i:=19) (N:=some 39) (v:=undef) (a':=?_) (m_ 20 9) rfl rfl (any_of HT_.out (by kernel_rfl)) (fun _ _ _ h=>h) (Or.inr ⟨by rfl,rfl⟩) ?_ ?_;rotate_left
            ·simp only [Act.put,s1_,s2_,s3_,i64_w,i32_w];rfl
            refine pure_ (i:=20) (N:=some 40) (v:=undef) (a':=?_) (m_ 21 8) rfl rfl (any_of HT_.out (by kernel_rfl)) (fun _ _ _ h=>h) (Or.inr ⟨by rfl,rfl⟩) ?_ ?_;rotate_left
            ·simp only [Act.put,s1_,s2_,s3_,i64_w,i32_w];rfl
            refine pure_ (i:=21) (N:=some 41) (v:=undef) (a':=?_) (m_ 22 7) rfl rfl (any_of HT_.out (by kernel_rfl)) (fun _ _ _ h=>h) (Or.inr ⟨by rfl,rfl⟩) ?_ ?_;rotate_left
            ·simp only [Act.put,s1_,s2_,s3_,i64_w,i32_w];rfl
            refine pure_ (i:=22) (N:=some 42) (v:=undef) (a':=?_) (m_ 23 6) rfl rfl (any_of HT_.out (by kernel_rfl)) (fun _ _ _ h=>h) (Or.inr ⟨by rfl,rfl⟩) ?_ ?_;rotate_left
            ·simp only [Act.put,s1_,s2_,s3_,i64_w,i32_w];rfl
            refine pure_ (i:=23) (N:=some 43) (v:=undef) (a':=?_) (m_ 24 5) rfl rfl (any_of HT_.out (by kernel_rfl)) (fun _ _ _ h=>h) (Or.inr ⟨by rfl,rfl⟩) ?_ ?_;rotate_left
            ·simp only [Act.put,s1_,s2_,s3_,i64_w,i32_w];rfl
            refine pure_ (i:=24) (N:=some 44) (v:=undef) (a':=?_) (m_ 25 4) rfl rfl (any_of HT_.out (by kernel_rfl)) (fun _ _ _ h=>h) (Or.inr ⟨by rfl,rfl⟩) ?_ ?_;rotate_left
            ·simp only [Act.put,s1_,s2_,s3_,i64_w,i32_w];rfl
            refine pure_ (i:=25) (N:=some 45) (v:=undef) (a':=?_) (m_ 26 3) rfl rfl (any_of HT_.out (by kernel_rfl)) (fun _ _ _ h=>h) (Or.inr ⟨by rfl,rfl⟩) ?_ ?_;rotate_left
            ·simp only [Act.put,s1_,s2_,s3_,i64_w,i32_w];rfl
            refine pure_ (i:=26) (N:=some 46) (v:=?_) (a':=?_) (m_ 27 2) rfl rfl (any_of HT_.out (by kernel_rfl)) (fun _ _ _ h=>h) (Or.inl ⟨by rfl,?_⟩) ?_ ?_;rotate_left
            ·intro w';go_simp
             with_reducible rfl
            rotate_left
            ·simp only [Act.put,s1_,s2_,s3_,i64_w,i32_w];rfl
            refine pure_ (i:=27) (N:=some 47) (v:=?_) (a':=?_) (m_ 28 1) rfl rfl (any_of HT_.out (by kernel_rfl)) (fun _ _ _ h=>h) (Or.inl ⟨by rfl,?_⟩) ?_ ?_;rotate_left
            ·intro w';go_simp
             with_reducible rfl
            rotate_left
            ·simp only [Act.put,s1_,s2_,s3_,i64_w,i32_w];rfl
            refine pure_ (i:=28) (N:=some 6) (v:=?_) (a':=?_) (m_ 29 0) rfl rfl (any_of HT_.out (by kernel_rfl)) (fun _ _ _ h=>h) (Or.inl ⟨by rfl,?_⟩) ?_ ?_;rotate_left
            ·intro w';go_simp
             with_reducible rfl
            rotate_left
            ·simp only [Act.put,s1_,s2_,s3_,i64_w,i32_w];rfl
            refine done_ (done_of HT_.out (by kernel_rfl)) ?_
            try go_wp2
            go_roundg k2
            case measure=>have:=HK1.out;have:=HK2.out;omega
            case rel=>exact ⟨(false),(wrap64 (x7_2 + 1)),(by rfl),(by rfl),H',⟨by have:=HK1.out;have:=HK2.out;omega⟩,⟨by exact HB.out⟩⟩
          ·rw [if_neg c9] at H;exact absurd H (by simp)
         ·rw [if_neg c8] at H;exact absurd H (by simp)
        ·rw [if_neg c7] at H;exact absurd H (by simp)
      ·rw [if_neg c4] at H;have c4b0:decide (x7_2 < (l0.length:Int))=false:=decide_eq_false c4;clear c4
       by_cases c15:x6_2=true
       ·subst c15;have H1:(spec_Covers.l0 k2 l0 l1 (wrap64 (x5_1 + 1)))=some r:=by rw [if_pos rfl] at H;exact H
        clear H;have H:=H1;clear H1;have H':=a_ H;clear H
        go_wp2
        go_roundg k2
        case measure=>have:=HK1.out;have:=HK2.out;omega
        case rel=>exact ⟨(wrap64 (x5_1 + 1)),(by rfl),H',⟨by have:=HK1.out;have:=HK2.out;omega⟩,⟨by exact HB.out⟩⟩
       ·replace c15:=Bool.eq_false_iff.mpr c15;subst c15;have H1:(some false)=some r:=by rw [if_neg (show ¬ (false=true) by decide)] at H;exact H
        clear H;have H:=H1;clear H1;obtain rfl:=Option.some.inj H
        go_wp2
        go_ret
        exact ⟨by rfl,by exact HB.out⟩
   ·rw [if_neg c3] at H;have c3b0:decide (x5_1 < (l1.length:Int))=false:=decide_eq_false c3;clear c3;obtain rfl:=Option.some.inj H
    go_wp2
    go_ret
    exact ⟨by rfl,by exact HB.out⟩
end Go.Proofs.YtmkdeknpphimbaaDoor.PFnClosed
