import Derived.Test.YtfpdikledfhcaaaGreatDoorCCaPFnExactClientOkx0
import Derived.Test.YtfpdikledfhcaaaGreatDoorCCaPFnExactClientOkx5
namespace Go.Proofs.YtfpdikledfhcaaaGreatDoor.PFnExactClientOk
open Go.RowKit Go.Proofs.YtfpdikledfhcaaaGreatDoorW.PrintWords Go.Proofs.YtfpdikledfhcaaaGreatDoorW.PrintLast Go.Proofs.YtfpdikledfhcaaaGreatDoorW.PrintMore
attribute [local go_sem] max2_int min2_int max_two min_two max_three min_three max_four min_four
set_option linter.unusedVariables false
set_option linter.unusedSimpArgs false
def spec_l5Rising.l0:Nat → List (S58) → Int → Option (Bool)
 | 0,_,_=>none
 | k + 1,x0,x3=>if x3 < (x0.length:Int) then (if 0 ≤ x3 then ((spec_NeedOk.f k ((rd_T58 x0 x3).f0) ((rd_T58 x0 x3).f1.f0) ((rd_T58 x0 x3).f1.f1) ((rd_T58 x0 x3).f1.f2) ((rd_T58 x0 x3).f1.f3)).bind fun t167=>(if t167=true then (if x3 > 0 then (if 0 ≤ (wrap64 (x3 - 1)) then (if (wrap64 (x3 - 1)) < (x0.length:Int) then (if ((Op.bytesLess (((rd_T58 x0 (wrap64 (x3 - 1))).f0).toList) (((rd_T58 x0 x3).f0).toList))=true) then (spec_l5Rising.l0 k x0 (wrap64 (x3 + 1))) else (some false)) else (none)) else (none)) else (spec_l5Rising.l0 k x0 (wrap64 (x3 + 1)))) else (some false))) else (none)) else (some true)
def spec_l5Rising.f (k:Nat) (l0:List (S58)):Option (Bool):=spec_l5Rising.l0 k l0 0
theorem spec_l5Rising.mono_l : ∀ k,(∀ y0 y1,LeO (spec_l5Rising.l0 k y0 y1) (spec_l5Rising.l0 (k + 1) y0 y1))
 | 0=>fun _ _ r h=>by simp [spec_l5Rising.l0] at h
 | k + 1=>by
  have ih0:=spec_l5Rising.mono_l k
  ·intro y0 y1;unfold spec_l5Rising.l0
   repeat' first
   | (with_reducible exact ih0 _ _)
   | (with_reducible exact spec_NeedOk.mono _ _ _ _ _ _)
   | (with_reducible exact LeO.refl _)
   | (with_reducible refine LeO.ite ?_ ?_)
   | (with_reducible refine LeO.bind ?_ (fun _=>?_))
theorem spec_l5Rising.mono : ∀ a0 k,LeO (spec_l5Rising.f k a0) (spec_l5Rising.f (k + 1) a0):=by
 intro a0 k;have ih0:=spec_l5Rising.mono_l k;unfold spec_l5Rising.f
 repeat' (with_reducible exact ih0 _ _)
def spec_l5Rising.T4:Bool × List (List Nat × List Nat):=(true,[([],[]),([],[]),([0,1],[0,1]),([2],[2]),([3],[3]),([4],[4]),([5,4],[5]),([6],[6]),([7,6],[6,7]),([8,6,6],[6,8]),([9],[9]),([9],[9]),([11,9],[9,11]),([10,12,9],[9,10,12]),([13,9],[9,13]),([14,9],[9,14]),([9],[9]),([9],[9]),([16,17,9],[9,16,17]),([18,9],[9,18]),([19,9],[9,19]),([15,20,9],[9,15,20]),([9,21,6],[6,9,21]),([6,22],[6,22])])
def spec_l5Rising.B4:List Nat:=[0,0,3,7,15,31,63,127,255,511,1023,1023,3071,8191,16383,32767,1023,1023,197631,459775,984063,2097151,4194303,8388607]
theorem spec_l5Rising.tab4:rtab .any (opsOf Tryz.f60 4)=spec_l5Rising.T4:=by kernel_rfl
theorem spec_l5Rising.bits4:waitsOk spec_l5Rising.T4.2 spec_l5Rising.B4=true:=by kernel_rfl
set_option maxHeartbeats 8000000 in
set_option maxRecDepth 100000 in
theorem spec_l5Rising.calls (k:Nat) (A0:Option Addr) (c0:Nat) (l0:List (S58)) (r:Bool) (w:World) (hr0:Kd.C k58 w A0 l0.length l0) (hc0:l0.length ≤ c0) (h:spec_l5Rising.f k l0=some r) :
 Calls Tryz.prog 60 #[.slice A0 l0.length c0] w fun e w'=>e = .returned (.bool r) ∧ Below w.heap.size w w':=by
 have hu58:=Tryz.underlying58;have HR0:=a_ hr0;have HC0:=a_ hc0;clear hr0 hc0;have HB:=a_ (Below.refl w.heap.size w);have H:(spec_l5Rising.l0 k l0 0)=some r:=h;clear h;have H':=a_ H;clear H
 go_enter Tryz.func60,Tryz.ntmps60
 go_wp2
 go_loopg [3] k (fun kq v3 w'=>∃ (x3_1:Int),v3 = .int .i64 x3_1 ∧ Aside0 (spec_l5Rising.l0 kq l0 x3_1=some r) ∧ Aside0 (kq ≤ k) ∧ Aside0 (Below w.heap.size w w'))
 case atStart=>exact ⟨(0),(by rfl),H',⟨Nat.le_refl _⟩,⟨by exact HB.out⟩⟩
 case round=>
  clear H';obtain ⟨x3_1,rfl,HA,HK1,HB⟩:=hrel
  cases gk with
  | zero=>exact absurd HA.out (by simp [spec_l5Rising.l0])
  | succ k1=>
   have H:=HA.out;clear HA;simp only [spec_l5Rising.l0] at H
   by_cases c2:x3_1 < (l0.length:Int)
   ·rw [if_pos c2] at H;have c2b0:decide (x3_1 < (l0.length:Int))=true:=decide_eq_true c2;clear c2
    by_cases c3:0 ≤ x3_1
    ·rw [if_pos c3] at H;have c3b0:decide (0 ≤ x3_1)=true:=decide_eq_true c3;clear c3;replace H:=Option.bind_eq_some_iff.mp H;obtain ⟨t167,A40,H⟩:=H;replace H:(if t167=true then (if x3_1 > 0 then (if 0 ≤ (wrap64 (x3_1 - 1)) then (if (wrap64 (x3_1 - 1)) < (l0.length:Int) then (if ((Op.bytesLess (((rd_T58 l0 (wrap64 (x3_1 - 1))).f0).toList) (((rd_T58 l0 x3_1).f0).toList))=true) then (spec_l5Rising.l0 k1 l0 (wrap64 (x3_1 + 1))) else (some false)) else (none)) else (none)) else (spec_l5Rising.l0 k1 l0 (wrap64 (x3_1 + 1)))) else (some false))=some r:=H
     have A4:=a_ A40;clear A40
     by_cases c5:t167=true
     ·subst c5;have H1:(if x3_1 > 0 then (if 0 ≤ (wrap64 (x3_1 - 1)) then (if (wrap64 (x3_1 - 1)) < (l0.length:Int) then (if ((Op.bytesLess (((rd_T58 l0 (wrap64 (x3_1 - 1))).f0).toList) (((rd_T58 l0 x3_1).f0).toList))=true) then (spec_l5Rising.l0 k1 l0 (wrap64 (x3_1 + 1))) else (some false)) else (none)) else (none)) else (spec_l5Rising.l0 k1 l0 (wrap64 (x3_1 + 1))))=some r:=by rw [if_pos rfl] at H;exact H
      clear H;have H:=H1;clear H1
      by_cases c6:x3_1 > 0
      ·rw [if_pos c6] at H;have c6b0:decide (0 < x3_1)=true:=decide_eq_true c6;clear c6;obtain ⟨ji7,hji7⟩ : ∃ j_:Int,(wrap64 (x3_1 - 1))=j_:=⟨_,rfl⟩;replace H:(if 0 ≤ (ji7) then (if (ji7) < (l0.length:Int) then (if ((Op.bytesLess (((rd_T58 l0 (ji7)).f0).toList) (((rd_T58 l0 x3_1).f0).toList))=true) then (spec_l5Rising.l0 k1 l0 (wrap64 (x3_1 + 1))) else (some false)) else (none)) else (none))=some r:=by (rw [hji7] at H;exact H)
       (skip)
       have hji7w:(IntKind.i64.wrap (x3_1 - 1))=ji7:=(i64_w _).trans hji7
       by_cases c8:0 ≤ (ji7)
       ·rw [if_pos c8] at H;have c8b0:decide (0 ≤ (ji7))=true:=decide_eq_true c8;clear c8
        by_cases c9:(ji7) < (l0.length:Int)
        ·rw [if_pos c9] at H;have c9b0:decide ((ji7) < (l0.length:Int))=true:=decide_eq_true c9;clear c9
         by_cases c10:((Op.bytesLess (((rd_T58 l0 (ji7)).f0).toList) (((rd_T58 l0 x3_1).f0).toList))=true)
         ·rw [if_pos c10] at H;have c10b0:(Op.bytesLess (((rd_T58 l0 (ji7)).f0).toList) (((rd_T58 l0 x3_1).f0).toList))=true:=c10;clear c10;have H':=a_ H;clear H
          try go_wp2
          have n0_:=a_ (below_drew1 HB.out);clear HB;have HB:=n0_;clear n0_;have p166:0 ≤ (x3_1:Int):=of_decide_eq_true (by (with_reducible assumption));have q166:x3_1 < (l0.length:Int):=of_decide_eq_true (by (with_reducible assumption));obtain ⟨ad166,e166,hx166_0,hx166_1,hx166_2,hx166_3,hx166_4⟩:=at_T58 HR0.out x3_1 p166 q166;have hw166_4:=hx166_4;have hw166_3:=hx166_3;have hw166_2:=hx166_2;have hw166_1:=hx166_1
          have hw166_0:=hx166_0;cases e166;replace hx166_0:=bc_ HB hx166_0;replace hx166_1:=bc_ HB hx166_1;replace hx166_2:=bc_ HB hx166_2;replace hx166_3:=bc_ HB hx166_3;replace hx166_4:=bc_ HB hx166_4;replace p166:=eq_true p166;replace q166:=eq_true q166;have p168:0 ≤ ((ji7):Int):=of_decide_eq_true (by (with_reducible assumption));have q168:(ji7) < (l0.length:Int):=of_decide_eq_true (by (with_reducible assumption))
          obtain ⟨ad168,e168,hx168_0,hx168_1,hx168_2,hx168_3,hx168_4⟩:=at_T58 HR0.out (ji7) p168 q168;have hw168_4:=hx168_4;have hw168_3:=hx168_3;have hw168_2:=hx168_2;have hw168_1:=hx168_1;have hw168_0:=hx168_0;obtain rfl:ad166=ad168:=(by injection e168);replace hx168_0:=bc_ HB hx168_0;replace hx168_1:=bc_ HB hx168_1;replace hx168_2:=bc_ HB hx168_2;replace hx168_3:=bc_ HB hx168_3;replace hx168_4:=bc_ HB hx168_4
          replace p168:=eq_true p168;replace q168:=eq_true q168;have p169:0 ≤ (x3_1:Int):=of_decide_eq_true (by (with_reducible assumption));have q169:x3_1 < (l0.length:Int):=of_decide_eq_true (by (with_reducible assumption));obtain ⟨ad169,e169,hx169_0,hx169_1,hx169_2,hx169_3,hx169_4⟩:=at_T58 HR0.out x3_1 p169 q169;have hw169_4:=hx169_4;have hw169_3:=hx169_3;have hw169_2:=hx169_2;have hw169_1:=hx169_1
          have hw169_0:=hx169_0;obtain rfl:ad166=ad169:=(by injection e169);replace hx169_0:=bc_ HB hx169_0;replace hx169_1:=bc_ HB hx169_1;replace hx169_2:=bc_ HB hx169_2;replace hx169_3:=bc_ HB hx169_3;replace hx169_4:=bc_ HB hx169_4;replace p169:=eq_true p169;replace q169:=eq_true q169;refine start_ (n:=24) (S:=fun w'=>w'.cell? (ad166.add ((x3_1).toNat * 5))=some (.string ((rd_T58 l0 x3_1).f0)) ∧ w'.cell? ⟨(ad166.add ((x3_1).toNat * 5)).block,(ad166.add ((x3_1).toNat * 5)).off + 1,none⟩=some (.int .i64 ((rd_T58 l0 x3_1).f1.f0)) ∧ w'.cell? ⟨(ad166.add ((x3_1).toNat * 5)).block,(ad166.add ((x3_1).toNat * 5)).off + 2,none⟩=some (.int .i64 ((rd_T58 l0 x3_1).f1.f1)) ∧ w'.cell? ⟨(ad166.add ((x3_1).toNat * 5)).block,(ad166.add ((x3_1).toNat * 5)).off + 3,none⟩=some (.int .i64 ((rd_T58 l0 x3_1).f1.f2)) ∧ w'.cell? ⟨(ad166.add ((x3_1).toNat * 5)).block,(ad166.add ((x3_1).toNat * 5)).off + 4,none⟩=some (.string ((rd_T58 l0 x3_1).f1.f3)) ∧ w'.cell? (ad166.add ((ji7).toNat * 5))=some (.string ((rd_T58 l0 (ji7)).f0)) ∧ w'.cell? ⟨(ad166.add ((ji7).toNat * 5)).block,(ad166.add ((ji7).toNat * 5)).off + 1,none⟩=some (.int .i64 ((rd_T58 l0 (ji7)).f1.f0)) ∧ w'.cell? ⟨(ad166.add ((ji7).toNat * 5)).block,(ad166.add ((ji7).toNat * 5)).off + 2,none⟩=some (.int .i64 ((rd_T58 l0 (ji7)).f1.f1)) ∧ w'.cell? ⟨(ad166.add ((ji7).toNat * 5)).block,(ad166.add ((ji7).toNat * 5)).off + 3,none⟩=some (.int .i64 ((rd_T58 l0 (ji7)).f1.f2)) ∧ w'.cell? ⟨(ad166.add ((ji7).toNat * 5)).block,(ad166.add ((ji7).toNat * 5)).off + 4,none⟩=some (.string ((rd_T58 l0 (ji7)).f1.f3)) ∧ w'.cell? (ad166.add ((x3_1).toNat * 5))=some (.string ((rd_T58 l0 x3_1).f0)) ∧ w'.cell? ⟨(ad166.add ((x3_1).toNat * 5)).block,(ad166.add ((x3_1).toNat * 5)).off + 1,none⟩=some (.int .i64 ((rd_T58 l0 x3_1).f1.f0)) ∧ w'.cell? ⟨(ad166.add ((x3_1).toNat * 5)).block,(ad166.add ((x3_1).toNat * 5)).off + 2,none⟩=some (.int .i64 ((rd_T58 l0 x3_1).f1.f1)) ∧ w'.cell? ⟨(ad166.add ((x3_1).toNat * 5)).block,(ad166.add ((x3_1).toNat * 5)).off + 3,none⟩=some (.int .i64 ((rd_T58 l0 x3_1).f1.f2)) ∧ w'.cell? ⟨(ad166.add ((x3_1).toNat * 5)).block,(ad166.add ((x3_1).toNat * 5)).off + 4,none⟩=some (.string ((rd_T58 l0 x3_1).f1.f3))) (ds:=[]) (m_ 0 24) (by kernel_rfl) rfl rfl ⟨(bc_ HB hw166_0),(bc_ HB hw166_1),(bc_ HB hw166_2),(bc_ HB hw166_3),(bc_ HB hw166_4),(bc_ HB hw168_0),(bc_ HB hw168_1),(bc_ HB hw168_2),(bc_ HB hw168_3),(bc_ HB hw168_4),(bc_ HB hw169_0),(bc_ HB hw169_1),(bc_ HB hw169_2),(bc_ HB hw169_3),(bc_ HB hw169_4)⟩ (fun hHeld=>?_);refine with_tabW spec_l5Rising.tab4 spec_l5Rising.bits4 (fun HT_ HW_=>?_)
          generalize wr.drew=w11 at HB hx166_0 hx166_1 hx166_2 hx166_3 hx166_4 hx168_0 hx168_1 hx168_2 hx168_3 hx168_4 hx169_0 hx169_1 hx169_2 hx169_3 hx169_4 hHeld ⊢
          refine pure_ (i:=0) (N:=some 10) (v:=?_) (a':=?_) (m_ 1 23) rfl rfl (any_of HT_.out (by kernel_rfl)) (fun _ _ _ h=>h) (Or.inl ⟨by rfl,?_⟩) ?_ ?_;rotate_left
          ·intro w';go_simp
           with_reducible rfl
          rotate_left
          ·simp only [Act.put,s1_,s2_,s3_,i64_w,i32_w];rfl
          refine pure_ (i:=1) (N:=some 11) (v:=?_) (a':=?_) (m_ 2 22) rfl rfl (any_of HT_.out (by kernel_rfl)) (fun _ _ _ h=>h) (Or.inl ⟨by rfl,?_⟩) ?_ ?_;rotate_left
          ·intro w';go_simp
           with_reducible rfl
          rotate_left
          ·simp only [Act.put,s1_,s2_,s3_,i64_w,i32_w];rfl
          refine pure_ (i:=2) (N:=some 12) (v:=?_) (a':=?_) (m_ 3 21) rfl rfl (any_of HT_.out (by kernel_rfl)) (fun _ _ _ h=>h) (Or.inl ⟨by rfl,?_⟩) ?_ ?_;rotate_left
          ·intro w';go_simp
           with_reducible rfl
          rotate_left
          ·simp only [Act.put,s1_,s2_,s3_,i64_w,i32_w];rfl
          refine take_ (i:=3) (N:=some 13) (v:=?_) (a':=?_) (m_ 4 20) rfl rfl (take_ofW HT_.out HW_.out (by kernel_rfl)) (fun _ _ _ h=>h) (Or.inl ⟨by rfl,?_⟩) hHeld ?_ ?_;rotate_left
          ·rintro w' ⟨s0,s1,s2,s3,s4,s5,s6,s7,s8,s9,s10,s11,s12,s13,s14⟩;go_simp
           with_reducible rfl
          rotate_left
          ·simp only [Act.put,s1_,s2_,s3_,i64_w,i32_w];rfl
          refine one_ (i:=4) (N:=some 14) (m_ 5 19) rfl rfl (one_of HT_.out (by kernel_rfl)) (by decide) (fun K hK=>?_);refine goes_ Tryz.func120 (by kernel_rfl) rfl #[.agg #[.string ((rd_T58 l0 x3_1).f0),.int .i64 ((rd_T58 l0 x3_1).f1.f0),.int .i64 ((rd_T58 l0 x3_1).f1.f1),.int .i64 ((rd_T58 l0 x3_1).f1.f2),.string ((rd_T58 l0 x3_1).f1.f3)]] (by rfl) rfl rfl (by (try simp only [List.map_toArray,List.map_cons,List.map_nil]);rfl) ?_
          with_reducible refine (spec_NeedOk.calls k1 ((rd_T58 l0 x3_1).f0) ((rd_T58 l0 x3_1).f1.f0) ((rd_T58 l0 x3_1).f1.f1) ((rd_T58 l0 x3_1).f1.f2) ((rd_T58 l0 x3_1).f1.f3) true _ A4.out).mono ?_
          rintro e w12 ⟨rfl,hb⟩;refine ⟨_,rfl,?_⟩;have n0_:=a_ (below_step HB.out hb);clear HB;have HB:=n0_;clear n0_
          (try clear hb)
          (skip)
          (skip)
          (skip)
          refine hK.out _ _ ⟨(bc_ HB hw166_0),(bc_ HB hw166_1),(bc_ HB hw166_2),(bc_ HB hw166_3),(bc_ HB hw166_4),(bc_ HB hw168_0),(bc_ HB hw168_1),(bc_ HB hw168_2),(bc_ HB hw168_3),(bc_ HB hw168_4),(bc_ HB hw169_0),(bc_ HB hw169_1),(bc_ HB hw169_2),(bc_ HB hw169_3),(bc_ HB hw169_4)⟩ (fun hHeld=>?_);clear hK K;refine norm_ (a':=?_) ?_ ?_;rotate_left
          ·show Act.put _ (some 14) _=_;simp only [Act.put,s1_,s2_,s3_,i64_w,i32_w];rfl
          refine pure_ (i:=5) (N:=some 15) (v:=?_) (a':=?_) (m_ 6 18) rfl rfl (any_of HT_.out (by kernel_rfl)) (fun _ _ _ h=>h) (Or.inl ⟨by rfl,?_⟩) ?_ ?_;rotate_left
          ·intro w';go_simp
           with_reducible rfl
          rotate_left
          ·simp only [Act.put,s1_,s2_,s3_,i64_w,i32_w];rfl
          refine pure_ (i:=6) (N:=some 16) (v:=?_) (a':=?_) (m_ 7 17) rfl rfl (any_of HT_.out (by kernel_rfl)) (fun _ _ _ h=>h) (Or.inl ⟨by rfl,?_⟩) ?_ ?_;rotate_left
          ·intro w';go_simp
           with_reducible rfl
          rotate_left
          ·simp only [Act.put,s1_,s2_,s3_,i64_w,i32_w];rfl
          refine pure_ (i:=7) (N:=some 17) (v:=?_) (a':=?_) (m_ 8 16) rfl rfl (any_of HT_.out (by kernel_rfl)) (fun _ _ _ h=>h) (Or.inl ⟨by rfl,?_⟩) ?_ ?_;rotate_left
          ·intro w';go_simp
           with_reducible rfl
          rotate_left
          ·simp only [Act.put,s1_,s2_,s3_,i64_w,i32_w];rfl
          refine pure_ (i:=8) (N:=some 18) (v:=?_) (a':=?_) (m_ 9 15) rfl rfl (any_of HT_.out (by kernel_rfl)) (fun _ _ _ h=>h) (Or.inl ⟨by rfl,?_⟩) ?_ ?_;rotate_left
          ·intro w';go_simp
           with_reducible rfl
          rotate_left
          ·simp only [Act.put,s1_,s2_,s3_,i64_w,i32_w];rfl
          refine pure_ (i:=9) (N:=some 19) (v:=?_) (a':=?_) (m_ 10 14) rfl rfl (any_of HT_.out (by kernel_rfl)) (fun _ _ _ h=>h) (Or.inl ⟨by rfl,?_⟩) ?_ ?_;rotate_left
          ·intro w';go_simp
           with_reducible rfl
          rotate_left
          ·simp only [Act.put,s1_,s2_,s3_,i64_w,i32_w];rfl
          refine pure_ (i:=10) (N:=some 20) (v:=?_) (a':=?_) (m_ 11 13) rfl rfl (any_of HT_.out (by kernel_rfl)) (fun _ _ _ h=>h) (Or.inl ⟨by rfl,?_⟩) ?_ ?_;rotate_left
          ·intro w';go_simp
           with_reducible rfl
          rotate_left
          ·simp only [Act.put,s1_,s2_,s3_,i64_w,i32_w];rfl
          refine pure_ (i:=11) (N:=some 21) (v:=?_) (a':=?_) (m_ 12 12) rfl rfl (any_of HT_.out (by kernel_rfl)) (fun _ _ _ h=>h) (Or.inl ⟨by rfl,?_⟩) ?_ ?_;rotate_left
          ·intro w';go_simp
           with_reducible rfl
          rotate_left
          ·simp only [Act.put,s1_,s2_,s3_,i64_w,i32_w];rfl
          refine pure_ (i:=12) (N:=some 22) (v:=?_) (a':=?_) (m_ 13 11) rfl rfl (any_of HT_.out (by kernel_rfl)) (fun _ _ _ h=>h) (Or.inl ⟨by rfl,?_⟩) ?_ ?_;rotate_left
          ·intro w';go_simp
           with_reducible rfl
          rotate_left
          ·simp only [Act.put,s1_,s2_,s3_,i64_w,i32_w];rfl
          refine pure_ (i:=13) (N:=some 23) (v:=?_) (a':=?_) (m_ 14 10) rfl rfl (any_of HT_.out (by kernel_rfl)) (fun _ _ _ h=>h) (Or.inl ⟨by rfl,?_⟩) ?_ ?_;rotate_left
          ·intro w';go_simp
           with_reducible rfl
          rotate_left
          ·simp only [Act.put,s1_,s2_,s3_,i64_w,i32_w];rfl
          refine pure_ (i:=14) (N:=some 24) (v:=?_) (a':=?_) (m_ 15 9) rfl rfl (any_of HT_.out (by kernel_rfl)) (fun _ _ _ h=>h) (Or.inl ⟨by rfl,?_⟩) ?_ ?_;rotate_left
          ·intro w';go_simp
           with_reducible rfl
          rotate_left
          ·simp only [Act.put,s1_,s2_,s3_,i64_w,i32_w];rfl
          refine pure_ (i:=16) (N:=some 26) (v:=?_) (a':=?_) #[true,true,true,true,true,true,true,true,true,true,true,true,true,true,true,false,true,false,false,false,false,false,false,false] rfl rfl (any_of HT_.out (by kernel_rfl)) (fun _ _ _ h=>h) (Or.inl ⟨by rfl,?_⟩) ?_ ?_;rotate_left
          ·intro w';go_simp
           with_reducible rfl
          rotate_left
          ·simp only [Act.put,s1_,s2_,s3_,i64_w,i32_w];rfl
          refine pure_ (i:=17) (N:=some 27) (v:=?_) (a':=?_) #[true,true,true,true,true,true,true,true,true,true,true,true,true,true,true,false,true,true,false,false,false,false,false,false] rfl rfl (any_of HT_.out (by kernel_rfl)) (fun _ _ _ h=>h) (Or.inl ⟨by rfl,?_⟩) ?_ ?_;rotate_left
          ·intro w';go_simp
           with_reducible rfl
          rotate_left
          ·simp only [Act.put,s1_,s2_,s3_,i64_w,i32_w];rfl
          refine pure_ (i:=18) (N:=some 28) (v:=?_) (a':=?_) #[true,true,true,true,true,true,true,true,true,true,true,true,true,true,true,false,true,true,true,false,false,false,false,false] rfl rfl (any_of HT_.out (by kernel_rfl)) (fun _ _ _ h=>h) (Or.inl ⟨by rfl,?_⟩) ?_ ?_;rotate_left
          ·intro w';go_simp
           with_reducible rfl
          rotate_left
          ·simp only [Act.put,s1_,s2_,s3_,i64_w,i32_w];rfl
          refine pure_ (i:=19) (N:=some 29) (v:=?_) (a':=?_) #[true,true,true,true,true,true,true,true,true,true,true,true,true,true,true,false,true,true,true,true,false,false,false,false] rfl rfl (any_of HT_.out (by kernel_rfl)) (fun _ _ _ h=>h) (Or.inl ⟨by rfl,?_⟩) ?_ ?_;rotate_left
          ·intro w';go_simp
           with_reducible rfl
          rotate_left
          ·simp only [Act.put,s1_,s2_,s3_,i64_w,i32_w];rfl
          refine take_ (i:=15) (N:=some 25) (v:=?_) (a':=?_) (m_ 20 4) rfl rfl (take_ofW HT_.out HW_.out (by kernel_rfl)) (fun _ _ _ h=>h) (Or.inl ⟨by rfl,?_⟩) hHeld ?_ ?_;rotate_left
          ·rintro w' ⟨s0,s1,s2,s3,s4,s5,s6,s7,s8,s9,s10,s11,s12,s13,s14⟩;go_simp
           with_reducible rfl
          rotate_left
          ·simp only [Act.put,s1_,s2_,s3_,i64_w,i32_w];rfl
          refine take_ (i:=20) (N:=some 30) (v:=?_) (a':=?_) (m_ 21 3) rfl rfl (take_ofW HT_.out HW_.out (by kernel_rfl)) (fun _ _ _ h=>h) (Or.inl ⟨by rfl,?_⟩) hHeld ?_ ?_;rotate_left
          ·rintro w' ⟨s0,s1,s2,s3,s4,s5,s6,s7,s8,s9,s10,s11,s12,s13,s14⟩;go_simp
           with_reducible rfl
          rotate_left
          ·simp only [Act.put,s1_,s2_,s3_,i64_w,i32_w];rfl
          refine pure_ (i:=21) (N:=some 31) (v:=?_) (a':=?_) (m_ 22 2) rfl rfl (any_of HT_.out (by kernel_rfl)) (fun _ _ _ h=>h) (Or.inl ⟨by rfl,?_⟩) ?_ ?_;rotate_left
          ·intro w';go_simp
           with_reducible rfl
          rotate_left
          ·simp only [Act.put,s1_,s2_,s3_,i64_w,i32_w];rfl
          refine pure_ (i:=22) (N:=some 32) (v:=?_) (a':=?_) (m_ 23 1) rfl rfl (any_of HT_.out (by kernel_rfl)) (fun _ _ _ h=>h) (Or.inl ⟨by rfl,?_⟩) ?_ ?_;rotate_left
          ·intro w';go_simp
           with_reducible rfl
          rotate_left
          ·simp only [Act.put,s1_,s2_,s3_,i64_w,i32_w];rfl
          refine pure_ (i:=23) (N:=some 33) (v:=?_) (a':=?_) (m_ 24 0) rfl rfl (any_of HT_.out (by kernel_rfl)) (fun _ _ _ h=>h) (Or.inl ⟨by rfl,?_⟩) ?_ ?_;rotate_left
          ·intro w';go_simp
           with_reducible rfl
          rotate_left
          ·simp only [Act.put,s1_,s2_,s3_,i64_w,i32_w];rfl
          refine done_ (done_of HT_.out (by kernel_rfl)) ?_
          try go_wp2
          go_roundg k1
          case measure=>have:=HK1.out;omega
          case rel=>exact ⟨(wrap64 (x3_1 + 1)),(by rfl),H',⟨by have:=HK1.out;omega⟩,⟨by exact HB.out⟩⟩
         ·rw [if_neg c10] at H;have c10b0:(Op.bytesLess (((rd_T58 l0 (ji7)).f0).toList) (((rd_T58 l0 x3_1).f0).toList))=false:=by simpa using c10
          clear c10;obtain rfl:=Option.some.inj H
          try go_wp2
          have n0_:=a_ (below_drew1 HB.out);clear HB;have HB:=n0_;clear n0_;have p166:0 ≤ (x3_1:Int):=of_decide_eq_true (by (with_reducible assumption));have q166:x3_1 < (l0.length:Int):=of_decide_eq_true (by (with_reducible assumption));obtain ⟨ad166,e166,hx166_0,hx166_1,hx166_2,hx166_3,hx166_4⟩:=at_T58 HR0.out x3_1 p166 q166;have hw166_4:=hx166_4;have hw166_3:=hx166_3;have hw166_2:=hx166_2;have hw166_1:=hx166_1
          have hw166_0:=hx166_0;cases e166;replace hx166_0:=bc_ HB hx166_0;replace hx166_1:=bc_ HB hx166_1;replace hx166_2:=bc_ HB hx166_2;replace hx166_3:=bc_ HB hx166_3;replace hx166_4:=bc_ HB hx166_4;replace p166:=eq_true p166;replace q166:=eq_true q166;have p168:0 ≤ ((ji7):Int):=of_decide_eq_true (by (with_reducible assumption));have q168:(ji7) < (l0.length:Int):=of_decide_eq_true (by (with_reducible assumption))
          obtain ⟨ad168,e168,hx168_0,hx168_1,hx168_2,hx168_3,hx168_4⟩:=at_T58 HR0.out (ji7) p168 q168;have hw168_4:=hx168_4;have hw168_3:=hx168_3;have hw168_2:=hx168_2;have hw168_1:=hx168_1;have hw168_0:=hx168_0;obtain rfl:ad166=ad168:=(by injection e168);replace hx168_0:=bc_ HB hx168_0;replace hx168_1:=bc_ HB hx168_1;replace hx168_2:=bc_ HB hx168_2;replace hx168_3:=bc_ HB hx168_3;replace hx168_4:=bc_ HB hx168_4
          replace p168:=eq_true p168;replace q168:=eq_true q168;have p169:0 ≤ (x3_1:Int):=of_decide_eq_true (by (with_reducible assumption));have q169:x3_1 < (l0.length:Int):=of_decide_eq_true (by (with_reducible assumption));obtain ⟨ad169,e169,hx169_0,hx169_1,hx169_2,hx169_3,hx169_4⟩:=at_T58 HR0.out x3_1 p169 q169;have hw169_4:=hx169_4;have hw169_3:=hx169_3;have hw169_2:=hx169_2;have hw169_1:=hx169_1
          have hw169_0:=hx169_0;obtain rfl:ad166=ad169:=(by injection e169);replace hx169_0:=bc_ HB hx169_0;replace hx169_1:=bc_ HB hx169_1;replace hx169_2:=bc_ HB hx169_2;replace hx169_3:=bc_ HB hx169_3;replace hx169_4:=bc_ HB hx169_4;replace p169:=eq_true p169;replace q169:=eq_true q169;refine start_ (n:=24) (S:=fun w'=>w'.cell? (ad166.add ((x3_1).toNat * 5))=some (.string ((rd_T58 l0 x3_1).f0)) ∧ w'.cell? ⟨(ad166.add ((x3_1).toNat * 5)).block,(ad166.add ((x3_1).toNat * 5)).off + 1,none⟩=some (.int .i64 ((rd_T58 l0 x3_1).f1.f0)) ∧ w'.cell? ⟨(ad166.add ((x3_1).toNat * 5)).block,(ad166.add ((x3_1).toNat * 5)).off + 2,none⟩=some (.int .i64 ((rd_T58 l0 x3_1).f1.f1)) ∧ w'.cell? ⟨(ad166.add ((x3_1).toNat * 5)).block,(ad166.add ((x3_1).toNat * 5)).off + 3,none⟩=some (.int .i64 ((rd_T58 l0 x3_1).f1.f2)) ∧ w'.cell? ⟨(ad166.add ((x3_1).toNat * 5)).block,(ad166.add ((x3_1).toNat * 5)).off + 4,none⟩=some (.string ((rd_T58 l0 x3_1).f1.f3)) ∧ w'.cell? (ad166.add ((ji7).toNat * 5))=some (.string ((rd_T58 l0 (ji7)).f0)) ∧ w'.cell? ⟨(ad166.add ((ji7).toNat * 5)).block,(ad166.add ((ji7).toNat * 5)).off + 1,none⟩=some (.int .i64 ((rd_T58 l0 (ji7)).f1.f0)) ∧ w'.cell? ⟨(ad166.add ((ji7).toNat * 5)).block,(ad166.add ((ji7).toNat * 5)).off + 2,none⟩=some (.int .i64 ((rd_T58 l0 (ji7)).f1.f1)) ∧ w'.cell? ⟨(ad166.add ((ji7).toNat * 5)).block,(ad166.add ((ji7).toNat * 5)).off + 3,none⟩=some (.int .i64 ((rd_T58 l0 (ji7)).f1.f2)) ∧ w'.cell? ⟨(ad166.add ((ji7).toNat * 5)).block,(ad166.add ((ji7).toNat * 5)).off + 4,none⟩=some (.string ((rd_T58 l0 (ji7)).f1.f3)) ∧ w'.cell? (ad166.add ((x3_1).toNat * 5))=some (.string ((rd_T58 l0 x3_1).f0)) ∧ w'.cell? ⟨(ad166.add ((x3_1).toNat * 5)).block,(ad166.add ((x3_1).toNat * 5)).off + 1,none⟩=some (.int .i64 ((rd_T58 l0 x3_1).f1.f0)) ∧ w'.cell? ⟨(ad166.add ((x3_1).toNat * 5)).block,(ad166.add ((x3_1).toNat * 5)).off + 2,none⟩=some (.int .i64 ((rd_T58 l0 x3_1).f1.f1)) ∧ w'.cell? ⟨(ad166.add ((x3_1).toNat * 5)).block,(ad166.add ((x3_1).toNat * 5)).off + 3,none⟩=some (.int .i64 ((rd_T58 l0 x3_1).f1.f2)) ∧ w'.cell? ⟨(ad166.add ((x3_1).toNat * 5)).block,(ad166.add ((x3_1).toNat * 5)).off + 4,none⟩=some (.string ((rd_T58 l0 x3_1).f1.f3))) (ds:=[]) (m_ 0 24) (by kernel_rfl) rfl rfl ⟨(bc_ HB hw166_0),(bc_ HB hw166_1),(bc_ HB hw166_2),(bc_ HB hw166_3),(bc_ HB hw166_4),(bc_ HB hw168_0),(bc_ HB hw168_1),(bc_ HB hw168_2),(bc_ HB hw168_3),(bc_ HB hw168_4),(bc_ HB hw169_0),(bc_ HB hw169_1),(bc_ HB hw169_2),(bc_ HB hw169_3),(bc_ HB hw169_4)⟩ (fun hHeld=>?_);refine with_tabW spec_l5Rising.tab4 spec_l5Rising.bits4 (fun HT_ HW_=>?_)
          generalize wr.drew=w13 at HB hx166_0 hx166_1 hx166_2 hx166_3 hx166_4 hx168_0 hx168_1 hx168_2 hx168_3 hx168_4 hx169_0 hx169_1 hx169_2 hx169_3 hx169_4 hHeld ⊢
          refine pure_ (i:=0) (N:=some 10) (v:=?_) (a':=?_) (m_ 1 23) rfl rfl (any_of HT_.out (by kernel_rfl)) (fun _ _ _ h=>h) (Or.inl ⟨by rfl,?_⟩) ?_ ?_;rotate_left
          ·intro w';go_simp
           with_reducible rfl
          rotate_left
          ·simp only [Act.put,s1_,s2_,s3_,i64_w,i32_w];rfl
          refine pure_ (i:=1) (N:=some 11) (v:=?_) (a':=?_) (m_ 2 22) rfl rfl (any_of HT_.out (by kernel_rfl)) (fun _ _ _ h=>h) (Or.inl ⟨by rfl,?_⟩) ?_ ?_;rotate_left
          ·intro w';go_simp
           with_reducible rfl
          rotate_left
          ·simp only [Act.put,s1_,s2_,s3_,i64_w,i32_w];rfl
          refine pure_ (i:=2) (N:=some 12) (v:=?_) (a':=?_) (m_ 3 21) rfl rfl (any_of HT_.out (by kernel_rfl)) (fun _ _ _ h=>h) (Or.inl ⟨by rfl,?_⟩) ?_ ?_;rotate_left
          ·intro w';go_simp
           with_reducible rfl
          rotate_left
          ·simp only [Act.put,s1_,s2_,s3_,i64_w,i32_w];rfl
          refine take_ (i:=3) (N:=some 13) (v:=?_) (a':=?_) (m_ 4 20) rfl rfl (take_ofW HT_.out HW_.out (by kernel_rfl)) (fun _ _ _ h=>h) (Or.inl ⟨by rfl,?_⟩) hHeld ?_ ?_;rotate_left
          ·rintro w' ⟨s0,s1,s2,s3,s4,s5,s6,s7,s8,s9,s10,s11,s12,s13,s14⟩;go_simp
           with_reducible rfl
          rotate_left
          ·simp only [Act.put,s1_,s2_,s3_,i64_w,i32_w];rfl
          refine one_ (i:=4) (N:=some 14) (m_ 5 19) rfl rfl (one_of HT_.out (by kernel_rfl)) (by decide) (fun K hK=>?_);refine goes_ Tryz.func120 (by kernel_rfl) rfl #[.agg #[.string ((rd_T58 l0 x3_1).f0),.int .i64 ((rd_T58 l0 x3_1).f1.f0),.int .i64 ((rd_T58 l0 x3_1).f1.f1),.int .i64 ((rd_T58 l0 x3_1).f1.f2),.string ((rd_T58 l0 x3_1).f1.f3)]] (by rfl) rfl rfl (by (try simp only [List.map_toArray,List.map_cons,List.map_nil]);rfl) ?_
          with_reducible refine (spec_NeedOk.calls k1 ((rd_T58 l0 x3_1).f0) ((rd_T58 l0 x3_1).f1.f0) ((rd_T58 l0 x3_1).f1.f1) ((rd_T58 l0 x3_1).f1.f2) ((rd_T58 l0 x3_1).f1.f3) true _ A4.out).mono ?_
          rintro e w14 ⟨rfl,hb⟩;refine ⟨_,rfl,?_⟩;have n0_:=a_ (below_step HB.out hb);clear HB;have HB:=n0_;clear n0_
          (try clear hb)
          (skip)
          (skip)
          (skip)
          refine hK.out _ _ ⟨(bc_ HB hw166_0),(bc_ HB hw166_1),(bc_ HB hw166_2),(bc_ HB hw166_3),(bc_ HB hw166_4),(bc_ HB hw168_0),(bc_ HB hw168_1),(bc_ HB hw168_2),(bc_ HB hw168_3),(bc_ HB hw168_4),(bc_ HB hw169_0),(bc_ HB hw169_1),(bc_ HB hw169_2),(bc_ HB hw169_3),(bc_ HB hw169_4)⟩ (fun hHeld=>?_);clear hK K;refine norm_ (a':=?_) ?_ ?_;rotate_left
          ·show Act.put _ (some 14) _=_;simp only [Act.put,s1_,s2_,s3_,i64_w,i32_w];rfl
          refine pure_ (i:=5) (N:=some 15) (v:=?_) (a':=?_) (m_ 6 18) rfl rfl (any_of HT_.out (by kernel_rfl)) (fun _ _ _ h=>h) (Or.inl ⟨by rfl,?_⟩) ?_ ?_;rotate_left
          ·intro w';go_simp
           with_reducible rfl
          rotate_left
          ·simp only [Act.put,s1_,s2_,s3_,i64_w,i32_w];rfl
          refine pure_ (i:=6) (N:=some 16) (v:=?_) (a':=?_) (m_ 7 17) rfl rfl (any_of HT_.out (by kernel_rfl)) (fun _ _ _ h=>h) (Or.inl ⟨by rfl,?_⟩) ?_ ?_;rotate_left
          ·intro w';go_simp
           with_reducible rfl
          rotate_left
          ·simp only [Act.put,s1_,s2_,s3_,i64_w,i32_w];rfl
          refine pure_ (i:=7) (N:=some 17) (v:=?_) (a':=?_) (m_ 8 16) rfl rfl (any_of HT_.out (by kernel_rfl)) (fun _ _ _ h=>h) (Or.inl ⟨by rfl,?_⟩) ?_ ?_;rotate_left
          ·intro w';go_simp
           with_reducible rfl
          rotate_left
          ·simp only [Act.put,s1_,s2_,s3_,i64_w,i32_w];rfl
          refine pure_ (i:=8) (N:=some 18) (v:=?_) (a':=?_) (m_ 9 15) rfl rfl (any_of HT_.out (by kernel_rfl)) (fun _ _ _ h=>h) (Or.inl ⟨by rfl,?_⟩) ?_ ?_;rotate_left
          ·intro w';go_simp
           with_reducible rfl
          rotate_left
          ·simp only [Act.put,s1_,s2_,s3_,i64_w,i32_w];rfl
          refine pure_ (i:=9) (N:=some 19) (v:=?_) (a':=?_) (m_ 10 14) rfl rfl (any_of HT_.out (by kernel_rfl)) (fun _ _ _ h=>h) (Or.inl ⟨by rfl,?_⟩) ?_ ?_;rotate_left
          ·intro w';go_simp
           with_reducible rfl
          rotate_left
          ·simp only [Act.put,s1_,s2_,s3_,i64_w,i32_w];rfl
          refine pure_ (i:=10) (N:=some 20) (v:=?_) (a':=?_) (m_ 11 13) rfl rfl (any_of HT_.out (by kernel_rfl)) (fun _ _ _ h=>h) (Or.inl ⟨by rfl,?_⟩) ?_ ?_;rotate_left
          ·intro w';go_simp
           with_reducible rfl
          rotate_left
          ·simp only [Act.put,s1_,s2_,s3_,i64_w,i32_w];rfl
          refine pure_ (i:=11) (N:=some 21) (v:=?_) (a':=?_) (m_ 12 12) rfl rfl (any_of HT_.out (by kernel_rfl)) (fun _ _ _ h=>h) (Or.inl ⟨by rfl,?_⟩) ?_ ?_;rotate_left
          ·intro w';go_simp
           with_reducible rfl
          rotate_left
          ·simp only [Act.put,s1_,s2_,s3_,i64_w,i32_w];rfl
          refine pure_ (i:=12) (N:=some 22) (v:=?_) (a':=?_) (m_ 13 11) rfl rfl (any_of HT_.out (by kernel_rfl)) (fun _ _ _ h=>h) (Or.inl ⟨by rfl,?_⟩) ?_ ?_;rotate_left
          ·intro w';go_simp
           with_reducible rfl
          rotate_left
          ·simp only [Act.put,s1_,s2_,s3_,i64_w,i32_w];rfl
          refine pure_ (i:=13) (N:=some 23) (v:=?_) (a':=?_) (m_ 14 10) rfl rfl (any_of HT_.out (by kernel_rfl)) (fun _ _ _ h=>h) (Or.inl ⟨by rfl,?_⟩) ?_ ?_;rotate_left
          ·intro w';go_simp
           with_reducible rfl
          rotate_left
          ·simp only [Act.put,s1_,s2_,s3_,i64_w,i32_w];rfl
          refine pure_ (i:=14) (N:=some 24) (v:=?_) (a':=?_) (m_ 15 9) rfl rfl (any_of HT_.out (by kernel_rfl)) (fun _ _ _ h=>h) (Or.inl ⟨by rfl,?_⟩) ?_ ?_;rotate_left
          ·intro w';go_simp
           with_reducible rfl
          rotate_left
          ·simp only [Act.put,s1_,s2_,s3_,i64_w,i32_w];rfl
          refine pure_ (i:=16) (N:=some 26) (v:=?_) (a':=?_) #[true,true,true,true,true,true,true,true,true,true,true,true,true,true,true,false,true,false,false,false,false,false,false,false] rfl rfl (any_of HT_.out (by kernel_rfl)) (fun _ _ _ h=>h) (Or.inl ⟨by rfl,?_⟩) ?_ ?_;rotate_left
          ·intro w';go_simp
           with_reducible rfl
          rotate_left
          ·simp only [Act.put,s1_,s2_,s3_,i64_w,i32_w];rfl
          refine pure_ (i:=17) (N:=some 27) (v:=?_) (a':=?_) #[true,true,true,true,true,true,true,true,true,true,true,true,true,true,true,false,true,true,false,false,false,false,false,false] rfl rfl (any_of HT_.out (by kernel_rfl)) (fun _ _ _ h=>h) (Or.inl ⟨by rfl,?_⟩) ?_ ?_;rotate_left
          ·intro w';go_simp
           with_reducible rfl
          rotate_left
          ·simp only [Act.put,s1_,s2_,s3_,i64_w,i32_w];rfl
          refine pure_ (i:=18) (N:=some 28) (v:=?_) (a':=?_) #[true,true,true,true,true,true,true,true,true,true,true,true,true,true,true,false,true,true,true,false,false,false,false,false] rfl rfl (any_of HT_.out (by kernel_rfl)) (fun _ _ _ h=>h) (Or.inl ⟨by rfl,?_⟩) ?_ ?_;rotate_left
          ·intro w';go_simp
           with_reducible rfl
          rotate_left
          ·simp only [Act.put,s1_,s2_,s3_,i64_w,i32_w];rfl
          refine pure_ (i:=19) (N:=some 29) (v:=?_) (a':=?_) #[true,true,true,true,true,true,true,true,true,true,true,true,true,true,true,false,true,true,true,true,false,false,false,false] rfl rfl (any_of HT_.out (by kernel_rfl)) (fun _ _ _ h=>h) (Or.inl ⟨by rfl,?_⟩) ?_ ?_;rotate_left
          ·intro w';go_simp
           with_reducible rfl
          rotate_left
          ·simp only [Act.put,s1_,s2_,s3_,i64_w,i32_w];rfl
          refine take_ (i:=15) (N:=some 25) (v:=?_) (a':=?_) (m_ 20 4) rfl rfl (take_ofW HT_.out HW_.out (by kernel_rfl)) (fun _ _ _ h=>h) (Or.inl ⟨by rfl,?_⟩) hHeld ?_ ?_;rotate_left
          ·rintro w' ⟨s0,s1,s2,s3,s4,s5,s6,s7,s8,s9,s10,s11,s12,s13,s14⟩;go_simp
           with_reducible rfl
          rotate_left
          ·simp only [Act.put,s1_,s2_,s3_,i64_w,i32_w];rfl
          refine take_ (i:=20) (N:=some 30) (v:=?_) (a':=?_) (m_ 21 3) rfl rfl (take_ofW HT_.out HW_.out (by kernel_rfl)) (fun _ _ _ h=>h) (Or.inl ⟨by rfl,?_⟩) hHeld ?_ ?_;rotate_left
          ·rintro w' ⟨s0,s1,s2,s3,s4,s5,s6,s7,s8,s9,s10,s11,s12,s13,s14⟩;go_simp
           with_reducible rfl
          rotate_left
          ·simp only [Act.put,s1_,s2_,s3_,i64_w,i32_w];rfl
          refine pure_ (i:=21) (N:=some 31) (v:=?_) (a':=?_) (m_ 22 2) rfl rfl (any_of HT_.out (by kernel_rfl)) (fun _ _ _ h=>h) (Or.inl ⟨by rfl,?_⟩) ?_ ?_;rotate_left
          ·intro w';go_simp
           with_reducible rfl
          rotate_left
          ·simp only [Act.put,s1_,s2_,s3_,i64_w,i32_w];rfl
          refine pure_ (i:=22) (N:=some 32) (v:=?_) (a':=?_) (m_ 23 1) rfl rfl (any_of HT_.out (by kernel_rfl)) (fun _ _ _ h=>h) (Or.inl ⟨by rfl,?_⟩) ?_ ?_;rotate_left
          ·intro w';go_simp
           with_reducible rfl
          rotate_left
          ·simp only [Act.put,s1_,s2_,s3_,i64_w,i32_w];rfl
          refine pure_ (i:=23) (N:=some 33) (v:=?_) (a':=?_) (m_ 24 0) rfl rfl (any_of HT_.out (by kernel_rfl)) (fun _ _ _ h=>h) (Or.inl ⟨by rfl,?_⟩) ?_ ?_;rotate_left
          ·intro w';go_simp
           with_reducible rfl
          rotate_left
          ·simp only [Act.put,s1_,s2_,s3_,i64_w,i32_w];rfl
          refine done_ (done_of HT_.out (by kernel_rfl)) ?_
          try go_wp2
          go_ret
          exact ⟨by rfl,by exact HB.out⟩
        ·rw [if_neg c9] at H;exact absurd H (by simp)
       ·rw [if_neg c8] at H;exact absurd H (by simp)
      ·rw [if_neg c6] at H;have c6b0:decide (0 < x3_1)=false:=decide_eq_false c6;clear c6;have H':=a_ H;clear H
       try go_wp2
       have n0_:=a_ (below_drew1 HB.out);clear HB;have HB:=n0_;clear n0_;have p166:0 ≤ (x3_1:Int):=of_decide_eq_true (by (with_reducible assumption));have q166:x3_1 < (l0.length:Int):=of_decide_eq_true (by (with_reducible assumption));obtain ⟨ad166,e166,hx166_0,hx166_1,hx166_2,hx166_3,hx166_4⟩:=at_T58 HR0.out x3_1 p166 q166;have hw166_4:=hx166_4;have hw166_3:=hx166_3;have hw166_2:=hx166_2;have hw166_1:=hx166_1
       have hw166_0:=hx166_0;cases e166;replace hx166_0:=bc_ HB hx166_0;replace hx166_1:=bc_ HB hx166_1;replace hx166_2:=bc_ HB hx166_2;replace hx166_3:=bc_ HB hx166_3;replace hx166_4:=bc_ HB hx166_4;replace p166:=eq_true p166;replace q166:=eq_true q166;refine start_ (n:=24) (S:=fun w'=>w'.cell? (ad166.add ((x3_1).toNat * 5))=some (.string ((rd_T58 l0 x3_1).f0)) ∧ w'.cell? ⟨(ad166.add ((x3_1).toNat * 5)).block,(ad166.add ((x3_1).toNat * 5)).off + 1,none⟩=some (.int .i64 ((rd_T58 l0 x3_1).f1.f0)) ∧ w'.cell? ⟨(ad166.add ((x3_1).toNat * 5)).block,(ad166.add ((x3_1).toNat * 5)).off + 2,none⟩=some (.int .i64 ((rd_T58 l0 x3_1).f1.f1)) ∧ w'.cell? ⟨(ad166.add ((x3_1).toNat * 5)).block,(ad166.add ((x3_1).toNat * 5)).off + 3,none⟩=some (.int .i64 ((rd_T58 l0 x3_1).f1.f2)) ∧ w'.cell? ⟨(ad166.add ((x3_1).toNat * 5)).block,(ad166.add ((x3_1).toNat * 5)).off + 4,none⟩=some (.string ((rd_T58 l0 x3_1).f1.f3))) (ds:=[]) (m_ 0 24) (by kernel_rfl) rfl rfl ⟨(bc_ HB hw166_0),(bc_ HB hw166_1),(bc_ HB hw166_2),(bc_ HB hw166_3),(bc_ HB hw166_4)⟩ (fun hHeld=>?_);refine with_tabW spec_l5Rising.tab4 spec_l5Rising.bits4 (fun HT_ HW_=>?_)
       generalize wr.drew=w15 at HB hx166_0 hx166_1 hx166_2 hx166_3 hx166_4 hHeld ⊢
       refine pure_ (i:=0) (N:=some 10) (v:=?_) (a':=?_) (m_ 1 23) rfl rfl (any_of HT_.out (by kernel_rfl)) (fun _ _ _ h=>h) (Or.inl ⟨by rfl,?_⟩) ?_ ?_;rotate_left
       ·intro w';go_simp
        with_reducible rfl
       rotate_left
       ·simp only [Act.put,s1_,s2_,s3_,i64_w,i32_w];rfl
       refine pure_ (i:=1) (N:=some 11) (v:=?_) (a':=?_) (m_ 2 22) rfl rfl (any_of HT_.out (by kernel_rfl)) (fun _ _ _ h=>h) (Or.inl ⟨by rfl,?_⟩) ?_ ?_;rotate_left
       ·intro w';go_simp
        with_reducible rfl
       rotate_left
       ·simp only [Act.put,s1_,s2_,s3_,i64_w,i32_w];rfl
       refine pure_ (i:=2) (N:=some 12) (v:=?_) (a':=?_) (m_ 3 21) rfl rfl (any_of HT_.out (by kernel_rfl)) (fun _ _ _ h=>h) (Or.inl ⟨by rfl,?_⟩) ?_ ?_;rotate_left
       ·intro w';go_simp
        with_reducible rfl
       rotate_left
       ·simp only [Act.put,s1_,s2_,s3_,i64_w,i32_w];rfl
       refine take_ (i:=3) (N:=some 13) (v:=?_) (a':=?_) (m_ 4 20) rfl rfl (take_ofW HT_.out HW_.out (by kernel_rfl)) (fun _ _ _ h=>h) (Or.inl ⟨by rfl,?_⟩) hHeld ?_ ?_;rotate_left
       ·rintro w' ⟨s0,s1,s2,s3,s4⟩;go_simp
        with_reducible rfl
       rotate_left
       ·simp only [Act.put,s1_,s2_,s3_,i64_w,i32_w];rfl
       refine one_ (i:=4) (N:=some 14) (m_ 5 19) rfl rfl (one_of HT_.out (by kernel_rfl)) (by decide) (fun K hK=>?_);refine goes_ Tryz.func120 (by kernel_rfl) rfl #[.agg #[.string ((rd_T58 l0 x3_1).f0),.int .i64 ((rd_T58 l0 x3_1).f1.f0),.int .i64 ((rd_T58 l0 x3_1).f1.f1),.int .i64 ((rd_T58 l0 x3_1).f1.f2),.string ((rd_T58 l0 x3_1).f1.f3)]] (by rfl) rfl rfl (by (try simp only [List.map_toArray,List.map_cons,List.map_nil]);rfl) ?_
       with_reducible refine (spec_NeedOk.calls k1 ((rd_T58 l0 x3_1).f0) ((rd_T58 l0 x3_1).f1.f0) ((rd_T58 l0 x3_1).f1.f1) ((rd_T58 l0 x3_1).f1.f2) ((rd_T58 l0 x3_1).f1.f3) true _ A4.out).mono ?_
       rintro e w16 ⟨rfl,hb⟩;refine ⟨_,rfl,?_⟩;have n0_:=a_ (below_step HB.out hb);clear HB;have HB:=n0_;clear n0_
       (try clear hb)
       (skip)
       (skip)
       (skip)
       refine hK.out _ _ ⟨(bc_ HB hw166_0),(bc_ HB hw166_1),(bc_ HB hw166_2),(bc_ HB hw166_3),(bc_ HB hw166_4)⟩ (fun hHeld=>?_);clear hK K;refine norm_ (a':=?_) ?_ ?_;rotate_left
       ·show Act.put _ (some 14) _=_;simp only [Act.put,s1_,s2_,s3_,i64_w,i32_w];rfl
       refine pure_ (i:=5) (N:=some 15) (v:=?_) (a':=?_) (m_ 6 18) rfl rfl (any_of HT_.out (by kernel_rfl)) (fun _ _ _ h=>h) (Or.inl ⟨by rfl,?_⟩) ?_ ?_;rotate_left
       ·intro w';go_simp
        with_reducible rfl
       rotate_left
       ·simp only [Act.put,s1_,s2_,s3_,i64_w,i32_w];rfl
       refine pure_ (i:=6) (N:=some 16) (v:=?_) (a':=?_) (m_ 7 17) rfl rfl (any_of HT_.out (by kernel_rfl)) (fun _ _ _ h=>h) (Or.inl ⟨by rfl,?_⟩) ?_ ?_;rotate_left
       ·intro w';go_simp
        with_reducible rfl
       rotate_left
       ·simp only [Act.put,s1_,s2_,s3_,i64_w,i32_w];rfl
       refine pure_ (i:=7) (N:=some 17) (v:=?_) (a':=?_) (m_ 8 16) rfl rfl (any_of HT_.out (by kernel_rfl)) (fun _ _ _ h=>h) (Or.inl ⟨by rfl,?_⟩) ?_ ?_;rotate_left
       ·intro w';go_simp
        with_reducible rfl
       rotate_left
       ·simp only [Act.put,s1_,s2_,s3_,i64_w,i32_w];rfl
       refine pure_ (i:=8) (N:=some 18) (v:=?_) (a':=?_) (m_ 9 15) rfl rfl (any_of HT_.out (by kernel_rfl)) (fun _ _ _ h=>h) (Or.inl ⟨by rfl,?_⟩) ?_ ?_;rotate_left
       ·intro w';go_simp
        with_reducible rfl
       rotate_left
       ·simp only [Act.put,s1_,s2_,s3_,i64_w,i32_w];rfl
       refine pure_ (i:=9) (N:=some 19) (v:=?_) (a':=?_) (m_ 10 14) rfl rfl (any_of HT_.out (by kernel_rfl)) (fun _ _ _ h=>h) (Or.inl ⟨by rfl,?_⟩) ?_ ?_;rotate_left
       ·intro w';go_simp
        with_reducible rfl
       rotate_left
       ·simp only [Act.put,s1_,s2_,s3_,i64_w,i32_w];rfl
       refine pure_ (i:=10) (N:=some 20) (v:=undef) (a':=?_) (m_ 11 13) rfl rfl (any_of HT_.out (by kernel_rfl)) (fun _ _ _ h=>h) (Or.inr ⟨by rfl,rfl⟩) ?_ ?_;rotate_left
       ·simp only [Act.put,s1_,s2_,s3_,i64_w,i32_w];rfl
       refine pure_ (i:=11) (N:=some 21) (v:=undef) (a':=?_) (m_ 12 12) rfl rfl (any_of HT_.out (by kernel_rfl)) (fun _ _ _ h=>h) (Or.inr ⟨by rfl,rfl⟩) ?_ ?_;rotate_left
       ·simp only [Act.put,s1_,s2_,s3_,i64_w,i32_w];rfl
       refine pure_ (i:=12) (N:=some 22) (v:=undef) (a':=?_) (m_ 13 11) rfl rfl (any_of HT_.out (by kernel_rfl)) (fun _ _ _ h=>h) (Or.inr ⟨by rfl,rfl⟩) ?_ ?_;rotate_left
       ·simp only [Act.put,s1_,s2_,s3_,i64_w,i32_w];rfl
       refine pure_ (i:=13) (N:=some 23) (v:=undef) (a':=?_) (m_ 14 10) rfl rfl (any_of HT_.out (by kernel_rfl)) (fun _ _ _ h=>h) (Or.inr ⟨by rfl,rfl⟩) ?_ ?_;rotate_left
       ·simp only [Act.put,s1_,s2_,s3_,i64_w,i32_w];rfl
       refine pure_ (i:=14) (N:=some 24) (v:=undef) (a':=?_) (m_ 15 9) rfl rfl (any_of HT_.out (by kernel_rfl)) (fun _ _ _ h=>h) (Or.inr ⟨by rfl,rfl⟩) ?_ ?_;rotate_left
       ·simp only [Act.put,s1_,s2_,s3_,i64_w,i32_w];rfl
       refine pure_ (i:=15) (N:=some 25) (v:=undef) (a':=?_) (m_ 16 8) rfl rfl (any_of HT_.out (by kernel_rfl)) (fun _ _ _ h=>h) (Or.inr ⟨by rfl,rfl⟩) ?_ ?_;rotate_left
       ·simp only [Act.put,s1_,s2_,s3_,i64_w,i32_w];rfl
       refine pure_ (i:=16) (N:=some 26) (v:=undef) (a':=?_) (m_ 17 7) rfl rfl (any_of HT_.out (by kernel_rfl)) (fun _ _ _ h=>h) (Or.inr ⟨by rfl,rfl⟩) ?_ ?_;rotate_left
       ·simp only [Act.put,s1_,s2_,s3_,i64_w,i32_w];rfl
       refine pure_ (i:=17) (N:=some 27) (v:=undef) (a':=?_) (m_ 18 6) rfl rfl (any_of HT_.out (by kernel_rfl)) (fun _ _ _ h=>h) (Or.inr ⟨by rfl,rfl⟩) ?_ ?_;rotate_left
       ·simp only [Act.put,s1_,s2_,s3_,i64_w,i32_w];rfl
       refine pure_ (i:=18) (N:=some 28) (v:=undef) (a':=?_) (m_ 19 5) rfl rfl (any_of HT_.out (by kernel_rfl)) (fun _ _ _ h=>h) (Or.inr ⟨by rfl,rfl⟩) ?_ ?_;rotate_left
       ·simp only [Act.put,s1_,s2_,s3_,i64_w,i32_w];rfl
       refine pure_ (i:=19) (N:=some 29) (v:=undef) (a':=?_) (m_ 20 4) rfl rfl (any_of HT_.out (by kernel_rfl)) (fun _ _ _ h=>h) (Or.inr ⟨by rfl,rfl⟩) ?_ ?_;rotate_left
       ·simp only [Act.put,s1_,s2_,s3_,i64_w,i32_w];rfl
       refine pure_ (i:=20) (N:=some 30) (v:=undef) (a':=?_) (m_ 21 3) rfl rfl (any_of HT_.out (by kernel_rfl)) (fun _ _ _ h=>h) (Or.inr ⟨by rfl,rfl⟩) ?_ ?_;rotate_left
       ·simp only [Act.put,s1_,s2_,s3_,i64_w,i32_w];rfl
       refine pure_ (i:=21) (N:=some 31) (v:=undef) (a':=?_) (m_ 22 2) rfl rfl (any_of HT_.out (by kernel_rfl)) (fun _ _ _ h=>h) (Or.inr ⟨by rfl,rfl⟩) ?_ ?_;rotate_left
       ·simp only [Act.put,s1_,s2_,s3_,i64_w,i32_w];rfl
       refine pure_ (i:=22) (N:=some 32) (v:=?_) (a':=?_) (m_ 23 1) rfl rfl (any_of HT_.out (by kernel_rfl)) (fun _ _ _ h=>h) (Or.inl ⟨by rfl,?_⟩) ?_ ?_;rotate_left
       ·intro w';go_simp
        with_reducible rfl
       rotate_left
       ·simp only [Act.put,s1_,s2_,s3_,i64_w,i32_w];rfl
       refine pure_ (i:=23) (N:=some 33) (v:=?_) (a':=?_) (m_ 24 0) rfl rfl (any_of HT_.out (by kernel_rfl)) (fun _ _ _ h=>h) (Or.inl ⟨by rfl,?_⟩) ?_ ?_;rotate_left
       ·intro w';go_simp
        with_reducible rfl
       rotate_left
       ·simp only [Act.put,s1_,s2_,s3_,i64_w,i32_w];rfl
       refine done_ (done_of HT_.out (by kernel_rfl)) ?_
       try go_wp2
       go_roundg k1
       case measure=>have:=HK1.out;omega
       case rel=>exact ⟨(wrap64 (x3_1 + 1)),(by rfl),H',⟨by have:=HK1.out;omega⟩,⟨by exact HB.out⟩⟩
     ·replace c5:=Bool.eq_false_iff.mpr c5;subst c5;have H1:(some false)=some r:=by rw [if_neg (show ¬ (false=true) by decide)] at H;exact H
      clear H;have H:=H1;clear H1;obtain rfl:=Option.some.inj H
      try go_wp2
      have n0_:=a_ (below_drew1 HB.out);clear HB;have HB:=n0_;clear n0_;have p166:0 ≤ (x3_1:Int):=of_decide_eq_true (by (with_reducible assumption));have q166:x3_1 < (l0.length:Int):=of_decide_eq_true (by (with_reducible assumption));obtain ⟨ad166,e166,hx166_0,hx166_1,hx166_2,hx166_3,hx166_4⟩:=at_T58 HR0.out x3_1 p166 q166;have hw166_4:=hx166_4;have hw166_3:=hx166_3;have hw166_2:=hx166_2;have hw166_1:=hx166_1
      have hw166_0:=hx166_0;cases e166;replace hx166_0:=bc_ HB hx166_0;replace hx166_1:=bc_ HB hx166_1;replace hx166_2:=bc_ HB hx166_2;replace hx166_3:=bc_ HB hx166_3;replace hx166_4:=bc_ HB hx166_4;replace p166:=eq_true p166;replace q166:=eq_true q166;refine start_ (n:=24) (S:=fun w'=>w'.cell? (ad166.add ((x3_1).toNat * 5))=some (.string ((rd_T58 l0 x3_1).f0)) ∧ w'.cell? ⟨(ad166.add ((x3_1).toNat * 5)).block,(ad166.add ((x3_1).toNat * 5)).off + 1,none⟩=some (.int .i64 ((rd_T58 l0 x3_1).f1.f0)) ∧ w'.cell? ⟨(ad166.add ((x3_1).toNat * 5)).block,(ad166.add ((x3_1).toNat * 5)).off + 2,none⟩=some (.int .i64 ((rd_T58 l0 x3_1).f1.f1)) ∧ w'.cell? ⟨(ad166.add ((x3_1).toNat * 5)).block,(ad166.add ((x3_1).toNat * 5)).off + 3,none⟩=some (.int .i64 ((rd_T58 l0 x3_1).f1.f2)) ∧ w'.cell? ⟨(ad166.add ((x3_1).toNat * 5)).block,(ad166.add ((x3_1).toNat * 5)).off + 4,none⟩=some (.string ((rd_T58 l0 x3_1).f1.f3))) (ds:=[]) (m_ 0 24) (by kernel_rfl) rfl rfl ⟨(bc_ HB hw166_0),(bc_ HB hw166_1),(bc_ HB hw166_2),(bc_ HB hw166_3),(bc_ HB hw166_4)⟩ (fun hHeld=>?_);refine with_tabW spec_l5Rising.tab4 spec_l5Rising.bits4 (fun HT_ HW_=>?_)
      generalize wr.drew=w17 at HB hx166_0 hx166_1 hx166_2 hx166_3 hx166_4 hHeld ⊢
      refine pure_ (i:=0) (N:=some 10) (v:=?_) (a':=?_) (m_ 1 23) rfl rfl (any_of HT_.out (by kernel_rfl)) (fun _ _ _ h=>h) (Or.inl ⟨by rfl,?_⟩) ?_ ?_;rotate_left
      ·intro w';go_simp
       with_reducible rfl
      rotate_left
      ·simp only [Act.put,s1_,s2_,s3_,i64_w,i32_w];rfl
      refine pure_ (i:=1) (N:=some 11) (v:=?_) (a':=?_) (m_ 2 22) rfl rfl (any_of HT_.out (by kernel_rfl)) (fun _ _ _ h=>h) (Or.inl ⟨by rfl,?_⟩) ?_ ?_;rotate_left
      ·intro w';go_simp
       with_reducible rfl
      rotate_left
      ·simp only [Act.put,s1_,s2_,s3_,i64_w,i32_w];rfl
      refine pure_ (i:=2) (N:=some 12) (v:=?_) (a':=?_) (m_ 3 21) rfl rfl (any_of HT_.out (by kernel_rfl)) (fun _ _ _ h=>h) (Or.inl ⟨by rfl,?_⟩) ?_ ?_;rotate_left
      ·intro w';go_simp
       with_reducible rfl
      rotate_left
      ·simp only [Act.put,s1_,s2_,s3_,i64_w,i32_w];rfl
      refine take_ (i:=3) (N:=some 13) (v:=?_) (a':=?_) (m_ 4 20) rfl rfl (take_ofW HT_.out HW_.out (by kernel_rfl)) (fun _ _ _ h=>h) (Or.inl ⟨by rfl,?_⟩) hHeld ?_ ?_;rotate_left
      ·rintro w' ⟨s0,s1,s2,s3,s4⟩;go_simp
       with_reducible rfl
      rotate_left
      ·simp only [Act.put,s1_,s2_,s3_,i64_w,i32_w];rfl
      refine one_ (i:=4) (N:=some 14) (m_ 5 19) rfl rfl (one_of HT_.out (by kernel_rfl)) (by decide) (fun K hK=>?_);refine goes_ Tryz.func120 (by kernel_rfl) rfl #[.agg #[.string ((rd_T58 l0 x3_1).f0),.int .i64 ((rd_T58 l0 x3_1).f1.f0),.int .i64 ((rd_T58 l0 x3_1).f1.f1),.int .i64 ((rd_T58 l0 x3_1).f1.f2),.string ((rd_T58 l0 x3_1).f1.f3)]] (by rfl) rfl rfl (by (try simp only [List.map_toArray,List.map_cons,List.map_nil]);rfl) ?_
      with_reducible refine (spec_NeedOk.calls k1 ((rd_T58 l0 x3_1).f0) ((rd_T58 l0 x3_1).f1.f0) ((rd_T58 l0 x3_1).f1.f1) ((rd_T58 l0 x3_1).f1.f2) ((rd_T58 l0 x3_1).f1.f3) false _ A4.out).mono ?_
      rintro e w18 ⟨rfl,hb⟩;refine ⟨_,rfl,?_⟩;have n0_:=a_ (below_step HB.out hb);clear HB;have HB:=n0_;clear n0_
      (try clear hb)
      (skip)
      (skip)
      (skip)
      refine hK.out _ _ ⟨(bc_ HB hw166_0),(bc_ HB hw166_1),(bc_ HB hw166_2),(bc_ HB hw166_3),(bc_ HB hw166_4)⟩ (fun hHeld=>?_);clear hK K;refine norm_ (a':=?_) ?_ ?_;rotate_left
      ·show Act.put _ (some 14) _=_;simp only [Act.put,s1_,s2_,s3_,i64_w,i32_w];rfl
      refine pure_ (i:=5) (N:=some 15) (v:=?_) (a':=?_) (m_ 6 18) rfl rfl (any_of HT_.out (by kernel_rfl)) (fun _ _ _ h=>h) (Or.inl ⟨by rfl,?_⟩) ?_ ?_;rotate_left
      ·intro w';go_simp
       with_reducible rfl
      rotate_left
      ·simp only [Act.put,s1_,s2_,s3_,i64_w,i32_w];rfl
      refine pure_ (i:=6) (N:=some 16) (v:=?_) (a':=?_) (m_ 7 17) rfl rfl (any_of HT_.out (by kernel_rfl)) (fun _ _ _ h=>h) (Or.inl ⟨by rfl,?_⟩) ?_ ?_;rotate_left
      ·intro w';go_simp
       with_reducible rfl
      rotate_left
      ·simp only [Act.put,s1_,s2_,s3_,i64_w,i32_w];rfl
      refine pure_ (i:=7) (N:=some 17) (v:=undef) (a':=?_) (m_ 8 16) rfl rfl (any_of HT_.out (by kernel_rfl)) (fun _ _ _ h=>h) (Or.inr ⟨by rfl,rfl⟩) ?_ ?_;rotate_left
      ·simp only [Act.put,s1_,s2_,s3_,i64_w,i32_w];rfl
      refine pure_ (i:=8) (N:=some 18) (v:=undef) (a':=?_) (m_ 9 15) rfl rfl (any_of HT_.out (by kernel_rfl)) (fun _ _ _ h=>h) (Or.inr ⟨by rfl,rfl⟩) ?_ ?_;rotate_left
      ·simp only [Act.put,s1_,s2_,s3_,i64_w,i32_w];rfl
      refine pure_ (i:=9) (N:=some 19) (v:=undef) (a':=?_) (m_ 10 14) rfl rfl (any_of HT_.out (by kernel_rfl)) (fun _ _ _ h=>h) (Or.inr ⟨by rfl,rfl⟩) ?_ ?_;rotate_left
      ·simp only [Act.put,s1_,s2_,s3_,i64_w,i32_w];rfl
      refine pure_ (i:=10) (N:=some 20) (v:=undef) (a':=?_) (m_ 11 13) rfl rfl (any_of HT_.out (by kernel_rfl)) (fun _ _ _ h=>h) (Or.inr ⟨by rfl,rfl⟩) ?_ ?_;rotate_left
      ·simp only [Act.put,s1_,s2_,s3_,i64_w,i32_w];rfl
      refine pure_ (i:=11) (N:=some 21) (v:=undef) (a':=?_) (m_ 12 12) rfl rfl (any_of HT_.out (by kernel_rfl)) (fun _ _ _ h=>h) (Or.inr ⟨by rfl,rfl⟩) ?_ ?_;rotate_left
      ·simp only [Act.put,s1_,s2_,s3_,i64_w,i32_w];rfl
      refine pure_ (i:=12) (N:=some 22) (v:=undef) (a':=?_) (m_ 13 11) rfl rfl (any_of HT_.out (by kernel_rfl)) (fun _ _ _ h=>h) (Or.inr ⟨by rfl,rfl⟩) ?_ ?_;rotate_left
      ·simp only [Act.put,s1_,s2_,s3_,i64_w,i32_w];rfl
      refine pure_ (i:=13) (N:=some 23) (v:=undef) (a':=?_) (m_ 14 10) rfl rfl (any_of HT_.out (by kernel_rfl)) (fun _ _ _ h=>h) (Or.inr ⟨by rfl,rfl⟩) ?_ ?_;rotate_left
      ·simp only [Act.put,s1_,s2_,s3_,i64_w,i32_w];rfl
      refine pure_ (i:=14) (N:=some 24) (v:=undef) (a':=?_) (m_ 15 9) rfl rfl (any_of HT_.out (by kernel_rfl)) (fun _ _ _ h=>h) (Or.inr ⟨by rfl,rfl⟩) ?_ ?_;rotate_left
      ·simp only [Act.put,s1_,s2_,s3_,i64_w,i32_w];rfl
      refine pure_ (i:=15) (N:=some 25) (v:=undef) (a':=?_) (m_ 16 8) rfl rfl (any_of HT_.out (by kernel_rfl)) (fun _ _ _ h=>h) (Or.inr ⟨by rfl,rfl⟩) ?_ ?_;rotate_left
      ·simp only [Act.put,s1_,s2_,s3_,i64_w,i32_w];rfl
      refine pure_ (i:=16) (N:=some 26) (v:=undef) (a':=?_) (m_ 17 7) rfl rfl (any_of HT_.out (by kernel_rfl)) (fun _ _ _ h=>h) (Or.inr ⟨by rfl,rfl⟩) ?_ ?_;rotate_left
      ·simp only [Act.put,s1_,s2_,s3_,i64_w,i32_w];rfl
      refine pure_ (i:=17) (N:=some 27) (v:=undef) (a':=?_) (m_ 18 6) rfl rfl (any_of HT_.out (by kernel_rfl)) (fun _ _ _ h=>h) (Or.inr ⟨by rfl,rfl⟩) ?_ ?_;rotate_left
      ·simp only [Act.put,s1_,s2_,s3_,i64_w,i32_w];rfl
      refine pure_ (i:=18) (N:=some 28) (v:=undef) (a':=?_) (m_ 19 5) rfl rfl (any_of HT_.out (by kernel_rfl)) (fun _ _ _ h=>h) (Or.inr ⟨by rfl,rfl⟩) ?_ ?_;rotate_left
      ·simp only [Act.put,s1_,s2_,s3_,i64_w,i32_w];rfl
      refine pure_ (i:=19) (N:=some 29) (v:=undef) (a':=?_) (m_ 20 4) rfl rfl (any_of HT_.out (by kernel_rfl)) (fun _ _ _ h=>h) (Or.inr ⟨by rfl,rfl⟩) ?_ ?_;rotate_left
      ·simp only [Act.put,s1_,s2_,s3_,i64_w,i32_w];rfl
      refine pure_ (i:=20) (N:=some 30) (v:=undef) (a':=?_) (m_ 21 3) rfl rfl (any_of HT_.out (by kernel_rfl)) (fun _ _ _ h=>h) (Or.inr ⟨by rfl,rfl⟩) ?_ ?_;rotate_left
      ·simp only [Act.put,s1_,s2_,s3_,i64_w,i32_w];rfl
      refine pure_ (i:=21) (N:=some 31) (v:=undef) (a':=?_) (m_ 22 2) rfl rfl (any_of HT_.out (by kernel_rfl)) (fun _ _ _ h=>h) (Or.inr ⟨by rfl,rfl⟩) ?_ ?_;rotate_left
      ·simp only [Act.put,s1_,s2_,s3_,i64_w,i32_w];rfl
      refine pure_ (i:=22) (N:=some 32) (v:=undef) (a':=?_) (m_ 23 1) rfl rfl (any_of HT_.out (by kernel_rfl)) (fun _ _ _ h=>h) (Or.inr ⟨by rfl,rfl⟩) ?_ ?_;rotate_left
      ·simp only [Act.put,s1_,s2_,s3_,i64_w,i32_w];rfl
      refine pure_ (i:=23) (N:=some 33) (v:=?_) (a':=?_) (m_ 24 0) rfl rfl (any_of HT_.out (by kernel_rfl)) (fun _ _ _ h=>h) (Or.inl ⟨by rfl,?_⟩) ?_ ?_;rotate_left
      ·intro w';go_simp
       with_reducible rfl
      rotate_left
      ·simp only [Act.put,s1_,s2_,s3_,i64_w,i32_w];rfl
      refine done_ (done_of HT_.out (by kernel_rfl)) ?_
      try go_wp2
      go_ret
      exact ⟨by rfl,by exact HB.out⟩
    ·rw [if_neg c3] at H;exact absurd H (by simp)
   ·rw [if_neg c2] at H;have c2b0:decide (x3_1 < (l0.length:Int))=false:=decide_eq_false c2;clear c2;obtain rfl:=Option.some.inj H
    go_wp2
    go_ret
    exact ⟨by rfl,by exact HB.out⟩
end Go.Proofs.YtfpdikledfhcaaaGreatDoor.PFnExactClientOk
