import Derived.Test.YtfpdikledfhcaaaGreatDoorCCaPFnExactClientOkx0
import Derived.Test.YtfpdikledfhcaaaGreatDoorCCaPFnExactClientOkx14
namespace Go.Proofs.YtfpdikledfhcaaaGreatDoor.PFnExactClientOk
open Go.RowKit Go.Proofs.YtfpdikledfhcaaaGreatDoorW.PrintWords Go.Proofs.YtfpdikledfhcaaaGreatDoorW.PrintLast Go.Proofs.YtfpdikledfhcaaaGreatDoorW.PrintMore
attribute [local go_sem] max2_int min2_int max_two min_two max_three min_three max_four min_four
set_option linter.unusedVariables false
set_option linter.unusedSimpArgs false
def laws_eqNeedS.l0:Nat → List (S58) → List (S58) → Int → Option (Bool)
 | 0,_,_,_=>none
 | k + 1,x0,x1,x5=>if x5 < (x0.length:Int) then (if 0 ≤ x5 then (if x5 < (x1.length:Int) then ((laws_eqNeed.f ((rd_T58 x0 x5).f0) ((rd_T58 x0 x5).f1.f0) ((rd_T58 x0 x5).f1.f1) ((rd_T58 x0 x5).f1.f2) ((rd_T58 x0 x5).f1.f3) ((rd_T58 x1 x5).f0) ((rd_T58 x1 x5).f1.f0) ((rd_T58 x1 x5).f1.f1) ((rd_T58 x1 x5).f1.f2) ((rd_T58 x1 x5).f1.f3)).bind fun t311=>(if t311=true then (laws_eqNeedS.l0 k x0 x1 (wrap64 (x5 + 1))) else (some false))) else (none)) else (none)) else (some true)
def laws_eqNeedS.f (k:Nat) (l0:List (S58)) (l1:List (S58)):Option (Bool):=if (l0.length:Int)=(l1.length:Int) then (laws_eqNeedS.l0 k l0 l1 0) else (some false)
theorem laws_eqNeedS.mono_l : ∀ k,(∀ y0 y1 y2,LeO (laws_eqNeedS.l0 k y0 y1 y2) (laws_eqNeedS.l0 (k + 1) y0 y1 y2))
 | 0=>fun _ _ _ r h=>by simp [laws_eqNeedS.l0] at h
 | k + 1=>by
  have ih0:=laws_eqNeedS.mono_l k
  ·intro y0 y1 y2;unfold laws_eqNeedS.l0
   repeat' first
   | (with_reducible exact ih0 _ _ _)
   | (with_reducible exact LeO.refl _)
   | (with_reducible refine LeO.ite ?_ ?_)
   | (with_reducible refine LeO.bind ?_ (fun _=>?_))
theorem laws_eqNeedS.mono : ∀ a0 a1 k,LeO (laws_eqNeedS.f k a0 a1) (laws_eqNeedS.f (k + 1) a0 a1):=by
 intro a0 a1 k;have ih0:=laws_eqNeedS.mono_l k;unfold laws_eqNeedS.f
 repeat' first
  | (with_reducible exact ih0 _ _ _)
  | (with_reducible exact LeO.refl _)
  | (with_reducible refine LeO.ite ?_ ?_)
def laws_eqNeedS.T6:Bool × List (List Nat × List Nat):=(true,[([],[]),([],[]),([0,1],[0,1]),([2],[2]),([],[]),([],[]),([4,5],[4,5]),([6],[6]),([3,7],[3,7]),([8],[8])])
def laws_eqNeedS.B6:List Nat:=[0,0,3,7,0,0,48,112,255,511]
theorem laws_eqNeedS.tab6:rtab .any (opsOf Tryz.f18 6)=laws_eqNeedS.T6:=by kernel_rfl
theorem laws_eqNeedS.bits6:waitsOk laws_eqNeedS.T6.2 laws_eqNeedS.B6=true:=by kernel_rfl
set_option maxHeartbeats 8000000 in
set_option maxRecDepth 100000 in
theorem laws_eqNeedS.calls (k:Nat) (A0:Option Addr) (c0:Nat) (l0:List (S58)) (A1:Option Addr) (c1:Nat) (l1:List (S58)) (r:Bool) (w:World) (hr0:Kd.C k58 w A0 l0.length l0) (hc0:l0.length ≤ c0) (hr1:Kd.C k58 w A1 l1.length l1) (hc1:l1.length ≤ c1) (h:laws_eqNeedS.f k l0 l1=some r) (hr_:r=true:=by rfl) :
 Calls Tryz.prog 18 #[.slice A0 l0.length c0,.slice A1 l1.length c1] w fun e w'=>e = .returned (.bool r) ∧ Below w.heap.size w w':=by
 have hu58:=Tryz.underlying58;have HR0:=a_ hr0;have HC0:=a_ hc0;clear hr0 hc0;have HR1:=a_ hr1;have HC1:=a_ hc1;clear hr1 hc1;have HB:=a_ (Below.refl w.heap.size w);have H:(if (l0.length:Int)=(l1.length:Int) then (laws_eqNeedS.l0 k l0 l1 0) else (some false))=some r:=h;clear h
 by_cases c3:(l0.length:Int)=(l1.length:Int)
 ·rw [if_pos c3] at H;have c3b0:((l0.length:Int) == (l1.length:Int))=true:=beq_iff_eq.mpr c3;have c3b1:((l0.length:Int) != (l1.length:Int))=false:=bne_eq_false_iff_eq.mpr c3;have c3b2:(l0.length == l1.length)=true:=by (simp at c3 ⊢;omega)
  clear c3;have H':=a_ H;clear H
  go_enter Tryz.func18,Tryz.ntmps18
  go_wp2
  go_loopg [5] k (fun kq v5 w'=>∃ (x5_1:Int),v5 = .int .i64 x5_1 ∧ Aside0 (laws_eqNeedS.l0 kq l0 l1 x5_1=some r) ∧ Aside0 (kq ≤ k) ∧ Aside0 (Below w.heap.size w w'))
  case atStart=>exact ⟨(0),(by rfl),H',⟨Nat.le_refl _⟩,⟨by exact HB.out⟩⟩
  case round=>
   clear H'
   try clear c3b0
   try clear c3b1
   try clear c3b2
   obtain ⟨x5_1,rfl,HA,HK1,HB⟩:=hrel
   cases gk with
   | zero=>exact absurd HA.out (by simp [laws_eqNeedS.l0])
   | succ k1=>
    have H:=HA.out;clear HA;simp only [laws_eqNeedS.l0] at H
    by_cases c4:x5_1 < (l0.length:Int)
    ·rw [if_pos c4] at H;have c4b0:decide (x5_1 < (l0.length:Int))=true:=decide_eq_true c4;clear c4
     by_cases c5:0 ≤ x5_1
     ·rw [if_pos c5] at H;have c5b0:decide (0 ≤ x5_1)=true:=decide_eq_true c5;clear c5
      by_cases c6:x5_1 < (l1.length:Int)
      ·rw [if_pos c6] at H;have c6b0:decide (x5_1 < (l1.length:Int))=true:=decide_eq_true c6;clear c6;replace H:=Option.bind_eq_some_iff.mp H;obtain ⟨t311,A70,H⟩:=H;replace H:(if t311=true then (laws_eqNeedS.l0 k1 l0 l1 (wrap64 (x5_1 + 1))) else (some false))=some r:=H;have A7:=a_ A70;clear A70
       by_cases c8:t311=true
       ·subst c8;have H1:(laws_eqNeedS.l0 k1 l0 l1 (wrap64 (x5_1 + 1)))=some r:=by rw [if_pos rfl] at H;exact H
        clear H;have H:=H1;clear H1;have H':=a_ H;clear H
        try go_wp2
        have n0_:=a_ (below_drew1 HB.out);clear HB;have HB:=n0_;clear n0_;have p309:0 ≤ (x5_1:Int):=of_decide_eq_true (by (with_reducible assumption));have q309:x5_1 < (l0.length:Int):=of_decide_eq_true (by (with_reducible assumption));obtain ⟨ad309,e309,hx309_0,hx309_1,hx309_2,hx309_3,hx309_4⟩:=at_T58 HR0.out x5_1 p309 q309;have hw309_4:=hx309_4;have hw309_3:=hx309_3;have hw309_2:=hx309_2;have hw309_1:=hx309_1
        have hw309_0:=hx309_0;cases e309;replace hx309_0:=bc_ HB hx309_0;replace hx309_1:=bc_ HB hx309_1;replace hx309_2:=bc_ HB hx309_2;replace hx309_3:=bc_ HB hx309_3;replace hx309_4:=bc_ HB hx309_4;replace p309:=eq_true p309;replace q309:=eq_true q309;have p310:0 ≤ (x5_1:Int):=of_decide_eq_true (by (with_reducible assumption));have q310:x5_1 < (l1.length:Int):=of_decide_eq_true (by (with_reducible assumption))
        obtain ⟨ad310,e310,hx310_0,hx310_1,hx310_2,hx310_3,hx310_4⟩:=at_T58 HR1.out x5_1 p310 q310;have hw310_4:=hx310_4;have hw310_3:=hx310_3;have hw310_2:=hx310_2;have hw310_1:=hx310_1;have hw310_0:=hx310_0;cases e310;replace hx310_0:=bc_ HB hx310_0;replace hx310_1:=bc_ HB hx310_1;replace hx310_2:=bc_ HB hx310_2;replace hx310_3:=bc_ HB hx310_3;replace hx310_4:=bc_ HB hx310_4;replace p310:=eq_true p310
        replace q310:=eq_true q310;refine start_ (n:=10) (S:=fun w'=>w'.cell? (ad309.add ((x5_1).toNat * 5))=some (.string ((rd_T58 l0 x5_1).f0)) ∧ w'.cell? ⟨(ad309.add ((x5_1).toNat * 5)).block,(ad309.add ((x5_1).toNat * 5)).off + 1,none⟩=some (.int .i64 ((rd_T58 l0 x5_1).f1.f0)) ∧ w'.cell? ⟨(ad309.add ((x5_1).toNat * 5)).block,(ad309.add ((x5_1).toNat * 5)).off + 2,none⟩=some (.int .i64 ((rd_T58 l0 x5_1).f1.f1)) ∧ w'.cell? ⟨(ad309.add ((x5_1).toNat * 5)).block,(ad309.add ((x5_1).toNat * 5)).off + 3,none⟩=some (.int .i64 ((rd_T58 l0 x5_1).f1.f2)) ∧ w'.cell? ⟨(ad309.add ((x5_1).toNat * 5)).block,(ad309.add ((x5_1).toNat * 5)).off + 4,none⟩=some (.string ((rd_T58 l0 x5_1).f1.f3)) ∧ w'.cell? (ad310.add ((x5_1).toNat * 5))=some (.string ((rd_T58 l1 x5_1).f0)) ∧ w'.cell? ⟨(ad310.add ((x5_1).toNat * 5)).block,(ad310.add ((x5_1).toNat * 5)).off + 1,none⟩=some (.int .i64 ((rd_T58 l1 x5_1).f1.f0)) ∧ w'.cell? ⟨(ad310.add ((x5_1).toNat * 5)).block,(ad310.add ((x5_1).toNat * 5)).off + 2,none⟩=some (.int .i64 ((rd_T58 l1 x5_1).f1.f1)) ∧ w'.cell? ⟨(ad310.add ((x5_1).toNat * 5)).block,(ad310.add ((x5_1).toNat * 5)).off + 3,none⟩=some (.int .i64 ((rd_T58 l1 x5_1).f1.f2)) ∧ w'.cell? ⟨(ad310.add ((x5_1).toNat * 5)).block,(ad310.add ((x5_1).toNat * 5)).off + 4,none⟩=some (.string ((rd_T58 l1 x5_1).f1.f3))) (ds:=[]) (m_ 0 10) (by kernel_rfl) rfl rfl ⟨(bc_ HB hw309_0),(bc_ HB hw309_1),(bc_ HB hw309_2),(bc_ HB hw309_3),(bc_ HB hw309_4),(bc_ HB hw310_0),(bc_ HB hw310_1),(bc_ HB hw310_2),(bc_ HB hw310_3),(bc_ HB hw310_4)⟩ (fun hHeld=>?_);refine with_tabW laws_eqNeedS.tab6 laws_eqNeedS.bits6 (fun HT_ HW_=>?_)
        generalize wr.drew=w9 at HB hx309_0 hx309_1 hx309_2 hx309_3 hx309_4 hx310_0 hx310_1 hx310_2 hx310_3 hx310_4 hHeld ⊢
        refine pure_ (i:=0) (N:=some 17) (v:=?_) (a':=?_) (m_ 1 9) rfl rfl (any_of HT_.out (by kernel_rfl)) (fun _ _ _ h=>h) (Or.inl ⟨by rfl,?_⟩) ?_ ?_;rotate_left
        ·intro w';go_simp
         with_reducible rfl
        rotate_left
        ·simp only [Act.put,s1_,s2_,s3_,i64_w,i32_w];rfl
        refine pure_ (i:=1) (N:=some 18) (v:=?_) (a':=?_) (m_ 2 8) rfl rfl (any_of HT_.out (by kernel_rfl)) (fun _ _ _ h=>h) (Or.inl ⟨by rfl,?_⟩) ?_ ?_;rotate_left
        ·intro w';go_simp
         with_reducible rfl
        rotate_left
        ·simp only [Act.put,s1_,s2_,s3_,i64_w,i32_w];rfl
        refine pure_ (i:=2) (N:=some 19) (v:=?_) (a':=?_) (m_ 3 7) rfl rfl (any_of HT_.out (by kernel_rfl)) (fun _ _ _ h=>h) (Or.inl ⟨by rfl,?_⟩) ?_ ?_;rotate_left
        ·intro w';go_simp
         with_reducible rfl
        rotate_left
        ·simp only [Act.put,s1_,s2_,s3_,i64_w,i32_w];rfl
        refine pure_ (i:=4) (N:=some 21) (v:=?_) (a':=?_) #[true,true,true,false,true,false,false,false,false,false] rfl rfl (any_of HT_.out (by kernel_rfl)) (fun _ _ _ h=>h) (Or.inl ⟨by rfl,?_⟩) ?_ ?_;rotate_left
        ·intro w';go_simp
         with_reducible rfl
        rotate_left
        ·simp only [Act.put,s1_,s2_,s3_,i64_w,i32_w];rfl
        refine pure_ (i:=5) (N:=some 22) (v:=?_) (a':=?_) #[true,true,true,false,true,true,false,false,false,false] rfl rfl (any_of HT_.out (by kernel_rfl)) (fun _ _ _ h=>h) (Or.inl ⟨by rfl,?_⟩) ?_ ?_;rotate_left
        ·intro w';go_simp
         with_reducible rfl
        rotate_left
        ·simp only [Act.put,s1_,s2_,s3_,i64_w,i32_w];rfl
        refine pure_ (i:=6) (N:=some 23) (v:=?_) (a':=?_) #[true,true,true,false,true,true,true,false,false,false] rfl rfl (any_of HT_.out (by kernel_rfl)) (fun _ _ _ h=>h) (Or.inl ⟨by rfl,?_⟩) ?_ ?_;rotate_left
        ·intro w';go_simp
         with_reducible rfl
        rotate_left
        ·simp only [Act.put,s1_,s2_,s3_,i64_w,i32_w];rfl
        refine take_ (i:=3) (N:=some 20) (v:=?_) (a':=?_) (m_ 7 3) rfl rfl (take_ofW HT_.out HW_.out (by kernel_rfl)) (fun _ _ _ h=>h) (Or.inl ⟨by rfl,?_⟩) hHeld ?_ ?_;rotate_left
        ·rintro w' ⟨s0,s1,s2,s3,s4,s5,s6,s7,s8,s9⟩;go_simp
         with_reducible rfl
        rotate_left
        ·simp only [Act.put,s1_,s2_,s3_,i64_w,i32_w];rfl
        refine take_ (i:=7) (N:=some 24) (v:=?_) (a':=?_) (m_ 8 2) rfl rfl (take_ofW HT_.out HW_.out (by kernel_rfl)) (fun _ _ _ h=>h) (Or.inl ⟨by rfl,?_⟩) hHeld ?_ ?_;rotate_left
        ·rintro w' ⟨s0,s1,s2,s3,s4,s5,s6,s7,s8,s9⟩;go_simp
         with_reducible rfl
        rotate_left
        ·simp only [Act.put,s1_,s2_,s3_,i64_w,i32_w];rfl
        refine one_ (i:=8) (N:=some 25) (m_ 9 1) rfl rfl (one_of HT_.out (by kernel_rfl)) (by decide) (fun K hK=>?_);refine goes_ Tryz.func72 (by kernel_rfl) rfl #[.agg #[.string ((rd_T58 l0 x5_1).f0),.int .i64 ((rd_T58 l0 x5_1).f1.f0),.int .i64 ((rd_T58 l0 x5_1).f1.f1),.int .i64 ((rd_T58 l0 x5_1).f1.f2),.string ((rd_T58 l0 x5_1).f1.f3)],.agg #[.string ((rd_T58 l1 x5_1).f0),.int .i64 ((rd_T58 l1 x5_1).f1.f0),.int .i64 ((rd_T58 l1 x5_1).f1.f1),.int .i64 ((rd_T58 l1 x5_1).f1.f2),.string ((rd_T58 l1 x5_1).f1.f3)]] (by rfl) rfl rfl (by (try simp only [List.map_toArray,List.map_cons,List.map_nil]);rfl) ?_
        with_reducible refine (laws_eqNeed.calls ((rd_T58 l0 x5_1).f0) ((rd_T58 l0 x5_1).f1.f0) ((rd_T58 l0 x5_1).f1.f1) ((rd_T58 l0 x5_1).f1.f2) ((rd_T58 l0 x5_1).f1.f3) ((rd_T58 l1 x5_1).f0) ((rd_T58 l1 x5_1).f1.f0) ((rd_T58 l1 x5_1).f1.f1) ((rd_T58 l1 x5_1).f1.f2) ((rd_T58 l1 x5_1).f1.f3) true _ A7.out).mono ?_
        rintro e w10 ⟨rfl,hb⟩;refine ⟨_,rfl,?_⟩;have n0_:=a_ (below_step HB.out hb);clear HB;have HB:=n0_;clear n0_
        (try clear hb)
        (skip)
        (skip)
        (skip)
        refine hK.out _ _ ⟨(bc_ HB hw309_0),(bc_ HB hw309_1),(bc_ HB hw309_2),(bc_ HB hw309_3),(bc_ HB hw309_4),(bc_ HB hw310_0),(bc_ HB hw310_1),(bc_ HB hw310_2),(bc_ HB hw310_3),(bc_ HB hw310_4)⟩ (fun hHeld=>?_);clear hK K;refine norm_ (a':=?_) ?_ ?_;rotate_left
        ·show Act.put _ (some 25) _=_;simp only [Act.put,s1_,s2_,s3_,i64_w,i32_w];rfl
        refine pure_ (i:=9) (N:=some 26) (v:=?_) (a':=?_) (m_ 10 0) rfl rfl (any_of HT_.out (by kernel_rfl)) (fun _ _ _ h=>h) (Or.inl ⟨by rfl,?_⟩) ?_ ?_;rotate_left
        ·intro w';go_simp
         with_reducible rfl
        rotate_left
        ·simp only [Act.put,s1_,s2_,s3_,i64_w,i32_w];rfl
        refine done_ (done_of HT_.out (by kernel_rfl)) ?_
        try go_wp2
        go_roundg k1
        case measure=>have:=HK1.out;omega
        case rel=>exact ⟨(wrap64 (x5_1 + 1)),(by rfl),H',⟨by have:=HK1.out;omega⟩,⟨by exact HB.out⟩⟩
       ·replace c8:=Bool.eq_false_iff.mpr c8;subst c8;have H1:(some false)=some r:=by rw [if_neg (show ¬ (false=true) by decide)] at H;exact H
        clear H;have H:=H1;clear H1;cases H;cases hr_
      ·rw [if_neg c6] at H;exact absurd H (by simp)
     ·rw [if_neg c5] at H;exact absurd H (by simp)
    ·rw [if_neg c4] at H;have c4b0:decide (x5_1 < (l0.length:Int))=false:=decide_eq_false c4;clear c4;obtain rfl:=Option.some.inj H
     go_wp2
     go_ret
     exact ⟨by rfl,by exact HB.out⟩
 ·rw [if_neg c3] at H;have c3b0:((l0.length:Int) == (l1.length:Int))=false:=beq_eq_false_iff_ne.mpr c3;have c3b1:((l0.length:Int) != (l1.length:Int))=true:=bne_iff_ne.mpr c3;have c3b2:(l0.length == l1.length)=false:=by (simp at c3 ⊢;omega)
  cases H;cases hr_
def laws_eqEntry.f (k:Nat) (a0_0:ByteArray) (a0_1:Int) (a0_2:Int) (a0_3:Int) (a0_4:ByteArray) (l0_5:List (S58)) (a1_0:ByteArray) (a1_1:Int) (a1_2:Int) (a1_3:Int) (a1_4:ByteArray) (l1_5:List (S58)):Option (Bool):=if a0_0.toList=a1_0.toList then ((laws_eqVersion.f a0_1 a0_2 a0_3 a0_4 a1_1 a1_2 a1_3 a1_4).bind fun t314=>(if t314=true then ((laws_eqNeedS.f k l0_5 l1_5).bind fun t315=>(if t315=true then (some true) else (some false))) else (some false))) else (some false)
theorem laws_eqEntry.mono : ∀ a0 a1 a2 a3 a4 a5 a6 a7 a8 a9 a10 a11 k,LeO (laws_eqEntry.f k a0 a1 a2 a3 a4 a5 a6 a7 a8 a9 a10 a11) (laws_eqEntry.f (k + 1) a0 a1 a2 a3 a4 a5 a6 a7 a8 a9 a10 a11):=by
 intro a0 a1 a2 a3 a4 a5 a6 a7 a8 a9 a10 a11 k;unfold laws_eqEntry.f
 repeat' first
  | (with_reducible exact laws_eqNeedS.mono _ _ _)
  | (with_reducible exact LeO.refl _)
  | (with_reducible refine LeO.ite ?_ ?_)
  | (with_reducible refine LeO.bind ?_ (fun _=>?_))
set_option maxHeartbeats 8000000 in
set_option maxRecDepth 100000 in
theorem laws_eqEntry.calls (k:Nat) (a0_0:ByteArray) (a0_1:Int) (a0_2:Int) (a0_3:Int) (a0_4:ByteArray) (A0_5:Option Addr) (c0_5:Nat) (l0_5:List (S58)) (a1_0:ByteArray) (a1_1:Int) (a1_2:Int) (a1_3:Int) (a1_4:ByteArray) (A1_5:Option Addr) (c1_5:Nat) (l1_5:List (S58)) (r:Bool) (w:World) (hr0_5:Kd.C k58 w A0_5 l0_5.length l0_5) (hc0_5:l0_5.length ≤ c0_5) (hr1_5:Kd.C k58 w A1_5 l1_5.length l1_5) (hc1_5:l1_5.length ≤ c1_5) (h:laws_eqEntry.f k a0_0 a0_1 a0_2 a0_3 a0_4 l0_5 a1_0 a1_1 a1_2 a1_3 a1_4 l1_5=some r) (hr_:r=true:=by rfl) :
 Calls Tryz.prog 94 #[.agg #[.string a0_0,.int .i64 a0_1,.int .i64 a0_2,.int .i64 a0_3,.string a0_4,.slice A0_5 l0_5.length c0_5],.agg #[.string a1_0,.int .i64 a1_1,.int .i64 a1_2,.int .i64 a1_3,.string a1_4,.slice A1_5 l1_5.length c1_5]] w fun e w'=>e = .returned (.bool r) ∧ Below w.heap.size w w':=by
 have hu54:=Tryz.underlying54;have hu52:=Tryz.underlying52;have HR0_5:=a_ hr0_5;have HC0_5:=a_ hc0_5;clear hr0_5 hc0_5;have HR1_5:=a_ hr1_5;have HC1_5:=a_ hc1_5;clear hr1_5 hc1_5;have HB:=a_ (Below.refl w.heap.size w);have H:(if a0_0.toList=a1_0.toList then ((laws_eqVersion.f a0_1 a0_2 a0_3 a0_4 a1_1 a1_2 a1_3 a1_4).bind fun t314=>(if t314=true then ((laws_eqNeedS.f k l0_5 l1_5).bind fun t315=>(if t315=true then (some true) else (some false))) else (some false))) else (some false))=some r:=h
 clear h
 by_cases c3:a0_0.toList=a1_0.toList
 ·rw [if_pos c3] at H;have c3b0:(a0_0.toList == a1_0.toList)=true:=beq_iff_eq.mpr c3;have c3b1:(a0_0.toList != a1_0.toList)=false:=bne_eq_false_iff_eq.mpr c3;clear c3;replace H:=Option.bind_eq_some_iff.mp H;obtain ⟨t314,A40,H⟩:=H;replace H:(if t314=true then ((laws_eqNeedS.f k l0_5 l1_5).bind fun t315=>(if t315=true then (some true) else (some false))) else (some false))=some r:=H;have A4:=a_ A40;clear A40
  by_cases c5:t314=true
  ·subst c5;have H1:((laws_eqNeedS.f k l0_5 l1_5).bind fun t315=>(if t315=true then (some true) else (some false)))=some r:=by rw [if_pos rfl] at H;exact H
   clear H;have H:=H1;clear H1;replace H:=Option.bind_eq_some_iff.mp H;obtain ⟨t315,A60,H⟩:=H;replace H:(if t315=true then (some true) else (some false))=some r:=H;have A6:=a_ A60;clear A60
   by_cases c7:t315=true
   ·subst c7;have H1:(some true)=some r:=by rw [if_pos rfl] at H;exact H
    clear H;have H:=H1;clear H1;obtain rfl:=Option.some.inj H
    go_enter Tryz.func94,Tryz.ntmps94
    go_wp2_with (first | ((with_reducible refine gate_dst (N:=2) rfl ?_);refine box_event ?hg (N:=2) ?hd (cs:=#[.string a0_0,.int .i64 a0_1,.int .i64 a0_2,.int .i64 a0_3,.string a0_4,.slice A0_5 l0_5.length c0_5]) (t:=54) ?hr ?_;(case hd=>rfl);(case hg=>rfl);(case hr=>(go_simp;done));intro gb312 hg w8 hbox hb;have n0_:=a_ (below_step HB.out hb);have n1_:=a_ (hbox);have n2_:=a_ ((by rw [hg];exact (below_size HB.out):w.heap.size ≤ gb312));have n3_:=a_ ((by rw [hg];exact (below_size HB.out):w.heap.size ≤ gb312));clear HB;have HB:=n0_;have BK312:=n1_;have GW312:=n2_;have GE312:=n3_;clear n0_ n1_ n2_ n3_;clear hb hbox hg) | ((with_reducible refine gate_dst (N:=3) rfl ?_);refine box_event ?hg (N:=3) ?hd (cs:=#[.string a1_0,.int .i64 a1_1,.int .i64 a1_2,.int .i64 a1_3,.string a1_4,.slice A1_5 l1_5.length c1_5]) (t:=54) ?hr ?_;(case hd=>rfl);(case hg=>rfl);(case hr=>(go_simp;done));intro gb313 hg w9 hbox hb;have n0_:=a_ (blk_below (g:=gb312) (o:=.cells #[.string a0_0,.int .i64 a0_1,.int .i64 a0_2,.int .i64 a0_3,.string a0_4,.slice A0_5 l0_5.length c0_5] 54 (0,0)) (by exact BK312.out) hb);have n1_:=a_ (below_step HB.out hb);have n2_:=a_ (hbox);have n3_:=a_ ((by rw [hg];exact (below_size HB.out):w.heap.size ≤ gb313));have n4_:=a_ ((by rw [hg];exact (below_size HB.out):w.heap.size ≤ gb313));have n5_:=a_ ((by rw [hg];exact Nat.ne_of_lt (blk_lt (g:=gb312) (o:=.cells #[.string a0_0,.int .i64 a0_1,.int .i64 a0_2,.int .i64 a0_3,.string a0_4,.slice A0_5 l0_5.length c0_5] 54 (0,0)) (by exact BK312.out)):gb312 ≠ gb313));have n6_:=a_ ((by rw [hg];exact Nat.ne_of_gt (blk_lt (g:=gb312) (o:=.cells #[.string a0_0,.int .i64 a0_1,.int .i64 a0_2,.int .i64 a0_3,.string a0_4,.slice A0_5 l0_5.length c0_5] 54 (0,0)) (by exact BK312.out)):gb313 ≠ gb312));clear BK312;clear HB;have BK312:=n0_;have HB:=n1_;have BK313:=n2_;have GW313:=n3_;have GE313:=n4_;have NB312_313:=n5_;have NB313_312:=n6_;clear n0_ n1_ n2_ n3_ n4_ n5_ n6_;clear hb hbox hg;have hnb10:=NB312_313.out;have hnc10:=NB313_312.out;have hcz11_0:w9.cell? ⟨gb312,0,none⟩=some (.string a0_0):=(blk_cell BK312.out 0).trans rfl;have hcz11_1:w9.cell? ⟨gb312,1,none⟩=some (.int .i64 a0_1):=(blk_cell BK312.out 1).trans rfl;have hcz11_2:w9.cell? ⟨gb312,2,none⟩=some (.int .i64 a0_2):=(blk_cell BK312.out 2).trans rfl;have hcz11_3:w9.cell? ⟨gb312,3,none⟩=some (.int .i64 a0_3):=(blk_cell BK312.out 3).trans rfl;have hcz11_4:w9.cell? ⟨gb312,4,none⟩=some (.string a0_4):=(blk_cell BK312.out 4).trans rfl;have hcz11_5:w9.cell? ⟨gb312,5,none⟩=some (.slice A0_5 l0_5.length c0_5):=(blk_cell BK312.out 5).trans rfl;have hfz11_0:=blk_frozen BK312.out 0;have hfz11_1:=blk_frozen BK312.out 1;have hfz11_2:=blk_frozen BK312.out 2;have hfz11_3:=blk_frozen BK312.out 3;have hfz11_4:=blk_frozen BK312.out 4;have hfz11_5:=blk_frozen BK312.out 5;have hcz12_0:w9.cell? ⟨gb313,0,none⟩=some (.string a1_0):=(blk_cell BK313.out 0).trans rfl;have hcz12_1:w9.cell? ⟨gb313,1,none⟩=some (.int .i64 a1_1):=(blk_cell BK313.out 1).trans rfl;have hcz12_2:w9.cell? ⟨gb313,2,none⟩=some (.int .i64 a1_2):=(blk_cell BK313.out 2).trans rfl;have hcz12_3:w9.cell? ⟨gb313,3,none⟩=some (.int .i64 a1_3):=(blk_cell BK313.out 3).trans rfl;have hcz12_4:w9.cell? ⟨gb313,4,none⟩=some (.string a1_4):=(blk_cell BK313.out 4).trans rfl;have hcz12_5:w9.cell? ⟨gb313,5,none⟩=some (.slice A1_5 l1_5.length c1_5):=(blk_cell BK313.out 5).trans rfl;have hfz12_0:=blk_frozen BK313.out 0;have hfz12_1:=blk_frozen BK313.out 1;have hfz12_2:=blk_frozen BK313.out 2;have hfz12_3:=blk_frozen BK313.out 3;have hfz12_4:=blk_frozen BK313.out 4;have hfz12_5:=blk_frozen BK313.out 5) | ((with_reducible refine gate_callee (f:=130) rfl ?_);refine goesL_ (some 14) rfl rfl Tryz.func130 (by kernel_rfl) rfl #[.agg #[.int .i64 a0_1,.int .i64 a0_2,.int .i64 a0_3,.string a0_4],.agg #[.int .i64 a1_1,.int .i64 a1_2,.int .i64 a1_3,.string a1_4]] rfl (by (try simp only [List.map_toArray,List.map_cons,List.map_nil]);rfl) ?_;(with_reducible refine (laws_eqVersion.calls a0_1 a0_2 a0_3 a0_4 a1_1 a1_2 a1_3 a1_4 true _ A4.out).mono ?_);rintro e w13 ⟨rfl,hb⟩;refine ⟨_,rfl,?_⟩;have n0_:=a_ (blk_below (g:=gb312) (o:=.cells #[.string a0_0,.int .i64 a0_1,.int .i64 a0_2,.int .i64 a0_3,.string a0_4,.slice A0_5 l0_5.length c0_5] 54 (0,0)) (by exact BK312.out) hb);have n1_:=a_ (blk_below (g:=gb313) (o:=.cells #[.string a1_0,.int .i64 a1_1,.int .i64 a1_2,.int .i64 a1_3,.string a1_4,.slice A1_5 l1_5.length c1_5] 54 (0,0)) (by exact BK313.out) hb);have n2_:=a_ (below_step HB.out hb);clear BK312;clear BK313;clear HB;have BK312:=n0_;have BK313:=n1_;have HB:=n2_;clear n0_ n1_ n2_;(try clear hb);have hcz14_0:w13.cell? ⟨gb312,0,none⟩=some (.string a0_0):=(blk_cell BK312.out 0).trans rfl;have hcz14_1:w13.cell? ⟨gb312,1,none⟩=some (.int .i64 a0_1):=(blk_cell BK312.out 1).trans rfl;have hcz14_2:w13.cell? ⟨gb312,2,none⟩=some (.int .i64 a0_2):=(blk_cell BK312.out 2).trans rfl;have hcz14_3:w13.cell? ⟨gb312,3,none⟩=some (.int .i64 a0_3):=(blk_cell BK312.out 3).trans rfl;have hcz14_4:w13.cell? ⟨gb312,4,none⟩=some (.string a0_4):=(blk_cell BK312.out 4).trans rfl;have hcz14_5:w13.cell? ⟨gb312,5,none⟩=some (.slice A0_5 l0_5.length c0_5):=(blk_cell BK312.out 5).trans rfl;have hfz14_0:=blk_frozen BK312.out 0;have hfz14_1:=blk_frozen BK312.out 1;have hfz14_2:=blk_frozen BK312.out 2;have hfz14_3:=blk_frozen BK312.out 3;have hfz14_4:=blk_frozen BK312.out 4;have hfz14_5:=blk_frozen BK312.out 5;have hcz15_0:w13.cell? ⟨gb313,0,none⟩=some (.string a1_0):=(blk_cell BK313.out 0).trans rfl;have hcz15_1:w13.cell? ⟨gb313,1,none⟩=some (.int .i64 a1_1):=(blk_cell BK313.out 1).trans rfl;have hcz15_2:w13.cell? ⟨gb313,2,none⟩=some (.int .i64 a1_2):=(blk_cell BK313.out 2).trans rfl;have hcz15_3:w13.cell? ⟨gb313,3,none⟩=some (.int .i64 a1_3):=(blk_cell BK313.out 3).trans rfl;have hcz15_4:w13.cell? ⟨gb313,4,none⟩=some (.string a1_4):=(blk_cell BK313.out 4).trans rfl;have hcz15_5:w13.cell? ⟨gb313,5,none⟩=some (.slice A1_5 l1_5.length c1_5):=(blk_cell BK313.out 5).trans rfl;have hfz15_0:=blk_frozen BK313.out 0;have hfz15_1:=blk_frozen BK313.out 1;have hfz15_2:=blk_frozen BK313.out 2;have hfz15_3:=blk_frozen BK313.out 3;have hfz15_4:=blk_frozen BK313.out 4;have hfz15_5:=blk_frozen BK313.out 5) | ((with_reducible refine gate_callee (f:=18) rfl ?_);refine goesL_ (some 20) rfl rfl Tryz.func18 (by kernel_rfl) rfl #[.slice A0_5 l0_5.length c0_5,.slice A1_5 l1_5.length c1_5] rfl (by (try simp only [List.map_toArray,List.map_cons,List.map_nil]);rfl) ?_;(with_reducible refine (laws_eqNeedS.calls k _ _ l0_5 _ _ l1_5 true _ ?side1 ?side2 ?side3 ?side4 A6.out).mono ?_);(case side1=>repeat (exact (Kd.C_below HR0_5.out HB.out)));(case side2=>exact HC0_5.out);(case side3=>repeat (exact (Kd.C_below HR1_5.out HB.out)));(case side4=>exact HC1_5.out);rintro e w16 ⟨rfl,hb⟩;refine ⟨_,rfl,?_⟩;have n0_:=a_ (blk_below (g:=gb312) (o:=.cells #[.string a0_0,.int .i64 a0_1,.int .i64 a0_2,.int .i64 a0_3,.string a0_4,.slice A0_5 l0_5.length c0_5] 54 (0,0)) (by exact BK312.out) hb);have n1_:=a_ (blk_below (g:=gb313) (o:=.cells #[.string a1_0,.int .i64 a1_1,.int .i64 a1_2,.int .i64 a1_3,.string a1_4,.slice A1_5 l1_5.length c1_5] 54 (0,0)) (by exact BK313.out) hb);have n2_:=a_ (below_step HB.out hb);clear BK312;clear BK313;clear HB;have BK312:=n0_;have BK313:=n1_;have HB:=n2_;clear n0_ n1_ n2_;(try clear hb)))
    go_ret
    exact ⟨by rfl,by exact HB.out⟩
   ·replace c7:=Bool.eq_false_iff.mpr c7;subst c7;have H1:(some false)=some r:=by rw [if_neg (show ¬ (false=true) by decide)] at H;exact H
    clear H;have H:=H1;clear H1;cases H;cases hr_
  ·replace c5:=Bool.eq_false_iff.mpr c5;subst c5;have H1:(some false)=some r:=by rw [if_neg (show ¬ (false=true) by decide)] at H;exact H
   clear H;have H:=H1;clear H1;cases H;cases hr_
 ·rw [if_neg c3] at H;have c3b0:(a0_0.toList == a1_0.toList)=false:=beq_eq_false_iff_ne.mpr c3;have c3b1:(a0_0.toList != a1_0.toList)=true:=bne_iff_ne.mpr c3;cases H;cases hr_
def laws_eqEntryS.l0:Nat → List (S54) → List (S54) → Int → Option (Bool)
 | 0,_,_,_=>none
 | k + 1,x0,x1,x5=>if x5 < (x0.length:Int) then (if 0 ≤ x5 then (if x5 < (x1.length:Int) then ((laws_eqEntry.f k ((rd_T54 x0 x5).f0) ((rd_T54 x0 x5).f1.f0) ((rd_T54 x0 x5).f1.f1) ((rd_T54 x0 x5).f1.f2) ((rd_T54 x0 x5).f1.f3) ((rd_T54 x0 x5).f2) ((rd_T54 x1 x5).f0) ((rd_T54 x1 x5).f1.f0) ((rd_T54 x1 x5).f1.f1) ((rd_T54 x1 x5).f1.f2) ((rd_T54 x1 x5).f1.f3) ((rd_T54 x1 x5).f2)).bind fun t318=>(if t318=true then (laws_eqEntryS.l0 k x0 x1 (wrap64 (x5 + 1))) else (some false))) else (none)) else (none)) else (some true)
def laws_eqEntryS.f (k:Nat) (l0:List (S54)) (l1:List (S54)):Option (Bool):=if (l0.length:Int)=(l1.length:Int) then (laws_eqEntryS.l0 k l0 l1 0) else (some false)
theorem laws_eqEntryS.mono_l : ∀ k,(∀ y0 y1 y2,LeO (laws_eqEntryS.l0 k y0 y1 y2) (laws_eqEntryS.l0 (k + 1) y0 y1 y2))
 | 0=>fun _ _ _ r h=>by simp [laws_eqEntryS.l0] at h
 | k + 1=>by
  have ih0:=laws_eqEntryS.mono_l k
  ·intro y0 y1 y2;unfold laws_eqEntryS.l0
   repeat' first
   | (with_reducible exact ih0 _ _ _)
   | (with_reducible exact laws_eqEntry.mono _ _ _ _ _ _ _ _ _ _ _ _ _)
   | (with_reducible exact LeO.refl _)
   | (with_reducible refine LeO.ite ?_ ?_)
   | (with_reducible refine LeO.bind ?_ (fun _=>?_))
theorem laws_eqEntryS.mono : ∀ a0 a1 k,LeO (laws_eqEntryS.f k a0 a1) (laws_eqEntryS.f (k + 1) a0 a1):=by
 intro a0 a1 k;have ih0:=laws_eqEntryS.mono_l k;unfold laws_eqEntryS.f
 repeat' first
  | (with_reducible exact ih0 _ _ _)
  | (with_reducible exact LeO.refl _)
  | (with_reducible refine LeO.ite ?_ ?_)
def laws_eqEntryS.T6:Bool × List (List Nat × List Nat):=(true,[([],[]),([],[]),([0,1],[0,1]),([2],[2]),([],[]),([],[]),([4,5],[4,5]),([6],[6]),([3,7],[3,7]),([8],[8])])
def laws_eqEntryS.B6:List Nat:=[0,0,3,7,0,0,48,112,255,511]
theorem laws_eqEntryS.tab6:rtab .any (opsOf Tryz.f33 6)=laws_eqEntryS.T6:=by kernel_rfl
theorem laws_eqEntryS.bits6:waitsOk laws_eqEntryS.T6.2 laws_eqEntryS.B6=true:=by kernel_rfl
set_option maxHeartbeats 8000000 in
set_option maxRecDepth 100000 in
theorem laws_eqEntryS.calls (k:Nat) (A0:Option Addr) (c0:Nat) (l0:List (S54)) (A1:Option Addr) (c1:Nat) (l1:List (S54)) (r:Bool) (w:World) (hr0:Kd.C k54 w A0 l0.length l0) (hc0:l0.length ≤ c0) (hr1:Kd.C k54 w A1 l1.length l1) (hc1:l1.length ≤ c1) (h:laws_eqEntryS.f k l0 l1=some r) (hr_:r=true:=by rfl) :
 Calls Tryz.prog 33 #[.slice A0 l0.length c0,.slice A1 l1.length c1] w fun e w'=>e = .returned (.bool r) ∧ Below w.heap.size w w':=by
 have hu54:=Tryz.underlying54;have HR0:=a_ hr0;have HC0:=a_ hc0;clear hr0 hc0;have HR1:=a_ hr1;have HC1:=a_ hc1;clear hr1 hc1;have HB:=a_ (Below.refl w.heap.size w);have H:(if (l0.length:Int)=(l1.length:Int) then (laws_eqEntryS.l0 k l0 l1 0) else (some false))=some r:=h;clear h
 by_cases c3:(l0.length:Int)=(l1.length:Int)
 ·rw [if_pos c3] at H;have c3b0:((l0.length:Int) == (l1.length:Int))=true:=beq_iff_eq.mpr c3;have c3b1:((l0.length:Int) != (l1.length:Int))=false:=bne_eq_false_iff_eq.mpr c3;have c3b2:(l0.length == l1.length)=true:=by (simp at c3 ⊢;omega)
  clear c3;have H':=a_ H;clear H
  go_enter Tryz.func33,Tryz.ntmps33
  go_wp2
  go_loopg [5] k (fun kq v5 w'=>∃ (x5_1:Int),v5 = .int .i64 x5_1 ∧ Aside0 (laws_eqEntryS.l0 kq l0 l1 x5_1=some r) ∧ Aside0 (kq ≤ k) ∧ Aside0 (Below w.heap.size w w'))
  case atStart=>exact ⟨(0),(by rfl),H',⟨Nat.le_refl _⟩,⟨by exact HB.out⟩⟩
  case round=>
   clear H'
   try clear c3b0
   try clear c3b1
   try clear c3b2
   obtain ⟨x5_1,rfl,HA,HK1,HB⟩:=hrel
   cases gk with
   | zero=>exact absurd HA.out (by simp [laws_eqEntryS.l0])
   | succ k1=>
    have H:=HA.out;clear HA;simp only [laws_eqEntryS.l0] at H
    by_cases c4:x5_1 < (l0.length:Int)
    ·rw [if_pos c4] at H;have c4b0:decide (x5_1 < (l0.length:Int))=true:=decide_eq_true c4;clear c4
     by_cases c5:0 ≤ x5_1
     ·rw [if_pos c5] at H;have c5b0:decide (0 ≤ x5_1)=true:=decide_eq_true c5;clear c5
      by_cases c6:x5_1 < (l1.length:Int)
      ·rw [if_pos c6] at H;have c6b0:decide (x5_1 < (l1.length:Int))=true:=decide_eq_true c6;clear c6;replace H:=Option.bind_eq_some_iff.mp H;obtain ⟨t318,A70,H⟩:=H;replace H:(if t318=true then (laws_eqEntryS.l0 k1 l0 l1 (wrap64 (x5_1 + 1))) else (some false))=some r:=H;have A7:=a_ A70;clear A70
       by_cases c8:t318=true
       ·subst c8;have H1:(laws_eqEntryS.l0 k1 l0 l1 (wrap64 (x5_1 + 1)))=some r:=by rw [if_pos rfl] at H;exact H
        clear H;have H:=H1;clear H1;have H':=a_ H;clear H
        try go_wp2
        have n0_:=a_ (below_drew1 HB.out);clear HB;have HB:=n0_;clear n0_;have p316:0 ≤ (x5_1:Int):=of_decide_eq_true (by (with_reducible assumption));have q316:x5_1 < (l0.length:Int):=of_decide_eq_true (by (with_reducible assumption));obtain ⟨ad316,A316_5,c316_5,e316,hx316_0,hx316_1,hx316_2,hx316_3,hx316_4,hx316_5,hl316_5,hi316_5⟩:=at_T54 HR0.out x5_1 p316 q316;have hw316_5:=hx316_5;have hw316_4:=hx316_4
        have hw316_3:=hx316_3;have hw316_2:=hx316_2;have hw316_1:=hx316_1;have hw316_0:=hx316_0;cases e316;replace hx316_0:=bc_ HB hx316_0;replace hx316_1:=bc_ HB hx316_1;replace hx316_2:=bc_ HB hx316_2;replace hx316_3:=bc_ HB hx316_3;replace hx316_4:=bc_ HB hx316_4;replace hx316_5:=bc_ HB hx316_5;have HR316_5:=a_ hi316_5;have HC316_5:=a_ hl316_5;clear hi316_5 hl316_5;replace p316:=eq_true p316;replace q316:=eq_true q316
        have p317:0 ≤ (x5_1:Int):=of_decide_eq_true (by (with_reducible assumption));have q317:x5_1 < (l1.length:Int):=of_decide_eq_true (by (with_reducible assumption));obtain ⟨ad317,A317_5,c317_5,e317,hx317_0,hx317_1,hx317_2,hx317_3,hx317_4,hx317_5,hl317_5,hi317_5⟩:=at_T54 HR1.out x5_1 p317 q317;have hw317_5:=hx317_5;have hw317_4:=hx317_4;have hw317_3:=hx317_3;have hw317_2:=hx317_2;have hw317_1:=hx317_1
        have hw317_0:=hx317_0;cases e317;replace hx317_0:=bc_ HB hx317_0;replace hx317_1:=bc_ HB hx317_1;replace hx317_2:=bc_ HB hx317_2;replace hx317_3:=bc_ HB hx317_3;replace hx317_4:=bc_ HB hx317_4;replace hx317_5:=bc_ HB hx317_5;have HR317_5:=a_ hi317_5;have HC317_5:=a_ hl317_5;clear hi317_5 hl317_5;replace p317:=eq_true p317;replace q317:=eq_true q317;refine start_ (n:=10) (S:=fun w'=>w'.cell? (ad316.add ((x5_1).toNat * 6))=some (.string ((rd_T54 l0 x5_1).f0)) ∧ w'.cell? ⟨(ad316.add ((x5_1).toNat * 6)).block,(ad316.add ((x5_1).toNat * 6)).off + 1,none⟩=some (.int .i64 ((rd_T54 l0 x5_1).f1.f0)) ∧ w'.cell? ⟨(ad316.add ((x5_1).toNat * 6)).block,(ad316.add ((x5_1).toNat * 6)).off + 2,none⟩=some (.int .i64 ((rd_T54 l0 x5_1).f1.f1)) ∧ w'.cell? ⟨(ad316.add ((x5_1).toNat * 6)).block,(ad316.add ((x5_1).toNat * 6)).off + 3,none⟩=some (.int .i64 ((rd_T54 l0 x5_1).f1.f2)) ∧ w'.cell? ⟨(ad316.add ((x5_1).toNat * 6)).block,(ad316.add ((x5_1).toNat * 6)).off + 4,none⟩=some (.string ((rd_T54 l0 x5_1).f1.f3)) ∧ w'.cell? ⟨(ad316.add ((x5_1).toNat * 6)).block,(ad316.add ((x5_1).toNat * 6)).off + 5,none⟩=some (.slice A316_5 ((rd_T54 l0 x5_1).f2).length c316_5) ∧ w'.cell? (ad317.add ((x5_1).toNat * 6))=some (.string ((rd_T54 l1 x5_1).f0)) ∧ w'.cell? ⟨(ad317.add ((x5_1).toNat * 6)).block,(ad317.add ((x5_1).toNat * 6)).off + 1,none⟩=some (.int .i64 ((rd_T54 l1 x5_1).f1.f0)) ∧ w'.cell? ⟨(ad317.add ((x5_1).toNat * 6)).block,(ad317.add ((x5_1).toNat * 6)).off + 2,none⟩=some (.int .i64 ((rd_T54 l1 x5_1).f1.f1)) ∧ w'.cell? ⟨(ad317.add ((x5_1).toNat * 6)).block,(ad317.add ((x5_1).toNat * 6)).off + 3,none⟩=some (.int .i64 ((rd_T54 l1 x5_1).f1.f2)) ∧ w'.cell? ⟨(ad317.add ((x5_1).toNat * 6)).block,(ad317.add ((x5_1).toNat * 6)).off + 4,none⟩=some (.string ((rd_T54 l1 x5_1).f1.f3)) ∧ w'.cell? ⟨(ad317.add ((x5_1).toNat * 6)).block,(ad317.add ((x5_1).toNat * 6)).off + 5,none⟩=some (.slice A317_5 ((rd_T54 l1 x5_1).f2).length c317_5)) (ds:=[]) (m_ 0 10) (by kernel_rfl) rfl rfl ⟨(bc_ HB hw316_0),(bc_ HB hw316_1),(bc_ HB hw316_2),(bc_ HB hw316_3),(bc_ HB hw316_4),(bc_ HB hw316_5),(bc_ HB hw317_0),(bc_ HB hw317_1),(bc_ HB hw317_2),(bc_ HB hw317_3),(bc_ HB hw317_4),(bc_ HB hw317_5)⟩ (fun hHeld=>?_);refine with_tabW laws_eqEntryS.tab6 laws_eqEntryS.bits6 (fun HT_ HW_=>?_)
        generalize wr.drew=w9 at HB HR316_5 HR317_5 hx316_0 hx316_1 hx316_2 hx316_3 hx316_4 hx316_5 hx317_0 hx317_1 hx317_2 hx317_3 hx317_4 hx317_5 hHeld ⊢
        refine pure_ (i:=0) (N:=some 17) (v:=?_) (a':=?_) (m_ 1 9) rfl rfl (any_of HT_.out (by kernel_rfl)) (fun _ _ _ h=>h) (Or.inl ⟨by rfl,?_⟩) ?_ ?_;rotate_left
        ·intro w';go_simp
         with_reducible rfl
        rotate_left
        ·simp only [Act.put,s1_,s2_,s3_,i64_w,i32_w];rfl
        refine pure_ (i:=1) (N:=some 18) (v:=?_) (a':=?_) (m_ 2 8) rfl rfl (any_of HT_.out (by kernel_rfl)) (fun _ _ _ h=>h) (Or.inl ⟨by rfl,?_⟩) ?_ ?_;rotate_left
        ·intro w';go_simp
         with_reducible rfl
        rotate_left
        ·simp only [Act.put,s1_,s2_,s3_,i64_w,i32_w];rfl
        refine pure_ (i:=2) (N:=some 19) (v:=?_) (a':=?_) (m_ 3 7) rfl rfl (any_of HT_.out (by kernel_rfl)) (fun _ _ _ h=>h) (Or.inl ⟨by rfl,?_⟩) ?_ ?_;rotate_left
        ·intro w';go_simp
         with_reducible rfl
        rotate_left
        ·simp only [Act.put,s1_,s2_,s3_,i64_w,i32_w];rfl
        refine pure_ (i:=4) (N:=some 21) (v:=?_) (a':=?_) #[true,true,true,false,true,false,false,false,false,false] rfl rfl (any_of HT_.out (by kernel_rfl)) (fun _ _ _ h=>h) (Or.inl ⟨by rfl,?_⟩) ?_ ?_;rotate_left
        ·intro w';go_simp
         with_reducible rfl
        rotate_left
        ·simp only [Act.put,s1_,s2_,s3_,i64_w,i32_w];rfl
        refine pure_ (i:=5) (N:=some 22) (v:=?_) (a':=?_) #[true,true,true,false,true,true,false,false,false,false] rfl rfl (any_of HT_.out (by kernel_rfl)) (fun _ _ _ h=>h) (Or.inl ⟨by rfl,?_⟩) ?_ ?_;rotate_left
        ·intro w';go_simp
         with_reducible rfl
        rotate_left
        ·simp only [Act.put,s1_,s2_,s3_,i64_w,i32_w];rfl
        refine pure_ (i:=6) (N:=some 23) (v:=?_) (a':=?_) #[true,true,true,false,true,true,true,false,false,false] rfl rfl (any_of HT_.out (by kernel_rfl)) (fun _ _ _ h=>h) (Or.inl ⟨by rfl,?_⟩) ?_ ?_;rotate_left
        ·intro w';go_simp
         with_reducible rfl
        rotate_left
        ·simp only [Act.put,s1_,s2_,s3_,i64_w,i32_w];rfl
        refine take_ (i:=3) (N:=some 20) (v:=?_) (a':=?_) (m_ 7 3) rfl rfl (take_ofW HT_.out HW_.out (by kernel_rfl)) (fun _ _ _ h=>h) (Or.inl ⟨by rfl,?_⟩) hHeld ?_ ?_;rotate_left
        ·rintro w' ⟨s0,s1,s2,s3,s4,s5,s6,s7,s8,s9,s10,s11⟩;go_simp
         with_reducible rfl
        rotate_left
        ·simp only [Act.put,s1_,s2_,s3_,i64_w,i32_w];rfl
        refine take_ (i:=7) (N:=some 24) (v:=?_) (a':=?_) (m_ 8 2) rfl rfl (take_ofW HT_.out HW_.out (by kernel_rfl)) (fun _ _ _ h=>h) (Or.inl ⟨by rfl,?_⟩) hHeld ?_ ?_;rotate_left
        ·rintro w' ⟨s0,s1,s2,s3,s4,s5,s6,s7,s8,s9,s10,s11⟩;go_simp
         with_reducible rfl
        rotate_left
        ·simp only [Act.put,s1_,s2_,s3_,i64_w,i32_w];rfl
        refine one_ (i:=8) (N:=some 25) (m_ 9 1) rfl rfl (one_of HT_.out (by kernel_rfl)) (by decide) (fun K hK=>?_);refine goes_ Tryz.func94 (by kernel_rfl) rfl #[.agg #[.string ((rd_T54 l0 x5_1).f0),.int .i64 ((rd_T54 l0 x5_1).f1.f0),.int .i64 ((rd_T54 l0 x5_1).f1.f1),.int .i64 ((rd_T54 l0 x5_1).f1.f2),.string ((rd_T54 l0 x5_1).f1.f3),.slice A316_5 ((rd_T54 l0 x5_1).f2).length c316_5],.agg #[.string ((rd_T54 l1 x5_1).f0),.int .i64 ((rd_T54 l1 x5_1).f1.f0),.int .i64 ((rd_T54 l1 x5_1).f1.f1),.int .i64 ((rd_T54 l1 x5_1).f1.f2),.string ((rd_T54 l1 x5_1).f1.f3),.slice A317_5 ((rd_T54 l1 x5_1).f2).length c317_5]] (by rfl) rfl rfl (by (try simp only [List.map_toArray,List.map_cons,List.map_nil]);rfl) ?_
        with_reducible refine (laws_eqEntry.calls k1 ((rd_T54 l0 x5_1).f0) ((rd_T54 l0 x5_1).f1.f0) ((rd_T54 l0 x5_1).f1.f1) ((rd_T54 l0 x5_1).f1.f2) ((rd_T54 l0 x5_1).f1.f3) _ _ ((rd_T54 l0 x5_1).f2) ((rd_T54 l1 x5_1).f0) ((rd_T54 l1 x5_1).f1.f0) ((rd_T54 l1 x5_1).f1.f1) ((rd_T54 l1 x5_1).f1.f2) ((rd_T54 l1 x5_1).f1.f3) _ _ ((rd_T54 l1 x5_1).f2) true _ ?side1 ?side2 ?side3 ?side4 A7.out).mono ?_
        (case side1=>repeat (exact (Kd.C_below HR316_5.out HB.out)))
        (case side2=>exact HC316_5.out)
        (case side3=>repeat (exact (Kd.C_below HR317_5.out HB.out)))
        (case side4=>exact HC317_5.out)
        rintro e w10 ⟨rfl,hb⟩;refine ⟨_,rfl,?_⟩;have n0_:=a_ (below_step HB.out hb);clear HB;have HB:=n0_;clear n0_
        (try clear hb)
        (skip)
        (skip)
        (skip)
        refine hK.out _ _ ⟨(bc_ HB hw316_0),(bc_ HB hw316_1),(bc_ HB hw316_2),(bc_ HB hw316_3),(bc_ HB hw316_4),(bc_ HB hw316_5),(bc_ HB hw317_0),(bc_ HB hw317_1),(bc_ HB hw317_2),(bc_ HB hw317_3),(bc_ HB hw317_4),(bc_ HB hw317_5)⟩ (fun hHeld=>?_);clear hK K;refine norm_ (a':=?_) ?_ ?_;rotate_left
        ·show Act.put _ (some 25) _=_;simp only [Act.put,s1_,s2_,s3_,i64_w,i32_w];rfl
        refine pure_ (i:=9) (N:=some 26) (v:=?_) (a':=?_) (m_ 10 0) rfl rfl (any_of HT_.out (by kernel_rfl)) (fun _ _ _ h=>h) (Or.inl ⟨by rfl,?_⟩) ?_ ?_;rotate_left
        ·intro w';go_simp
         with_reducible rfl
        rotate_left
        ·simp only [Act.put,s1_,s2_,s3_,i64_w,i32_w];rfl
        refine done_ (done_of HT_.out (by kernel_rfl)) ?_
        try go_wp2
        go_roundg k1
        case measure=>have:=HK1.out;omega
        case rel=>exact ⟨(wrap64 (x5_1 + 1)),(by rfl),H',⟨by have:=HK1.out;omega⟩,⟨by exact HB.out⟩⟩
       ·replace c8:=Bool.eq_false_iff.mpr c8;subst c8;have H1:(some false)=some r:=by rw [if_neg (show ¬ (false=true) by decide)] at H;exact H
        clear H;have H:=H1;clear H1;cases H;cases hr_
      ·rw [if_neg c6] at H;exact absurd H (by simp)
     ·rw [if_neg c5] at H;exact absurd H (by simp)
    ·rw [if_neg c4] at H;have c4b0:decide (x5_1 < (l0.length:Int))=false:=decide_eq_false c4;clear c4;obtain rfl:=Option.some.inj H
     go_wp2
     go_ret
     exact ⟨by rfl,by exact HB.out⟩
 ·rw [if_neg c3] at H;have c3b0:((l0.length:Int) == (l1.length:Int))=false:=beq_eq_false_iff_ne.mpr c3;have c3b1:((l0.length:Int) != (l1.length:Int))=true:=bne_iff_ne.mpr c3;have c3b2:(l0.length == l1.length)=false:=by (simp at c3 ⊢;omega)
  cases H;cases hr_
def laws_eqHead.f (a0_0:Int) (a0_1:ByteArray) (a1_0:Int) (a1_1:ByteArray):Option (Bool):=if a0_0=a1_0 then (if a0_1.toList=a1_1.toList then (some true) else (some false)) else (some false)
set_option maxHeartbeats 8000000 in
set_option maxRecDepth 100000 in
theorem laws_eqHead.calls (a0_0:Int) (a0_1:ByteArray) (a1_0:Int) (a1_1:ByteArray) (r:Bool) (w:World) (h:laws_eqHead.f a0_0 a0_1 a1_0 a1_1=some r) (hr_:r=true:=by rfl) :
 Calls Tryz.prog 47 #[.agg #[.int .i64 a0_0,.string a0_1],.agg #[.int .i64 a1_0,.string a1_1]] w fun e w'=>e = .returned (.bool r) ∧ Below w.heap.size w w':=by
 have hu28:=Tryz.underlying28;have HB:=a_ (Below.refl w.heap.size w);have H:(if a0_0=a1_0 then (if a0_1.toList=a1_1.toList then (some true) else (some false)) else (some false))=some r:=h;clear h
 by_cases c3:a0_0=a1_0
 ·rw [if_pos c3] at H;have c3b0:(a0_0 == a1_0)=true:=beq_iff_eq.mpr c3;have c3b1:(a0_0 != a1_0)=false:=bne_eq_false_iff_eq.mpr c3;clear c3
  by_cases c4:a0_1.toList=a1_1.toList
  ·rw [if_pos c4] at H;have c4b0:(a0_1.toList == a1_1.toList)=true:=beq_iff_eq.mpr c4;have c4b1:(a0_1.toList != a1_1.toList)=false:=bne_eq_false_iff_eq.mpr c4;clear c4;obtain rfl:=Option.some.inj H
   go_enter Tryz.func47,Tryz.ntmps47
   go_wp2_with (first | ((with_reducible refine gate_dst (N:=2) rfl ?_);refine box_event ?hg (N:=2) ?hd (cs:=#[.int .i64 a0_0,.string a0_1]) (t:=28) ?hr ?_;(case hd=>rfl);(case hg=>rfl);(case hr=>(go_simp;done));intro gb319 hg w5 hbox hb;have n0_:=a_ (below_step HB.out hb);have n1_:=a_ (hbox);have n2_:=a_ ((by rw [hg];exact (below_size HB.out):w.heap.size ≤ gb319));have n3_:=a_ ((by rw [hg];exact (below_size HB.out):w.heap.size ≤ gb319));clear HB;have HB:=n0_;have BK319:=n1_;have GW319:=n2_;have GE319:=n3_;clear n0_ n1_ n2_ n3_;clear hb hbox hg) | ((with_reducible refine gate_dst (N:=3) rfl ?_);refine box_event ?hg (N:=3) ?hd (cs:=#[.int .i64 a1_0,.string a1_1]) (t:=28) ?hr ?_;(case hd=>rfl);(case hg=>rfl);(case hr=>(go_simp;done));intro gb320 hg w6 hbox hb;have n0_:=a_ (blk_below (g:=gb319) (o:=.cells #[.int .i64 a0_0,.string a0_1] 28 (0,0)) (by exact BK319.out) hb);have n1_:=a_ (below_step HB.out hb);have n2_:=a_ (hbox);have n3_:=a_ ((by rw [hg];exact (below_size HB.out):w.heap.size ≤ gb320));have n4_:=a_ ((by rw [hg];exact (below_size HB.out):w.heap.size ≤ gb320));have n5_:=a_ ((by rw [hg];exact Nat.ne_of_lt (blk_lt (g:=gb319) (o:=.cells #[.int .i64 a0_0,.string a0_1] 28 (0,0)) (by exact BK319.out)):gb319 ≠ gb320));have n6_:=a_ ((by rw [hg];exact Nat.ne_of_gt (blk_lt (g:=gb319) (o:=.cells #[.int .i64 a0_0,.string a0_1] 28 (0,0)) (by exact BK319.out)):gb320 ≠ gb319));clear BK319;clear HB;have BK319:=n0_;have HB:=n1_;have BK320:=n2_;have GW320:=n3_;have GE320:=n4_;have NB319_320:=n5_;have NB320_319:=n6_;clear n0_ n1_ n2_ n3_ n4_ n5_ n6_;clear hb hbox hg;have hnb7:=NB319_320.out;have hnc7:=NB320_319.out;have hcz8_0:w6.cell? ⟨gb319,0,none⟩=some (.int .i64 a0_0):=(blk_cell BK319.out 0).trans rfl;have hcz8_1:w6.cell? ⟨gb319,1,none⟩=some (.string a0_1):=(blk_cell BK319.out 1).trans rfl;have hfz8_0:=blk_frozen BK319.out 0;have hfz8_1:=blk_frozen BK319.out 1;have hcz9_0:w6.cell? ⟨gb320,0,none⟩=some (.int .i64 a1_0):=(blk_cell BK320.out 0).trans rfl;have hcz9_1:w6.cell? ⟨gb320,1,none⟩=some (.string a1_1):=(blk_cell BK320.out 1).trans rfl;have hfz9_0:=blk_frozen BK320.out 0;have hfz9_1:=blk_frozen BK320.out 1))
   go_ret
   exact ⟨by rfl,by exact HB.out⟩
  ·rw [if_neg c4] at H;have c4b0:(a0_1.toList == a1_1.toList)=false:=beq_eq_false_iff_ne.mpr c4;have c4b1:(a0_1.toList != a1_1.toList)=true:=bne_iff_ne.mpr c4;cases H;cases hr_
 ·rw [if_neg c3] at H;have c3b0:(a0_0 == a1_0)=false:=beq_eq_false_iff_ne.mpr c3;have c3b1:(a0_0 != a1_0)=true:=bne_iff_ne.mpr c3;cases H;cases hr_
def laws_eqClient.f (k:Nat) (a0_0:Int) (a0_1:ByteArray) (l0_2:List (S58)) (l0_3:List (S54)) (a1_0:Int) (a1_1:ByteArray) (l1_2:List (S58)) (l1_3:List (S54)):Option (Bool):=(laws_eqHead.f a0_0 a0_1 a1_0 a1_1).bind fun t323=>(if t323=true then ((laws_eqNeedS.f k l0_2 l1_2).bind fun t324=>(if t324=true then ((laws_eqEntryS.f k l0_3 l1_3).bind fun t325=>(if t325=true then (some true) else (some false))) else (some false))) else (some false))
theorem laws_eqClient.mono : ∀ a0 a1 a2 a3 a4 a5 a6 a7 k,LeO (laws_eqClient.f k a0 a1 a2 a3 a4 a5 a6 a7) (laws_eqClient.f (k + 1) a0 a1 a2 a3 a4 a5 a6 a7):=by
 intro a0 a1 a2 a3 a4 a5 a6 a7 k;unfold laws_eqClient.f
 repeat' first
  | (with_reducible exact laws_eqEntryS.mono _ _ _)
  | (with_reducible exact laws_eqNeedS.mono _ _ _)
  | (with_reducible exact LeO.refl _)
  | (with_reducible refine LeO.ite ?_ ?_)
  | (with_reducible refine LeO.bind ?_ (fun _=>?_))
set_option maxHeartbeats 8000000 in
set_option maxRecDepth 100000 in
theorem laws_eqClient.calls (k:Nat) (a0_0:Int) (a0_1:ByteArray) (A0_2:Option Addr) (c0_2:Nat) (l0_2:List (S58)) (A0_3:Option Addr) (c0_3:Nat) (l0_3:List (S54)) (a1_0:Int) (a1_1:ByteArray) (A1_2:Option Addr) (c1_2:Nat) (l1_2:List (S58)) (A1_3:Option Addr) (c1_3:Nat) (l1_3:List (S54)) (r:Bool) (w:World) (hr0_2:Kd.C k58 w A0_2 l0_2.length l0_2) (hc0_2:l0_2.length ≤ c0_2) (hr0_3:Kd.C k54 w A0_3 l0_3.length l0_3) (hc0_3:l0_3.length ≤ c0_3) (hr1_2:Kd.C k58 w A1_2 l1_2.length l1_2) (hc1_2:l1_2.length ≤ c1_2) (hr1_3:Kd.C k54 w A1_3 l1_3.length l1_3) (hc1_3:l1_3.length ≤ c1_3) (h:laws_eqClient.f k a0_0 a0_1 l0_2 l0_3 a1_0 a1_1 l1_2 l1_3=some r) (hr_:r=true:=by rfl) :
 Calls Tryz.prog 23 #[.agg #[.int .i64 a0_0,.string a0_1,.slice A0_2 l0_2.length c0_2,.slice A0_3 l0_3.length c0_3],.agg #[.int .i64 a1_0,.string a1_1,.slice A1_2 l1_2.length c1_2,.slice A1_3 l1_3.length c1_3]] w fun e w'=>e = .returned (.bool r) ∧ Below w.heap.size w w':=by
 have hu41:=Tryz.underlying41;have hu28:=Tryz.underlying28;have HR0_2:=a_ hr0_2;have HC0_2:=a_ hc0_2;clear hr0_2 hc0_2;have HR0_3:=a_ hr0_3;have HC0_3:=a_ hc0_3;clear hr0_3 hc0_3;have HR1_2:=a_ hr1_2;have HC1_2:=a_ hc1_2;clear hr1_2 hc1_2;have HR1_3:=a_ hr1_3;have HC1_3:=a_ hc1_3;clear hr1_3 hc1_3;have HB:=a_ (Below.refl w.heap.size w);have H:((laws_eqHead.f a0_0 a0_1 a1_0 a1_1).bind fun t323=>(if t323=true then ((laws_eqNeedS.f k l0_2 l1_2).bind fun t324=>(if t324=true then ((laws_eqEntryS.f k l0_3 l1_3).bind fun t325=>(if t325=true then (some true) else (some false))) else (some false))) else (some false)))=some r:=h
 clear h;replace H:=Option.bind_eq_some_iff.mp H;obtain ⟨t323,A30,H⟩:=H;replace H:(if t323=true then ((laws_eqNeedS.f k l0_2 l1_2).bind fun t324=>(if t324=true then ((laws_eqEntryS.f k l0_3 l1_3).bind fun t325=>(if t325=true then (some true) else (some false))) else (some false))) else (some false))=some r:=H;have A3:=a_ A30;clear A30
 by_cases c4:t323=true
 ·subst c4;have H1:((laws_eqNeedS.f k l0_2 l1_2).bind fun t324=>(if t324=true then ((laws_eqEntryS.f k l0_3 l1_3).bind fun t325=>(if t325=true then (some true) else (some false))) else (some false)))=some r:=by rw [if_pos rfl] at H;exact H
  clear H;have H:=H1;clear H1;replace H:=Option.bind_eq_some_iff.mp H;obtain ⟨t324,A50,H⟩:=H;replace H:(if t324=true then ((laws_eqEntryS.f k l0_3 l1_3).bind fun t325=>(if t325=true then (some true) else (some false))) else (some false))=some r:=H;have A5:=a_ A50;clear A50
  by_cases c6:t324=true
  ·subst c6;have H1:((laws_eqEntryS.f k l0_3 l1_3).bind fun t325=>(if t325=true then (some true) else (some false)))=some r:=by rw [if_pos rfl] at H;exact H
   clear H;have H:=H1;clear H1;replace H:=Option.bind_eq_some_iff.mp H;obtain ⟨t325,A70,H⟩:=H;replace H:(if t325=true then (some true) else (some false))=some r:=H;have A7:=a_ A70;clear A70
   by_cases c8:t325=true
   ·subst c8;have H1:(some true)=some r:=by rw [if_pos rfl] at H;exact H
    clear H;have H:=H1;clear H1;obtain rfl:=Option.some.inj H
    go_enter Tryz.func23,Tryz.ntmps23
    go_wp2_with (first | ((with_reducible refine gate_dst (N:=2) rfl ?_);refine box_event ?hg (N:=2) ?hd (cs:=#[.int .i64 a0_0,.string a0_1,.slice A0_2 l0_2.length c0_2,.slice A0_3 l0_3.length c0_3]) (t:=41) ?hr ?_;(case hd=>rfl);(case hg=>rfl);(case hr=>(go_simp;done));intro gb321 hg w9 hbox hb;have n0_:=a_ (below_step HB.out hb);have n1_:=a_ (hbox);have n2_:=a_ ((by rw [hg];exact (below_size HB.out):w.heap.size ≤ gb321));have n3_:=a_ ((by rw [hg];exact (below_size HB.out):w.heap.size ≤ gb321));clear HB;have HB:=n0_;have BK321:=n1_;have GW321:=n2_;have GE321:=n3_;clear n0_ n1_ n2_ n3_;clear hb hbox hg) | ((with_reducible refine gate_dst (N:=3) rfl ?_);refine box_event ?hg (N:=3) ?hd (cs:=#[.int .i64 a1_0,.string a1_1,.slice A1_2 l1_2.length c1_2,.slice A1_3 l1_3.length c1_3]) (t:=41) ?hr ?_;(case hd=>rfl);(case hg=>rfl);(case hr=>(go_simp;done));intro gb322 hg w10 hbox hb;have n0_:=a_ (blk_below (g:=gb321) (o:=.cells #[.int .i64 a0_0,.string a0_1,.slice A0_2 l0_2.length c0_2,.slice A0_3 l0_3.length c0_3] 41 (0,0)) (by exact BK321.out) hb);have n1_:=a_ (below_step HB.out hb);have n2_:=a_ (hbox);have n3_:=a_ ((by rw [hg];exact (below_size HB.out):w.heap.size ≤ gb322));have n4_:=a_ ((by rw [hg];exact (below_size HB.out):w.heap.size ≤ gb322));have n5_:=a_ ((by rw [hg];exact Nat.ne_of_lt (blk_lt (g:=gb321) (o:=.cells #[.int .i64 a0_0,.string a0_1,.slice A0_2 l0_2.length c0_2,.slice A0_3 l0_3.length c0_3] 41 (0,0)) (by exact BK321.out)):gb321 ≠ gb322));have n6_:=a_ ((by rw [hg];exact Nat.ne_of_gt (blk_lt (g:=gb321) (o:=.cells #[.int .i64 a0_0,.string a0_1,.slice A0_2 l0_2.length c0_2,.slice A0_3 l0_3.length c0_3] 41 (0,0)) (by exact BK321.out)):gb322 ≠ gb321));clear BK321;clear HB;have BK321:=n0_;have HB:=n1_;have BK322:=n2_;have GW322:=n3_;have GE322:=n4_;have NB321_322:=n5_;have NB322_321:=n6_;clear n0_ n1_ n2_ n3_ n4_ n5_ n6_;clear hb hbox hg;have hnb11:=NB321_322.out;have hnc11:=NB322_321.out;have hcz12_0:w10.cell? ⟨gb321,0,none⟩=some (.int .i64 a0_0):=(blk_cell BK321.out 0).trans rfl;have hcz12_1:w10.cell? ⟨gb321,1,none⟩=some (.string a0_1):=(blk_cell BK321.out 1).trans rfl;have hcz12_2:w10.cell? ⟨gb321,2,none⟩=some (.slice A0_2 l0_2.length c0_2):=(blk_cell BK321.out 2).trans rfl;have hcz12_3:w10.cell? ⟨gb321,3,none⟩=some (.slice A0_3 l0_3.length c0_3):=(blk_cell BK321.out 3).trans rfl;have hfz12_0:=blk_frozen BK321.out 0;have hfz12_1:=blk_frozen BK321.out 1;have hfz12_2:=blk_frozen BK321.out 2;have hfz12_3:=blk_frozen BK321.out 3;have hcz13_0:w10.cell? ⟨gb322,0,none⟩=some (.int .i64 a1_0):=(blk_cell BK322.out 0).trans rfl;have hcz13_1:w10.cell? ⟨gb322,1,none⟩=some (.string a1_1):=(blk_cell BK322.out 1).trans rfl;have hcz13_2:w10.cell? ⟨gb322,2,none⟩=some (.slice A1_2 l1_2.length c1_2):=(blk_cell BK322.out 2).trans rfl;have hcz13_3:w10.cell? ⟨gb322,3,none⟩=some (.slice A1_3 l1_3.length c1_3):=(blk_cell BK322.out 3).trans rfl;have hfz13_0:=blk_frozen BK322.out 0;have hfz13_1:=blk_frozen BK322.out 1;have hfz13_2:=blk_frozen BK322.out 2;have hfz13_3:=blk_frozen BK322.out 3) | ((with_reducible refine gate_callee (f:=47) rfl ?_);refine goesL_ (some 9) rfl rfl Tryz.func47 (by kernel_rfl) rfl #[.agg #[.int .i64 a0_0,.string a0_1],.agg #[.int .i64 a1_0,.string a1_1]] rfl (by (try simp only [List.map_toArray,List.map_cons,List.map_nil]);rfl) ?_;(with_reducible refine (laws_eqHead.calls a0_0 a0_1 a1_0 a1_1 true _ A3.out).mono ?_);rintro e w14 ⟨rfl,hb⟩;refine ⟨_,rfl,?_⟩;have n0_:=a_ (blk_below (g:=gb321) (o:=.cells #[.int .i64 a0_0,.string a0_1,.slice A0_2 l0_2.length c0_2,.slice A0_3 l0_3.length c0_3] 41 (0,0)) (by exact BK321.out) hb);have n1_:=a_ (blk_below (g:=gb322) (o:=.cells #[.int .i64 a1_0,.string a1_1,.slice A1_2 l1_2.length c1_2,.slice A1_3 l1_3.length c1_3] 41 (0,0)) (by exact BK322.out) hb);have n2_:=a_ (below_step HB.out hb);clear BK321;clear BK322;clear HB;have BK321:=n0_;have BK322:=n1_;have HB:=n2_;clear n0_ n1_ n2_;(try clear hb);have hcz15_0:w14.cell? ⟨gb321,0,none⟩=some (.int .i64 a0_0):=(blk_cell BK321.out 0).trans rfl;have hcz15_1:w14.cell? ⟨gb321,1,none⟩=some (.string a0_1):=(blk_cell BK321.out 1).trans rfl;have hcz15_2:w14.cell? ⟨gb321,2,none⟩=some (.slice A0_2 l0_2.length c0_2):=(blk_cell BK321.out 2).trans rfl;have hcz15_3:w14.cell? ⟨gb321,3,none⟩=some (.slice A0_3 l0_3.length c0_3):=(blk_cell BK321.out 3).trans rfl;have hfz15_0:=blk_frozen BK321.out 0;have hfz15_1:=blk_frozen BK321.out 1;have hfz15_2:=blk_frozen BK321.out 2;have hfz15_3:=blk_frozen BK321.out 3;have hcz16_0:w14.cell? ⟨gb322,0,none⟩=some (.int .i64 a1_0):=(blk_cell BK322.out 0).trans rfl;have hcz16_1:w14.cell? ⟨gb322,1,none⟩=some (.string a1_1):=(blk_cell BK322.out 1).trans rfl;have hcz16_2:w14.cell? ⟨gb322,2,none⟩=some (.slice A1_2 l1_2.length c1_2):=(blk_cell BK322.out 2).trans rfl;have hcz16_3:w14.cell? ⟨gb322,3,none⟩=some (.slice A1_3 l1_3.length c1_3):=(blk_cell BK322.out 3).trans rfl;have hfz16_0:=blk_frozen BK322.out 0;have hfz16_1:=blk_frozen BK322.out 1;have hfz16_2:=blk_frozen BK322.out 2;have hfz16_3:=blk_frozen BK322.out 3) | ((with_reducible refine gate_callee (f:=18) rfl ?_);refine goesL_ (some 15) rfl rfl Tryz.func18 (by kernel_rfl) rfl #[.slice A0_2 l0_2.length c0_2,.slice A1_2 l1_2.length c1_2] rfl (by (try simp only [List.map_toArray,List.map_cons,List.map_nil]);rfl) ?_;(with_reducible refine (laws_eqNeedS.calls k _ _ l0_2 _ _ l1_2 true _ ?side1 ?side2 ?side3 ?side4 A5.out).mono ?_);(case side1=>repeat (exact (Kd.C_below HR0_2.out HB.out)));(case side2=>exact HC0_2.out);(case side3=>repeat (exact (Kd.C_below HR1_2.out HB.out)));(case side4=>exact HC1_2.out);rintro e w17 ⟨rfl,hb⟩;refine ⟨_,rfl,?_⟩;have n0_:=a_ (blk_below (g:=gb321) (o:=.cells #[.int .i64 a0_0,.string a0_1,.slice A0_2 l0_2.length c0_2,.slice A0_3 l0_3.length c0_3] 41 (0,0)) (by exact BK321.out) hb);have n1_:=a_ (blk_below (g:=gb322) (o:=.cells #[.int .i64 a1_0,.string a1_1,.slice A1_2 l1_2.length c1_2,.slice A1_3 l1_3.length c1_3] 41 (0,0)) (by exact BK322.out) hb);have n2_:=a_ (below_step HB.out hb);clear BK321;clear BK322;clear HB;have BK321:=n0_;have BK322:=n1_;have HB:=n2_;clear n0_ n1_ n2_;(try clear hb);have hcz18_0:w17.cell? ⟨gb321,0,none⟩=some (.int .i64 a0_0):=(blk_cell BK321.out 0).trans rfl;have hcz18_1:w17.cell? ⟨gb321,1,none⟩=some (.string a0_1):=(blk_cell BK321.out 1).trans rfl;have hcz18_2:w17.cell? ⟨gb321,2,none⟩=some (.slice A0_2 l0_2.length c0_2):=(blk_cell BK321.out 2).trans rfl;have hcz18_3:w17.cell? ⟨gb321,3,none⟩=some (.slice A0_3 l0_3.length c0_3):=(blk_cell BK321.out 3).trans rfl;have hfz18_0:=blk_frozen BK321.out 0;have hfz18_1:=blk_frozen BK321.out 1;have hfz18_2:=blk_frozen BK321.out 2;have hfz18_3:=blk_frozen BK321.out 3;have hcz19_0:w17.cell? ⟨gb322,0,none⟩=some (.int .i64 a1_0):=(blk_cell BK322.out 0).trans rfl;have hcz19_1:w17.cell? ⟨gb322,1,none⟩=some (.string a1_1):=(blk_cell BK322.out 1).trans rfl;have hcz19_2:w17.cell? ⟨gb322,2,none⟩=some (.slice A1_2 l1_2.length c1_2):=(blk_cell BK322.out 2).trans rfl;have hcz19_3:w17.cell? ⟨gb322,3,none⟩=some (.slice A1_3 l1_3.length c1_3):=(blk_cell BK322.out 3).trans rfl;have hfz19_0:=blk_frozen BK322.out 0;have hfz19_1:=blk_frozen BK322.out 1;have hfz19_2:=blk_frozen BK322.out 2;have hfz19_3:=blk_frozen BK322.out 3) | ((with_reducible refine gate_callee (f:=33) rfl ?_);refine goesL_ (some 21) rfl rfl Tryz.func33 (by kernel_rfl) rfl #[.slice A0_3 l0_3.length c0_3,.slice A1_3 l1_3.length c1_3] rfl (by (try simp only [List.map_toArray,List.map_cons,List.map_nil]);rfl) ?_;(with_reducible refine (laws_eqEntryS.calls k _ _ l0_3 _ _ l1_3 true _ ?side1 ?side2 ?side3 ?side4 A7.out).mono ?_);(case side1=>repeat (exact (Kd.C_below HR0_3.out HB.out)));(case side2=>exact HC0_3.out);(case side3=>repeat (exact (Kd.C_below HR1_3.out HB.out)));(case side4=>exact HC1_3.out);rintro e w20 ⟨rfl,hb⟩;refine ⟨_,rfl,?_⟩;have n0_:=a_ (blk_below (g:=gb321) (o:=.cells #[.int .i64 a0_0,.string a0_1,.slice A0_2 l0_2.length c0_2,.slice A0_3 l0_3.length c0_3] 41 (0,0)) (by exact BK321.out) hb);have n1_:=a_ (blk_below (g:=gb322) (o:=.cells #[.int .i64 a1_0,.string a1_1,.slice A1_2 l1_2.length c1_2,.slice A1_3 l1_3.length c1_3] 41 (0,0)) (by exact BK322.out) hb);have n2_:=a_ (below_step HB.out hb);clear BK321;clear BK322;clear HB;have BK321:=n0_;have BK322:=n1_;have HB:=n2_;clear n0_ n1_ n2_;(try clear hb)))
    go_ret
    exact ⟨by rfl,by exact HB.out⟩
   ·replace c8:=Bool.eq_false_iff.mpr c8;subst c8;have H1:(some false)=some r:=by rw [if_neg (show ¬ (false=true) by decide)] at H;exact H
    clear H;have H:=H1;clear H1;cases H;cases hr_
  ·replace c6:=Bool.eq_false_iff.mpr c6;subst c6;have H1:(some false)=some r:=by rw [if_neg (show ¬ (false=true) by decide)] at H;exact H
   clear H;have H:=H1;clear H1;cases H;cases hr_
 ·replace c4:=Bool.eq_false_iff.mpr c4;subst c4;have H1:(some false)=some r:=by rw [if_neg (show ¬ (false=true) by decide)] at H;exact H
  clear H;have H:=H1;clear H1;cases H;cases hr_
end Go.Proofs.YtfpdikledfhcaaaGreatDoor.PFnExactClientOk
