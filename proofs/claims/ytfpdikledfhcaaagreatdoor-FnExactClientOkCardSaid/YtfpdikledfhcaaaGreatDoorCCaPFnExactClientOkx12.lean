import Derived.Test.YtfpdikledfhcaaaGreatDoorCCaPFnExactClientOkx0
import Derived.Test.YtfpdikledfhcaaaGreatDoorCCaPFnExactClientOkx9
import Derived.Test.YtfpdikledfhcaaaGreatDoorCCaPFnExactClientOkx10
import Derived.Test.YtfpdikledfhcaaaGreatDoorCCaPFnExactClientOkx11
namespace Go.Proofs.YtfpdikledfhcaaaGreatDoor.PFnExactClientOk
open Go.RowKit Go.Proofs.YtfpdikledfhcaaaGreatDoorW.PrintWords Go.Proofs.YtfpdikledfhcaaaGreatDoorW.PrintLast Go.Proofs.YtfpdikledfhcaaaGreatDoorW.PrintMore
attribute [local go_sem] max2_int min2_int max_two min_two max_three min_three max_four min_four
set_option linter.unusedVariables false
set_option linter.unusedSimpArgs false
def impl_partOk.l0:Nat → ByteArray → Int → Option (Bool)
 | 0,_,_=>none
 | k + 1,x0,x3=>if x3 < (x0.size:Int) then (if 0 ≤ x3 then (if (bt x0 x3) ≥ 97 then (if (bt x0 x3) ≤ 122 then (impl_partOk.l0 k x0 (wrap64 (x3 + 1))) else (if (bt x0 x3) ≥ 65 then (if (bt x0 x3) ≤ 90 then (impl_partOk.l0 k x0 (wrap64 (x3 + 1))) else ((impl_isFigure.f (bt x0 x3)).bind fun t272=>(if t272=true then (impl_partOk.l0 k x0 (wrap64 (x3 + 1))) else (if ((bt x0 x3)=45) then (impl_partOk.l0 k x0 (wrap64 (x3 + 1))) else (some false))))) else ((impl_isFigure.f (bt x0 x3)).bind fun t273=>(if t273=true then (impl_partOk.l0 k x0 (wrap64 (x3 + 1))) else (if ((bt x0 x3)=45) then (impl_partOk.l0 k x0 (wrap64 (x3 + 1))) else (some false)))))) else (if (bt x0 x3) ≥ 65 then (if (bt x0 x3) ≤ 90 then (impl_partOk.l0 k x0 (wrap64 (x3 + 1))) else ((impl_isFigure.f (bt x0 x3)).bind fun t274=>(if t274=true then (impl_partOk.l0 k x0 (wrap64 (x3 + 1))) else (if ((bt x0 x3)=45) then (impl_partOk.l0 k x0 (wrap64 (x3 + 1))) else (some false))))) else ((impl_isFigure.f (bt x0 x3)).bind fun t275=>(if t275=true then (impl_partOk.l0 k x0 (wrap64 (x3 + 1))) else (if ((bt x0 x3)=45) then (impl_partOk.l0 k x0 (wrap64 (x3 + 1))) else (some false)))))) else (none)) else ((impl_inRange.f (x0.size:Int) 1 8).bind fun t276=>(if t276=true then ((impl_isFigures.f k x0).bind fun t277=>(if t277=true then ((impl_isNumber.f k x0).bind fun t278=>(some t278)) else (some true))) else (some false)))
def impl_partOk.f (k:Nat) (a0:ByteArray):Option (Bool):=impl_partOk.l0 k a0 0
theorem impl_partOk.mono_l : ∀ k,(∀ y0 y1,LeO (impl_partOk.l0 k y0 y1) (impl_partOk.l0 (k + 1) y0 y1))
 | 0=>fun _ _ r h=>by simp [impl_partOk.l0] at h
 | k + 1=>by
  have ih0:=impl_partOk.mono_l k
  ·intro y0 y1;unfold impl_partOk.l0
   repeat' first
   | (with_reducible exact ih0 _ _)
   | (with_reducible exact impl_isFigures.mono _ _)
   | (with_reducible exact impl_isNumber.mono _ _)
   | (with_reducible exact LeO.refl _)
   | (with_reducible refine LeO.ite ?_ ?_)
   | (with_reducible refine LeO.bind ?_ (fun _=>?_))
theorem impl_partOk.mono : ∀ a0 k,LeO (impl_partOk.f k a0) (impl_partOk.f (k + 1) a0):=by
 intro a0 k;have ih0:=impl_partOk.mono_l k;unfold impl_partOk.f
 repeat' (with_reducible exact ih0 _ _)
set_option maxHeartbeats 8000000 in
set_option maxRecDepth 100000 in
theorem impl_partOk.calls (k:Nat) (a0:ByteArray) (r:Bool) (w:World) (h:impl_partOk.f k a0=some r) :
 Calls Tryz.prog 193 #[.string a0] w fun e w'=>e = .returned (.bool r) ∧ Drawn0 w w':=by
 have H:(impl_partOk.l0 k a0 0)=some r:=h;clear h;have H':=a_ H;clear H
 go_enter Tryz.func193,Tryz.ntmps193
 go_wp2
 go_loopg [3] k (fun kq v3 w'=>∃ (x3_1:Int),v3 = .int .i64 x3_1 ∧ Aside0 (impl_partOk.l0 kq a0 x3_1=some r) ∧ Aside0 (kq ≤ k) ∧ Drawn0 w w')
 case atStart=>exact ⟨(0),(by rfl),H',⟨Nat.le_refl _⟩,by repeat (exact Drawn0.refl _)⟩
 case round=>
  clear H';obtain ⟨x3_1,rfl,HA,HK1,⟨m1,rfl⟩⟩:=hrel
  cases gk with
  | zero=>exact absurd HA.out (by simp [impl_partOk.l0])
  | succ k1=>
   have H:=HA.out;clear HA;simp only [impl_partOk.l0] at H
   by_cases c2:x3_1 < (a0.size:Int)
   ·rw [if_pos c2] at H;have c2b0:decide (x3_1 < (a0.size:Int))=true:=decide_eq_true c2;clear c2
    by_cases c3:0 ≤ x3_1
    ·rw [if_pos c3] at H;have c3b0:decide (0 ≤ x3_1)=true:=decide_eq_true c3;clear c3
     by_cases c5:(bt a0 x3_1) ≥ 97
     ·rw [if_pos c5] at H;have c5b0:decide (97 ≤ (bt a0 x3_1))=true:=decide_eq_true c5;clear c5
      by_cases c6:(bt a0 x3_1) ≤ 122
      ·rw [if_pos c6] at H;have c6b0:decide ((bt a0 x3_1) ≤ 122)=true:=decide_eq_true c6;clear c6;have H':=a_ H;clear H;have p4:0 ≤ (x3_1:Int):=of_decide_eq_true (by (with_reducible assumption));have q4:x3_1 < (a0.size:Int):=of_decide_eq_true (by (with_reducible assumption));have hx4:=bt_at a0 x3_1;replace p4:=eq_true p4;replace q4:=eq_true q4
       go_wp2
       go_roundg k1
       case measure=>have:=HK1.out;omega
       case rel=>exact ⟨(wrap64 (x3_1 + 1)),(by rfl),H',⟨by have:=HK1.out;omega⟩,by repeat (first | exact Drawn0.refl _ | apply Drawn0.step)⟩
      ·rw [if_neg c6] at H;have c6b0:decide ((bt a0 x3_1) ≤ 122)=false:=decide_eq_false c6;clear c6
       by_cases c7:(bt a0 x3_1) ≥ 65
       ·rw [if_pos c7] at H;have c7b0:decide (65 ≤ (bt a0 x3_1))=true:=decide_eq_true c7;clear c7
        by_cases c8:(bt a0 x3_1) ≤ 90
        ·rw [if_pos c8] at H;have c8b0:decide ((bt a0 x3_1) ≤ 90)=true:=decide_eq_true c8;clear c8;have H':=a_ H;clear H;have p4:0 ≤ (x3_1:Int):=of_decide_eq_true (by (with_reducible assumption));have q4:x3_1 < (a0.size:Int):=of_decide_eq_true (by (with_reducible assumption));have hx4:=bt_at a0 x3_1;replace p4:=eq_true p4;replace q4:=eq_true q4
         go_wp2
         go_roundg k1
         case measure=>have:=HK1.out;omega
         case rel=>exact ⟨(wrap64 (x3_1 + 1)),(by rfl),H',⟨by have:=HK1.out;omega⟩,by repeat (first | exact Drawn0.refl _ | apply Drawn0.step)⟩
        ·rw [if_neg c8] at H;have c8b0:decide ((bt a0 x3_1) ≤ 90)=false:=decide_eq_false c8;clear c8;replace H:=Option.bind_eq_some_iff.mp H;obtain ⟨t272,A90,H⟩:=H;replace H:(if t272=true then (impl_partOk.l0 k1 a0 (wrap64 (x3_1 + 1))) else (if ((bt a0 x3_1)=45) then (impl_partOk.l0 k1 a0 (wrap64 (x3_1 + 1))) else (some false)))=some r:=H;have A9:=a_ A90;clear A90
         by_cases c10:t272=true
         ·subst c10;have H1:(impl_partOk.l0 k1 a0 (wrap64 (x3_1 + 1)))=some r:=by rw [if_pos rfl] at H;exact H
          clear H;have H:=H1;clear H1;have H':=a_ H;clear H;have p4:0 ≤ (x3_1:Int):=of_decide_eq_true (by (with_reducible assumption));have q4:x3_1 < (a0.size:Int):=of_decide_eq_true (by (with_reducible assumption));have hx4:=bt_at a0 x3_1;replace p4:=eq_true p4;replace q4:=eq_true q4
          go_wp2_with ((go_at_call 201;(with_reducible refine (impl_isFigure.calls (bt a0 x3_1) true _ A9.out).mono ?_);rintro e w' ⟨rfl,⟨nd,rfl⟩⟩))
          go_roundg k1
          case measure=>have:=HK1.out;omega
          case rel=>exact ⟨(wrap64 (x3_1 + 1)),(by rfl),H',⟨by have:=HK1.out;omega⟩,by repeat (first | exact Drawn0.refl _ | apply Drawn0.step)⟩
         ·replace c10:=Bool.eq_false_iff.mpr c10;subst c10;have H1:(if ((bt a0 x3_1)=45) then (impl_partOk.l0 k1 a0 (wrap64 (x3_1 + 1))) else (some false))=some r:=by rw [if_neg (show ¬ (false=true) by decide)] at H;exact H
          clear H;have H:=H1;clear H1
          by_cases c11:((bt a0 x3_1)=45)
          ·rw [if_pos c11] at H;have c11b0:((bt a0 x3_1) == 45)=true:=beq_iff_eq.mpr c11;have c11b1:((bt a0 x3_1) != 45)=false:=bne_eq_false_iff_eq.mpr c11;clear c11;have H':=a_ H;clear H;have p4:0 ≤ (x3_1:Int):=of_decide_eq_true (by (with_reducible assumption));have q4:x3_1 < (a0.size:Int):=of_decide_eq_true (by (with_reducible assumption));have hx4:=bt_at a0 x3_1;replace p4:=eq_true p4;replace q4:=eq_true q4
           go_wp2_with ((go_at_call 201;(with_reducible refine (impl_isFigure.calls (bt a0 x3_1) false _ A9.out).mono ?_);rintro e w' ⟨rfl,⟨nd,rfl⟩⟩))
           go_roundg k1
           case measure=>have:=HK1.out;omega
           case rel=>exact ⟨(wrap64 (x3_1 + 1)),(by rfl),H',⟨by have:=HK1.out;omega⟩,by repeat (first | exact Drawn0.refl _ | apply Drawn0.step)⟩
          ·rw [if_neg c11] at H;have c11b0:((bt a0 x3_1) == 45)=false:=beq_eq_false_iff_ne.mpr c11;have c11b1:((bt a0 x3_1) != 45)=true:=bne_iff_ne.mpr c11;obtain rfl:=Option.some.inj H;have p4:0 ≤ (x3_1:Int):=of_decide_eq_true (by (with_reducible assumption));have q4:x3_1 < (a0.size:Int):=of_decide_eq_true (by (with_reducible assumption));have hx4:=bt_at a0 x3_1;replace p4:=eq_true p4;replace q4:=eq_true q4
           go_wp2_with ((go_at_call 201;(with_reducible refine (impl_isFigure.calls (bt a0 x3_1) false _ A9.out).mono ?_);rintro e w' ⟨rfl,⟨nd,rfl⟩⟩))
           go_ret
           exact ⟨by rfl,by repeat (first | exact Drawn0.refl _ | apply Drawn0.step)⟩
       ·rw [if_neg c7] at H;have c7b0:decide (65 ≤ (bt a0 x3_1))=false:=decide_eq_false c7;clear c7;replace H:=Option.bind_eq_some_iff.mp H;obtain ⟨t273,A120,H⟩:=H;replace H:(if t273=true then (impl_partOk.l0 k1 a0 (wrap64 (x3_1 + 1))) else (if ((bt a0 x3_1)=45) then (impl_partOk.l0 k1 a0 (wrap64 (x3_1 + 1))) else (some false)))=some r:=H;have A12:=a_ A120;clear A120
        by_cases c13:t273=true
        ·subst c13;have H1:(impl_partOk.l0 k1 a0 (wrap64 (x3_1 + 1)))=some r:=by rw [if_pos rfl] at H;exact H
         clear H;have H:=H1;clear H1;have H':=a_ H;clear H;have p4:0 ≤ (x3_1:Int):=of_decide_eq_true (by (with_reducible assumption));have q4:x3_1 < (a0.size:Int):=of_decide_eq_true (by (with_reducible assumption));have hx4:=bt_at a0 x3_1;replace p4:=eq_true p4;replace q4:=eq_true q4
         go_wp2_with ((go_at_call 201;(with_reducible refine (impl_isFigure.calls (bt a0 x3_1) true _ A12.out).mono ?_);rintro e w' ⟨rfl,⟨nd,rfl⟩⟩))
         go_roundg k1
         case measure=>have:=HK1.out;omega
         case rel=>exact ⟨(wrap64 (x3_1 + 1)),(by rfl),H',⟨by have:=HK1.out;omega⟩,by repeat (first | exact Drawn0.refl _ | apply Drawn0.step)⟩
        ·replace c13:=Bool.eq_false_iff.mpr c13;subst c13;have H1:(if ((bt a0 x3_1)=45) then (impl_partOk.l0 k1 a0 (wrap64 (x3_1 + 1))) else (some false))=some r:=by rw [if_neg (show ¬ (false=true) by decide)] at H;exact H
         clear H;have H:=H1;clear H1
         by_cases c14:((bt a0 x3_1)=45)
         ·rw [if_pos c14] at H;have c14b0:((bt a0 x3_1) == 45)=true:=beq_iff_eq.mpr c14;have c14b1:((bt a0 x3_1) != 45)=false:=bne_eq_false_iff_eq.mpr c14;clear c14;have H':=a_ H;clear H;have p4:0 ≤ (x3_1:Int):=of_decide_eq_true (by (with_reducible assumption));have q4:x3_1 < (a0.size:Int):=of_decide_eq_true (by (with_reducible assumption));have hx4:=bt_at a0 x3_1;replace p4:=eq_true p4;replace q4:=eq_true q4
          go_wp2_with ((go_at_call 201;(with_reducible refine (impl_isFigure.calls (bt a0 x3_1) false _ A12.out).mono ?_);rintro e w' ⟨rfl,⟨nd,rfl⟩⟩))
          go_roundg k1
          case measure=>have:=HK1.out;omega
          case rel=>exact ⟨(wrap64 (x3_1 + 1)),(by rfl),H',⟨by have:=HK1.out;omega⟩,by repeat (first | exact Drawn0.refl _ | apply Drawn0.step)⟩
         ·rw [if_neg c14] at H;have c14b0:((bt a0 x3_1) == 45)=false:=beq_eq_false_iff_ne.mpr c14;have c14b1:((bt a0 x3_1) != 45)=true:=bne_iff_ne.mpr c14;obtain rfl:=Option.some.inj H;have p4:0 ≤ (x3_1:Int):=of_decide_eq_true (by (with_reducible assumption));have q4:x3_1 < (a0.size:Int):=of_decide_eq_true (by (with_reducible assumption));have hx4:=bt_at a0 x3_1;replace p4:=eq_true p4;replace q4:=eq_true q4
          go_wp2_with ((go_at_call 201;(with_reducible refine (impl_isFigure.calls (bt a0 x3_1) false _ A12.out).mono ?_);rintro e w' ⟨rfl,⟨nd,rfl⟩⟩))
          go_ret
          exact ⟨by rfl,by repeat (first | exact Drawn0.refl _ | apply Drawn0.step)⟩
     ·rw [if_neg c5] at H;have c5b0:decide (97 ≤ (bt a0 x3_1))=false:=decide_eq_false c5;clear c5
      by_cases c15:(bt a0 x3_1) ≥ 65
      ·rw [if_pos c15] at H;have c15b0:decide (65 ≤ (bt a0 x3_1))=true:=decide_eq_true c15;clear c15
       by_cases c16:(bt a0 x3_1) ≤ 90
       ·rw [if_pos c16] at H;have c16b0:decide ((bt a0 x3_1) ≤ 90)=true:=decide_eq_true c16;clear c16;have H':=a_ H;clear H;have p4:0 ≤ (x3_1:Int):=of_decide_eq_true (by (with_reducible assumption));have q4:x3_1 < (a0.size:Int):=of_decide_eq_true (by (with_reducible assumption));have hx4:=bt_at a0 x3_1;replace p4:=eq_true p4;replace q4:=eq_true q4
        go_wp2
        go_roundg k1
        case measure=>have:=HK1.out;omega
        case rel=>exact ⟨(wrap64 (x3_1 + 1)),(by rfl),H',⟨by have:=HK1.out;omega⟩,by repeat (first | exact Drawn0.refl _ | apply Drawn0.step)⟩
       ·rw [if_neg c16] at H;have c16b0:decide ((bt a0 x3_1) ≤ 90)=false:=decide_eq_false c16;clear c16;replace H:=Option.bind_eq_some_iff.mp H;obtain ⟨t274,A170,H⟩:=H;replace H:(if t274=true then (impl_partOk.l0 k1 a0 (wrap64 (x3_1 + 1))) else (if ((bt a0 x3_1)=45) then (impl_partOk.l0 k1 a0 (wrap64 (x3_1 + 1))) else (some false)))=some r:=H;have A17:=a_ A170;clear A170
        by_cases c18:t274=true
        ·subst c18;have H1:(impl_partOk.l0 k1 a0 (wrap64 (x3_1 + 1)))=some r:=by rw [if_pos rfl] at H;exact H
         clear H;have H:=H1;clear H1;have H':=a_ H;clear H;have p4:0 ≤ (x3_1:Int):=of_decide_eq_true (by (with_reducible assumption));have q4:x3_1 < (a0.size:Int):=of_decide_eq_true (by (with_reducible assumption));have hx4:=bt_at a0 x3_1;replace p4:=eq_true p4;replace q4:=eq_true q4
         go_wp2_with ((go_at_call 201;(with_reducible refine (impl_isFigure.calls (bt a0 x3_1) true _ A17.out).mono ?_);rintro e w' ⟨rfl,⟨nd,rfl⟩⟩))
         go_roundg k1
         case measure=>have:=HK1.out;omega
         case rel=>exact ⟨(wrap64 (x3_1 + 1)),(by rfl),H',⟨by have:=HK1.out;omega⟩,by repeat (first | exact Drawn0.refl _ | apply Drawn0.step)⟩
        ·replace c18:=Bool.eq_false_iff.mpr c18;subst c18;have H1:(if ((bt a0 x3_1)=45) then (impl_partOk.l0 k1 a0 (wrap64 (x3_1 + 1))) else (some false))=some r:=by rw [if_neg (show ¬ (false=true) by decide)] at H;exact H
         clear H;have H:=H1;clear H1
         by_cases c19:((bt a0 x3_1)=45)
         ·rw [if_pos c19] at H;have c19b0:((bt a0 x3_1) == 45)=true:=beq_iff_eq.mpr c19;have c19b1:((bt a0 x3_1) != 45)=false:=bne_eq_false_iff_eq.mpr c19;clear c19;have H':=a_ H;clear H;have p4:0 ≤ (x3_1:Int):=of_decide_eq_true (by (with_reducible assumption));have q4:x3_1 < (a0.size:Int):=of_decide_eq_true (by (with_reducible assumption));have hx4:=bt_at a0 x3_1;replace p4:=eq_true p4;replace q4:=eq_true q4
          go_wp2_with ((go_at_call 201;(with_reducible refine (impl_isFigure.calls (bt a0 x3_1) false _ A17.out).mono ?_);rintro e w' ⟨rfl,⟨nd,rfl⟩⟩))
          go_roundg k1
          case measure=>have:=HK1.out;omega
          case rel=>exact ⟨(wrap64 (x3_1 + 1)),(by rfl),H',⟨by have:=HK1.out;omega⟩,by repeat (first | exact Drawn0.refl _ | apply Drawn0.step)⟩
         ·rw [if_neg c19] at H;have c19b0:((bt a0 x3_1) == 45)=false:=beq_eq_false_iff_ne.mpr c19;have c19b1:((bt a0 x3_1) != 45)=true:=bne_iff_ne.mpr c19;obtain rfl:=Option.some.inj H;have p4:0 ≤ (x3_1:Int):=of_decide_eq_true (by (with_reducible assumption));have q4:x3_1 < (a0.size:Int):=of_decide_eq_true (by (with_reducible assumption));have hx4:=bt_at a0 x3_1;replace p4:=eq_true p4;replace q4:=eq_true q4
          go_wp2_with ((go_at_call 201;(with_reducible refine (impl_isFigure.calls (bt a0 x3_1) false _ A17.out).mono ?_);rintro e w' ⟨rfl,⟨nd,rfl⟩⟩))
          go_ret
          exact ⟨by rfl,by repeat (first | exact Drawn0.refl _ | apply Drawn0.step)⟩
      ·rw [if_neg c15] at H;have c15b0:decide (65 ≤ (bt a0 x3_1))=false:=decide_eq_false c15;clear c15;replace H:=Option.bind_eq_some_iff.mp H;obtain ⟨t275,A200,H⟩:=H;replace H:(if t275=true then (impl_partOk.l0 k1 a0 (wrap64 (x3_1 + 1))) else (if ((bt a0 x3_1)=45) then (impl_partOk.l0 k1 a0 (wrap64 (x3_1 + 1))) else (some false)))=some r:=H;have A20:=a_ A200;clear A200
       by_cases c21:t275=true
       ·subst c21;have H1:(impl_partOk.l0 k1 a0 (wrap64 (x3_1 + 1)))=some r:=by rw [if_pos rfl] at H;exact H
        clear H;have H:=H1;clear H1;have H':=a_ H;clear H;have p4:0 ≤ (x3_1:Int):=of_decide_eq_true (by (with_reducible assumption));have q4:x3_1 < (a0.size:Int):=of_decide_eq_true (by (with_reducible assumption));have hx4:=bt_at a0 x3_1;replace p4:=eq_true p4;replace q4:=eq_true q4
        go_wp2_with ((go_at_call 201;(with_reducible refine (impl_isFigure.calls (bt a0 x3_1) true _ A20.out).mono ?_);rintro e w' ⟨rfl,⟨nd,rfl⟩⟩))
        go_roundg k1
        case measure=>have:=HK1.out;omega
        case rel=>exact ⟨(wrap64 (x3_1 + 1)),(by rfl),H',⟨by have:=HK1.out;omega⟩,by repeat (first | exact Drawn0.refl _ | apply Drawn0.step)⟩
       ·replace c21:=Bool.eq_false_iff.mpr c21;subst c21;have H1:(if ((bt a0 x3_1)=45) then (impl_partOk.l0 k1 a0 (wrap64 (x3_1 + 1))) else (some false))=some r:=by rw [if_neg (show ¬ (false=true) by decide)] at H;exact H
        clear H;have H:=H1;clear H1
        by_cases c22:((bt a0 x3_1)=45)
        ·rw [if_pos c22] at H;have c22b0:((bt a0 x3_1) == 45)=true:=beq_iff_eq.mpr c22;have c22b1:((bt a0 x3_1) != 45)=false:=bne_eq_false_iff_eq.mpr c22;clear c22;have H':=a_ H;clear H;have p4:0 ≤ (x3_1:Int):=of_decide_eq_true (by (with_reducible assumption));have q4:x3_1 < (a0.size:Int):=of_decide_eq_true (by (with_reducible assumption));have hx4:=bt_at a0 x3_1;replace p4:=eq_true p4;replace q4:=eq_true q4
         go_wp2_with ((go_at_call 201;(with_reducible refine (impl_isFigure.calls (bt a0 x3_1) false _ A20.out).mono ?_);rintro e w' ⟨rfl,⟨nd,rfl⟩⟩))
         go_roundg k1
         case measure=>have:=HK1.out;omega
         case rel=>exact ⟨(wrap64 (x3_1 + 1)),(by rfl),H',⟨by have:=HK1.out;omega⟩,by repeat (first | exact Drawn0.refl _ | apply Drawn0.step)⟩
        ·rw [if_neg c22] at H;have c22b0:((bt a0 x3_1) == 45)=false:=beq_eq_false_iff_ne.mpr c22;have c22b1:((bt a0 x3_1) != 45)=true:=bne_iff_ne.mpr c22;obtain rfl:=Option.some.inj H;have p4:0 ≤ (x3_1:Int):=of_decide_eq_true (by (with_reducible assumption));have q4:x3_1 < (a0.size:Int):=of_decide_eq_true (by (with_reducible assumption));have hx4:=bt_at a0 x3_1;replace p4:=eq_true p4;replace q4:=eq_true q4
         go_wp2_with ((go_at_call 201;(with_reducible refine (impl_isFigure.calls (bt a0 x3_1) false _ A20.out).mono ?_);rintro e w' ⟨rfl,⟨nd,rfl⟩⟩))
         go_ret
         exact ⟨by rfl,by repeat (first | exact Drawn0.refl _ | apply Drawn0.step)⟩
    ·rw [if_neg c3] at H;exact absurd H (by simp)
   ·rw [if_neg c2] at H;have c2b0:decide (x3_1 < (a0.size:Int))=false:=decide_eq_false c2;clear c2;replace H:=Option.bind_eq_some_iff.mp H;obtain ⟨t276,A230,H⟩:=H;replace H:(if t276=true then ((impl_isFigures.f k1 a0).bind fun t277=>(if t277=true then ((impl_isNumber.f k1 a0).bind fun t278=>(some t278)) else (some true))) else (some false))=some r:=H;have A23:=a_ A230;clear A230
    by_cases c24:t276=true
    ·subst c24;have H1:((impl_isFigures.f k1 a0).bind fun t277=>(if t277=true then ((impl_isNumber.f k1 a0).bind fun t278=>(some t278)) else (some true)))=some r:=by rw [if_pos rfl] at H;exact H
     clear H;have H:=H1;clear H1;replace H:=Option.bind_eq_some_iff.mp H;obtain ⟨t277,A250,H⟩:=H;replace H:(if t277=true then ((impl_isNumber.f k1 a0).bind fun t278=>(some t278)) else (some true))=some r:=H;have A25:=a_ A250;clear A250
     by_cases c26:t277=true
     ·subst c26;have H1:((impl_isNumber.f k1 a0).bind fun t278=>(some t278))=some r:=by rw [if_pos rfl] at H;exact H
      clear H;have H:=H1;clear H1;replace H:=Option.bind_eq_some_iff.mp H;obtain ⟨t278,A270,H⟩:=H;replace H:(some t278)=some r:=H;have A27:=a_ A270;clear A270;obtain rfl:=Option.some.inj H
      go_wp2_with (first | ((with_reducible refine gate_callee (f:=124) rfl ?_);refine goesL_ (some 39) rfl rfl Tryz.func124 (by kernel_rfl) rfl #[.int .i64 (a0.size:Int),.int .i64 1,.int .i64 8] rfl (by (try simp only [List.map_toArray,List.map_cons,List.map_nil]);rfl) ?_;(with_reducible refine (impl_inRange.calls (a0.size:Int) 1 8 true _ A23.out).mono ?_);rintro e w' ⟨rfl,⟨nd,rfl⟩⟩;refine ⟨_,rfl,?_⟩) | (go_at_call 172;(with_reducible refine (impl_isFigures.calls k1 a0 true _ A25.out).mono ?_);rintro e w' ⟨rfl,⟨nd,rfl⟩⟩) | (go_at_call 147;(with_reducible refine (impl_isNumber.calls k1 a0 t278 _ A27.out).mono ?_);rintro e w' ⟨rfl,⟨nd,rfl⟩⟩))
      go_ret
      exact ⟨by rfl,by repeat (first | exact Drawn0.refl _ | apply Drawn0.step)⟩
     ·replace c26:=Bool.eq_false_iff.mpr c26;subst c26;have H1:(some true)=some r:=by rw [if_neg (show ¬ (false=true) by decide)] at H;exact H
      clear H;have H:=H1;clear H1;obtain rfl:=Option.some.inj H
      go_wp2_with (first | ((with_reducible refine gate_callee (f:=124) rfl ?_);refine goesL_ (some 39) rfl rfl Tryz.func124 (by kernel_rfl) rfl #[.int .i64 (a0.size:Int),.int .i64 1,.int .i64 8] rfl (by (try simp only [List.map_toArray,List.map_cons,List.map_nil]);rfl) ?_;(with_reducible refine (impl_inRange.calls (a0.size:Int) 1 8 true _ A23.out).mono ?_);rintro e w' ⟨rfl,⟨nd,rfl⟩⟩;refine ⟨_,rfl,?_⟩) | (go_at_call 172;(with_reducible refine (impl_isFigures.calls k1 a0 false _ A25.out).mono ?_);rintro e w' ⟨rfl,⟨nd,rfl⟩⟩))
      go_ret
      exact ⟨by rfl,by repeat (first | exact Drawn0.refl _ | apply Drawn0.step)⟩
    ·replace c24:=Bool.eq_false_iff.mpr c24;subst c24;have H1:(some false)=some r:=by rw [if_neg (show ¬ (false=true) by decide)] at H;exact H
     clear H;have H:=H1;clear H1;obtain rfl:=Option.some.inj H
     go_wp2_with (((with_reducible refine gate_callee (f:=124) rfl ?_);refine goesL_ (some 39) rfl rfl Tryz.func124 (by kernel_rfl) rfl #[.int .i64 (a0.size:Int),.int .i64 1,.int .i64 8] rfl (by (try simp only [List.map_toArray,List.map_cons,List.map_nil]);rfl) ?_;(with_reducible refine (impl_inRange.calls (a0.size:Int) 1 8 false _ A23.out).mono ?_);rintro e w' ⟨rfl,⟨nd,rfl⟩⟩;refine ⟨_,rfl,?_⟩))
     go_ret
     exact ⟨by rfl,by repeat (first | exact Drawn0.refl _ | apply Drawn0.step)⟩
def impl_VersionOk.l0:Nat → List ByteArray → Int → Option Bool
 | 0,_,_=>none
 | k + 1,xs,i=>if i < (xs.length:Int) then (if 0 ≤ i then ((impl_partOk.f k (rdOf ByteArray.empty xs i)).bind fun t=>(if t=true then (impl_VersionOk.l0 k xs (wrap64 (i + 1))) else (some false))) else (none)) else (some (decide ((xs.length:Int) ≤ 4)))
def impl_VersionOk.num (a:Int):Bool:=decide (0 ≤ a ∧ a ≤ 1000000)
def impl_VersionOk.f (k:Nat) (a0_0:Int) (a0_1:Int) (a0_2:Int) (a0_3:ByteArray):Option (Bool):=if (impl_VersionOk.num a0_0 && (impl_VersionOk.num a0_1 && impl_VersionOk.num a0_2))=true then (if a0_3.toList=([]:List UInt8) then (some true) else ((strings_Split.f a0_3 (⟨#[46]⟩:ByteArray)).bind fun t=>(impl_VersionOk.l0 k t 0))) else (some false)
theorem impl_VersionOk.mono_l : ∀ k,(∀ y0 y1,LeO (impl_VersionOk.l0 k y0 y1) (impl_VersionOk.l0 (k + 1) y0 y1))
 | 0=>fun _ _ r h=>by simp [impl_VersionOk.l0] at h
 | k + 1=>by
  have ih0:=impl_VersionOk.mono_l k
  ·intro y0 y1;unfold impl_VersionOk.l0
   repeat' first
   | (with_reducible exact ih0 _ _)
   | (with_reducible exact impl_partOk.mono _ _)
   | (with_reducible exact LeO.refl _)
   | (with_reducible refine LeO.ite ?_ ?_)
   | (with_reducible refine LeO.bind ?_ (fun _=>?_))
theorem impl_VersionOk.mono : ∀ a0 a1 a2 a3 k,LeO (impl_VersionOk.f k a0 a1 a2 a3) (impl_VersionOk.f (k + 1) a0 a1 a2 a3):=by
 intro a0 a1 a2 a3 k;have ih0:=impl_VersionOk.mono_l k;unfold impl_VersionOk.f
 repeat' first
  | (with_reducible exact ih0 _ _)
  | (with_reducible exact LeO.refl _)
  | (with_reducible refine LeO.ite ?_ ?_)
  | (with_reducible refine LeO.bind ?_ (fun _=>?_))
theorem impl_VersionOk.drawn {w w':World} (h:Drawn0 w w'):Below w.heap.size w w':=by
 obtain ⟨n,rfl⟩:=h.out;exact pw_below_drewN (Below.refl _ _) n
theorem impl_VersionOk.out {a b c:Int} (h : ¬ (impl_VersionOk.num a && (impl_VersionOk.num b && impl_VersionOk.num c))=true) {k:Nat} {s:ByteArray} {r:Bool} (hf:impl_VersionOk.f k a b c s=some r):r=false:=by
 unfold impl_VersionOk.f at hf;rw [if_neg h] at hf;exact (Option.some.inj hf).symm
theorem impl_VersionOk.no {a:Int} (h:a < 0 ∨ 1000000 < a):impl_VersionOk.num a=false:=by
 unfold impl_VersionOk.num;exact decide_eq_false (by omega)
set_option maxHeartbeats 4000000 in
set_option maxRecDepth 100000 in
theorem impl_VersionOk.callsX (k:Nat) (a b c:Int) (s:ByteArray) (r:Bool) (w:World) (h:impl_VersionOk.f k a b c s=some r) :
 Calls Tryz.prog 164 #[.agg #[.int .i64 a,.int .i64 b,.int .i64 c,.string s]] w fun e w'=>e = .returned (.bool r) ∧ Below w.heap.size w w':=by
 have i0 : ∀ w,(Instr.index 199 (.agg #[.int .i64 a,.int .i64 b,.int .i64 c]) (.int .i64 0)).run Tryz.prog w = .ok (.int .i64 a) w:=fun _=>by kernel_rfl
 have i1 : ∀ w,(Instr.index 199 (.agg #[.int .i64 a,.int .i64 b,.int .i64 c]) (.int .i64 1)).run Tryz.prog w = .ok (.int .i64 b) w:=fun _=>by kernel_rfl
 have i2 : ∀ w,(Instr.index 199 (.agg #[.int .i64 a,.int .i64 b,.int .i64 c]) (.int .i64 2)).run Tryz.prog w = .ok (.int .i64 c) w:=fun _=>by kernel_rfl
 have HH:=a_ h;clear h
 go_enter Tryz.func164,Tryz.ntmps164
 go_wp2
 have HB:=a_ (below_alloc (Below.refl w.heap.size w) (.cells #[.int .i64 a,.int .i64 b,.int .i64 c,.string s] 52));have HX:=a_ (heap_alloc_new w (.cells #[.int .i64 a,.int .i64 b,.int .i64 c,.string s] 52))
 generalize w.alloc (.cells #[.int .i64 a,.int .i64 b,.int .i64 c,.string s] 52)=w1 at HB HX ⊢
 have hx3:w1.cell? ⟨w.heap.size,3,none⟩=some (.string s):=(blk_cell HX.out 3).trans rfl;clear HX
 go_loop [15] (fun v15=>∃ j:Nat,v15 = .int .i64 j ∧ Aside0 (j=0 ∨ (j=1 ∧ impl_VersionOk.num a=true) ∨ (j=2 ∧ impl_VersionOk.num a=true ∧ impl_VersionOk.num b=true) ∨ (j=3 ∧ impl_VersionOk.num a=true ∧ impl_VersionOk.num b=true ∧ impl_VersionOk.num c=true))) (fun v15=>3 - (intOf v15).toNat)
 case atStart=>exact ⟨0,rfl,⟨.inl rfl⟩⟩
 case round=>
  obtain ⟨j,rfl,HJ⟩:=hrel
  rcases HJ.out with rfl | ⟨rfl,n0⟩ | ⟨rfl,n0,n1⟩ | ⟨rfl,n0,n1,n2⟩
  ·clear HJ
   by_cases l0:0 ≤ a
   ·by_cases l1:a ≤ 1000000
    ·have N0:=a_ (show impl_VersionOk.num a=true from decide_eq_true ⟨l0,l1⟩)
     go_wp2
     go_round
     case rel=>exact ⟨1,by rfl,⟨.inr (.inl ⟨rfl,N0.out⟩)⟩⟩
     case measure=>simp [intOf]
    ·have HF:=a_ (impl_VersionOk.out (by rw [impl_VersionOk.no (a:=a) (by omega)];simp) HH.out)
     go_wp2
     go_ret
     exact ⟨by have e:=HF.out;subst e;rfl,HB.out⟩
   ·have HF:=a_ (impl_VersionOk.out (by rw [impl_VersionOk.no (a:=a) (by omega)];simp) HH.out)
    go_wp2
    go_ret
    exact ⟨by have e:=HF.out;subst e;rfl,HB.out⟩
  ·clear HJ;have N0:=a_ n0;clear n0
   by_cases l0:0 ≤ b
   ·by_cases l1:b ≤ 1000000
    ·have N1:=a_ (show impl_VersionOk.num b=true from decide_eq_true ⟨l0,l1⟩)
     go_wp2
     go_round
     case rel=>exact ⟨2,by rfl,⟨.inr (.inr (.inl ⟨rfl,N0.out,N1.out⟩))⟩⟩
     case measure=>simp [intOf]
    ·have HF:=a_ (impl_VersionOk.out (by rw [impl_VersionOk.no (a:=b) (by omega)];simp) HH.out)
     go_wp2
     go_ret
     exact ⟨by have e:=HF.out;subst e;rfl,HB.out⟩
   ·have HF:=a_ (impl_VersionOk.out (by rw [impl_VersionOk.no (a:=b) (by omega)];simp) HH.out)
    go_wp2
    go_ret
    exact ⟨by have e:=HF.out;subst e;rfl,HB.out⟩
  ·clear HJ;have N0:=a_ n0;have N1:=a_ n1;clear n0 n1
   by_cases l0:0 ≤ c
   ·by_cases l1:c ≤ 1000000
    ·have N2:=a_ (show impl_VersionOk.num c=true from decide_eq_true ⟨l0,l1⟩)
     go_wp2
     go_round
     case rel=>exact ⟨3,by rfl,⟨.inr (.inr (.inr ⟨rfl,N0.out,N1.out,N2.out⟩))⟩⟩
     case measure=>simp [intOf]
    ·have HF:=a_ (impl_VersionOk.out (by rw [impl_VersionOk.no (a:=c) (by omega)];simp) HH.out)
     go_wp2
     go_ret
     exact ⟨by have e:=HF.out;subst e;rfl,HB.out⟩
   ·have HF:=a_ (impl_VersionOk.out (by rw [impl_VersionOk.no (a:=c) (by omega)];simp) HH.out)
    go_wp2
    go_ret
    exact ⟨by have e:=HF.out;subst e;rfl,HB.out⟩
  ·clear HJ;have H:=HH.out;unfold impl_VersionOk.f at H;rw [if_pos (by rw [n0,n1,n2];rfl)] at H;clear HH n0 n1 n2 i0 i1 i2
   by_cases e:s.toList=([]:List UInt8)
   ·rw [if_pos e] at H;obtain rfl:=Option.some.inj H;have e1:(s.toList == ([]:List UInt8))=true:=beq_iff_eq.mpr e;have e2:s.toList.isEmpty=true:=by rw [e];rfl
    clear e H
    go_wp2
    go_ret
    exact ⟨rfl,HB.out⟩
   ·rw [if_neg e] at H;have e1:(s.toList == ([]:List UInt8))=false:=beq_eq_false_iff_ne.mpr e;have e2:s.toList.isEmpty=false:=by cases hq:s.toList with | nil=>exact absurd hq e | cons _ _=>rfl
    clear e;replace H:=Option.bind_eq_some_iff.mp H;obtain ⟨xs,hs,H⟩:=H;have HS:=a_ hs;have H':=a_ H;clear hs H
    go_wp2_with (go_at_call 104;(with_reducible refine (strings_Split.calls s (⟨#[46]⟩:ByteArray) xs _ HS.out).mono ?_);rintro e w2 ⟨v0,rfl,ho0,hb⟩;obtain ⟨A0,c0,rfl,hc0,hr0⟩:=Kd.R_reads ho0;have HR:=a_ hr0;have HB2:=a_ (below_step HB.out hb);clear hb ho0 hc0 hr0 hx3)
    go_loopg [7,30] k (fun kq v7 v30 w'=>∃ (x:Int),v30 = .int .i64 x ∧ Aside0 (impl_VersionOk.l0 kq xs x=some r) ∧ Aside0 (kq ≤ k) ∧ Aside0 (Below w2.heap.size w2 w') ∧ Aside0 (Below w.heap.size w w'))
    case atStart=>exact ⟨0,rfl,H',⟨Nat.le_refl _⟩,⟨Below.refl _ _⟩,HB2⟩
    case round=>
     clear H' HB2;obtain ⟨x,rfl,HA,HK1,HW,HB2⟩:=hrel
     cases gk with
     | zero=>exact absurd HA.out (by simp [impl_VersionOk.l0])
     | succ k1=>
      have H:=HA.out;clear HA;simp only [impl_VersionOk.l0] at H
      by_cases c4:x < (xs.length:Int)
      ·rw [if_pos c4] at H;have c4b0:decide (x < (xs.length:Int))=true:=decide_eq_true c4
       by_cases c5:0 ≤ x
       ·rw [if_pos c5] at H;replace H:=Option.bind_eq_some_iff.mp H;obtain ⟨t,ht,H⟩:=H;obtain ⟨ad,ea,hx0⟩:=Kd.at_string HR.out x c5 c4;cases ea;replace hx0:=(HW.out.cell (World.block_lt_of_cell? w2 _ hx0)).trans hx0;have HT:=a_ ht;have HH:=a_ H;clear ht H;replace c4:=eq_true c4;replace c5:=eq_true c5
        go_wp2_with fail
        (with_reducible refine (impl_partOk.calls k1 (rdOf ByteArray.empty xs x) t _ HT.out).mono ?_)
        rintro e w3 ⟨rfl,hd⟩;have hb:=impl_VersionOk.drawn hd;have HB3:=a_ (below_step HB2.out hb);have HW3:=a_ (below_step HW.out hb);clear hb hd hx0 HT;have H:=HH.out;clear HH
        cases t with
        | true=>
         have HH:Aside0 (impl_VersionOk.l0 k1 xs (wrap64 (x + 1))=some r):=⟨H⟩;clear H
         go_wp2
         go_roundg k1
         case measure=>have:=HK1.out;omega
         case rel=>exact ⟨wrap64 (x + 1),by rfl,HH,⟨by have:=HK1.out;omega⟩,HW3,HB3⟩
        | false=>
         have HH:some false=some r:=H;obtain rfl:=Option.some.inj HH;clear H HH
         go_wp2
         go_ret
         exact ⟨rfl,HB3.out⟩
       ·rw [if_neg c5] at H;exact absurd H (by simp)
      ·rw [if_neg c4] at H;have c4b0:decide (x < (xs.length:Int))=false:=decide_eq_false c4;clear c4;obtain rfl:=Option.some.inj H;clear H
       go_wp2
       go_ret
       exact ⟨by rfl,HB2.out⟩
set_option maxHeartbeats 8000000 in
set_option maxRecDepth 100000 in
theorem impl_VersionOk.calls (k:Nat) (a0_0:Int) (a0_1:Int) (a0_2:Int) (a0_3:ByteArray) (r:Bool) (w:World) (h:impl_VersionOk.f k a0_0 a0_1 a0_2 a0_3=some r) :
 Calls Tryz.prog 164 #[.agg #[.int .i64 a0_0,.int .i64 a0_1,.int .i64 a0_2,.string a0_3]] w fun e w'=>e = .returned (.bool r) ∧ Below w.heap.size w w':=by
 exact impl_VersionOk.callsX k a0_0 a0_1 a0_2 a0_3 r w h
def impl_Fits.f (k:Nat) (a0:ByteArray) (a1_0:Int) (a1_1:Int) (a1_2:Int) (a1_3:ByteArray):Option (Bool):=(impl_MajorOf.f k a0).bind fun t280=>(if t280 > 0 then ((impl_VersionOk.f k a1_0 a1_1 a1_2 a1_3).bind fun t281=>(if t281=true then (if a1_0=t280 then (some true) else (if a1_0=0 then (some (t280 == 1)) else (some false))) else (some false))) else (some false))
theorem impl_Fits.mono : ∀ a0 a1 a2 a3 a4 k,LeO (impl_Fits.f k a0 a1 a2 a3 a4) (impl_Fits.f (k + 1) a0 a1 a2 a3 a4):=by
 intro a0 a1 a2 a3 a4 k;unfold impl_Fits.f
 repeat' first
  | (with_reducible exact impl_MajorOf.mono _ _)
  | (with_reducible exact impl_VersionOk.mono _ _ _ _ _)
  | (with_reducible exact LeO.refl _)
  | (with_reducible refine LeO.ite ?_ ?_)
  | (with_reducible refine LeO.bind ?_ (fun _=>?_))
set_option maxHeartbeats 8000000 in
set_option maxRecDepth 100000 in
theorem impl_Fits.calls (k:Nat) (a0:ByteArray) (a1_0:Int) (a1_1:Int) (a1_2:Int) (a1_3:ByteArray) (r:Bool) (w:World) (h:impl_Fits.f k a0 a1_0 a1_1 a1_2 a1_3=some r) :
 Calls Tryz.prog 131 #[.string a0,.agg #[.int .i64 a1_0,.int .i64 a1_1,.int .i64 a1_2,.string a1_3]] w fun e w'=>e = .returned (.bool r) ∧ Below w.heap.size w w':=by
 have hu52:=Tryz.underlying52;have HB:=a_ (Below.refl w.heap.size w);have H:((impl_MajorOf.f k a0).bind fun t280=>(if t280 > 0 then ((impl_VersionOk.f k a1_0 a1_1 a1_2 a1_3).bind fun t281=>(if t281=true then (if a1_0=t280 then (some true) else (if a1_0=0 then (some (t280 == 1)) else (some false))) else (some false))) else (some false)))=some r:=h;clear h;replace H:=Option.bind_eq_some_iff.mp H;obtain ⟨t280,A30,H⟩:=H
 replace H:(if t280 > 0 then ((impl_VersionOk.f k a1_0 a1_1 a1_2 a1_3).bind fun t281=>(if t281=true then (if a1_0=t280 then (some true) else (if a1_0=0 then (some (t280 == 1)) else (some false))) else (some false))) else (some false))=some r:=H;have A3:=a_ A30;clear A30
 by_cases c4:t280 > 0
 ·rw [if_pos c4] at H;have c4b0:decide (0 < t280)=true:=decide_eq_true c4;clear c4;replace H:=Option.bind_eq_some_iff.mp H;obtain ⟨t281,A50,H⟩:=H;replace H:(if t281=true then (if a1_0=t280 then (some true) else (if a1_0=0 then (some (t280 == 1)) else (some false))) else (some false))=some r:=H;have A5:=a_ A50;clear A50
  by_cases c6:t281=true
  ·subst c6;have H1:(if a1_0=t280 then (some true) else (if a1_0=0 then (some (t280 == 1)) else (some false)))=some r:=by rw [if_pos rfl] at H;exact H
   clear H;have H:=H1;clear H1
   by_cases c7:a1_0=t280
   ·rw [if_pos c7] at H;have c7b0:(a1_0 == t280)=true:=beq_iff_eq.mpr c7;have c7b1:(a1_0 != t280)=false:=bne_eq_false_iff_eq.mpr c7;clear c7;obtain rfl:=Option.some.inj H
    go_enter Tryz.func131,Tryz.ntmps131
    go_wp2_with (first | ((with_reducible refine gate_dst (N:=3) rfl ?_);refine box_event ?hg (N:=3) ?hd (cs:=#[.int .i64 a1_0,.int .i64 a1_1,.int .i64 a1_2,.string a1_3]) (t:=52) ?hr ?_;(case hd=>rfl);(case hg=>rfl);(case hr=>(go_simp;done));intro gb279 hg w8 hbox hb;have n0_:=a_ (below_step HB.out hb);have n1_:=a_ (hbox);have n2_:=a_ ((by rw [hg];exact (below_size HB.out):w.heap.size ≤ gb279));have n3_:=a_ ((by rw [hg];exact (below_size HB.out):w.heap.size ≤ gb279));clear HB;have HB:=n0_;have BK279:=n1_;have GW279:=n2_;have GE279:=n3_;clear n0_ n1_ n2_ n3_;clear hb hbox hg) | ((with_reducible refine gate_callee (f:=163) rfl ?_);refine goesL_ (some 7) rfl rfl Tryz.func163 (by kernel_rfl) rfl #[.string a0] rfl (by (try simp only [List.map_toArray,List.map_cons,List.map_nil]);rfl) ?_;(with_reducible refine (impl_MajorOf.calls k a0 t280 _ A3.out).mono ?_);rintro e w9 ⟨rfl,hb⟩;refine ⟨_,rfl,?_⟩;have n0_:=a_ (blk_below (g:=gb279) (o:=.cells #[.int .i64 a1_0,.int .i64 a1_1,.int .i64 a1_2,.string a1_3] 52 (0,0)) (by exact BK279.out) hb);have n1_:=a_ (below_step HB.out hb);clear BK279;clear HB;have BK279:=n0_;have HB:=n1_;clear n0_ n1_;(try clear hb);have hcz10_0:w9.cell? ⟨gb279,0,none⟩=some (.int .i64 a1_0):=(blk_cell BK279.out 0).trans rfl;have hcz10_1:w9.cell? ⟨gb279,1,none⟩=some (.int .i64 a1_1):=(blk_cell BK279.out 1).trans rfl;have hcz10_2:w9.cell? ⟨gb279,2,none⟩=some (.int .i64 a1_2):=(blk_cell BK279.out 2).trans rfl;have hcz10_3:w9.cell? ⟨gb279,3,none⟩=some (.string a1_3):=(blk_cell BK279.out 3).trans rfl;have hfz10_0:=blk_frozen BK279.out 0;have hfz10_1:=blk_frozen BK279.out 1;have hfz10_2:=blk_frozen BK279.out 2;have hfz10_3:=blk_frozen BK279.out 3) | (go_at_call 164;(with_reducible refine (impl_VersionOk.calls k a1_0 a1_1 a1_2 a1_3 true _ A5.out).mono ?_);rintro e w11 ⟨rfl,hb⟩;have n0_:=a_ (blk_below (g:=gb279) (o:=.cells #[.int .i64 a1_0,.int .i64 a1_1,.int .i64 a1_2,.string a1_3] 52 (0,0)) (by exact BK279.out) hb);have n1_:=a_ (below_step HB.out hb);clear BK279;clear HB;have BK279:=n0_;have HB:=n1_;clear n0_ n1_;(try clear hb);have hcz12_0:w11.cell? ⟨gb279,0,none⟩=some (.int .i64 a1_0):=(blk_cell BK279.out 0).trans rfl;have hcz12_1:w11.cell? ⟨gb279,1,none⟩=some (.int .i64 a1_1):=(blk_cell BK279.out 1).trans rfl;have hcz12_2:w11.cell? ⟨gb279,2,none⟩=some (.int .i64 a1_2):=(blk_cell BK279.out 2).trans rfl;have hcz12_3:w11.cell? ⟨gb279,3,none⟩=some (.string a1_3):=(blk_cell BK279.out 3).trans rfl;have hfz12_0:=blk_frozen BK279.out 0;have hfz12_1:=blk_frozen BK279.out 1;have hfz12_2:=blk_frozen BK279.out 2;have hfz12_3:=blk_frozen BK279.out 3))
    go_ret
    exact ⟨by rfl,by exact HB.out⟩
   ·rw [if_neg c7] at H;have c7b0:(a1_0 == t280)=false:=beq_eq_false_iff_ne.mpr c7;have c7b1:(a1_0 != t280)=true:=bne_iff_ne.mpr c7
    by_cases c13:a1_0=0
    ·rw [if_pos c13] at H;have c13b0:(a1_0 == 0)=true:=beq_iff_eq.mpr c13;have c13b1:(a1_0 != 0)=false:=bne_eq_false_iff_eq.mpr c13;clear c13;obtain rfl:=Option.some.inj H
     go_enter Tryz.func131,Tryz.ntmps131
     go_wp2_with (first | ((with_reducible refine gate_dst (N:=3) rfl ?_);refine box_event ?hg (N:=3) ?hd (cs:=#[.int .i64 a1_0,.int .i64 a1_1,.int .i64 a1_2,.string a1_3]) (t:=52) ?hr ?_;(case hd=>rfl);(case hg=>rfl);(case hr=>(go_simp;done));intro gb279 hg w14 hbox hb;have n0_:=a_ (below_step HB.out hb);have n1_:=a_ (hbox);have n2_:=a_ ((by rw [hg];exact (below_size HB.out):w.heap.size ≤ gb279));have n3_:=a_ ((by rw [hg];exact (below_size HB.out):w.heap.size ≤ gb279));clear HB;have HB:=n0_;have BK279:=n1_;have GW279:=n2_;have GE279:=n3_;clear n0_ n1_ n2_ n3_;clear hb hbox hg) | ((with_reducible refine gate_callee (f:=163) rfl ?_);refine goesL_ (some 7) rfl rfl Tryz.func163 (by kernel_rfl) rfl #[.string a0] rfl (by (try simp only [List.map_toArray,List.map_cons,List.map_nil]);rfl) ?_;(with_reducible refine (impl_MajorOf.calls k a0 t280 _ A3.out).mono ?_);rintro e w15 ⟨rfl,hb⟩;refine ⟨_,rfl,?_⟩;have n0_:=a_ (blk_below (g:=gb279) (o:=.cells #[.int .i64 a1_0,.int .i64 a1_1,.int .i64 a1_2,.string a1_3] 52 (0,0)) (by exact BK279.out) hb);have n1_:=a_ (below_step HB.out hb);clear BK279;clear HB;have BK279:=n0_;have HB:=n1_;clear n0_ n1_;(try clear hb);have hcz16_0:w15.cell? ⟨gb279,0,none⟩=some (.int .i64 a1_0):=(blk_cell BK279.out 0).trans rfl;have hcz16_1:w15.cell? ⟨gb279,1,none⟩=some (.int .i64 a1_1):=(blk_cell BK279.out 1).trans rfl;have hcz16_2:w15.cell? ⟨gb279,2,none⟩=some (.int .i64 a1_2):=(blk_cell BK279.out 2).trans rfl;have hcz16_3:w15.cell? ⟨gb279,3,none⟩=some (.string a1_3):=(blk_cell BK279.out 3).trans rfl;have hfz16_0:=blk_frozen BK279.out 0;have hfz16_1:=blk_frozen BK279.out 1;have hfz16_2:=blk_frozen BK279.out 2;have hfz16_3:=blk_frozen BK279.out 3) | (go_at_call 164;(with_reducible refine (impl_VersionOk.calls k a1_0 a1_1 a1_2 a1_3 true _ A5.out).mono ?_);rintro e w17 ⟨rfl,hb⟩;have n0_:=a_ (blk_below (g:=gb279) (o:=.cells #[.int .i64 a1_0,.int .i64 a1_1,.int .i64 a1_2,.string a1_3] 52 (0,0)) (by exact BK279.out) hb);have n1_:=a_ (below_step HB.out hb);clear BK279;clear HB;have BK279:=n0_;have HB:=n1_;clear n0_ n1_;(try clear hb);have hcz18_0:w17.cell? ⟨gb279,0,none⟩=some (.int .i64 a1_0):=(blk_cell BK279.out 0).trans rfl;have hcz18_1:w17.cell? ⟨gb279,1,none⟩=some (.int .i64 a1_1):=(blk_cell BK279.out 1).trans rfl;have hcz18_2:w17.cell? ⟨gb279,2,none⟩=some (.int .i64 a1_2):=(blk_cell BK279.out 2).trans rfl;have hcz18_3:w17.cell? ⟨gb279,3,none⟩=some (.string a1_3):=(blk_cell BK279.out 3).trans rfl;have hfz18_0:=blk_frozen BK279.out 0;have hfz18_1:=blk_frozen BK279.out 1;have hfz18_2:=blk_frozen BK279.out 2;have hfz18_3:=blk_frozen BK279.out 3))
     go_ret
     exact ⟨by rfl,by exact HB.out⟩
    ·rw [if_neg c13] at H;have c13b0:(a1_0 == 0)=false:=beq_eq_false_iff_ne.mpr c13;have c13b1:(a1_0 != 0)=true:=bne_iff_ne.mpr c13;obtain rfl:=Option.some.inj H
     go_enter Tryz.func131,Tryz.ntmps131
     go_wp2_with (first | ((with_reducible refine gate_dst (N:=3) rfl ?_);refine box_event ?hg (N:=3) ?hd (cs:=#[.int .i64 a1_0,.int .i64 a1_1,.int .i64 a1_2,.string a1_3]) (t:=52) ?hr ?_;(case hd=>rfl);(case hg=>rfl);(case hr=>(go_simp;done));intro gb279 hg w19 hbox hb;have n0_:=a_ (below_step HB.out hb);have n1_:=a_ (hbox);have n2_:=a_ ((by rw [hg];exact (below_size HB.out):w.heap.size ≤ gb279));have n3_:=a_ ((by rw [hg];exact (below_size HB.out):w.heap.size ≤ gb279));clear HB;have HB:=n0_;have BK279:=n1_;have GW279:=n2_;have GE279:=n3_;clear n0_ n1_ n2_ n3_;clear hb hbox hg) | ((with_reducible refine gate_callee (f:=163) rfl ?_);refine goesL_ (some 7) rfl rfl Tryz.func163 (by kernel_rfl) rfl #[.string a0] rfl (by (try simp only [List.map_toArray,List.map_cons,List.map_nil]);rfl) ?_;(with_reducible refine (impl_MajorOf.calls k a0 t280 _ A3.out).mono ?_);rintro e w20 ⟨rfl,hb⟩;refine ⟨_,rfl,?_⟩;have n0_:=a_ (blk_below (g:=gb279) (o:=.cells #[.int .i64 a1_0,.int .i64 a1_1,.int .i64 a1_2,.string a1_3] 52 (0,0)) (by exact BK279.out) hb);have n1_:=a_ (below_step HB.out hb);clear BK279;clear HB;have BK279:=n0_;have HB:=n1_;clear n0_ n1_;(try clear hb);have hcz21_0:w20.cell? ⟨gb279,0,none⟩=some (.int .i64 a1_0):=(blk_cell BK279.out 0).trans rfl;have hcz21_1:w20.cell? ⟨gb279,1,none⟩=some (.int .i64 a1_1):=(blk_cell BK279.out 1).trans rfl;have hcz21_2:w20.cell? ⟨gb279,2,none⟩=some (.int .i64 a1_2):=(blk_cell BK279.out 2).trans rfl;have hcz21_3:w20.cell? ⟨gb279,3,none⟩=some (.string a1_3):=(blk_cell BK279.out 3).trans rfl;have hfz21_0:=blk_frozen BK279.out 0;have hfz21_1:=blk_frozen BK279.out 1;have hfz21_2:=blk_frozen BK279.out 2;have hfz21_3:=blk_frozen BK279.out 3) | (go_at_call 164;(with_reducible refine (impl_VersionOk.calls k a1_0 a1_1 a1_2 a1_3 true _ A5.out).mono ?_);rintro e w22 ⟨rfl,hb⟩;have n0_:=a_ (blk_below (g:=gb279) (o:=.cells #[.int .i64 a1_0,.int .i64 a1_1,.int .i64 a1_2,.string a1_3] 52 (0,0)) (by exact BK279.out) hb);have n1_:=a_ (below_step HB.out hb);clear BK279;clear HB;have BK279:=n0_;have HB:=n1_;clear n0_ n1_;(try clear hb);have hcz23_0:w22.cell? ⟨gb279,0,none⟩=some (.int .i64 a1_0):=(blk_cell BK279.out 0).trans rfl;have hcz23_1:w22.cell? ⟨gb279,1,none⟩=some (.int .i64 a1_1):=(blk_cell BK279.out 1).trans rfl;have hcz23_2:w22.cell? ⟨gb279,2,none⟩=some (.int .i64 a1_2):=(blk_cell BK279.out 2).trans rfl;have hcz23_3:w22.cell? ⟨gb279,3,none⟩=some (.string a1_3):=(blk_cell BK279.out 3).trans rfl;have hfz23_0:=blk_frozen BK279.out 0;have hfz23_1:=blk_frozen BK279.out 1;have hfz23_2:=blk_frozen BK279.out 2;have hfz23_3:=blk_frozen BK279.out 3))
     go_ret
     exact ⟨by rfl,by exact HB.out⟩
  ·replace c6:=Bool.eq_false_iff.mpr c6;subst c6;have H1:(some false)=some r:=by rw [if_neg (show ¬ (false=true) by decide)] at H;exact H
   clear H;have H:=H1;clear H1;obtain rfl:=Option.some.inj H
   go_enter Tryz.func131,Tryz.ntmps131
   go_wp2_with (first | ((with_reducible refine gate_dst (N:=3) rfl ?_);refine box_event ?hg (N:=3) ?hd (cs:=#[.int .i64 a1_0,.int .i64 a1_1,.int .i64 a1_2,.string a1_3]) (t:=52) ?hr ?_;(case hd=>rfl);(case hg=>rfl);(case hr=>(go_simp;done));intro gb279 hg w24 hbox hb;have n0_:=a_ (below_step HB.out hb);have n1_:=a_ (hbox);have n2_:=a_ ((by rw [hg];exact (below_size HB.out):w.heap.size ≤ gb279));have n3_:=a_ ((by rw [hg];exact (below_size HB.out):w.heap.size ≤ gb279));clear HB;have HB:=n0_;have BK279:=n1_;have GW279:=n2_;have GE279:=n3_;clear n0_ n1_ n2_ n3_;clear hb hbox hg) | ((with_reducible refine gate_callee (f:=163) rfl ?_);refine goesL_ (some 7) rfl rfl Tryz.func163 (by kernel_rfl) rfl #[.string a0] rfl (by (try simp only [List.map_toArray,List.map_cons,List.map_nil]);rfl) ?_;(with_reducible refine (impl_MajorOf.calls k a0 t280 _ A3.out).mono ?_);rintro e w25 ⟨rfl,hb⟩;refine ⟨_,rfl,?_⟩;have n0_:=a_ (blk_below (g:=gb279) (o:=.cells #[.int .i64 a1_0,.int .i64 a1_1,.int .i64 a1_2,.string a1_3] 52 (0,0)) (by exact BK279.out) hb);have n1_:=a_ (below_step HB.out hb);clear BK279;clear HB;have BK279:=n0_;have HB:=n1_;clear n0_ n1_;(try clear hb);have hcz26_0:w25.cell? ⟨gb279,0,none⟩=some (.int .i64 a1_0):=(blk_cell BK279.out 0).trans rfl;have hcz26_1:w25.cell? ⟨gb279,1,none⟩=some (.int .i64 a1_1):=(blk_cell BK279.out 1).trans rfl;have hcz26_2:w25.cell? ⟨gb279,2,none⟩=some (.int .i64 a1_2):=(blk_cell BK279.out 2).trans rfl;have hcz26_3:w25.cell? ⟨gb279,3,none⟩=some (.string a1_3):=(blk_cell BK279.out 3).trans rfl;have hfz26_0:=blk_frozen BK279.out 0;have hfz26_1:=blk_frozen BK279.out 1;have hfz26_2:=blk_frozen BK279.out 2;have hfz26_3:=blk_frozen BK279.out 3) | (go_at_call 164;(with_reducible refine (impl_VersionOk.calls k a1_0 a1_1 a1_2 a1_3 false _ A5.out).mono ?_);rintro e w27 ⟨rfl,hb⟩;have n0_:=a_ (blk_below (g:=gb279) (o:=.cells #[.int .i64 a1_0,.int .i64 a1_1,.int .i64 a1_2,.string a1_3] 52 (0,0)) (by exact BK279.out) hb);have n1_:=a_ (below_step HB.out hb);clear BK279;clear HB;have BK279:=n0_;have HB:=n1_;clear n0_ n1_;(try clear hb)))
   go_ret
   exact ⟨by rfl,by exact HB.out⟩
 ·rw [if_neg c4] at H;have c4b0:decide (0 < t280)=false:=decide_eq_false c4;clear c4;obtain rfl:=Option.some.inj H
  go_enter Tryz.func131,Tryz.ntmps131
  go_wp2_with (first | ((with_reducible refine gate_dst (N:=3) rfl ?_);refine box_event ?hg (N:=3) ?hd (cs:=#[.int .i64 a1_0,.int .i64 a1_1,.int .i64 a1_2,.string a1_3]) (t:=52) ?hr ?_;(case hd=>rfl);(case hg=>rfl);(case hr=>(go_simp;done));intro gb279 hg w28 hbox hb;have n0_:=a_ (below_step HB.out hb);have n1_:=a_ (hbox);have n2_:=a_ ((by rw [hg];exact (below_size HB.out):w.heap.size ≤ gb279));have n3_:=a_ ((by rw [hg];exact (below_size HB.out):w.heap.size ≤ gb279));clear HB;have HB:=n0_;have BK279:=n1_;have GW279:=n2_;have GE279:=n3_;clear n0_ n1_ n2_ n3_;clear hb hbox hg) | ((with_reducible refine gate_callee (f:=163) rfl ?_);refine goesL_ (some 7) rfl rfl Tryz.func163 (by kernel_rfl) rfl #[.string a0] rfl (by (try simp only [List.map_toArray,List.map_cons,List.map_nil]);rfl) ?_;(with_reducible refine (impl_MajorOf.calls k a0 t280 _ A3.out).mono ?_);rintro e w29 ⟨rfl,hb⟩;refine ⟨_,rfl,?_⟩;have n0_:=a_ (blk_below (g:=gb279) (o:=.cells #[.int .i64 a1_0,.int .i64 a1_1,.int .i64 a1_2,.string a1_3] 52 (0,0)) (by exact BK279.out) hb);have n1_:=a_ (below_step HB.out hb);clear BK279;clear HB;have BK279:=n0_;have HB:=n1_;clear n0_ n1_;(try clear hb)))
  go_ret
  exact ⟨by rfl,by exact HB.out⟩
def impl_NeedOk.f (k:Nat) (a0_0:ByteArray) (a0_1:Int) (a0_2:Int) (a0_3:Int) (a0_4:ByteArray):Option (Bool):=(impl_Fits.f k a0_0 a0_1 a0_2 a0_3 a0_4).bind fun t283=>(some t283)
theorem impl_NeedOk.mono : ∀ a0 a1 a2 a3 a4 k,LeO (impl_NeedOk.f k a0 a1 a2 a3 a4) (impl_NeedOk.f (k + 1) a0 a1 a2 a3 a4):=by
 intro a0 a1 a2 a3 a4 k;unfold impl_NeedOk.f
 repeat' first
  | (with_reducible exact impl_Fits.mono _ _ _ _ _ _)
  | (with_reducible exact LeO.refl _)
  | (with_reducible refine LeO.bind ?_ (fun _=>?_))
set_option maxHeartbeats 8000000 in
set_option maxRecDepth 100000 in
theorem impl_NeedOk.calls (k:Nat) (a0_0:ByteArray) (a0_1:Int) (a0_2:Int) (a0_3:Int) (a0_4:ByteArray) (r:Bool) (w:World) (h:impl_NeedOk.f k a0_0 a0_1 a0_2 a0_3 a0_4=some r) :
 Calls Tryz.prog 125 #[.agg #[.string a0_0,.int .i64 a0_1,.int .i64 a0_2,.int .i64 a0_3,.string a0_4]] w fun e w'=>e = .returned (.bool r) ∧ Below w.heap.size w w':=by
 have hu58:=Tryz.underlying58;have hu52:=Tryz.underlying52;have HB:=a_ (Below.refl w.heap.size w);have H:((impl_Fits.f k a0_0 a0_1 a0_2 a0_3 a0_4).bind fun t283=>(some t283))=some r:=h;clear h;replace H:=Option.bind_eq_some_iff.mp H;obtain ⟨t283,A20,H⟩:=H;replace H:(some t283)=some r:=H;have A2:=a_ A20;clear A20;obtain rfl:=Option.some.inj H
 go_enter Tryz.func125,Tryz.ntmps125
 go_wp2_with (first | ((with_reducible refine gate_dst (N:=1) rfl ?_);refine box_event ?hg (N:=1) ?hd (cs:=#[.string a0_0,.int .i64 a0_1,.int .i64 a0_2,.int .i64 a0_3,.string a0_4]) (t:=58) ?hr ?_;(case hd=>rfl);(case hg=>rfl);(case hr=>(go_simp;done));intro gb282 hg w3 hbox hb;have n0_:=a_ (below_step HB.out hb);have n1_:=a_ (hbox);have n2_:=a_ ((by rw [hg];exact (below_size HB.out):w.heap.size ≤ gb282));have n3_:=a_ ((by rw [hg];exact (below_size HB.out):w.heap.size ≤ gb282));clear HB;have HB:=n0_;have BK282:=n1_;have GW282:=n2_;have GE282:=n3_;clear n0_ n1_ n2_ n3_;clear hb hbox hg;have hcz4_0:w3.cell? ⟨gb282,0,none⟩=some (.string a0_0):=(blk_cell BK282.out 0).trans rfl;have hcz4_1:w3.cell? ⟨gb282,1,none⟩=some (.int .i64 a0_1):=(blk_cell BK282.out 1).trans rfl;have hcz4_2:w3.cell? ⟨gb282,2,none⟩=some (.int .i64 a0_2):=(blk_cell BK282.out 2).trans rfl;have hcz4_3:w3.cell? ⟨gb282,3,none⟩=some (.int .i64 a0_3):=(blk_cell BK282.out 3).trans rfl;have hcz4_4:w3.cell? ⟨gb282,4,none⟩=some (.string a0_4):=(blk_cell BK282.out 4).trans rfl;have hfz4_0:=blk_frozen BK282.out 0;have hfz4_1:=blk_frozen BK282.out 1;have hfz4_2:=blk_frozen BK282.out 2;have hfz4_3:=blk_frozen BK282.out 3;have hfz4_4:=blk_frozen BK282.out 4) | ((with_reducible refine gate_callee (f:=131) rfl ?_);refine goesL_ (some 7) rfl rfl Tryz.func131 (by kernel_rfl) rfl #[.string a0_0,.agg #[.int .i64 a0_1,.int .i64 a0_2,.int .i64 a0_3,.string a0_4]] rfl (by (try simp only [List.map_toArray,List.map_cons,List.map_nil]);rfl) ?_;(with_reducible refine (impl_Fits.calls k a0_0 a0_1 a0_2 a0_3 a0_4 t283 _ A2.out).mono ?_);rintro e w5 ⟨rfl,hb⟩;refine ⟨_,rfl,?_⟩;have n0_:=a_ (blk_below (g:=gb282) (o:=.cells #[.string a0_0,.int .i64 a0_1,.int .i64 a0_2,.int .i64 a0_3,.string a0_4] 58 (0,0)) (by exact BK282.out) hb);have n1_:=a_ (below_step HB.out hb);clear BK282;clear HB;have BK282:=n0_;have HB:=n1_;clear n0_ n1_;(try clear hb)))
 go_ret
 exact ⟨by rfl,by exact HB.out⟩
end Go.Proofs.YtfpdikledfhcaaaGreatDoor.PFnExactClientOk
