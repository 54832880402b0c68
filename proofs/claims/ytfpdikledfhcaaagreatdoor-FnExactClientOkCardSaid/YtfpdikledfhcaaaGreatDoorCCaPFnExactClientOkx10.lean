import Derived.Test.YtfpdikledfhcaaaGreatDoorCCaPFnExactClientOkx0
import Derived.Test.YtfpdikledfhcaaaGreatDoorCCaPFnExactClientOkx9
namespace Go.Proofs.YtfpdikledfhcaaaGreatDoor.PFnExactClientOk
open Go.RowKit Go.Proofs.YtfpdikledfhcaaaGreatDoorW.PrintWords Go.Proofs.YtfpdikledfhcaaaGreatDoorW.PrintLast Go.Proofs.YtfpdikledfhcaaaGreatDoorW.PrintMore
attribute [local go_sem] max2_int min2_int max_two min_two max_three min_three max_four min_four
set_option linter.unusedVariables false
set_option linter.unusedSimpArgs false
def impl_pathPartOk.l0:Nat → ByteArray → Int → Option (Bool)
 | 0,_,_=>none
 | k + 1,x0,x3=>if x3 < (x0.size:Int) then (if 0 ≤ x3 then (if (bt x0 x3) ≥ 97 then (if (bt x0 x3) ≤ 122 then (impl_pathPartOk.l0 k x0 (wrap64 (x3 + 1))) else ((impl_isFigure.f (bt x0 x3)).bind fun t250=>(if t250=true then (impl_pathPartOk.l0 k x0 (wrap64 (x3 + 1))) else (if x3=0 then (some false) else (if (bt x0 x3)=45 then (impl_pathPartOk.l0 k x0 (wrap64 (x3 + 1))) else (if (bt x0 x3)=46 then (impl_pathPartOk.l0 k x0 (wrap64 (x3 + 1))) else (if (bt x0 x3)=95 then (impl_pathPartOk.l0 k x0 (wrap64 (x3 + 1))) else (some false)))))))) else ((impl_isFigure.f (bt x0 x3)).bind fun t251=>(if t251=true then (impl_pathPartOk.l0 k x0 (wrap64 (x3 + 1))) else (if x3=0 then (some false) else (if (bt x0 x3)=45 then (impl_pathPartOk.l0 k x0 (wrap64 (x3 + 1))) else (if (bt x0 x3)=46 then (impl_pathPartOk.l0 k x0 (wrap64 (x3 + 1))) else (if (bt x0 x3)=95 then (impl_pathPartOk.l0 k x0 (wrap64 (x3 + 1))) else (some false)))))))) else (none)) else ((impl_inRange.f (x0.size:Int) 1 20).bind fun t252=>(some t252))
def impl_pathPartOk.f (k:Nat) (a0:ByteArray):Option (Bool):=impl_pathPartOk.l0 k a0 0
theorem impl_pathPartOk.mono_l : ∀ k,(∀ y0 y1,LeO (impl_pathPartOk.l0 k y0 y1) (impl_pathPartOk.l0 (k + 1) y0 y1))
 | 0=>fun _ _ r h=>by simp [impl_pathPartOk.l0] at h
 | k + 1=>by
  have ih0:=impl_pathPartOk.mono_l k
  ·intro y0 y1;unfold impl_pathPartOk.l0
   repeat' first
   | (with_reducible exact ih0 _ _)
   | (with_reducible exact LeO.refl _)
   | (with_reducible refine LeO.ite ?_ ?_)
   | (with_reducible refine LeO.bind ?_ (fun _=>?_))
theorem impl_pathPartOk.mono : ∀ a0 k,LeO (impl_pathPartOk.f k a0) (impl_pathPartOk.f (k + 1) a0):=by
 intro a0 k;have ih0:=impl_pathPartOk.mono_l k;unfold impl_pathPartOk.f
 repeat' (with_reducible exact ih0 _ _)
set_option maxHeartbeats 8000000 in
set_option maxRecDepth 100000 in
theorem impl_pathPartOk.calls (k:Nat) (a0:ByteArray) (r:Bool) (w:World) (h:impl_pathPartOk.f k a0=some r) :
 Calls Tryz.prog 220 #[.string a0] w fun e w'=>e = .returned (.bool r) ∧ Drawn0 w w':=by
 have H:(impl_pathPartOk.l0 k a0 0)=some r:=h;clear h;have H':=a_ H;clear H
 go_enter Tryz.func220,Tryz.ntmps220
 go_wp2
 go_loopg [3] k (fun kq v3 w'=>∃ (x3_1:Int),v3 = .int .i64 x3_1 ∧ Aside0 (impl_pathPartOk.l0 kq a0 x3_1=some r) ∧ Aside0 (kq ≤ k) ∧ Drawn0 w w')
 case atStart=>exact ⟨(0),(by rfl),H',⟨Nat.le_refl _⟩,by repeat (exact Drawn0.refl _)⟩
 case round=>
  clear H';obtain ⟨x3_1,rfl,HA,HK1,⟨m1,rfl⟩⟩:=hrel
  cases gk with
  | zero=>exact absurd HA.out (by simp [impl_pathPartOk.l0])
  | succ k1=>
   have H:=HA.out;clear HA;simp only [impl_pathPartOk.l0] at H
   by_cases c2:x3_1 < (a0.size:Int)
   ·rw [if_pos c2] at H;have c2b0:decide (x3_1 < (a0.size:Int))=true:=decide_eq_true c2;clear c2
    by_cases c3:0 ≤ x3_1
    ·rw [if_pos c3] at H;have c3b0:decide (0 ≤ x3_1)=true:=decide_eq_true c3;clear c3
     by_cases c5:(bt a0 x3_1) ≥ 97
     ·rw [if_pos c5] at H;have c5b0:decide (97 ≤ (bt a0 x3_1))=true:=decide_eq_true c5;clear c5
      by_cases c6:(bt a0 x3_1) ≤ 122
      ·rw [if_pos c6] at H;have c6b0:decide ((bt a0 x3_1) ≤ 122)=true:=decide_eq_true c6;clear c6;have H':=a_ H;clear H;have p4:0 ≤ (x3_1:Int):=of_decide_eq_true (by (with_reducible assumption));have q4:x3_1 < (a0.size:Int):=of_decide_eq_true (by (with_reducible assumption));have hx4:=bt_at a0 x3_1;replace p4:=eq_true p4;replace q4:=eq_true q4
       go_wp2
       go_roundg k1
       case measure=>have:=HK1.out;omega
       case rel=>exact ⟨(wrap64 (x3_1 + 1)),(by rfl),H',⟨by have:=HK1.out;omega⟩,by repeat (first | exact Drawn0.refl _ | apply Drawn0.step)⟩
      ·rw [if_neg c6] at H;have c6b0:decide ((bt a0 x3_1) ≤ 122)=false:=decide_eq_false c6;clear c6;replace H:=Option.bind_eq_some_iff.mp H;obtain ⟨t250,A70,H⟩:=H;replace H:(if t250=true then (impl_pathPartOk.l0 k1 a0 (wrap64 (x3_1 + 1))) else (if x3_1=0 then (some false) else (if (bt a0 x3_1)=45 then (impl_pathPartOk.l0 k1 a0 (wrap64 (x3_1 + 1))) else (if (bt a0 x3_1)=46 then (impl_pathPartOk.l0 k1 a0 (wrap64 (x3_1 + 1))) else (if (bt a0 x3_1)=95 then (impl_pathPartOk.l0 k1 a0 (wrap64 (x3_1 + 1))) else (some false))))))=some r:=H
       have A7:=a_ A70;clear A70
       by_cases c8:t250=true
       ·subst c8;have H1:(impl_pathPartOk.l0 k1 a0 (wrap64 (x3_1 + 1)))=some r:=by rw [if_pos rfl] at H;exact H
        clear H;have H:=H1;clear H1;have H':=a_ H;clear H;have p4:0 ≤ (x3_1:Int):=of_decide_eq_true (by (with_reducible assumption));have q4:x3_1 < (a0.size:Int):=of_decide_eq_true (by (with_reducible assumption));have hx4:=bt_at a0 x3_1;replace p4:=eq_true p4;replace q4:=eq_true q4
        go_wp2_with ((go_at_call 201;(with_reducible refine (impl_isFigure.calls (bt a0 x3_1) true _ A7.out).mono ?_);rintro e w' ⟨rfl,⟨nd,rfl⟩⟩))
        go_roundg k1
        case measure=>have:=HK1.out;omega
        case rel=>exact ⟨(wrap64 (x3_1 + 1)),(by rfl),H',⟨by have:=HK1.out;omega⟩,by repeat (first | exact Drawn0.refl _ | apply Drawn0.step)⟩
       ·replace c8:=Bool.eq_false_iff.mpr c8;subst c8;have H1:(if x3_1=0 then (some false) else (if (bt a0 x3_1)=45 then (impl_pathPartOk.l0 k1 a0 (wrap64 (x3_1 + 1))) else (if (bt a0 x3_1)=46 then (impl_pathPartOk.l0 k1 a0 (wrap64 (x3_1 + 1))) else (if (bt a0 x3_1)=95 then (impl_pathPartOk.l0 k1 a0 (wrap64 (x3_1 + 1))) else (some false)))))=some r:=by rw [if_neg (show ¬ (false=true) by decide)] at H;exact H
        clear H;have H:=H1;clear H1
        by_cases c9:x3_1=0
        ·rw [if_pos c9] at H;have c9b0:(x3_1 == 0)=true:=beq_iff_eq.mpr c9;have c9b1:(x3_1 != 0)=false:=bne_eq_false_iff_eq.mpr c9;clear c9;obtain rfl:=Option.some.inj H;have p4:0 ≤ (x3_1:Int):=of_decide_eq_true (by (with_reducible assumption));have q4:x3_1 < (a0.size:Int):=of_decide_eq_true (by (with_reducible assumption));have hx4:=bt_at a0 x3_1;replace p4:=eq_true p4;replace q4:=eq_true q4
         go_wp2_with ((go_at_call 201;(with_reducible refine (impl_isFigure.calls (bt a0 x3_1) false _ A7.out).mono ?_);rintro e w' ⟨rfl,⟨nd,rfl⟩⟩))
         go_ret
         exact ⟨by rfl,by repeat (first | exact Drawn0.refl _ | apply Drawn0.step)⟩
        ·rw [if_neg c9] at H;have c9b0:(x3_1 == 0)=false:=beq_eq_false_iff_ne.mpr c9;have c9b1:(x3_1 != 0)=true:=bne_iff_ne.mpr c9
         by_cases c10:(bt a0 x3_1)=45
         ·rw [if_pos c10] at H;have c10b0:((bt a0 x3_1) == 45)=true:=beq_iff_eq.mpr c10;have c10b1:((bt a0 x3_1) != 45)=false:=bne_eq_false_iff_eq.mpr c10;clear c10;have H':=a_ H;clear H;have p4:0 ≤ (x3_1:Int):=of_decide_eq_true (by (with_reducible assumption));have q4:x3_1 < (a0.size:Int):=of_decide_eq_true (by (with_reducible assumption));have hx4:=bt_at a0 x3_1;replace p4:=eq_true p4;replace q4:=eq_true q4
          go_wp2_with ((go_at_call 201;(with_reducible refine (impl_isFigure.calls (bt a0 x3_1) false _ A7.out).mono ?_);rintro e w' ⟨rfl,⟨nd,rfl⟩⟩))
          go_roundg k1
          case measure=>have:=HK1.out;omega
          case rel=>exact ⟨(wrap64 (x3_1 + 1)),(by rfl),H',⟨by have:=HK1.out;omega⟩,by repeat (first | exact Drawn0.refl _ | apply Drawn0.step)⟩
         ·rw [if_neg c10] at H;have c10b0:((bt a0 x3_1) == 45)=false:=beq_eq_false_iff_ne.mpr c10;have c10b1:((bt a0 x3_1) != 45)=true:=bne_iff_ne.mpr c10
          by_cases c11:(bt a0 x3_1)=46
          ·rw [if_pos c11] at H;have c11b0:((bt a0 x3_1) == 46)=true:=beq_iff_eq.mpr c11;have c11b1:((bt a0 x3_1) != 46)=false:=bne_eq_false_iff_eq.mpr c11;clear c11;have H':=a_ H;clear H;have p4:0 ≤ (x3_1:Int):=of_decide_eq_true (by (with_reducible assumption));have q4:x3_1 < (a0.size:Int):=of_decide_eq_true (by (with_reducible assumption));have hx4:=bt_at a0 x3_1;replace p4:=eq_true p4;replace q4:=eq_true q4
           go_wp2_with ((go_at_call 201;(with_reducible refine (impl_isFigure.calls (bt a0 x3_1) false _ A7.out).mono ?_);rintro e w' ⟨rfl,⟨nd,rfl⟩⟩))
           go_roundg k1
           case measure=>have:=HK1.out;omega
           case rel=>exact ⟨(wrap64 (x3_1 + 1)),(by rfl),H',⟨by have:=HK1.out;omega⟩,by repeat (first | exact Drawn0.refl _ | apply Drawn0.step)⟩
          ·rw [if_neg c11] at H;have c11b0:((bt a0 x3_1) == 46)=false:=beq_eq_false_iff_ne.mpr c11;have c11b1:((bt a0 x3_1) != 46)=true:=bne_iff_ne.mpr c11
           by_cases c12:(bt a0 x3_1)=95
           ·rw [if_pos c12] at H;have c12b0:((bt a0 x3_1) == 95)=true:=beq_iff_eq.mpr c12;have c12b1:((bt a0 x3_1) != 95)=false:=bne_eq_false_iff_eq.mpr c12;clear c12;have H':=a_ H;clear H;have p4:0 ≤ (x3_1:Int):=of_decide_eq_true (by (with_reducible assumption));have q4:x3_1 < (a0.size:Int):=of_decide_eq_true (by (with_reducible assumption));have hx4:=bt_at a0 x3_1;replace p4:=eq_true p4;replace q4:=eq_true q4
            go_wp2_with ((go_at_call 201;(with_reducible refine (impl_isFigure.calls (bt a0 x3_1) false _ A7.out).mono ?_);rintro e w' ⟨rfl,⟨nd,rfl⟩⟩))
            go_roundg k1
            case measure=>have:=HK1.out;omega
            case rel=>exact ⟨(wrap64 (x3_1 + 1)),(by rfl),H',⟨by have:=HK1.out;omega⟩,by repeat (first | exact Drawn0.refl _ | apply Drawn0.step)⟩
           ·rw [if_neg c12] at H;have c12b0:((bt a0 x3_1) == 95)=false:=beq_eq_false_iff_ne.mpr c12;have c12b1:((bt a0 x3_1) != 95)=true:=bne_iff_ne.mpr c12;obtain rfl:=Option.some.inj H;have p4:0 ≤ (x3_1:Int):=of_decide_eq_true (by (with_reducible assumption));have q4:x3_1 < (a0.size:Int):=of_decide_eq_true (by (with_reducible assumption));have hx4:=bt_at a0 x3_1;replace p4:=eq_true p4;replace q4:=eq_true q4
            go_wp2_with ((go_at_call 201;(with_reducible refine (impl_isFigure.calls (bt a0 x3_1) false _ A7.out).mono ?_);rintro e w' ⟨rfl,⟨nd,rfl⟩⟩))
            go_ret
            exact ⟨by rfl,by repeat (first | exact Drawn0.refl _ | apply Drawn0.step)⟩
     ·rw [if_neg c5] at H;have c5b0:decide (97 ≤ (bt a0 x3_1))=false:=decide_eq_false c5;clear c5;replace H:=Option.bind_eq_some_iff.mp H;obtain ⟨t251,A130,H⟩:=H;replace H:(if t251=true then (impl_pathPartOk.l0 k1 a0 (wrap64 (x3_1 + 1))) else (if x3_1=0 then (some false) else (if (bt a0 x3_1)=45 then (impl_pathPartOk.l0 k1 a0 (wrap64 (x3_1 + 1))) else (if (bt a0 x3_1)=46 then (impl_pathPartOk.l0 k1 a0 (wrap64 (x3_1 + 1))) else (if (bt a0 x3_1)=95 then (impl_pathPartOk.l0 k1 a0 (wrap64 (x3_1 + 1))) else (some false))))))=some r:=H
      have A13:=a_ A130;clear A130
      by_cases c14:t251=true
      ·subst c14;have H1:(impl_pathPartOk.l0 k1 a0 (wrap64 (x3_1 + 1)))=some r:=by rw [if_pos rfl] at H;exact H
       clear H;have H:=H1;clear H1;have H':=a_ H;clear H;have p4:0 ≤ (x3_1:Int):=of_decide_eq_true (by (with_reducible assumption));have q4:x3_1 < (a0.size:Int):=of_decide_eq_true (by (with_reducible assumption));have hx4:=bt_at a0 x3_1;replace p4:=eq_true p4;replace q4:=eq_true q4
       go_wp2_with ((go_at_call 201;(with_reducible refine (impl_isFigure.calls (bt a0 x3_1) true _ A13.out).mono ?_);rintro e w' ⟨rfl,⟨nd,rfl⟩⟩))
       go_roundg k1
       case measure=>have:=HK1.out;omega
       case rel=>exact ⟨(wrap64 (x3_1 + 1)),(by rfl),H',⟨by have:=HK1.out;omega⟩,by repeat (first | exact Drawn0.refl _ | apply Drawn0.step)⟩
      ·replace c14:=Bool.eq_false_iff.mpr c14;subst c14;have H1:(if x3_1=0 then (some false) else (if (bt a0 x3_1)=45 then (impl_pathPartOk.l0 k1 a0 (wrap64 (x3_1 + 1))) else (if (bt a0 x3_1)=46 then (impl_pathPartOk.l0 k1 a0 (wrap64 (x3_1 + 1))) else (if (bt a0 x3_1)=95 then (impl_pathPartOk.l0 k1 a0 (wrap64 (x3_1 + 1))) else (some false)))))=some r:=by rw [if_neg (show ¬ (false=true) by decide)] at H;exact H
       clear H;have H:=H1;clear H1
       by_cases c15:x3_1=0
       ·rw [if_pos c15] at H;have c15b0:(x3_1 == 0)=true:=beq_iff_eq.mpr c15;have c15b1:(x3_1 != 0)=false:=bne_eq_false_iff_eq.mpr c15;clear c15;obtain rfl:=Option.some.inj H;have p4:0 ≤ (x3_1:Int):=of_decide_eq_true (by (with_reducible assumption));have q4:x3_1 < (a0.size:Int):=of_decide_eq_true (by (with_reducible assumption));have hx4:=bt_at a0 x3_1;replace p4:=eq_true p4;replace q4:=eq_true q4
        go_wp2_with ((go_at_call 201;(with_reducible refine (impl_isFigure.calls (bt a0 x3_1) false _ A13.out).mono ?_);rintro e w' ⟨rfl,⟨nd,rfl⟩⟩))
        go_ret
        exact ⟨by rfl,by repeat (first | exact Drawn0.refl _ | apply Drawn0.step)⟩
       ·rw [if_neg c15] at H;have c15b0:(x3_1 == 0)=false:=beq_eq_false_iff_ne.mpr c15;have c15b1:(x3_1 != 0)=true:=bne_iff_ne.mpr c15
        by_cases c16:(bt a0 x3_1)=45
        ·rw [if_pos c16] at H;have c16b0:((bt a0 x3_1) == 45)=true:=beq_iff_eq.mpr c16;have c16b1:((bt a0 x3_1) != 45)=false:=bne_eq_false_iff_eq.mpr c16;clear c16;have H':=a_ H;clear H;have p4:0 ≤ (x3_1:Int):=of_decide_eq_true (by (with_reducible assumption));have q4:x3_1 < (a0.size:Int):=of_decide_eq_true (by (with_reducible assumption));have hx4:=bt_at a0 x3_1;replace p4:=eq_true p4;replace q4:=eq_true q4
         go_wp2_with ((go_at_call 201;(with_reducible refine (impl_isFigure.calls (bt a0 x3_1) false _ A13.out).mono ?_);rintro e w' ⟨rfl,⟨nd,rfl⟩⟩))
         go_roundg k1
         case measure=>have:=HK1.out;omega
         case rel=>exact ⟨(wrap64 (x3_1 + 1)),(by rfl),H',⟨by have:=HK1.out;omega⟩,by repeat (first | exact Drawn0.refl _ | apply Drawn0.step)⟩
        ·rw [if_neg c16] at H;have c16b0:((bt a0 x3_1) == 45)=false:=beq_eq_false_iff_ne.mpr c16;have c16b1:((bt a0 x3_1) != 45)=true:=bne_iff_ne.mpr c16
         by_cases c17:(bt a0 x3_1)=46
         ·rw [if_pos c17] at H;have c17b0:((bt a0 x3_1) == 46)=true:=beq_iff_eq.mpr c17;have c17b1:((bt a0 x3_1) != 46)=false:=bne_eq_false_iff_eq.mpr c17;clear c17;have H':=a_ H;clear H;have p4:0 ≤ (x3_1:Int):=of_decide_eq_true (by (with_reducible assumption));have q4:x3_1 < (a0.size:Int):=of_decide_eq_true (by (with_reducible assumption));have hx4:=bt_at a0 x3_1;replace p4:=eq_true p4;replace q4:=eq_true q4
          go_wp2_with ((go_at_call 201;(with_reducible refine (impl_isFigure.calls (bt a0 x3_1) false _ A13.out).mono ?_);rintro e w' ⟨rfl,⟨nd,rfl⟩⟩))
          go_roundg k1
          case measure=>have:=HK1.out;omega
          case rel=>exact ⟨(wrap64 (x3_1 + 1)),(by rfl),H',⟨by have:=HK1.out;omega⟩,by repeat (first | exact Drawn0.refl _ | apply Drawn0.step)⟩
         ·rw [if_neg c17] at H;have c17b0:((bt a0 x3_1) == 46)=false:=beq_eq_false_iff_ne.mpr c17;have c17b1:((bt a0 x3_1) != 46)=true:=bne_iff_ne.mpr c17
          by_cases c18:(bt a0 x3_1)=95
          ·rw [if_pos c18] at H;have c18b0:((bt a0 x3_1) == 95)=true:=beq_iff_eq.mpr c18;have c18b1:((bt a0 x3_1) != 95)=false:=bne_eq_false_iff_eq.mpr c18;clear c18;have H':=a_ H;clear H;have p4:0 ≤ (x3_1:Int):=of_decide_eq_true (by (with_reducible assumption));have q4:x3_1 < (a0.size:Int):=of_decide_eq_true (by (with_reducible assumption));have hx4:=bt_at a0 x3_1;replace p4:=eq_true p4;replace q4:=eq_true q4
           go_wp2_with ((go_at_call 201;(with_reducible refine (impl_isFigure.calls (bt a0 x3_1) false _ A13.out).mono ?_);rintro e w' ⟨rfl,⟨nd,rfl⟩⟩))
           go_roundg k1
           case measure=>have:=HK1.out;omega
           case rel=>exact ⟨(wrap64 (x3_1 + 1)),(by rfl),H',⟨by have:=HK1.out;omega⟩,by repeat (first | exact Drawn0.refl _ | apply Drawn0.step)⟩
          ·rw [if_neg c18] at H;have c18b0:((bt a0 x3_1) == 95)=false:=beq_eq_false_iff_ne.mpr c18;have c18b1:((bt a0 x3_1) != 95)=true:=bne_iff_ne.mpr c18;obtain rfl:=Option.some.inj H;have p4:0 ≤ (x3_1:Int):=of_decide_eq_true (by (with_reducible assumption));have q4:x3_1 < (a0.size:Int):=of_decide_eq_true (by (with_reducible assumption));have hx4:=bt_at a0 x3_1;replace p4:=eq_true p4;replace q4:=eq_true q4
           go_wp2_with ((go_at_call 201;(with_reducible refine (impl_isFigure.calls (bt a0 x3_1) false _ A13.out).mono ?_);rintro e w' ⟨rfl,⟨nd,rfl⟩⟩))
           go_ret
           exact ⟨by rfl,by repeat (first | exact Drawn0.refl _ | apply Drawn0.step)⟩
    ·rw [if_neg c3] at H;exact absurd H (by simp)
   ·rw [if_neg c2] at H;have c2b0:decide (x3_1 < (a0.size:Int))=false:=decide_eq_false c2;clear c2;replace H:=Option.bind_eq_some_iff.mp H;obtain ⟨t252,A190,H⟩:=H;replace H:(some t252)=some r:=H;have A19:=a_ A190;clear A190;obtain rfl:=Option.some.inj H
    go_wp2_with (((with_reducible refine gate_callee (f:=124) rfl ?_);refine goesL_ (some 45) rfl rfl Tryz.func124 (by kernel_rfl) rfl #[.int .i64 (a0.size:Int),.int .i64 1,.int .i64 20] rfl (by (try simp only [List.map_toArray,List.map_cons,List.map_nil]);rfl) ?_;(with_reducible refine (impl_inRange.calls (a0.size:Int) 1 20 t252 _ A19.out).mono ?_);rintro e w' ⟨rfl,⟨nd,rfl⟩⟩;refine ⟨_,rfl,?_⟩))
    go_ret
    exact ⟨by rfl,by repeat (first | exact Drawn0.refl _ | apply Drawn0.step)⟩
def impl_PathOk.l0:Nat → ByteArray → List ByteArray → List ByteArray → Int → Int → Option (Bool)
 | 0,_,_,_,_,_=>none
 | k + 1,x0,x3,x8,x9,x10=>if x10 < x9 then (if 0 ≤ x10 then (if x10 < (x8.length:Int) then ((impl_pathPartOk.f k (rdOf ByteArray.empty x8 x10)).bind fun t257=>(if t257=true then (impl_PathOk.l0 k x0 x3 x8 x9 (wrap64 (x10 + 1))) else (some false))) else (none)) else (none)) else (if (x3.length:Int) ≤ 6 then (some (decide ((x0.size:Int) ≤ 60))) else (some false))
def impl_PathOk.f (k:Nat) (a0:ByteArray):Option (Bool):=(strings_Split.f a0 (⟨#[47]⟩:ByteArray)).bind fun t253=>(impl_PathOk.l0 k a0 t253 t253 (t253.length:Int) 0)
theorem impl_PathOk.mono_l : ∀ k,(∀ y0 y1 y2 y3 y4,LeO (impl_PathOk.l0 k y0 y1 y2 y3 y4) (impl_PathOk.l0 (k + 1) y0 y1 y2 y3 y4))
 | 0=>fun _ _ _ _ _ r h=>by simp [impl_PathOk.l0] at h
 | k + 1=>by
  have ih0:=impl_PathOk.mono_l k
  ·intro y0 y1 y2 y3 y4;unfold impl_PathOk.l0
   repeat' first
   | (with_reducible exact ih0 _ _ _ _ _)
   | (with_reducible exact impl_pathPartOk.mono _ _)
   | (with_reducible exact LeO.refl _)
   | (with_reducible refine LeO.ite ?_ ?_)
   | (with_reducible refine LeO.bind ?_ (fun _=>?_))
theorem impl_PathOk.mono : ∀ a0 k,LeO (impl_PathOk.f k a0) (impl_PathOk.f (k + 1) a0):=by
 intro a0 k;have ih0:=impl_PathOk.mono_l k;unfold impl_PathOk.f
 repeat' first
  | (with_reducible exact ih0 _ _ _ _ _)
  | (with_reducible exact LeO.refl _)
  | (with_reducible refine LeO.bind ?_ (fun _=>?_))
set_option maxHeartbeats 8000000 in
set_option maxRecDepth 100000 in
theorem impl_PathOk.calls (k:Nat) (a0:ByteArray) (r:Bool) (w:World) (h:impl_PathOk.f k a0=some r) :
 Calls Tryz.prog 191 #[.string a0] w fun e w'=>e = .returned (.bool r) ∧ Below w.heap.size w w':=by
 have HB:=a_ (Below.refl w.heap.size w);have H:((strings_Split.f a0 (⟨#[47]⟩:ByteArray)).bind fun t253=>(impl_PathOk.l0 k a0 t253 t253 (t253.length:Int) 0))=some r:=h;clear h;replace H:=Option.bind_eq_some_iff.mp H;obtain ⟨t253,A20,H⟩:=H;replace H:(impl_PathOk.l0 k a0 t253 t253 (t253.length:Int) 0)=some r:=H;have A2:=a_ A20;clear A20;have H':=a_ H;clear H
 go_enter Tryz.func191,Tryz.ntmps191
 go_wp2_with (((with_reducible refine gate_callee (f:=104) rfl ?_);refine goesL_ (some 7) rfl rfl Tryz.func104 (by kernel_rfl) rfl #[.string a0,.string (⟨#[47]⟩:ByteArray)] rfl (by (try simp only [List.map_toArray,List.map_cons,List.map_nil]);rfl) ?_;(with_reducible refine (strings_Split.calls a0 (⟨#[47]⟩:ByteArray) t253 _ A2.out).mono ?_);rintro e w3 ⟨v254,rfl,ho0,hb⟩;refine ⟨_,rfl,?_⟩;have n0_:=a_ (Kd.R_lower ho0 (below_size HB.out));have n1_:=a_ (below_step HB.out hb);clear HB;have HO255:=n0_;have HB:=n1_;clear n0_ n1_;(try clear hb);(try clear ho0);obtain ⟨Ao4,co4,eo4⟩:=Kd.R_slice HO255.out;subst eo4))
 go_loopg [10] k (fun kq v10 w'=>∃ (x10_1:Int),v10 = .int .i64 x10_1 ∧ Aside0 (impl_PathOk.l0 kq a0 t253 t253 (t253.length:Int) x10_1=some r) ∧ Aside0 (kq ≤ k) ∧ Aside0 (Kd.R Kd.string 9 w' w.heap.size (fun _=>True) (.slice Ao4 t253.length co4) t253) ∧ Aside0 (Kd.R Kd.string 9 w' w.heap.size (fun _=>True) (.slice Ao4 t253.length co4) t253) ∧ Aside0 (Below w.heap.size w w'))
 case atStart=>exact ⟨(0),(by rfl),H',⟨Nat.le_refl _⟩,⟨by exact HO255.out⟩,⟨by exact HO255.out⟩,⟨by exact HB.out⟩⟩
 case round=>
  clear H';obtain ⟨x10_1,rfl,HA,HK1,HO_3,HO_8,HB⟩:=hrel
  cases gk with
  | zero=>exact absurd HA.out (by simp [impl_PathOk.l0])
  | succ k1=>
   have H:=HA.out;clear HA;simp only [impl_PathOk.l0] at H
   by_cases c5:x10_1 < (t253.length:Int)
   ·rw [if_pos c5] at H;have c5b0:decide (x10_1 < (t253.length:Int))=true:=decide_eq_true c5;clear c5
    by_cases c6:0 ≤ x10_1
    ·rw [if_pos c6] at H;have c6b0:decide (0 ≤ x10_1)=true:=decide_eq_true c6;clear c6
     by_cases c7:x10_1 < (t253.length:Int)
     ·rw [if_pos c7] at H;have c7b0:decide (x10_1 < (t253.length:Int))=true:=decide_eq_true c7;clear c7;replace H:=Option.bind_eq_some_iff.mp H;obtain ⟨t257,A80,H⟩:=H;replace H:(if t257=true then (impl_PathOk.l0 k1 a0 t253 t253 (t253.length:Int) (wrap64 (x10_1 + 1))) else (some false))=some r:=H;have A8:=a_ A80;clear A80
      by_cases c9:t257=true
      ·subst c9;have H1:(impl_PathOk.l0 k1 a0 t253 t253 (t253.length:Int) (wrap64 (x10_1 + 1)))=some r:=by rw [if_pos rfl] at H;exact H
       clear H;have H:=H1;clear H1;have H':=a_ H;clear H;have p256:0 ≤ (x10_1:Int):=of_decide_eq_true (by (with_reducible assumption));have q256:x10_1 < (t253.length:Int):=of_decide_eq_true (by (with_reducible assumption));obtain ⟨ad256,e256,hx256_0⟩:=Kd.at_string (Kd.R_reads' HO_8.out).2.2 x10_1 p256 q256;cases e256;replace p256:=eq_true p256;replace q256:=eq_true q256
       go_wp2_with (((with_reducible refine gate_callee (f:=220) rfl ?_);refine goesL_ (some 15) rfl rfl Tryz.func220 (by kernel_rfl) rfl #[.string (rdOf ByteArray.empty t253 x10_1)] rfl (by (try simp only [List.map_toArray,List.map_cons,List.map_nil]);rfl) ?_;(with_reducible refine (impl_pathPartOk.calls k1 (rdOf ByteArray.empty t253 x10_1) true _ A8.out).mono ?_);rintro e w' ⟨rfl,⟨nd,rfl⟩⟩;refine ⟨_,rfl,?_⟩))
       go_roundg k1
       case measure=>have:=HK1.out;omega
       case rel=>exact ⟨(wrap64 (x10_1 + 1)),(by rfl),H',⟨by have:=HK1.out;omega⟩,⟨by (with_reducible repeat (apply Kd.R_drewN));exact HO_3.out⟩,⟨by (with_reducible repeat (apply Kd.R_drewN));exact HO_8.out⟩,⟨by repeat (with_reducible first | exact HB.out | apply pw_below_drewN)⟩⟩
      ·replace c9:=Bool.eq_false_iff.mpr c9;subst c9;have H1:(some false)=some r:=by rw [if_neg (show ¬ (false=true) by decide)] at H;exact H
       clear H;have H:=H1;clear H1;obtain rfl:=Option.some.inj H;have p256:0 ≤ (x10_1:Int):=of_decide_eq_true (by (with_reducible assumption));have q256:x10_1 < (t253.length:Int):=of_decide_eq_true (by (with_reducible assumption));obtain ⟨ad256,e256,hx256_0⟩:=Kd.at_string (Kd.R_reads' HO_8.out).2.2 x10_1 p256 q256;cases e256;replace p256:=eq_true p256;replace q256:=eq_true q256
       go_wp2_with (((with_reducible refine gate_callee (f:=220) rfl ?_);refine goesL_ (some 15) rfl rfl Tryz.func220 (by kernel_rfl) rfl #[.string (rdOf ByteArray.empty t253 x10_1)] rfl (by (try simp only [List.map_toArray,List.map_cons,List.map_nil]);rfl) ?_;(with_reducible refine (impl_pathPartOk.calls k1 (rdOf ByteArray.empty t253 x10_1) false _ A8.out).mono ?_);rintro e w' ⟨rfl,⟨nd,rfl⟩⟩;refine ⟨_,rfl,?_⟩))
       go_ret
       exact ⟨by rfl,by repeat (with_reducible first | exact HB.out | apply pw_below_drewN)⟩
     ·rw [if_neg c7] at H;exact absurd H (by simp)
    ·rw [if_neg c6] at H;exact absurd H (by simp)
   ·rw [if_neg c5] at H;have c5b0:decide (x10_1 < (t253.length:Int))=false:=decide_eq_false c5;clear c5
    by_cases c10:(t253.length:Int) ≤ 6
    ·rw [if_pos c10] at H;have c10b0:decide ((t253.length:Int) ≤ 6)=true:=decide_eq_true c10;have c10b1:decide (t253.length ≤ 6)=true:=decide_eq_true (by omega);clear c10;obtain rfl:=Option.some.inj H
     go_wp2
     go_ret
     exact ⟨by rfl,by exact HB.out⟩
    ·rw [if_neg c10] at H;have c10b0:decide ((t253.length:Int) ≤ 6)=false:=decide_eq_false c10;have c10b1:decide (t253.length ≤ 6)=false:=decide_eq_false (by omega);clear c10;obtain rfl:=Option.some.inj H
     go_wp2
     go_ret
     exact ⟨by rfl,by exact HB.out⟩
def impl_isFigures.l0:Nat → ByteArray → Int → Option (Bool)
 | 0,_,_=>none
 | k + 1,x0,x3=>if x3 < (x0.size:Int) then (if 0 ≤ x3 then ((impl_isFigure.f (bt x0 x3)).bind fun t258=>(if t258=true then (impl_isFigures.l0 k x0 (wrap64 (x3 + 1))) else (some false))) else (none)) else (some (x0.toList != ([]:List UInt8)))
def impl_isFigures.f (k:Nat) (a0:ByteArray):Option (Bool):=impl_isFigures.l0 k a0 0
theorem impl_isFigures.mono_l : ∀ k,(∀ y0 y1,LeO (impl_isFigures.l0 k y0 y1) (impl_isFigures.l0 (k + 1) y0 y1))
 | 0=>fun _ _ r h=>by simp [impl_isFigures.l0] at h
 | k + 1=>by
  have ih0:=impl_isFigures.mono_l k
  ·intro y0 y1;unfold impl_isFigures.l0
   repeat' first
   | (with_reducible exact ih0 _ _)
   | (with_reducible exact LeO.refl _)
   | (with_reducible refine LeO.ite ?_ ?_)
   | (with_reducible refine LeO.bind ?_ (fun _=>?_))
theorem impl_isFigures.mono : ∀ a0 k,LeO (impl_isFigures.f k a0) (impl_isFigures.f (k + 1) a0):=by
 intro a0 k;have ih0:=impl_isFigures.mono_l k;unfold impl_isFigures.f
 repeat' (with_reducible exact ih0 _ _)
set_option maxHeartbeats 8000000 in
set_option maxRecDepth 100000 in
theorem impl_isFigures.calls (k:Nat) (a0:ByteArray) (r:Bool) (w:World) (h:impl_isFigures.f k a0=some r) :
 Calls Tryz.prog 172 #[.string a0] w fun e w'=>e = .returned (.bool r) ∧ Drawn0 w w':=by
 have H:(impl_isFigures.l0 k a0 0)=some r:=h;clear h;have H':=a_ H;clear H
 go_enter Tryz.func172,Tryz.ntmps172
 go_wp2
 go_loopg [3] k (fun kq v3 w'=>∃ (x3_1:Int),v3 = .int .i64 x3_1 ∧ Aside0 (impl_isFigures.l0 kq a0 x3_1=some r) ∧ Aside0 (kq ≤ k) ∧ Drawn0 w w')
 case atStart=>exact ⟨(0),(by rfl),H',⟨Nat.le_refl _⟩,by repeat (exact Drawn0.refl _)⟩
 case round=>
  clear H';obtain ⟨x3_1,rfl,HA,HK1,⟨m1,rfl⟩⟩:=hrel
  cases gk with
  | zero=>exact absurd HA.out (by simp [impl_isFigures.l0])
  | succ k1=>
   have H:=HA.out;clear HA;simp only [impl_isFigures.l0] at H
   by_cases c2:x3_1 < (a0.size:Int)
   ·rw [if_pos c2] at H;have c2b0:decide (x3_1 < (a0.size:Int))=true:=decide_eq_true c2;clear c2
    by_cases c3:0 ≤ x3_1
    ·rw [if_pos c3] at H;have c3b0:decide (0 ≤ x3_1)=true:=decide_eq_true c3;clear c3;replace H:=Option.bind_eq_some_iff.mp H;obtain ⟨t258,A50,H⟩:=H;replace H:(if t258=true then (impl_isFigures.l0 k1 a0 (wrap64 (x3_1 + 1))) else (some false))=some r:=H;have A5:=a_ A50;clear A50
     by_cases c6:t258=true
     ·subst c6;have H1:(impl_isFigures.l0 k1 a0 (wrap64 (x3_1 + 1)))=some r:=by rw [if_pos rfl] at H;exact H
      clear H;have H:=H1;clear H1;have H':=a_ H;clear H;have p4:0 ≤ (x3_1:Int):=of_decide_eq_true (by (with_reducible assumption));have q4:x3_1 < (a0.size:Int):=of_decide_eq_true (by (with_reducible assumption));have hx4:=bt_at a0 x3_1;replace p4:=eq_true p4;replace q4:=eq_true q4
      go_wp2_with (((with_reducible refine gate_callee (f:=201) rfl ?_);refine goesL_ (some 13) rfl rfl Tryz.func201 (by kernel_rfl) rfl #[.int .u8 (bt a0 x3_1)] rfl (by (try simp only [List.map_toArray,List.map_cons,List.map_nil]);rfl) ?_;(with_reducible refine (impl_isFigure.calls (bt a0 x3_1) true _ A5.out).mono ?_);rintro e w' ⟨rfl,⟨nd,rfl⟩⟩;refine ⟨_,rfl,?_⟩))
      go_roundg k1
      case measure=>have:=HK1.out;omega
      case rel=>exact ⟨(wrap64 (x3_1 + 1)),(by rfl),H',⟨by have:=HK1.out;omega⟩,by repeat (first | exact Drawn0.refl _ | apply Drawn0.step)⟩
     ·replace c6:=Bool.eq_false_iff.mpr c6;subst c6;have H1:(some false)=some r:=by rw [if_neg (show ¬ (false=true) by decide)] at H;exact H
      clear H;have H:=H1;clear H1;obtain rfl:=Option.some.inj H;have p4:0 ≤ (x3_1:Int):=of_decide_eq_true (by (with_reducible assumption));have q4:x3_1 < (a0.size:Int):=of_decide_eq_true (by (with_reducible assumption));have hx4:=bt_at a0 x3_1;replace p4:=eq_true p4;replace q4:=eq_true q4
      go_wp2_with (((with_reducible refine gate_callee (f:=201) rfl ?_);refine goesL_ (some 13) rfl rfl Tryz.func201 (by kernel_rfl) rfl #[.int .u8 (bt a0 x3_1)] rfl (by (try simp only [List.map_toArray,List.map_cons,List.map_nil]);rfl) ?_;(with_reducible refine (impl_isFigure.calls (bt a0 x3_1) false _ A5.out).mono ?_);rintro e w' ⟨rfl,⟨nd,rfl⟩⟩;refine ⟨_,rfl,?_⟩))
      go_ret
      exact ⟨by rfl,by repeat (first | exact Drawn0.refl _ | apply Drawn0.step)⟩
    ·rw [if_neg c3] at H;exact absurd H (by simp)
   ·rw [if_neg c2] at H;have c2b0:decide (x3_1 < (a0.size:Int))=false:=decide_eq_false c2;clear c2;obtain rfl:=Option.some.inj H
    go_wp2
    go_ret
    exact ⟨by (simp [bne_nil_];done),by repeat (first | exact Drawn0.refl _ | apply Drawn0.step)⟩
def impl_isNumber.f (k:Nat) (a0:ByteArray):Option (Bool):=(impl_isFigures.f k a0).bind fun t259=>(if t259=true then (if a0.toList=([48]:List UInt8) then (some true) else (if 0 < (a0.size:Int) then (some ((bt a0 0) != 48)) else (none))) else (some false))
theorem impl_isNumber.mono : ∀ a0 k,LeO (impl_isNumber.f k a0) (impl_isNumber.f (k + 1) a0):=by
 intro a0 k;unfold impl_isNumber.f
 repeat' first
  | (with_reducible exact impl_isFigures.mono _ _)
  | (with_reducible exact LeO.refl _)
  | (with_reducible refine LeO.bind ?_ (fun _=>?_))
set_option maxHeartbeats 8000000 in
set_option maxRecDepth 100000 in
theorem impl_isNumber.calls (k:Nat) (a0:ByteArray) (r:Bool) (w:World) (h:impl_isNumber.f k a0=some r) :
 Calls Tryz.prog 147 #[.string a0] w fun e w'=>e = .returned (.bool r) ∧ Drawn0 w w':=by
 have H:((impl_isFigures.f k a0).bind fun t259=>(if t259=true then (if a0.toList=([48]:List UInt8) then (some true) else (if 0 < (a0.size:Int) then (some ((bt a0 0) != 48)) else (none))) else (some false)))=some r:=h;clear h;replace H:=Option.bind_eq_some_iff.mp H;obtain ⟨t259,A20,H⟩:=H;replace H:(if t259=true then (if a0.toList=([48]:List UInt8) then (some true) else (if 0 < (a0.size:Int) then (some ((bt a0 0) != 48)) else (none))) else (some false))=some r:=H
 have A2:=a_ A20;clear A20
 by_cases c3:t259=true
 ·subst c3;have H1:(if a0.toList=([48]:List UInt8) then (some true) else (if 0 < (a0.size:Int) then (some ((bt a0 0) != 48)) else (none)))=some r:=by rw [if_pos rfl] at H;exact H
  clear H;have H:=H1;clear H1
  by_cases c4:a0.toList=([48]:List UInt8)
  ·rw [if_pos c4] at H;have c4b0:(a0.toList == ([48]:List UInt8))=true:=beq_iff_eq.mpr c4;have c4b1:(a0.toList != ([48]:List UInt8))=false:=bne_eq_false_iff_eq.mpr c4;clear c4;obtain rfl:=Option.some.inj H
   go_enter Tryz.func147,Tryz.ntmps147
   go_wp2_with (((with_reducible refine gate_callee (f:=172) rfl ?_);refine goesL_ (some 4) rfl rfl Tryz.func172 (by kernel_rfl) rfl #[.string a0] rfl (by (try simp only [List.map_toArray,List.map_cons,List.map_nil]);rfl) ?_;(with_reducible refine (impl_isFigures.calls k a0 true _ A2.out).mono ?_);rintro e w' ⟨rfl,⟨nd,rfl⟩⟩;refine ⟨_,rfl,?_⟩))
   go_ret
   exact ⟨by rfl,by repeat (first | exact Drawn0.refl _ | apply Drawn0.step)⟩
  ·rw [if_neg c4] at H;have c4b0:(a0.toList == ([48]:List UInt8))=false:=beq_eq_false_iff_ne.mpr c4;have c4b1:(a0.toList != ([48]:List UInt8))=true:=bne_iff_ne.mpr c4
   by_cases c5:0 < (a0.size:Int)
   ·rw [if_pos c5] at H;have c5b0:decide (0 < (a0.size:Int))=true:=decide_eq_true c5;have c5b1:decide (0 < a0.size)=true:=decide_eq_true (by omega);clear c5;obtain rfl:=Option.some.inj H
    go_enter Tryz.func147,Tryz.ntmps147
    go_wp2_with (((with_reducible refine gate_callee (f:=172) rfl ?_);refine goesL_ (some 4) rfl rfl Tryz.func172 (by kernel_rfl) rfl #[.string a0] rfl (by (try simp only [List.map_toArray,List.map_cons,List.map_nil]);rfl) ?_;(with_reducible refine (impl_isFigures.calls k a0 true _ A2.out).mono ?_);rintro e w' ⟨rfl,⟨nd,rfl⟩⟩;refine ⟨_,rfl,?_⟩;have p6:0 ≤ (0:Int):=(by omega);have q6:0 < a0.size:=(by have:(0:Int) < (a0.size:Int):=of_decide_eq_true (by (with_reducible assumption));omega);have hx6 : ∀ h:0 < a0.size,((a0[0]'h).toNat:Int)=bt a0 0:=bt_at a0 0;clear p6;have qi6:(0 < (a0.size:Int))=True:=eq_true (of_decide_eq_true (by (with_reducible assumption)));replace q6:=eq_true q6))
    go_ret
    exact ⟨by rfl,by repeat (first | exact Drawn0.refl _ | apply Drawn0.step)⟩
   ·rw [if_neg c5] at H;exact absurd H (by simp)
 ·replace c3:=Bool.eq_false_iff.mpr c3;subst c3;have H1:(some false)=some r:=by rw [if_neg (show ¬ (false=true) by decide)] at H;exact H
  clear H;have H:=H1;clear H1;obtain rfl:=Option.some.inj H
  go_enter Tryz.func147,Tryz.ntmps147
  go_wp2_with (((with_reducible refine gate_callee (f:=172) rfl ?_);refine goesL_ (some 4) rfl rfl Tryz.func172 (by kernel_rfl) rfl #[.string a0] rfl (by (try simp only [List.map_toArray,List.map_cons,List.map_nil]);rfl) ?_;(with_reducible refine (impl_isFigures.calls k a0 false _ A2.out).mono ?_);rintro e w' ⟨rfl,⟨nd,rfl⟩⟩;refine ⟨_,rfl,?_⟩))
  go_ret
  exact ⟨by rfl,by repeat (first | exact Drawn0.refl _ | apply Drawn0.step)⟩
def strconv_Atoi.lays172_ren:Go.Shelf.Ren:=⟨fun | 172=>148 | 244=>173 | 245=>174 | 247=>202 | 279=>203 | 280=>204 | 281=>205 | 282=>206 | 287=>224 | 316=>225 | 171=>68 | 205=>226 | 321=>234 | 322=>235 | 243=>127 | 246=>161 | 283=>187 | 284=>188 | 285=>189 | 286=>190 | 129=>216 | 317=>215 | 318=>217 | 319=>218 | 320=>219 | 337=>231 | 338=>232 | n=>n,fun | 9=>9 | 3=>3 | 75=>103 | 76=>104 | 4=>4 | 5=>5 | 167=>203 | 37=>45 | 0=>0 | 85=>204 | 2=>2 | 168=>206 | 53=>192 | 175=>219 | 46=>154 | 210=>222 | 127=>159 | 145=>233 | 143=>231 | 21=>21 | 171=>191 | 173=>195 | 212=>213 | 51=>214 | 20=>20 | 213=>215 | 232=>234 | 233=>235 | 80=>107 | n=>n,fun | 15=>2 | 16=>3 | 17=>1 | 18=>6 | 19=>7 | n=>n⟩
theorem strconv_Atoi.lays172:Go.Proofs.Lays.n172 Tryz.prog strconv_Atoi.lays172_ren:={
 mixed:=by kernel_rfl
 f129:=Tryz.func216.trans (congrArg some (by kernel_rfl))
 f171:=Tryz.func68.trans (congrArg some (by kernel_rfl))
 f172:=Tryz.func148.trans (congrArg some (by kernel_rfl))
 f205:=Tryz.func226.trans (congrArg some (by kernel_rfl))
 f243:=Tryz.func127.trans (congrArg some (by kernel_rfl))
 f244:=Tryz.func173.trans (congrArg some (by kernel_rfl))
 f245:=Tryz.func174.trans (congrArg some (by kernel_rfl))
 f246:=Tryz.func161.trans (congrArg some (by kernel_rfl))
 f247:=Tryz.func202.trans (congrArg some (by kernel_rfl))
 f279:=Tryz.func203.trans (congrArg some (by kernel_rfl))
 f280:=Tryz.func204.trans (congrArg some (by kernel_rfl))
 f281:=Tryz.func205.trans (congrArg some (by kernel_rfl))
 f282:=Tryz.func206.trans (congrArg some (by kernel_rfl))
 f283:=Tryz.func187.trans (congrArg some (by kernel_rfl))
 f284:=Tryz.func188.trans (congrArg some (by kernel_rfl))
 f285:=Tryz.func189.trans (congrArg some (by kernel_rfl))
 f286:=Tryz.func190.trans (congrArg some (by kernel_rfl))
 f287:=Tryz.func224.trans (congrArg some (by kernel_rfl))
 f316:=Tryz.func225.trans (congrArg some (by kernel_rfl))
 f317:=Tryz.func215.trans (congrArg some (by kernel_rfl))
 f318:=Tryz.func217.trans (congrArg some (by kernel_rfl))
 f319:=Tryz.func218.trans (congrArg some (by kernel_rfl))
 f320:=Tryz.func219.trans (congrArg some (by kernel_rfl))
 f321:=Tryz.func234.trans (congrArg some (by kernel_rfl))
 f322:=Tryz.func235.trans (congrArg some (by kernel_rfl))
 f337:=Tryz.func231.trans (congrArg some (by kernel_rfl))
 f338:=Tryz.func232.trans (congrArg some (by kernel_rfl))
 t0:=Tryz.underlying0
 a0:=Tryz.isAgg0
 z0:=Tryz.sizeOf0
 v0:=Tryz.zeroValue0
 t2:=Tryz.underlying2
 a2:=Tryz.isAgg2
 z2:=Tryz.sizeOf2
 v2:=Tryz.zeroValue2
 t3:=Tryz.underlying3
 a3:=Tryz.isAgg3
 z3:=Tryz.sizeOf3
 v3:=Tryz.zeroValue3
 t4:=Tryz.underlying4
 a4:=Tryz.isAgg4
 z4:=Tryz.sizeOf4
 v4:=Tryz.zeroValue4
 t5:=Tryz.underlying5
 a5:=Tryz.isAgg5
 z5:=Tryz.sizeOf5
 v5:=Tryz.zeroValue5
 t9:=Tryz.underlying9
 a9:=Tryz.isAgg9
 z9:=Tryz.sizeOf9
 v9:=Tryz.zeroValue9
 t20:=Tryz.underlying20
 a20:=Tryz.isAgg20
 z20:=Tryz.sizeOf20
 v20:=Tryz.zeroValue20
 t21:=Tryz.underlying21
 a21:=Tryz.isAgg21
 z21:=Tryz.sizeOf21
 v21:=Tryz.zeroValue21
 t37:=Tryz.underlying45
 a37:=Tryz.isAgg45
 z37:=Tryz.sizeOf45
 v37:=Tryz.zeroValue45
 t46:=Tryz.underlying154
 a46:=Tryz.isAgg154
 z46:=Tryz.sizeOf154
 v46:=Tryz.zeroValue154
 t51:=Tryz.underlying214
 a51:=Tryz.isAgg214
 z51:=Tryz.sizeOf214
 v51:=Tryz.zeroValue214
 t53:=Tryz.underlying192
 a53:=Tryz.isAgg192
 z53:=Tryz.sizeOf192
 v53:=Tryz.zeroValue192
 t75:=Tryz.underlying103
 a75:=Tryz.isAgg103
 z75:=Tryz.sizeOf103
 v75:=Tryz.zeroValue103
 t76:=Tryz.underlying104
 a76:=Tryz.isAgg104
 z76:=Tryz.sizeOf104
 v76:=Tryz.zeroValue104
 t85:=Tryz.underlying204
 a85:=Tryz.isAgg204
 z85:=Tryz.sizeOf204
 v85:=Tryz.zeroValue204
 t127:=Tryz.underlying159
 a127:=Tryz.isAgg159
 z127:=Tryz.sizeOf159
 v127:=Tryz.zeroValue159
 t143:=Tryz.underlying231
 a143:=Tryz.isAgg231
 z143:=Tryz.sizeOf231
 v143:=Tryz.zeroValue231
 t145:=Tryz.underlying233
 a145:=Tryz.isAgg233
 z145:=Tryz.sizeOf233
 v145:=Tryz.zeroValue233
 t167:=Tryz.underlying203
 a167:=Tryz.isAgg203
 z167:=Tryz.sizeOf203
 v167:=Tryz.zeroValue203
 t168:=Tryz.underlying206
 a168:=Tryz.isAgg206
 z168:=Tryz.sizeOf206
 v168:=Tryz.zeroValue206
 t171:=Tryz.underlying191
 a171:=Tryz.isAgg191
 z171:=Tryz.sizeOf191
 v171:=Tryz.zeroValue191
 t173:=Tryz.underlying195
 a173:=Tryz.isAgg195
 z173:=Tryz.sizeOf195
 v173:=Tryz.zeroValue195
 t175:=Tryz.underlying219
 a175:=Tryz.isAgg219
 z175:=Tryz.sizeOf219
 v175:=Tryz.zeroValue219
 t210:=Tryz.underlying222
 a210:=Tryz.isAgg222
 z210:=Tryz.sizeOf222
 v210:=Tryz.zeroValue222
 t212:=Tryz.underlying213
 a212:=Tryz.isAgg213
 z212:=Tryz.sizeOf213
 v212:=Tryz.zeroValue213
 t213:=Tryz.underlying215
 a213:=Tryz.isAgg215
 z213:=Tryz.sizeOf215
 t232:=Tryz.underlying234
 a232:=Tryz.isAgg234
 z232:=Tryz.sizeOf234
 v232:=Tryz.zeroValue234
 t233:=Tryz.underlying235
 a233:=Tryz.isAgg235
 z233:=Tryz.sizeOf235
 v233:=Tryz.zeroValue235
 g15:=by kernel_rfl
 g16:=by kernel_rfl
 g17:=by kernel_rfl
 g18:=by kernel_rfl
 g19:=by kernel_rfl }
def strconv_Atoi.f (a0:ByteArray):Option (Int × Option Int):=if a0.size ≤ 18 then (Go.Lib.atoi a0.data.toList).bind fun n=>some (n,none) else none
set_option maxHeartbeats 8000000 in
set_option maxRecDepth 100000 in
theorem strconv_Atoi.calls (a0:ByteArray) (r1:Int) (r2:Option Int) (w:World) (h:strconv_Atoi.f a0=some (r1,r2)) :
 Calls Tryz.prog 148 #[.string a0] w fun e w'=>e = .returned (.tuple #[.int .i64 r1,errW r2]) ∧ Below w.heap.size w w':=by
 by_cases c:a0.size ≤ 18
 ·unfold strconv_Atoi.f at h;rw [if_pos c] at h
  cases hn:Go.Lib.atoi a0.data.toList with
  | none=>rw [hn] at h;cases h
  | some n=>
   rw [hn] at h;have e:=Option.some.inj h
   injection e with e1 e2
   subst e1;subst e2;refine (Any.strconv_Atoi strconv_Atoi.lays172 a0 n c hn w).mono fun e w' he=>⟨he.1,?_⟩
   obtain ⟨t,rfl⟩:=he.2;exact bytes_below (Below.refl _ _) (Nat.le_refl _) _ _
 ·unfold strconv_Atoi.f at h;rw [if_neg c] at h;cases h
end Go.Proofs.YtfpdikledfhcaaaGreatDoor.PFnExactClientOk
