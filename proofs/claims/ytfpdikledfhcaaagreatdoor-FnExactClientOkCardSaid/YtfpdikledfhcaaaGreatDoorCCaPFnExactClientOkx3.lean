import Derived.Test.YtfpdikledfhcaaaGreatDoorCCaPFnExactClientOkx0
import Derived.Test.YtfpdikledfhcaaaGreatDoorCCaPFnExactClientOkx2
namespace Go.Proofs.YtfpdikledfhcaaaGreatDoor.PFnExactClientOk
open Go.RowKit Go.Proofs.YtfpdikledfhcaaaGreatDoorW.PrintWords Go.Proofs.YtfpdikledfhcaaaGreatDoorW.PrintLast Go.Proofs.YtfpdikledfhcaaaGreatDoorW.PrintMore
attribute [local go_sem] max2_int min2_int max_two min_two max_three min_three max_four min_four
set_option linter.unusedVariables false
set_option linter.unusedSimpArgs false
def spec_l4Part.l0:Nat → ByteArray → Int → Option (Bool)
 | 0,_,_=>none
 | k + 1,x0,x3=>if x3 < (x0.size:Int) then (if 0 ≤ x3 then ((spec_l1In.f (wrap64 (bt x0 x3)) 97 122).bind fun t128=>(if t128=true then (spec_l4Part.l0 k x0 (wrap64 (x3 + 1))) else ((spec_l1In.f (wrap64 (bt x0 x3)) 48 57).bind fun t129=>(if t129=true then (spec_l4Part.l0 k x0 (wrap64 (x3 + 1))) else (if x3=0 then (some false) else (if (wrap64 (bt x0 x3))=45 then (spec_l4Part.l0 k x0 (wrap64 (x3 + 1))) else (if (wrap64 (bt x0 x3))=46 then (spec_l4Part.l0 k x0 (wrap64 (x3 + 1))) else (if (wrap64 (bt x0 x3))=95 then (spec_l4Part.l0 k x0 (wrap64 (x3 + 1))) else (some false))))))))) else (none)) else ((spec_l1In.f (x0.size:Int) 1 20).bind fun t127=>(some t127))
def spec_l4Part.f (k:Nat) (a0:ByteArray):Option (Bool):=spec_l4Part.l0 k a0 0
theorem spec_l4Part.mono_l : ∀ k,(∀ y0 y1,LeO (spec_l4Part.l0 k y0 y1) (spec_l4Part.l0 (k + 1) y0 y1))
 | 0=>fun _ _ r h=>by simp [spec_l4Part.l0] at h
 | k + 1=>by
  have ih0:=spec_l4Part.mono_l k
  ·intro y0 y1;unfold spec_l4Part.l0
   repeat' first
   | (with_reducible exact ih0 _ _)
   | (with_reducible exact LeO.refl _)
   | (with_reducible refine LeO.ite ?_ ?_)
   | (with_reducible refine LeO.bind ?_ (fun _=>?_))
theorem spec_l4Part.mono : ∀ a0 k,LeO (spec_l4Part.f k a0) (spec_l4Part.f (k + 1) a0):=by
 intro a0 k;have ih0:=spec_l4Part.mono_l k;unfold spec_l4Part.f
 repeat' (with_reducible exact ih0 _ _)
set_option maxHeartbeats 8000000 in
set_option maxRecDepth 100000 in
theorem spec_l4Part.calls (k:Nat) (a0:ByteArray) (r:Bool) (w:World) (h:spec_l4Part.f k a0=some r) :
 Calls Tryz.prog 194 #[.string a0] w fun e w'=>e = .returned (.bool r) ∧ Drawn0 w w':=by
 have H:(spec_l4Part.l0 k a0 0)=some r:=h;clear h;have H':=a_ H;clear H
 go_enter Tryz.func194,Tryz.ntmps194
 go_wp2
 go_loopg [3] k (fun kq v3 w'=>∃ (x3_1:Int),v3 = .int .i64 x3_1 ∧ Aside0 (spec_l4Part.l0 kq a0 x3_1=some r) ∧ Aside0 (kq ≤ k) ∧ Drawn0 w w')
 case atStart=>exact ⟨(0),(by rfl),H',⟨Nat.le_refl _⟩,by repeat (exact Drawn0.refl _)⟩
 case round=>
  clear H';obtain ⟨x3_1,rfl,HA,HK1,⟨m1,rfl⟩⟩:=hrel
  cases gk with
  | zero=>exact absurd HA.out (by simp [spec_l4Part.l0])
  | succ k1=>
   have H:=HA.out;clear HA;simp only [spec_l4Part.l0] at H
   by_cases c2:x3_1 < (a0.size:Int)
   ·rw [if_pos c2] at H;have c2b0:decide (x3_1 < (a0.size:Int))=true:=decide_eq_true c2;clear c2
    by_cases c3:0 ≤ x3_1
    ·rw [if_pos c3] at H;have c3b0:decide (0 ≤ x3_1)=true:=decide_eq_true c3;clear c3;replace H:=Option.bind_eq_some_iff.mp H;obtain ⟨t128,A50,H⟩:=H;replace H:(if t128=true then (spec_l4Part.l0 k1 a0 (wrap64 (x3_1 + 1))) else ((spec_l1In.f (wrap64 (bt a0 x3_1)) 48 57).bind fun t129=>(if t129=true then (spec_l4Part.l0 k1 a0 (wrap64 (x3_1 + 1))) else (if x3_1=0 then (some false) else (if (wrap64 (bt a0 x3_1))=45 then (spec_l4Part.l0 k1 a0 (wrap64 (x3_1 + 1))) else (if (wrap64 (bt a0 x3_1))=46 then (spec_l4Part.l0 k1 a0 (wrap64 (x3_1 + 1))) else (if (wrap64 (bt a0 x3_1))=95 then (spec_l4Part.l0 k1 a0 (wrap64 (x3_1 + 1))) else (some false))))))))=some r:=H
     have A5:=a_ A50;clear A50
     by_cases c6:t128=true
     ·subst c6;have H1:(spec_l4Part.l0 k1 a0 (wrap64 (x3_1 + 1)))=some r:=by rw [if_pos rfl] at H;exact H
      clear H;have H:=H1;clear H1;have H':=a_ H;clear H;have p4:0 ≤ (x3_1:Int):=of_decide_eq_true (by (with_reducible assumption));have q4:x3_1 < (a0.size:Int):=of_decide_eq_true (by (with_reducible assumption));have hx4:=bt_at a0 x3_1;replace p4:=eq_true p4;replace q4:=eq_true q4
      go_wp2_with (((with_reducible refine gate_callee (f:=119) rfl ?_);refine goesL_ (some 17) rfl rfl Tryz.func119 (by kernel_rfl) rfl #[.int .i64 (wrap64 (bt a0 x3_1)),.int .i64 97,.int .i64 122] rfl (by (try simp only [List.map_toArray,List.map_cons,List.map_nil]);rfl) ?_;(with_reducible refine (spec_l1In.calls (wrap64 (bt a0 x3_1)) 97 122 true _ A5.out).mono ?_);rintro e w' ⟨rfl,⟨nd,rfl⟩⟩;refine ⟨_,rfl,?_⟩))
      go_roundg k1
      case measure=>have:=HK1.out;omega
      case rel=>exact ⟨(wrap64 (x3_1 + 1)),(by rfl),H',⟨by have:=HK1.out;omega⟩,by repeat (first | exact Drawn0.refl _ | apply Drawn0.step)⟩
     ·replace c6:=Bool.eq_false_iff.mpr c6;subst c6;have H1:((spec_l1In.f (wrap64 (bt a0 x3_1)) 48 57).bind fun t129=>(if t129=true then (spec_l4Part.l0 k1 a0 (wrap64 (x3_1 + 1))) else (if x3_1=0 then (some false) else (if (wrap64 (bt a0 x3_1))=45 then (spec_l4Part.l0 k1 a0 (wrap64 (x3_1 + 1))) else (if (wrap64 (bt a0 x3_1))=46 then (spec_l4Part.l0 k1 a0 (wrap64 (x3_1 + 1))) else (if (wrap64 (bt a0 x3_1))=95 then (spec_l4Part.l0 k1 a0 (wrap64 (x3_1 + 1))) else (some false)))))))=some r:=by rw [if_neg (show ¬ (false=true) by decide)] at H;exact H
      clear H;have H:=H1;clear H1;replace H:=Option.bind_eq_some_iff.mp H;obtain ⟨t129,A70,H⟩:=H;replace H:(if t129=true then (spec_l4Part.l0 k1 a0 (wrap64 (x3_1 + 1))) else (if x3_1=0 then (some false) else (if (wrap64 (bt a0 x3_1))=45 then (spec_l4Part.l0 k1 a0 (wrap64 (x3_1 + 1))) else (if (wrap64 (bt a0 x3_1))=46 then (spec_l4Part.l0 k1 a0 (wrap64 (x3_1 + 1))) else (if (wrap64 (bt a0 x3_1))=95 then (spec_l4Part.l0 k1 a0 (wrap64 (x3_1 + 1))) else (some false))))))=some r:=H
      have A7:=a_ A70;clear A70
      by_cases c8:t129=true
      ·subst c8;have H1:(spec_l4Part.l0 k1 a0 (wrap64 (x3_1 + 1)))=some r:=by rw [if_pos rfl] at H;exact H
       clear H;have H:=H1;clear H1;have H':=a_ H;clear H;have p4:0 ≤ (x3_1:Int):=of_decide_eq_true (by (with_reducible assumption));have q4:x3_1 < (a0.size:Int):=of_decide_eq_true (by (with_reducible assumption));have hx4:=bt_at a0 x3_1;replace p4:=eq_true p4;replace q4:=eq_true q4
       go_wp2_with (first | ((with_reducible refine gate_callee (f:=119) rfl ?_);refine goesL_ (some 17) rfl rfl Tryz.func119 (by kernel_rfl) rfl #[.int .i64 (wrap64 (bt a0 x3_1)),.int .i64 97,.int .i64 122] rfl (by (try simp only [List.map_toArray,List.map_cons,List.map_nil]);rfl) ?_;(with_reducible refine (spec_l1In.calls (wrap64 (bt a0 x3_1)) 97 122 false _ A5.out).mono ?_);rintro e w' ⟨rfl,⟨nd,rfl⟩⟩;refine ⟨_,rfl,?_⟩) | (go_at_call 119;(with_reducible refine (spec_l1In.calls (wrap64 (bt a0 x3_1)) 48 57 true _ A7.out).mono ?_);rintro e w' ⟨rfl,⟨nd,rfl⟩⟩))
       go_roundg k1
       case measure=>have:=HK1.out;omega
       case rel=>exact ⟨(wrap64 (x3_1 + 1)),(by rfl),H',⟨by have:=HK1.out;omega⟩,by repeat (first | exact Drawn0.refl _ | apply Drawn0.step)⟩
      ·replace c8:=Bool.eq_false_iff.mpr c8;subst c8;have H1:(if x3_1=0 then (some false) else (if (wrap64 (bt a0 x3_1))=45 then (spec_l4Part.l0 k1 a0 (wrap64 (x3_1 + 1))) else (if (wrap64 (bt a0 x3_1))=46 then (spec_l4Part.l0 k1 a0 (wrap64 (x3_1 + 1))) else (if (wrap64 (bt a0 x3_1))=95 then (spec_l4Part.l0 k1 a0 (wrap64 (x3_1 + 1))) else (some false)))))=some r:=by rw [if_neg (show ¬ (false=true) by decide)] at H;exact H
       clear H;have H:=H1;clear H1
       by_cases c9:x3_1=0
       ·rw [if_pos c9] at H;have c9b0:(x3_1 == 0)=true:=beq_iff_eq.mpr c9;have c9b1:(x3_1 != 0)=false:=bne_eq_false_iff_eq.mpr c9;clear c9;obtain rfl:=Option.some.inj H;have p4:0 ≤ (x3_1:Int):=of_decide_eq_true (by (with_reducible assumption));have q4:x3_1 < (a0.size:Int):=of_decide_eq_true (by (with_reducible assumption));have hx4:=bt_at a0 x3_1;replace p4:=eq_true p4;replace q4:=eq_true q4
        go_wp2_with (first | ((with_reducible refine gate_callee (f:=119) rfl ?_);refine goesL_ (some 17) rfl rfl Tryz.func119 (by kernel_rfl) rfl #[.int .i64 (wrap64 (bt a0 x3_1)),.int .i64 97,.int .i64 122] rfl (by (try simp only [List.map_toArray,List.map_cons,List.map_nil]);rfl) ?_;(with_reducible refine (spec_l1In.calls (wrap64 (bt a0 x3_1)) 97 122 false _ A5.out).mono ?_);rintro e w' ⟨rfl,⟨nd,rfl⟩⟩;refine ⟨_,rfl,?_⟩) | (go_at_call 119;(with_reducible refine (spec_l1In.calls (wrap64 (bt a0 x3_1)) 48 57 false _ A7.out).mono ?_);rintro e w' ⟨rfl,⟨nd,rfl⟩⟩))
        go_ret
        exact ⟨by rfl,by repeat (first | exact Drawn0.refl _ | apply Drawn0.step)⟩
       ·rw [if_neg c9] at H;have c9b0:(x3_1 == 0)=false:=beq_eq_false_iff_ne.mpr c9;have c9b1:(x3_1 != 0)=true:=bne_iff_ne.mpr c9
        by_cases c10:(wrap64 (bt a0 x3_1))=45
        ·rw [if_pos c10] at H;have c10b0:((wrap64 (bt a0 x3_1)) == 45)=true:=beq_iff_eq.mpr c10;have c10b1:((wrap64 (bt a0 x3_1)) != 45)=false:=bne_eq_false_iff_eq.mpr c10;clear c10;have H':=a_ H;clear H;have p4:0 ≤ (x3_1:Int):=of_decide_eq_true (by (with_reducible assumption));have q4:x3_1 < (a0.size:Int):=of_decide_eq_true (by (with_reducible assumption));have hx4:=bt_at a0 x3_1;replace p4:=eq_true p4
         replace q4:=eq_true q4
         go_wp2_with (first | ((with_reducible refine gate_callee (f:=119) rfl ?_);refine goesL_ (some 17) rfl rfl Tryz.func119 (by kernel_rfl) rfl #[.int .i64 (wrap64 (bt a0 x3_1)),.int .i64 97,.int .i64 122] rfl (by (try simp only [List.map_toArray,List.map_cons,List.map_nil]);rfl) ?_;(with_reducible refine (spec_l1In.calls (wrap64 (bt a0 x3_1)) 97 122 false _ A5.out).mono ?_);rintro e w' ⟨rfl,⟨nd,rfl⟩⟩;refine ⟨_,rfl,?_⟩) | (go_at_call 119;(with_reducible refine (spec_l1In.calls (wrap64 (bt a0 x3_1)) 48 57 false _ A7.out).mono ?_);rintro e w' ⟨rfl,⟨nd,rfl⟩⟩))
         go_roundg k1
         case measure=>have:=HK1.out;omega
         case rel=>exact ⟨(wrap64 (x3_1 + 1)),(by rfl),H',⟨by have:=HK1.out;omega⟩,by repeat (first | exact Drawn0.refl _ | apply Drawn0.step)⟩
        ·rw [if_neg c10] at H;have c10b0:((wrap64 (bt a0 x3_1)) == 45)=false:=beq_eq_false_iff_ne.mpr c10;have c10b1:((wrap64 (bt a0 x3_1)) != 45)=true:=bne_iff_ne.mpr c10
         by_cases c11:(wrap64 (bt a0 x3_1))=46
         ·rw [if_pos c11] at H;have c11b0:((wrap64 (bt a0 x3_1)) == 46)=true:=beq_iff_eq.mpr c11;have c11b1:((wrap64 (bt a0 x3_1)) != 46)=false:=bne_eq_false_iff_eq.mpr c11;clear c11;have H':=a_ H;clear H;have p4:0 ≤ (x3_1:Int):=of_decide_eq_true (by (with_reducible assumption));have q4:x3_1 < (a0.size:Int):=of_decide_eq_true (by (with_reducible assumption));have hx4:=bt_at a0 x3_1;replace p4:=eq_true p4
          replace q4:=eq_true q4
          go_wp2_with (first | ((with_reducible refine gate_callee (f:=119) rfl ?_);refine goesL_ (some 17) rfl rfl Tryz.func119 (by kernel_rfl) rfl #[.int .i64 (wrap64 (bt a0 x3_1)),.int .i64 97,.int .i64 122] rfl (by (try simp only [List.map_toArray,List.map_cons,List.map_nil]);rfl) ?_;(with_reducible refine (spec_l1In.calls (wrap64 (bt a0 x3_1)) 97 122 false _ A5.out).mono ?_);rintro e w' ⟨rfl,⟨nd,rfl⟩⟩;refine ⟨_,rfl,?_⟩) | (go_at_call 119;(with_reducible refine (spec_l1In.calls (wrap64 (bt a0 x3_1)) 48 57 false _ A7.out).mono ?_);rintro e w' ⟨rfl,⟨nd,rfl⟩⟩))
          go_roundg k1
          case measure=>have:=HK1.out;omega
          case rel=>exact ⟨(wrap64 (x3_1 + 1)),(by rfl),H',⟨by have:=HK1.out;omega⟩,by repeat (first | exact Drawn0.refl _ | apply Drawn0.step)⟩
         ·rw [if_neg c11] at H;have c11b0:((wrap64 (bt a0 x3_1)) == 46)=false:=beq_eq_false_iff_ne.mpr c11;have c11b1:((wrap64 (bt a0 x3_1)) != 46)=true:=bne_iff_ne.mpr c11
          by_cases c12:(wrap64 (bt a0 x3_1))=95
          ·rw [if_pos c12] at H;have c12b0:((wrap64 (bt a0 x3_1)) == 95)=true:=beq_iff_eq.mpr c12;have c12b1:((wrap64 (bt a0 x3_1)) != 95)=false:=bne_eq_false_iff_eq.mpr c12;clear c12;have H':=a_ H;clear H;have p4:0 ≤ (x3_1:Int):=of_decide_eq_true (by (with_reducible assumption));have q4:x3_1 < (a0.size:Int):=of_decide_eq_true (by (with_reducible assumption));have hx4:=bt_at a0 x3_1;replace p4:=eq_true p4
           replace q4:=eq_true q4
           go_wp2_with (first | ((with_reducible refine gate_callee (f:=119) rfl ?_);refine goesL_ (some 17) rfl rfl Tryz.func119 (by kernel_rfl) rfl #[.int .i64 (wrap64 (bt a0 x3_1)),.int .i64 97,.int .i64 122] rfl (by (try simp only [List.map_toArray,List.map_cons,List.map_nil]);rfl) ?_;(with_reducible refine (spec_l1In.calls (wrap64 (bt a0 x3_1)) 97 122 false _ A5.out).mono ?_);rintro e w' ⟨rfl,⟨nd,rfl⟩⟩;refine ⟨_,rfl,?_⟩) | (go_at_call 119;(with_reducible refine (spec_l1In.calls (wrap64 (bt a0 x3_1)) 48 57 false _ A7.out).mono ?_);rintro e w' ⟨rfl,⟨nd,rfl⟩⟩))
           go_roundg k1
           case measure=>have:=HK1.out;omega
           case rel=>exact ⟨(wrap64 (x3_1 + 1)),(by rfl),H',⟨by have:=HK1.out;omega⟩,by repeat (first | exact Drawn0.refl _ | apply Drawn0.step)⟩
          ·rw [if_neg c12] at H;have c12b0:((wrap64 (bt a0 x3_1)) == 95)=false:=beq_eq_false_iff_ne.mpr c12;have c12b1:((wrap64 (bt a0 x3_1)) != 95)=true:=bne_iff_ne.mpr c12;obtain rfl:=Option.some.inj H;have p4:0 ≤ (x3_1:Int):=of_decide_eq_true (by (with_reducible assumption));have q4:x3_1 < (a0.size:Int):=of_decide_eq_true (by (with_reducible assumption));have hx4:=bt_at a0 x3_1;replace p4:=eq_true p4
           replace q4:=eq_true q4
           go_wp2_with (first | ((with_reducible refine gate_callee (f:=119) rfl ?_);refine goesL_ (some 17) rfl rfl Tryz.func119 (by kernel_rfl) rfl #[.int .i64 (wrap64 (bt a0 x3_1)),.int .i64 97,.int .i64 122] rfl (by (try simp only [List.map_toArray,List.map_cons,List.map_nil]);rfl) ?_;(with_reducible refine (spec_l1In.calls (wrap64 (bt a0 x3_1)) 97 122 false _ A5.out).mono ?_);rintro e w' ⟨rfl,⟨nd,rfl⟩⟩;refine ⟨_,rfl,?_⟩) | (go_at_call 119;(with_reducible refine (spec_l1In.calls (wrap64 (bt a0 x3_1)) 48 57 false _ A7.out).mono ?_);rintro e w' ⟨rfl,⟨nd,rfl⟩⟩))
           go_ret
           exact ⟨by rfl,by repeat (first | exact Drawn0.refl _ | apply Drawn0.step)⟩
    ·rw [if_neg c3] at H;exact absurd H (by simp)
   ·rw [if_neg c2] at H;have c2b0:decide (x3_1 < (a0.size:Int))=false:=decide_eq_false c2;clear c2;replace H:=Option.bind_eq_some_iff.mp H;obtain ⟨t127,A130,H⟩:=H;replace H:(some t127)=some r:=H;have A13:=a_ A130;clear A130;obtain rfl:=Option.some.inj H
    go_wp2_with (((with_reducible refine gate_callee (f:=119) rfl ?_);refine goesL_ (some 42) rfl rfl Tryz.func119 (by kernel_rfl) rfl #[.int .i64 (a0.size:Int),.int .i64 1,.int .i64 20] rfl (by (try simp only [List.map_toArray,List.map_cons,List.map_nil]);rfl) ?_;(with_reducible refine (spec_l1In.calls (a0.size:Int) 1 20 t127 _ A13.out).mono ?_);rintro e w' ⟨rfl,⟨nd,rfl⟩⟩;refine ⟨_,rfl,?_⟩))
    go_ret
    exact ⟨by rfl,by repeat (first | exact Drawn0.refl _ | apply Drawn0.step)⟩
def spec_PathOk.l0:Nat → ByteArray → List ByteArray → Int → Option (Bool)
 | 0,_,_,_=>none
 | k + 1,x0,x3,x4=>if x4 < (x3.length:Int) then (if 0 ≤ x4 then ((spec_l4Part.f k (rdOf ByteArray.empty x3 x4)).bind fun t134=>(if t134=true then (spec_PathOk.l0 k x0 x3 (wrap64 (x4 + 1))) else (some false))) else (none)) else (if (x3.length:Int) ≤ 6 then (some (decide ((x0.size:Int) ≤ 60))) else (some false))
def spec_PathOk.f (k:Nat) (a0:ByteArray):Option (Bool):=(spec_l3Split.f k a0 47).bind fun t130=>(spec_PathOk.l0 k a0 t130 0)
theorem spec_PathOk.mono_l : ∀ k,(∀ y0 y1 y2,LeO (spec_PathOk.l0 k y0 y1 y2) (spec_PathOk.l0 (k + 1) y0 y1 y2))
 | 0=>fun _ _ _ r h=>by simp [spec_PathOk.l0] at h
 | k + 1=>by
  have ih0:=spec_PathOk.mono_l k
  ·intro y0 y1 y2;unfold spec_PathOk.l0
   repeat' first
   | (with_reducible exact ih0 _ _ _)
   | (with_reducible exact spec_l4Part.mono _ _)
   | (with_reducible exact LeO.refl _)
   | (with_reducible refine LeO.ite ?_ ?_)
   | (with_reducible refine LeO.bind ?_ (fun _=>?_))
theorem spec_PathOk.mono : ∀ a0 k,LeO (spec_PathOk.f k a0) (spec_PathOk.f (k + 1) a0):=by
 intro a0 k;have ih0:=spec_PathOk.mono_l k;unfold spec_PathOk.f
 repeat' first
  | (with_reducible exact ih0 _ _ _)
  | (with_reducible exact spec_l3Split.mono _ _ _)
  | (with_reducible refine LeO.bind ?_ (fun _=>?_))
set_option maxHeartbeats 8000000 in
set_option maxRecDepth 100000 in
theorem spec_PathOk.calls (k:Nat) (a0:ByteArray) (r:Bool) (w:World) (h:spec_PathOk.f k a0=some r) :
 Calls Tryz.prog 165 #[.string a0] w fun e w'=>e = .returned (.bool r) ∧ Below w.heap.size w w':=by
 have HB:=a_ (Below.refl w.heap.size w);have H:((spec_l3Split.f k a0 47).bind fun t130=>(spec_PathOk.l0 k a0 t130 0))=some r:=h;clear h;replace H:=Option.bind_eq_some_iff.mp H;obtain ⟨t130,A20,H⟩:=H;replace H:(spec_PathOk.l0 k a0 t130 0)=some r:=H;have A2:=a_ A20;clear A20;have H':=a_ H;clear H
 go_enter Tryz.func165,Tryz.ntmps165
 go_wp2_with (((with_reducible refine gate_callee (f:=99) rfl ?_);refine goesL_ (some 6) rfl rfl Tryz.func99 (by kernel_rfl) rfl #[.string a0,.int .u8 47] rfl (by (try simp only [List.map_toArray,List.map_cons,List.map_nil]);rfl) ?_;(with_reducible refine (spec_l3Split.calls k a0 47 t130 _ A2.out).mono ?_);rintro e w3 ⟨v131,rfl,ho0,hb⟩;refine ⟨_,rfl,?_⟩;have n0_:=a_ (Kd.R_lower ho0 (below_size HB.out));have n1_:=a_ (below_step HB.out hb);clear HB;have HO132:=n0_;have HB:=n1_;clear n0_ n1_;(try clear hb);(try clear ho0)))
 go_loopg [4] k (fun kq v4 w'=>∃ (x4_1:Int),v4 = .int .i64 x4_1 ∧ Aside0 (spec_PathOk.l0 kq a0 t130 x4_1=some r) ∧ Aside0 (kq ≤ k) ∧ Aside0 (Kd.R Kd.string 9 w' w.heap.size (fun _=>True) v131 t130) ∧ Aside0 (Below w.heap.size w w'))
 case atStart=>exact ⟨(0),(by rfl),H',⟨Nat.le_refl _⟩,⟨by exact HO132.out⟩,⟨by exact HB.out⟩⟩
 case round=>
  clear H';obtain ⟨x4_1,rfl,HA,HK1,HO_3,HB⟩:=hrel
  cases gk with
  | zero=>exact absurd HA.out (by simp [spec_PathOk.l0])
  | succ k1=>
   have H:=HA.out;clear HA;simp only [spec_PathOk.l0] at H
   by_cases c4:x4_1 < (t130.length:Int)
   ·rw [if_pos c4] at H;have c4b0:decide (x4_1 < (t130.length:Int))=true:=decide_eq_true c4;clear c4
    by_cases c5:0 ≤ x4_1
    ·rw [if_pos c5] at H;have c5b0:decide (0 ≤ x4_1)=true:=decide_eq_true c5;clear c5;replace H:=Option.bind_eq_some_iff.mp H;obtain ⟨t134,A60,H⟩:=H;replace H:(if t134=true then (spec_PathOk.l0 k1 a0 t130 (wrap64 (x4_1 + 1))) else (some false))=some r:=H;have A6:=a_ A60;clear A60
     by_cases c7:t134=true
     ·subst c7;have H1:(spec_PathOk.l0 k1 a0 t130 (wrap64 (x4_1 + 1)))=some r:=by rw [if_pos rfl] at H;exact H
      clear H;have H:=H1;clear H1;have H':=a_ H;clear H;obtain ⟨Ao8,co8,eo8⟩:=Kd.R_slice HO_3.out;subst eo8;have p133:0 ≤ (x4_1:Int):=of_decide_eq_true (by (with_reducible assumption));have q133:x4_1 < (t130.length:Int):=of_decide_eq_true (by (with_reducible assumption));obtain ⟨ad133,e133,hx133_0⟩:=Kd.at_string (Kd.R_reads' HO_3.out).2.2 x4_1 p133 q133;cases e133;replace p133:=eq_true p133;replace q133:=eq_true q133
      go_wp2_with (((with_reducible refine gate_callee (f:=194) rfl ?_);refine goesL_ (some 17) rfl rfl Tryz.func194 (by kernel_rfl) rfl #[.string (rdOf ByteArray.empty t130 x4_1)] rfl (by (try simp only [List.map_toArray,List.map_cons,List.map_nil]);rfl) ?_;(with_reducible refine (spec_l4Part.calls k1 (rdOf ByteArray.empty t130 x4_1) true _ A6.out).mono ?_);rintro e w' ⟨rfl,⟨nd,rfl⟩⟩;refine ⟨_,rfl,?_⟩))
      go_roundg k1
      case measure=>have:=HK1.out;omega
      case rel=>exact ⟨(wrap64 (x4_1 + 1)),(by rfl),H',⟨by have:=HK1.out;omega⟩,⟨by (with_reducible repeat (apply Kd.R_drewN));exact HO_3.out⟩,⟨by repeat (with_reducible first | exact HB.out | apply pw_below_drewN)⟩⟩
     ·replace c7:=Bool.eq_false_iff.mpr c7;subst c7;have H1:(some false)=some r:=by rw [if_neg (show ¬ (false=true) by decide)] at H;exact H
      clear H;have H:=H1;clear H1;obtain rfl:=Option.some.inj H;obtain ⟨Ao9,co9,eo9⟩:=Kd.R_slice HO_3.out;subst eo9;have p133:0 ≤ (x4_1:Int):=of_decide_eq_true (by (with_reducible assumption));have q133:x4_1 < (t130.length:Int):=of_decide_eq_true (by (with_reducible assumption));obtain ⟨ad133,e133,hx133_0⟩:=Kd.at_string (Kd.R_reads' HO_3.out).2.2 x4_1 p133 q133;cases e133;replace p133:=eq_true p133
      replace q133:=eq_true q133
      go_wp2_with (((with_reducible refine gate_callee (f:=194) rfl ?_);refine goesL_ (some 17) rfl rfl Tryz.func194 (by kernel_rfl) rfl #[.string (rdOf ByteArray.empty t130 x4_1)] rfl (by (try simp only [List.map_toArray,List.map_cons,List.map_nil]);rfl) ?_;(with_reducible refine (spec_l4Part.calls k1 (rdOf ByteArray.empty t130 x4_1) false _ A6.out).mono ?_);rintro e w' ⟨rfl,⟨nd,rfl⟩⟩;refine ⟨_,rfl,?_⟩))
      go_ret
      exact ⟨by rfl,by repeat (with_reducible first | exact HB.out | apply pw_below_drewN)⟩
    ·rw [if_neg c5] at H;exact absurd H (by simp)
   ·rw [if_neg c4] at H;have c4b0:decide (x4_1 < (t130.length:Int))=false:=decide_eq_false c4;clear c4
    by_cases c10:(t130.length:Int) ≤ 6
    ·rw [if_pos c10] at H;have c10b0:decide ((t130.length:Int) ≤ 6)=true:=decide_eq_true c10;have c10b1:decide (t130.length ≤ 6)=true:=decide_eq_true (by omega);clear c10;obtain rfl:=Option.some.inj H;obtain ⟨Ao11,co11,eo11⟩:=Kd.R_slice HO_3.out;subst eo11
     go_wp2
     go_ret
     exact ⟨by rfl,by exact HB.out⟩
    ·rw [if_neg c10] at H;have c10b0:decide ((t130.length:Int) ≤ 6)=false:=decide_eq_false c10;have c10b1:decide (t130.length ≤ 6)=false:=decide_eq_false (by omega);clear c10;obtain rfl:=Option.some.inj H;obtain ⟨Ao12,co12,eo12⟩:=Kd.R_slice HO_3.out;subst eo12
     go_wp2
     go_ret
     exact ⟨by rfl,by exact HB.out⟩
def spec_l3Digits.l0:Nat → ByteArray → Int → Option (Bool)
 | 0,_,_=>none
 | k + 1,x0,x3=>if x3 < (x0.size:Int) then (if 0 ≤ x3 then ((spec_l1In.f (wrap64 (bt x0 x3)) 48 57).bind fun t135=>(if t135=true then (spec_l3Digits.l0 k x0 (wrap64 (x3 + 1))) else (some false))) else (none)) else (some (x0.toList != ([]:List UInt8)))
def spec_l3Digits.f (k:Nat) (a0:ByteArray):Option (Bool):=spec_l3Digits.l0 k a0 0
theorem spec_l3Digits.mono_l : ∀ k,(∀ y0 y1,LeO (spec_l3Digits.l0 k y0 y1) (spec_l3Digits.l0 (k + 1) y0 y1))
 | 0=>fun _ _ r h=>by simp [spec_l3Digits.l0] at h
 | k + 1=>by
  have ih0:=spec_l3Digits.mono_l k
  ·intro y0 y1;unfold spec_l3Digits.l0
   repeat' first
   | (with_reducible exact ih0 _ _)
   | (with_reducible exact LeO.refl _)
   | (with_reducible refine LeO.ite ?_ ?_)
   | (with_reducible refine LeO.bind ?_ (fun _=>?_))
theorem spec_l3Digits.mono : ∀ a0 k,LeO (spec_l3Digits.f k a0) (spec_l3Digits.f (k + 1) a0):=by
 intro a0 k;have ih0:=spec_l3Digits.mono_l k;unfold spec_l3Digits.f
 repeat' (with_reducible exact ih0 _ _)
set_option maxHeartbeats 8000000 in
set_option maxRecDepth 100000 in
theorem spec_l3Digits.calls (k:Nat) (a0:ByteArray) (r:Bool) (w:World) (h:spec_l3Digits.f k a0=some r) :
 Calls Tryz.prog 143 #[.string a0] w fun e w'=>e = .returned (.bool r) ∧ Drawn0 w w':=by
 have H:(spec_l3Digits.l0 k a0 0)=some r:=h;clear h;have H':=a_ H;clear H
 go_enter Tryz.func143,Tryz.ntmps143
 go_wp2
 go_loopg [3] k (fun kq v3 w'=>∃ (x3_1:Int),v3 = .int .i64 x3_1 ∧ Aside0 (spec_l3Digits.l0 kq a0 x3_1=some r) ∧ Aside0 (kq ≤ k) ∧ Drawn0 w w')
 case atStart=>exact ⟨(0),(by rfl),H',⟨Nat.le_refl _⟩,by repeat (exact Drawn0.refl _)⟩
 case round=>
  clear H';obtain ⟨x3_1,rfl,HA,HK1,⟨m1,rfl⟩⟩:=hrel
  cases gk with
  | zero=>exact absurd HA.out (by simp [spec_l3Digits.l0])
  | succ k1=>
   have H:=HA.out;clear HA;simp only [spec_l3Digits.l0] at H
   by_cases c2:x3_1 < (a0.size:Int)
   ·rw [if_pos c2] at H;have c2b0:decide (x3_1 < (a0.size:Int))=true:=decide_eq_true c2;clear c2
    by_cases c3:0 ≤ x3_1
    ·rw [if_pos c3] at H;have c3b0:decide (0 ≤ x3_1)=true:=decide_eq_true c3;clear c3;replace H:=Option.bind_eq_some_iff.mp H;obtain ⟨t135,A50,H⟩:=H;replace H:(if t135=true then (spec_l3Digits.l0 k1 a0 (wrap64 (x3_1 + 1))) else (some false))=some r:=H;have A5:=a_ A50;clear A50
     by_cases c6:t135=true
     ·subst c6;have H1:(spec_l3Digits.l0 k1 a0 (wrap64 (x3_1 + 1)))=some r:=by rw [if_pos rfl] at H;exact H
      clear H;have H:=H1;clear H1;have H':=a_ H;clear H;have p4:0 ≤ (x3_1:Int):=of_decide_eq_true (by (with_reducible assumption));have q4:x3_1 < (a0.size:Int):=of_decide_eq_true (by (with_reducible assumption));have hx4:=bt_at a0 x3_1;replace p4:=eq_true p4;replace q4:=eq_true q4
      go_wp2_with (((with_reducible refine gate_callee (f:=119) rfl ?_);refine goesL_ (some 14) rfl rfl Tryz.func119 (by kernel_rfl) rfl #[.int .i64 (wrap64 (bt a0 x3_1)),.int .i64 48,.int .i64 57] rfl (by (try simp only [List.map_toArray,List.map_cons,List.map_nil]);rfl) ?_;(with_reducible refine (spec_l1In.calls (wrap64 (bt a0 x3_1)) 48 57 true _ A5.out).mono ?_);rintro e w' ⟨rfl,⟨nd,rfl⟩⟩;refine ⟨_,rfl,?_⟩))
      go_roundg k1
      case measure=>have:=HK1.out;omega
      case rel=>exact ⟨(wrap64 (x3_1 + 1)),(by rfl),H',⟨by have:=HK1.out;omega⟩,by repeat (first | exact Drawn0.refl _ | apply Drawn0.step)⟩
     ·replace c6:=Bool.eq_false_iff.mpr c6;subst c6;have H1:(some false)=some r:=by rw [if_neg (show ¬ (false=true) by decide)] at H;exact H
      clear H;have H:=H1;clear H1;obtain rfl:=Option.some.inj H;have p4:0 ≤ (x3_1:Int):=of_decide_eq_true (by (with_reducible assumption));have q4:x3_1 < (a0.size:Int):=of_decide_eq_true (by (with_reducible assumption));have hx4:=bt_at a0 x3_1;replace p4:=eq_true p4;replace q4:=eq_true q4
      go_wp2_with (((with_reducible refine gate_callee (f:=119) rfl ?_);refine goesL_ (some 14) rfl rfl Tryz.func119 (by kernel_rfl) rfl #[.int .i64 (wrap64 (bt a0 x3_1)),.int .i64 48,.int .i64 57] rfl (by (try simp only [List.map_toArray,List.map_cons,List.map_nil]);rfl) ?_;(with_reducible refine (spec_l1In.calls (wrap64 (bt a0 x3_1)) 48 57 false _ A5.out).mono ?_);rintro e w' ⟨rfl,⟨nd,rfl⟩⟩;refine ⟨_,rfl,?_⟩))
      go_ret
      exact ⟨by rfl,by repeat (first | exact Drawn0.refl _ | apply Drawn0.step)⟩
    ·rw [if_neg c3] at H;exact absurd H (by simp)
   ·rw [if_neg c2] at H;have c2b0:decide (x3_1 < (a0.size:Int))=false:=decide_eq_false c2;clear c2;obtain rfl:=Option.some.inj H
    go_wp2
    go_ret
    exact ⟨by (simp [bne_nil_];done),by repeat (first | exact Drawn0.refl _ | apply Drawn0.step)⟩
mutual
def spec_l3Number.j0:Nat → ByteArray → Bool → Option (Int)
 | 0,_,_=>none
 | k + 1,x0,x22=>if x22=true then (some (-1)) else (spec_l3Number.l0 k x0 0 0)
def spec_l3Number.l0:Nat → ByteArray → Int → Int → Option (Int)
 | 0,_,_,_=>none
 | k + 1,x0,x3,x4=>if x4 < (x0.size:Int) then (if 0 ≤ x4 then (spec_l3Number.l0 k x0 (wrap64 ((wrap64 (x3 * 10)) + (((bt x0 x4) - 48) % 256))) (wrap64 (x4 + 1))) else (none)) else (some x3)
end
def spec_l3Number.f (k:Nat) (a0:ByteArray):Option (Int):=(spec_l3Digits.f k a0).bind fun t136=>(if t136=true then (if (a0.size:Int) > 8 then (spec_l3Number.j0 k a0 true) else (if (a0.size:Int) > 1 then (if 0 < (a0.size:Int) then (spec_l3Number.j0 k a0 ((bt a0 0) == 48)) else (none)) else (spec_l3Number.j0 k a0 false))) else (spec_l3Number.j0 k a0 true))
theorem spec_l3Number.mono_l : ∀ k,(∀ y0 y1,LeO (spec_l3Number.j0 k y0 y1) (spec_l3Number.j0 (k + 1) y0 y1)) ∧ (∀ y0 y1 y2,LeO (spec_l3Number.l0 k y0 y1 y2) (spec_l3Number.l0 (k + 1) y0 y1 y2))
 | 0=>⟨fun _ _ r h=>by simp [spec_l3Number.j0] at h,fun _ _ _ r h=>by simp [spec_l3Number.l0] at h⟩
 | k + 1=>by
  obtain ⟨ih0,ih1⟩:=spec_l3Number.mono_l k;refine ⟨?_,?_⟩
  ·intro y0 y1;unfold spec_l3Number.j0
   repeat' first
   | (with_reducible exact ih1 _ _ _)
   | (with_reducible exact LeO.refl _)
   | (with_reducible refine LeO.ite ?_ ?_)
  ·intro y0 y1 y2;unfold spec_l3Number.l0
   repeat' first
   | (with_reducible exact ih1 _ _ _)
   | (with_reducible exact LeO.refl _)
   | (with_reducible refine LeO.ite ?_ ?_)
theorem spec_l3Number.mono : ∀ a0 k,LeO (spec_l3Number.f k a0) (spec_l3Number.f (k + 1) a0):=by
 intro a0 k;obtain ⟨ih0,ih1⟩:=spec_l3Number.mono_l k;unfold spec_l3Number.f
 repeat' first
  | (with_reducible exact ih0 _ _)
  | (with_reducible exact spec_l3Digits.mono _ _)
  | (with_reducible exact LeO.refl _)
  | (with_reducible refine LeO.ite ?_ ?_)
  | (with_reducible refine LeO.bind ?_ (fun _=>?_))
set_option maxHeartbeats 8000000 in
set_option maxRecDepth 100000 in
theorem spec_l3Number.calls (k:Nat) (a0:ByteArray) (r:Int) (w:World) (h:spec_l3Number.f k a0=some r) :
 Calls Tryz.prog 101 #[.string a0] w fun e w'=>e = .returned (.int .i64 r) ∧ Drawn0 w w':=by
 have H:((spec_l3Digits.f k a0).bind fun t136=>(if t136=true then (if (a0.size:Int) > 8 then (spec_l3Number.j0 k a0 true) else (if (a0.size:Int) > 1 then (if 0 < (a0.size:Int) then (spec_l3Number.j0 k a0 ((bt a0 0) == 48)) else (none)) else (spec_l3Number.j0 k a0 false))) else (spec_l3Number.j0 k a0 true)))=some r:=h;clear h;have HC2:=a_ H;clear H
 go_enter Tryz.func101,Tryz.ntmps101
 go_upto_region 1 with (fail)
 go_cut [22] (fun v22 wc=>∃ (kq:Nat) (x22_1:Bool),v22 = .bool x22_1 ∧ Aside0 (spec_l3Number.j0 kq a0 x22_1=some r) ∧ Aside0 (kq ≤ k) ∧ Drawn0 w wc)
 case first=>
  have H:=HC2.out;clear HC2;replace H:=Option.bind_eq_some_iff.mp H;obtain ⟨t136,A30,H⟩:=H;replace H:(if t136=true then (if (a0.size:Int) > 8 then (spec_l3Number.j0 k a0 true) else (if (a0.size:Int) > 1 then (if 0 < (a0.size:Int) then (spec_l3Number.j0 k a0 ((bt a0 0) == 48)) else (none)) else (spec_l3Number.j0 k a0 false))) else (spec_l3Number.j0 k a0 true))=some r:=H;have A3:=a_ A30;clear A30
  by_cases c4:t136=true
  ·subst c4;have H1:(if (a0.size:Int) > 8 then (spec_l3Number.j0 k a0 true) else (if (a0.size:Int) > 1 then (if 0 < (a0.size:Int) then (spec_l3Number.j0 k a0 ((bt a0 0) == 48)) else (none)) else (spec_l3Number.j0 k a0 false)))=some r:=by rw [if_pos rfl] at H;exact H
   clear H;have H:=H1;clear H1
   by_cases c5:(a0.size:Int) > 8
   ·rw [if_pos c5] at H;have c5b0:decide (8 < (a0.size:Int))=true:=decide_eq_true c5;have c5b1:decide (8 < a0.size)=true:=decide_eq_true (by omega);clear c5
    (skip)
    have H':=a_ H;clear H
    go_wp2_with (((with_reducible refine gate_callee (f:=143) rfl ?_);refine goesL_ (some 6) rfl rfl Tryz.func143 (by kernel_rfl) rfl #[.string a0] rfl (by (try simp only [List.map_toArray,List.map_cons,List.map_nil]);rfl) ?_;(with_reducible refine (spec_l3Digits.calls k a0 true _ A3.out).mono ?_);rintro e w' ⟨rfl,⟨nd,rfl⟩⟩;refine ⟨_,rfl,?_⟩))
    go_meet
    case rel=>exact ⟨_,(true),(by rfl),H',⟨by omega⟩,by repeat (first | exact Drawn0.refl _ | apply Drawn0.step)⟩
   ·rw [if_neg c5] at H;have c5b0:decide (8 < (a0.size:Int))=false:=decide_eq_false c5;have c5b1:decide (8 < a0.size)=false:=decide_eq_false (by omega);clear c5
    (skip)
    by_cases c6:(a0.size:Int) > 1
    ·rw [if_pos c6] at H;have c6b0:decide (1 < (a0.size:Int))=true:=decide_eq_true c6;have c6b1:decide (1 < a0.size)=true:=decide_eq_true (by omega);clear c6
     by_cases c7:0 < (a0.size:Int)
     ·rw [if_pos c7] at H;have c7b0:decide (0 < (a0.size:Int))=true:=decide_eq_true c7;have c7b1:decide (0 < a0.size)=true:=decide_eq_true (by omega);clear c7;have H':=a_ H;clear H
      go_wp2_with (((with_reducible refine gate_callee (f:=143) rfl ?_);refine goesL_ (some 6) rfl rfl Tryz.func143 (by kernel_rfl) rfl #[.string a0] rfl (by (try simp only [List.map_toArray,List.map_cons,List.map_nil]);rfl) ?_;(with_reducible refine (spec_l3Digits.calls k a0 true _ A3.out).mono ?_);rintro e w' ⟨rfl,⟨nd,rfl⟩⟩;refine ⟨_,rfl,?_⟩;have p8:0 ≤ (0:Int):=(by omega);have q8:0 < a0.size:=(by have:(0:Int) < (a0.size:Int):=of_decide_eq_true (by (with_reducible assumption));omega);have hx8 : ∀ h:0 < a0.size,((a0[0]'h).toNat:Int)=bt a0 0:=bt_at a0 0;clear p8;have qi8:(0 < (a0.size:Int))=True:=eq_true (of_decide_eq_true (by (with_reducible assumption)));replace q8:=eq_true q8))
      go_meet
      case rel=>exact ⟨_,(((bt a0 0) == 48)),(by rfl),H',⟨by omega⟩,by repeat (first | exact Drawn0.refl _ | apply Drawn0.step)⟩
     ·rw [if_neg c7] at H;exact absurd H (by simp)
    ·rw [if_neg c6] at H;have c6b0:decide (1 < (a0.size:Int))=false:=decide_eq_false c6;have c6b1:decide (1 < a0.size)=false:=decide_eq_false (by omega);clear c6;have H':=a_ H;clear H
     go_wp2_with (((with_reducible refine gate_callee (f:=143) rfl ?_);refine goesL_ (some 6) rfl rfl Tryz.func143 (by kernel_rfl) rfl #[.string a0] rfl (by (try simp only [List.map_toArray,List.map_cons,List.map_nil]);rfl) ?_;(with_reducible refine (spec_l3Digits.calls k a0 true _ A3.out).mono ?_);rintro e w' ⟨rfl,⟨nd,rfl⟩⟩;refine ⟨_,rfl,?_⟩))
     go_meet
     case rel=>exact ⟨_,(false),(by rfl),H',⟨by omega⟩,by repeat (first | exact Drawn0.refl _ | apply Drawn0.step)⟩
  ·replace c4:=Bool.eq_false_iff.mpr c4;subst c4;have H1:(spec_l3Number.j0 k a0 true)=some r:=by rw [if_neg (show ¬ (false=true) by decide)] at H;exact H
   clear H;have H:=H1;clear H1;have H':=a_ H;clear H
   go_wp2_with (((with_reducible refine gate_callee (f:=143) rfl ?_);refine goesL_ (some 6) rfl rfl Tryz.func143 (by kernel_rfl) rfl #[.string a0] rfl (by (try simp only [List.map_toArray,List.map_cons,List.map_nil]);rfl) ?_;(with_reducible refine (spec_l3Digits.calls k a0 false _ A3.out).mono ?_);rintro e w' ⟨rfl,⟨nd,rfl⟩⟩;refine ⟨_,rfl,?_⟩))
   go_meet
   case rel=>exact ⟨_,(true),(by rfl),H',⟨by omega⟩,by repeat (first | exact Drawn0.refl _ | apply Drawn0.step)⟩
 case rest=>
  clear HC2;obtain ⟨kq,x22_1,rfl,HA,HJ1,⟨mc1,rfl⟩⟩:=hcut
  cases kq with
  | zero=>exact absurd HA.out (by simp [spec_l3Number.j0])
  | succ kj1=>
   have H:=HA.out;clear HA;simp only [spec_l3Number.j0] at H
   by_cases c9:x22_1=true
   ·subst c9;have H1:(some (-1))=some r:=by rw [if_pos rfl] at H;exact H
    clear H;have H:=H1;clear H1;obtain rfl:=Option.some.inj H
    go_wp2
    go_ret
    exact ⟨by rfl,by repeat (first | exact Drawn0.refl _ | apply Drawn0.step)⟩
   ·replace c9:=Bool.eq_false_iff.mpr c9;subst c9;have H1:(spec_l3Number.l0 kj1 a0 0 0)=some r:=by rw [if_neg (show ¬ (false=true) by decide)] at H;exact H
    clear H;have H:=H1;clear H1;have H':=a_ H;clear H
    go_wp2
    go_loopg [3,4] kj1 (fun kq v3 v4 w'=>∃ (x3_2:Int) (x4_2:Int),v3 = .int .i64 x3_2 ∧ v4 = .int .i64 x4_2 ∧ Aside0 (spec_l3Number.l0 kq a0 x3_2 x4_2=some r) ∧ Aside0 (kq ≤ kj1) ∧ Drawn0 w w')
    case atStart=>exact ⟨(0),(0),(by rfl),(by rfl),H',⟨Nat.le_refl _⟩,by repeat (first | exact Drawn0.refl _ | apply Drawn0.step)⟩
    case round=>
     clear H';obtain ⟨x3_2,x4_2,rfl,rfl,HA,HK2,⟨m2,rfl⟩⟩:=hrel
     cases gk with
     | zero=>exact absurd HA.out (by simp [spec_l3Number.l0])
     | succ k2=>
      have H:=HA.out;clear HA;simp only [spec_l3Number.l0] at H
      by_cases c10:x4_2 < (a0.size:Int)
      ·rw [if_pos c10] at H;have c10b0:decide (x4_2 < (a0.size:Int))=true:=decide_eq_true c10;clear c10
       by_cases c11:0 ≤ x4_2
       ·rw [if_pos c11] at H;have c11b0:decide (0 ≤ x4_2)=true:=decide_eq_true c11;clear c11;have H':=a_ H;clear H;have p12:0 ≤ (x4_2:Int):=of_decide_eq_true (by (with_reducible assumption));have q12:x4_2 < (a0.size:Int):=of_decide_eq_true (by (with_reducible assumption));have hx12:=bt_at a0 x4_2;replace p12:=eq_true p12;replace q12:=eq_true q12
        go_wp2
        go_roundg k2
        case measure=>have:=HJ1.out;have:=HK2.out;omega
        case rel=>exact ⟨(wrap64 ((wrap64 (x3_2 * 10)) + (((bt a0 x4_2) - 48) % 256))),(wrap64 (x4_2 + 1)),(by rfl),(by rfl),H',⟨by have:=HJ1.out;have:=HK2.out;omega⟩,by repeat (first | exact Drawn0.refl _ | apply Drawn0.step)⟩
       ·rw [if_neg c11] at H;exact absurd H (by simp)
      ·rw [if_neg c10] at H;have c10b0:decide (x4_2 < (a0.size:Int))=false:=decide_eq_false c10;clear c10;obtain rfl:=Option.some.inj H
       go_wp2
       go_ret
       exact ⟨by rfl,by repeat (first | exact Drawn0.refl _ | apply Drawn0.step)⟩
end Go.Proofs.YtfpdikledfhcaaaGreatDoor.PFnExactClientOk
