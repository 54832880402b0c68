import Derived.Test.YtmkdeknpphimbaaDoorCCePFnClosedx0
import Derived.Test.YtmkdeknpphimbaaDoorCCePFnClosedx5
namespace Go.Proofs.YtmkdeknpphimbaaDoor.PFnClosed
open Go.RowKit Go.Proofs.YtmkdeknpphimbaaDoorW.PrintWords Go.Proofs.YtmkdeknpphimbaaDoorW.PrintLast Go.Proofs.YtmkdeknpphimbaaDoorW.PrintMore
attribute [local go_sem] max2_int min2_int max_two min_two max_three min_three max_four min_four
set_option linter.unusedVariables false
set_option linter.unusedSimpArgs false
def spec_l3Digits.l0:Nat → ByteArray → Int → Option (Bool)
 | 0,_,_=>none
 | k + 1,x0,x3=>if x3 < (x0.size:Int) then (if 0 ≤ x3 then ((spec_l1In.f (wrap64 (bt x0 x3)) 48 57).bind fun t150=>(if t150=true then (spec_l3Digits.l0 k x0 (wrap64 (x3 + 1))) else (some false))) else (none)) else (some (x0.toList != ([]:List UInt8)))
def spec_l3Digits.f (k:Nat) (a0:ByteArray):Option (Bool):=spec_l3Digits.l0 k a0 0
theorem spec_l3Digits.mono_l : ∀ k,(∀ y0 y1,LeO (spec_l3Digits.l0 k y0 y1) (spec_l3Digits.l0 (k + 1) y0 y1))
 | 0=>fun _ _ r h=>by simp [spec_l3Digits.l0] at h
 | k + 1=>by
  have ih0:=spec_l3Digits.mono_l k
  ·intro y0 y1;unfold spec_l3Digits.l0
   repeat' first
   | (with_reducible exact ih0 _ _)
   | (with_reducible exact LeO.refl _)
   | (with_reducible refine LeO.ite ?_ ?_)
   | (with_reducible refine LeO.bind ?_ (fun _=>?_))
theorem spec_l3Digits.mono : ∀ a0 k,LeO (spec_l3Digits.f k a0) (spec_l3Digits.f (k + 1) a0):=by
 intro a0 k;have ih0:=spec_l3Digits.mono_l k;unfold spec_l3Digits.f
 repeat' (with_reducible exact ih0 _ _)
set_option maxHeartbeats 8000000 in
set_option maxRecDepth 100000 in
theorem spec_l3Digits.calls (k:Nat) (a0:ByteArray) (r:Bool) (w:World) (h:spec_l3Digits.f k a0=some r) :
 Calls Tryd.prog 85 #[.string a0] w fun e w'=>e = .returned (.bool r) ∧ Drawn0 w w':=by
 have H:(spec_l3Digits.l0 k a0 0)=some r:=h;clear h;have H':=a_ H;clear H
 go_enter Tryd.func85,Tryd.ntmps85
 go_wp2
 go_loopg [3] k (fun kq v3 w'=>∃ (x3_1:Int),v3 = .int .i64 x3_1 ∧ Aside0 (spec_l3Digits.l0 kq a0 x3_1=some r) ∧ Aside0 (kq ≤ k) ∧ Drawn0 w w')
 case atStart=>exact ⟨(0),(by rfl),H',⟨Nat.le_refl _⟩,by repeat (exact Drawn0.refl _)⟩
 case round=>
  clear H';obtain ⟨x3_1,rfl,HA,HK1,⟨m1,rfl⟩⟩:=hrel
  cases gk with
  | zero=>exact absurd HA.out (by simp [spec_l3Digits.l0])
  | succ k1=>
   have H:=HA.out;clear HA;simp only [spec_l3Digits.l0] at H
   by_cases c2:x3_1 < (a0.size:Int)
   ·rw [if_pos c2] at H;have c2b0:decide (x3_1 < (a0.size:Int))=true:=decide_eq_true c2;clear c2
    by_cases c3:0 ≤ x3_1
    ·rw [if_pos c3] at H;have c3b0:decide (0 ≤ x3_1)=true:=decide_eq_true c3;clear c3;replace H:=Option.bind_eq_some_iff.mp H;obtain ⟨t150,A50,H⟩:=H;replace H:(if t150=true then (spec_l3Digits.l0 k1 a0 (wrap64 (x3_1 + 1))) else (some false))=some r:=H;have A5:=a_ A50;clear A50
     by_cases c6:t150=true
     ·subst c6;have H1:(spec_l3Digits.l0 k1 a0 (wrap64 (x3_1 + 1)))=some r:=by rw [if_pos rfl] at H;exact H
      clear H;have H:=H1;clear H1;have H':=a_ H;clear H;have p4:0 ≤ (x3_1:Int):=of_decide_eq_true (by (with_reducible assumption));have q4:x3_1 < (a0.size:Int):=of_decide_eq_true (by (with_reducible assumption));have hx4:=bt_at a0 x3_1;replace p4:=eq_true p4;replace q4:=eq_true q4
      go_wp2_with (((with_reducible refine gate_callee (f:=88) rfl ?_);refine goesL_ (some 14) rfl rfl Tryd.func88 (by kernel_rfl) rfl #[.int .i64 (wrap64 (bt a0 x3_1)),.int .i64 48,.int .i64 57] rfl (by (try simp only [List.map_toArray,List.map_cons,List.map_nil]);rfl) ?_;(with_reducible refine (spec_l1In.calls (wrap64 (bt a0 x3_1)) 48 57 true _ A5.out).mono ?_);rintro e w' ⟨rfl,⟨nd,rfl⟩⟩;refine ⟨_,rfl,?_⟩))
      go_roundg k1
      case measure=>have:=HK1.out;omega
      case rel=>exact ⟨(wrap64 (x3_1 + 1)),(by rfl),H',⟨by have:=HK1.out;omega⟩,by repeat (first | exact Drawn0.refl _ | apply Drawn0.step)⟩
     ·replace c6:=Bool.eq_false_iff.mpr c6;subst c6;have H1:(some false)=some r:=by rw [if_neg (show ¬ (false=true) by decide)] at H;exact H
      clear H;have H:=H1;clear H1;obtain rfl:=Option.some.inj H;have p4:0 ≤ (x3_1:Int):=of_decide_eq_true (by (with_reducible assumption));have q4:x3_1 < (a0.size:Int):=of_decide_eq_true (by (with_reducible assumption));have hx4:=bt_at a0 x3_1;replace p4:=eq_true p4;replace q4:=eq_true q4
      go_wp2_with (((with_reducible refine gate_callee (f:=88) rfl ?_);refine goesL_ (some 14) rfl rfl Tryd.func88 (by kernel_rfl) rfl #[.int .i64 (wrap64 (bt a0 x3_1)),.int .i64 48,.int .i64 57] rfl (by (try simp only [List.map_toArray,List.map_cons,List.map_nil]);rfl) ?_;(with_reducible refine (spec_l1In.calls (wrap64 (bt a0 x3_1)) 48 57 false _ A5.out).mono ?_);rintro e w' ⟨rfl,⟨nd,rfl⟩⟩;refine ⟨_,rfl,?_⟩))
      go_ret
      exact ⟨by rfl,by repeat (first | exact Drawn0.refl _ | apply Drawn0.step)⟩
    ·rw [if_neg c3] at H;exact absurd H (by simp)
   ·rw [if_neg c2] at H;have c2b0:decide (x3_1 < (a0.size:Int))=false:=decide_eq_false c2;clear c2;obtain rfl:=Option.some.inj H
    go_wp2
    go_ret
    exact ⟨by (simp [bne_nil_];done),by repeat (first | exact Drawn0.refl _ | apply Drawn0.step)⟩
mutual
def spec_l3Number.j0:Nat → ByteArray → Bool → Option (Int)
 | 0,_,_=>none
 | k + 1,x0,x22=>if x22=true then (some (-1)) else (spec_l3Number.l0 k x0 0 0)
def spec_l3Number.l0:Nat → ByteArray → Int → Int → Option (Int)
 | 0,_,_,_=>none
 | k + 1,x0,x3,x4=>if x4 < (x0.size:Int) then (if 0 ≤ x4 then (spec_l3Number.l0 k x0 (wrap64 ((wrap64 (x3 * 10)) + (((bt x0 x4) - 48) % 256))) (wrap64 (x4 + 1))) else (none)) else (some x3)
end
def spec_l3Number.f (k:Nat) (a0:ByteArray):Option (Int):=(spec_l3Digits.f k a0).bind fun t151=>(if t151=true then (if (a0.size:Int) > 8 then (spec_l3Number.j0 k a0 true) else (if (a0.size:Int) > 1 then (if 0 < (a0.size:Int) then (spec_l3Number.j0 k a0 ((bt a0 0) == 48)) else (none)) else (spec_l3Number.j0 k a0 false))) else (spec_l3Number.j0 k a0 true))
theorem spec_l3Number.mono_l : ∀ k,(∀ y0 y1,LeO (spec_l3Number.j0 k y0 y1) (spec_l3Number.j0 (k + 1) y0 y1)) ∧ (∀ y0 y1 y2,LeO (spec_l3Number.l0 k y0 y1 y2) (spec_l3Number.l0 (k + 1) y0 y1 y2))
 | 0=>⟨fun _ _ r h=>by simp [spec_l3Number.j0] at h,fun _ _ _ r h=>by simp [spec_l3Number.l0] at h⟩
 | k + 1=>by
  obtain ⟨ih0,ih1⟩:=spec_l3Number.mono_l k;refine ⟨?_,?_⟩
  ·intro y0 y1;unfold spec_l3Number.j0
   repeat' first
   | (with_reducible exact ih1 _ _ _)
   | (with_reducible exact LeO.refl _)
   | (with_reducible refine LeO.ite ?_ ?_)
  ·intro y0 y1 y2;unfold spec_l3Number.l0
   repeat' first
   | (with_reducible exact ih1 _ _ _)
   | (with_reducible exact LeO.refl _)
   | (with_reducible refine LeO.ite ?_ ?_)
theorem spec_l3Number.mono : ∀ a0 k,LeO (spec_l3Number.f k a0) (spec_l3Number.f (k + 1) a0):=by
 intro a0 k;obtain ⟨ih0,ih1⟩:=spec_l3Number.mono_l k;unfold spec_l3Number.f
 repeat' first
  | (with_reducible exact ih0 _ _)
  | (with_reducible exact spec_l3Digits.mono _ _)
  | (with_reducible exact LeO.refl _)
  | (with_reducible refine LeO.ite ?_ ?_)
  | (with_reducible refine LeO.bind ?_ (fun _=>?_))
set_option maxHeartbeats 8000000 in
set_option maxRecDepth 100000 in
theorem spec_l3Number.calls (k:Nat) (a0:ByteArray) (r:Int) (w:World) (h:spec_l3Number.f k a0=some r) :
 Calls Tryd.prog 73 #[.string a0] w fun e w'=>e = .returned (.int .i64 r) ∧ Drawn0 w w':=by
 have H:((spec_l3Digits.f k a0).bind fun t151=>(if t151=true then (if (a0.size:Int) > 8 then (spec_l3Number.j0 k a0 true) else (if (a0.size:Int) > 1 then (if 0 < (a0.size:Int) then (spec_l3Number.j0 k a0 ((bt a0 0) == 48)) else (none)) else (spec_l3Number.j0 k a0 false))) else (spec_l3Number.j0 k a0 true)))=some r:=h;clear h;have HC2:=a_ H;clear H
 go_enter Tryd.func73,Tryd.ntmps73
 go_upto_region 1 with (fail)
 go_cut [22] (fun v22 wc=>∃ (kq:Nat) (x22_1:Bool),v22 = .bool x22_1 ∧ Aside0 (spec_l3Number.j0 kq a0 x22_1=some r) ∧ Aside0 (kq ≤ k) ∧ Drawn0 w wc)
 case first=>
  have H:=HC2.out;clear HC2;replace H:=Option.bind_eq_some_iff.mp H;obtain ⟨t151,A30,H⟩:=H;replace H:(if t151=true then (if (a0.size:Int) > 8 then (spec_l3Number.j0 k a0 true) else (if (a0.size:Int) > 1 then (if 0 < (a0.size:Int) then (spec_l3Number.j0 k a0 ((bt a0 0) == 48)) else (none)) else (spec_l3Number.j0 k a0 false))) else (spec_l3Number.j0 k a0 true))=some r:=H;have A3:=a_ A30;clear A30
  by_cases c4:t151=true
  ·subst c4;have H1:(if (a0.size:Int) > 8 then (spec_l3Number.j0 k a0 true) else (if (a0.size:Int) > 1 then (if 0 < (a0.size:Int) then (spec_l3Number.j0 k a0 ((bt a0 0) == 48)) else (none)) else (spec_l3Number.j0 k a0 false)))=some r:=by rw [if_pos rfl] at H;exact H
   clear H;have H:=H1;clear H1
   by_cases c5:(a0.size:Int) > 8
   ·rw [if_pos c5] at H;have c5b0:decide (8 < (a0.size:Int))=true:=decide_eq_true c5;have c5b1:decide (8 < a0.size)=true:=decide_eq_true (by omega);clear c5
    (skip)
    have H':=a_ H;clear H
    go_wp2_with (((with_reducible refine gate_callee (f:=85) rfl ?_);refine goesL_ (some 6) rfl rfl Tryd.func85 (by kernel_rfl) rfl #[.string a0] rfl (by (try simp only [List.map_toArray,List.map_cons,List.map_nil]);rfl) ?_;(with_reducible refine (spec_l3Digits.calls k a0 true _ A3.out).mono ?_);rintro e w' ⟨rfl,⟨nd,rfl⟩⟩;refine ⟨_,rfl,?_⟩))
    go_meet
    case rel=>exact ⟨_,(true),(by rfl),H',⟨by omega⟩,by repeat (first | exact Drawn0.refl _ | apply Drawn0.step)⟩
   ·rw [if_neg c5] at H;have c5b0:decide (8 < (a0.size:Int))=false:=decide_eq_false c5;have c5b1:decide (8 < a0.size)=false:=decide_eq_false (by omega);clear c5
    (skip)
    by_cases c6:(a0.size:Int) > 1
    ·rw [if_pos c6] at H;have c6b0:decide (1 < (a0.size:Int))=true:=decide_eq_true c6;have c6b1:decide (1 < a0.size)=true:=decide_eq_true (by omega);clear c6
     by_cases c7:0 < (a0.size:Int)
     ·rw [if_pos c7] at H;have c7b0:decide (0 < (a0.size:Int))=true:=decide_eq_true c7;have c7b1:decide (0 < a0.size)=true:=decide_eq_true (by omega);clear c7;have H':=a_ H;clear H
      go_wp2_with (((with_reducible refine gate_callee (f:=85) rfl ?_);refine goesL_ (some 6) rfl rfl Tryd.func85 (by kernel_rfl) rfl #[.string a0] rfl (by (try simp only [List.map_toArray,List.map_cons,List.map_nil]);rfl) ?_;(with_reducible refine (spec_l3Digits.calls k a0 true _ A3.out).mono ?_);rintro e w' ⟨rfl,⟨nd,rfl⟩⟩;refine ⟨_,rfl,?_⟩;have p8:0 ≤ (0:Int):=(by omega);have q8:0 < a0.size:=(by have:(0:Int) < (a0.size:Int):=of_decide_eq_true (by (with_reducible assumption));omega);have hx8 : ∀ h:0 < a0.size,((a0[0]'h).toNat:Int)=bt a0 0:=bt_at a0 0;clear p8;have qi8:(0 < (a0.size:Int))=True:=eq_true (of_decide_eq_true (by (with_reducible assumption)));replace q8:=eq_true q8))
      go_meet
      case rel=>exact ⟨_,(((bt a0 0) == 48)),(by rfl),H',⟨by omega⟩,by repeat (first | exact Drawn0.refl _ | apply Drawn0.step)⟩
     ·rw [if_neg c7] at H;exact absurd H (by simp)
    ·rw [if_neg c6] at H;have c6b0:decide (1 < (a0.size:Int))=false:=decide_eq_false c6;have c6b1:decide (1 < a0.size)=false:=decide_eq_false (by omega);clear c6;have H':=a_ H;clear H
     go_wp2_with (((with_reducible refine gate_callee (f:=85) rfl ?_);refine goesL_ (some 6) rfl rfl Tryd.func85 (by kernel_rfl) rfl #[.string a0] rfl (by (try simp only [List.map_toArray,List.map_cons,List.map_nil]);rfl) ?_;(with_reducible refine (spec_l3Digits.calls k a0 true _ A3.out).mono ?_);rintro e w' ⟨rfl,⟨nd,rfl⟩⟩;refine ⟨_,rfl,?_⟩))
     go_meet
     case rel=>exact ⟨_,(false),(by rfl),H',⟨by omega⟩,by repeat (first | exact Drawn0.refl _ | apply Drawn0.step)⟩
  ·replace c4:=Bool.eq_false_iff.mpr c4;subst c4;have H1:(spec_l3Number.j0 k a0 true)=some r:=by rw [if_neg (show ¬ (false=true) by decide)] at H;exact H
   clear H;have H:=H1;clear H1;have H':=a_ H;clear H
   go_wp2_with (((with_reducible refine gate_callee (f:=85) rfl ?_);refine goesL_ (some 6) rfl rfl Tryd.func85 (by kernel_rfl) rfl #[.string a0] rfl (by (try simp only [List.map_toArray,List.map_cons,List.map_nil]);rfl) ?_;(with_reducible refine (spec_l3Digits.calls k a0 false _ A3.out).mono ?_);rintro e w' ⟨rfl,⟨nd,rfl⟩⟩;refine ⟨_,rfl,?_⟩))
   go_meet
   case rel=>exact ⟨_,(true),(by rfl),H',⟨by omega⟩,by repeat (first | exact Drawn0.refl _ | apply Drawn0.step)⟩
 case rest=>
  clear HC2;obtain ⟨kq,x22_1,rfl,HA,HJ1,⟨mc1,rfl⟩⟩:=hcut
  cases kq with
  | zero=>exact absurd HA.out (by simp [spec_l3Number.j0])
  | succ kj1=>
   have H:=HA.out;clear HA;simp only [spec_l3Number.j0] at H
   by_cases c9:x22_1=true
   ·subst c9;have H1:(some (-1))=some r:=by rw [if_pos rfl] at H;exact H
    clear H;have H:=H1;clear H1;obtain rfl:=Option.some.inj H
    go_wp2
    go_ret
    exact ⟨by rfl,by repeat (first | exact Drawn0.refl _ | apply Drawn0.step)⟩
   ·replace c9:=Bool.eq_false_iff.mpr c9;subst c9;have H1:(spec_l3Number.l0 kj1 a0 0 0)=some r:=by rw [if_neg (show ¬ (false=true) by decide)] at H;exact H
    clear H;have H:=H1;clear H1;have H':=a_ H;clear H
    go_wp2
    go_loopg [3,4] kj1 (fun kq v3 v4 w'=>∃ (x3_2:Int) (x4_2:Int),v3 = .int .i64 x3_2 ∧ v4 = .int .i64 x4_2 ∧ Aside0 (spec_l3Number.l0 kq a0 x3_2 x4_2=some r) ∧ Aside0 (kq ≤ kj1) ∧ Drawn0 w w')
    case atStart=>exact ⟨(0),(0),(by rfl),(by rfl),H',⟨Nat.le_refl _⟩,by repeat (first | exact Drawn0.refl _ | apply Drawn0.step)⟩
    case round=>
     clear H';obtain ⟨x3_2,x4_2,rfl,rfl,HA,HK2,⟨m2,rfl⟩⟩:=hrel
     cases gk with
     | zero=>exact absurd HA.out (by simp [spec_l3Number.l0])
     | succ k2=>
      have H:=HA.out;clear HA;simp only [spec_l3Number.l0] at H
      by_cases c10:x4_2 < (a0.size:Int)
      ·rw [if_pos c10] at H;have c10b0:decide (x4_2 < (a0.size:Int))=true:=decide_eq_true c10;clear c10
       by_cases c11:0 ≤ x4_2
       ·rw [if_pos c11] at H;have c11b0:decide (0 ≤ x4_2)=true:=decide_eq_true c11;clear c11;have H':=a_ H;clear H;have p12:0 ≤ (x4_2:Int):=of_decide_eq_true (by (with_reducible assumption));have q12:x4_2 < (a0.size:Int):=of_decide_eq_true (by (with_reducible assumption));have hx12:=bt_at a0 x4_2;replace p12:=eq_true p12;replace q12:=eq_true q12
        go_wp2
        go_roundg k2
        case measure=>have:=HJ1.out;have:=HK2.out;omega
        case rel=>exact ⟨(wrap64 ((wrap64 (x3_2 * 10)) + (((bt a0 x4_2) - 48) % 256))),(wrap64 (x4_2 + 1)),(by rfl),(by rfl),H',⟨by have:=HJ1.out;have:=HK2.out;omega⟩,by repeat (first | exact Drawn0.refl _ | apply Drawn0.step)⟩
       ·rw [if_neg c11] at H;exact absurd H (by simp)
      ·rw [if_neg c10] at H;have c10b0:decide (x4_2 < (a0.size:Int))=false:=decide_eq_false c10;clear c10;obtain rfl:=Option.some.inj H
       go_wp2
       go_ret
       exact ⟨by rfl,by repeat (first | exact Drawn0.refl _ | apply Drawn0.step)⟩
def spec_l3LessPart.j0:Nat → ByteArray → ByteArray → Int → Int → Bool → Option (Bool)
 | 0,_,_,_,_,_=>none
 | k + 1,x0,x1,x5,x6,x11=>if x11=true then (some (decide (x5 < x6))) else (if x5 ≥ 0 then (some true) else (if x6 ≥ 0 then (some false) else (some (Op.bytesLess x0.toList x1.toList))))
def spec_l3LessPart.f (k:Nat) (a0:ByteArray) (a1:ByteArray):Option (Bool):=(spec_l3Number.f k a0).bind fun t152=>((spec_l3Number.f k a1).bind fun t153=>(if t152 ≥ 0 then (spec_l3LessPart.j0 k a0 a1 t152 t153 (decide (t153 ≥ 0))) else (spec_l3LessPart.j0 k a0 a1 t152 t153 false)))
theorem spec_l3LessPart.mono_l : ∀ k,(∀ y0 y1 y2 y3 y4,LeO (spec_l3LessPart.j0 k y0 y1 y2 y3 y4) (spec_l3LessPart.j0 (k + 1) y0 y1 y2 y3 y4))
 | 0=>fun _ _ _ _ _ r h=>by simp [spec_l3LessPart.j0] at h
 | k + 1=>by
  have ih0:=spec_l3LessPart.mono_l k
  ·intro y0 y1 y2 y3 y4;unfold spec_l3LessPart.j0
   repeat' (with_reducible exact LeO.refl _)
theorem spec_l3LessPart.mono : ∀ a0 a1 k,LeO (spec_l3LessPart.f k a0 a1) (spec_l3LessPart.f (k + 1) a0 a1):=by
 intro a0 a1 k;have ih0:=spec_l3LessPart.mono_l k;unfold spec_l3LessPart.f
 repeat' first
  | (with_reducible exact ih0 _ _ _ _ _)
  | (with_reducible exact spec_l3Number.mono _ _)
  | (with_reducible refine LeO.ite ?_ ?_)
  | (with_reducible refine LeO.bind ?_ (fun _=>?_))
set_option maxHeartbeats 8000000 in
set_option maxRecDepth 100000 in
theorem spec_l3LessPart.calls (k:Nat) (a0:ByteArray) (a1:ByteArray) (r:Bool) (w:World) (h:spec_l3LessPart.f k a0 a1=some r) :
 Calls Tryd.prog 59 #[.string a0,.string a1] w fun e w'=>e = .returned (.bool r) ∧ Drawn0 w w':=by
 have H:((spec_l3Number.f k a0).bind fun t152=>((spec_l3Number.f k a1).bind fun t153=>(if t152 ≥ 0 then (spec_l3LessPart.j0 k a0 a1 t152 t153 (decide (t153 ≥ 0))) else (spec_l3LessPart.j0 k a0 a1 t152 t153 false))))=some r:=h;clear h;replace H:=Option.bind_eq_some_iff.mp H;obtain ⟨t152,A30,H⟩:=H;replace H:((spec_l3Number.f k a1).bind fun t153=>(if t152 ≥ 0 then (spec_l3LessPart.j0 k a0 a1 t152 t153 (decide (t153 ≥ 0))) else (spec_l3LessPart.j0 k a0 a1 t152 t153 false)))=some r:=H
 have A3:=a_ A30;clear A30;replace H:=Option.bind_eq_some_iff.mp H;obtain ⟨t153,A40,H⟩:=H;replace H:(if t152 ≥ 0 then (spec_l3LessPart.j0 k a0 a1 t152 t153 (decide (t153 ≥ 0))) else (spec_l3LessPart.j0 k a0 a1 t152 t153 false))=some r:=H;have A4:=a_ A40;clear A40;have HC5:=a_ H;clear H
 go_enter Tryd.func59,Tryd.ntmps59
 go_upto_region 3 with (first | ((with_reducible refine gate_callee (f:=73) rfl ?_);refine goesL_ (some 8) rfl rfl Tryd.func73 (by kernel_rfl) rfl #[.string a0] rfl (by (try simp only [List.map_toArray,List.map_cons,List.map_nil]);rfl) ?_;(with_reducible refine (spec_l3Number.calls k a0 t152 _ A3.out).mono ?_);rintro e w' ⟨rfl,⟨nd,rfl⟩⟩;refine ⟨_,rfl,?_⟩) | ((with_reducible refine gate_callee (f:=73) rfl ?_);refine goesL_ (some 10) rfl rfl Tryd.func73 (by kernel_rfl) rfl #[.string a1] rfl (by (try simp only [List.map_toArray,List.map_cons,List.map_nil]);rfl) ?_;(with_reducible refine (spec_l3Number.calls k a1 t153 _ A4.out).mono ?_);rintro e w' ⟨rfl,⟨nd,rfl⟩⟩;refine ⟨_,rfl,?_⟩))
 (skip)
 go_cut [11] (fun v11 wc=>∃ (kq:Nat) (x11_4:Bool),v11 = .bool x11_4 ∧ Aside0 (spec_l3LessPart.j0 kq a0 a1 t152 t153 x11_4=some r) ∧ Aside0 (kq ≤ k) ∧ Drawn0 w wc)
 case first=>
  have H:=HC5.out;clear HC5
  by_cases c6:t152 ≥ 0
  ·rw [if_pos c6] at H;have c6b0:decide (0 ≤ t152)=true:=decide_eq_true c6;clear c6
   (skip)
   have H':=a_ H;clear H
   go_wp2
   go_meet
   case rel=>exact ⟨_,(decide (t153 ≥ 0)),(by rfl),H',⟨by omega⟩,by repeat (first | exact Drawn0.refl _ | apply Drawn0.step)⟩
  ·rw [if_neg c6] at H;have c6b0:decide (0 ≤ t152)=false:=decide_eq_false c6;clear c6
   (skip)
   have H':=a_ H;clear H
   go_wp2
   go_meet
   case rel=>exact ⟨_,(false),(by rfl),H',⟨by omega⟩,by repeat (first | exact Drawn0.refl _ | apply Drawn0.step)⟩
 case rest=>
  clear HC5;obtain ⟨kq,x11_4,rfl,HA,HJ4,⟨mc4,rfl⟩⟩:=hcut
  cases kq with
  | zero=>exact absurd HA.out (by simp [spec_l3LessPart.j0])
  | succ kj4=>
   have H:=HA.out;clear HA;simp only [spec_l3LessPart.j0] at H
   by_cases c7:x11_4=true
   ·subst c7;have H1:(some (decide (t152 < t153)))=some r:=by rw [if_pos rfl] at H;exact H
    clear H;have H:=H1;clear H1;obtain rfl:=Option.some.inj H
    go_wp2
    go_ret
    exact ⟨by rfl,by repeat (first | exact Drawn0.refl _ | apply Drawn0.step)⟩
   ·replace c7:=Bool.eq_false_iff.mpr c7;subst c7;have H1:(if t152 ≥ 0 then (some true) else (if t153 ≥ 0 then (some false) else (some (Op.bytesLess a0.toList a1.toList))))=some r:=by rw [if_neg (show ¬ (false=true) by decide)] at H;exact H
    clear H;have H:=H1;clear H1
    by_cases c8:t152 ≥ 0
    ·rw [if_pos c8] at H;have c8b0:decide (0 ≤ t152)=true:=decide_eq_true c8;clear c8;obtain rfl:=Option.some.inj H
     go_wp2
     go_ret
     exact ⟨by rfl,by repeat (first | exact Drawn0.refl _ | apply Drawn0.step)⟩
    ·rw [if_neg c8] at H;have c8b0:decide (0 ≤ t152)=false:=decide_eq_false c8;clear c8
     by_cases c9:t153 ≥ 0
     ·rw [if_pos c9] at H;have c9b0:decide (0 ≤ t153)=true:=decide_eq_true c9;clear c9;obtain rfl:=Option.some.inj H
      go_wp2
      go_ret
      exact ⟨by rfl,by repeat (first | exact Drawn0.refl _ | apply Drawn0.step)⟩
     ·rw [if_neg c9] at H;have c9b0:decide (0 ≤ t153)=false:=decide_eq_false c9;clear c9;obtain rfl:=Option.some.inj H
      go_wp2
      go_ret
      exact ⟨by rfl,by repeat (first | exact Drawn0.refl _ | apply Drawn0.step)⟩
mutual
def spec_l3LessPre.l0:Nat → List ByteArray → List ByteArray → Int → Option (Bool)
 | 0,_,_,_=>none
 | k + 1,x5,x6,x7=>if x7 < (x5.length:Int) then (spec_l3LessPre.j1 k x5 x6 x7 (decide (x7 < (x6.length:Int)))) else (spec_l3LessPre.j1 k x5 x6 x7 false)
def spec_l3LessPre.j1:Nat → List ByteArray → List ByteArray → Int → Bool → Option (Bool)
 | 0,_,_,_,_=>none
 | k + 1,x5,x6,x7,x21=>if x21=true then (if 0 ≤ x7 then (if x7 < (x5.length:Int) then (if x7 < (x6.length:Int) then (if (rdOf ByteArray.empty x5 x7).toList=(rdOf ByteArray.empty x6 x7).toList then (spec_l3LessPre.l0 k x5 x6 (wrap64 (x7 + 1))) else ((spec_l3LessPart.f k (rdOf ByteArray.empty x5 x7) (rdOf ByteArray.empty x6 x7)).bind fun t164=>(some t164))) else (none)) else (none)) else (none)) else (some (decide ((x5.length:Int) < (x6.length:Int))))
end
def spec_l3LessPre.f (k:Nat) (a0:ByteArray) (a1:ByteArray):Option (Bool):=(spec_l3Split.f k a0 46).bind fun t154=>((spec_l3Split.f k a1 46).bind fun t157=>(spec_l3LessPre.l0 k t154 t157 0))
theorem spec_l3LessPre.mono_l : ∀ k,(∀ y0 y1 y2,LeO (spec_l3LessPre.l0 k y0 y1 y2) (spec_l3LessPre.l0 (k + 1) y0 y1 y2)) ∧ (∀ y0 y1 y2 y3,LeO (spec_l3LessPre.j1 k y0 y1 y2 y3) (spec_l3LessPre.j1 (k + 1) y0 y1 y2 y3))
 | 0=>⟨fun _ _ _ r h=>by simp [spec_l3LessPre.l0] at h,fun _ _ _ _ r h=>by simp [spec_l3LessPre.j1] at h⟩
 | k + 1=>by
  obtain ⟨ih0,ih1⟩:=spec_l3LessPre.mono_l k;refine ⟨?_,?_⟩
  ·intro y0 y1 y2;unfold spec_l3LessPre.l0
   repeat' first
   | (with_reducible exact ih1 _ _ _ _)
   | (with_reducible refine LeO.ite ?_ ?_)
  ·intro y0 y1 y2 y3;unfold spec_l3LessPre.j1
   repeat' first
   | (with_reducible exact ih0 _ _ _)
   | (with_reducible exact spec_l3LessPart.mono _ _ _)
   | (with_reducible exact LeO.refl _)
   | (with_reducible refine LeO.ite ?_ ?_)
   | (with_reducible refine LeO.bind ?_ (fun _=>?_))
theorem spec_l3LessPre.mono : ∀ a0 a1 k,LeO (spec_l3LessPre.f k a0 a1) (spec_l3LessPre.f (k + 1) a0 a1):=by
 intro a0 a1 k;obtain ⟨ih0,ih1⟩:=spec_l3LessPre.mono_l k;unfold spec_l3LessPre.f
 repeat' first
  | (with_reducible exact ih0 _ _ _)
  | (with_reducible exact spec_l3Split.mono _ _ _)
  | (with_reducible refine LeO.bind ?_ (fun _=>?_))
set_option maxHeartbeats 8000000 in
set_option maxRecDepth 100000 in
theorem spec_l3LessPre.calls (k:Nat) (a0:ByteArray) (a1:ByteArray) (r:Bool) (w:World) (h:spec_l3LessPre.f k a0 a1=some r) :
 Calls Tryd.prog 44 #[.string a0,.string a1] w fun e w'=>e = .returned (.bool r) ∧ Below w.heap.size w w':=by
 have HB:=a_ (Below.refl w.heap.size w);have H:((spec_l3Split.f k a0 46).bind fun t154=>((spec_l3Split.f k a1 46).bind fun t157=>(spec_l3LessPre.l0 k t154 t157 0)))=some r:=h;clear h;replace H:=Option.bind_eq_some_iff.mp H;obtain ⟨t154,A30,H⟩:=H;replace H:((spec_l3Split.f k a1 46).bind fun t157=>(spec_l3LessPre.l0 k t154 t157 0))=some r:=H;have A3:=a_ A30;clear A30;replace H:=Option.bind_eq_some_iff.mp H
 obtain ⟨t157,A40,H⟩:=H;replace H:(spec_l3LessPre.l0 k t154 t157 0)=some r:=H;have A4:=a_ A40;clear A40;have H':=a_ H;clear H
 go_enter Tryd.func44,Tryd.ntmps44
 go_wp2_with (first | (go_at_call 58;(with_reducible refine (spec_l3Split.calls k a0 46 t154 _ A3.out).mono ?_);rintro e w5 ⟨v155,rfl,ho0,hb⟩;have n0_:=a_ (Kd.R_lower ho0 (below_size HB.out));have n1_:=a_ (below_step HB.out hb);clear HB;have HO156:=n0_;have HB:=n1_;clear n0_ n1_;(try clear hb);(try clear ho0)) | (go_at_call 58;(with_reducible refine (spec_l3Split.calls k a1 46 t157 _ A4.out).mono ?_);rintro e w6 ⟨v158,rfl,ho0,hb⟩;have n0_:=a_ (Kd.R_elder' (by exact HO156.out) (Kd.R_base ho0) hb);have n1_:=a_ (Kd.R_lower (Kd.R_new' ho0 (Kd.R_lt (by exact HO156.out))) (below_size HB.out));have n2_:=a_ (below_step HB.out hb);clear HO156;clear HB;have HO156:=n0_;have HO159:=n1_;have HB:=n2_;clear n0_ n1_ n2_;(try clear hb);(try clear ho0)))
 repeat (go_quiet (fail))
 go_loopg [7] k (fun kq v7 w'=>∃ (x7_1:Int),v7 = .int .i64 x7_1 ∧ Aside0 (spec_l3LessPre.l0 kq t154 t157 x7_1=some r) ∧ Aside0 (kq ≤ k) ∧ Aside0 (Kd.R Kd.string 9 w' w.heap.size (fun k_=>some k_ ≠ (v158:Value).ownBlock) v155 t154) ∧ Aside0 (Kd.R Kd.string 9 w' w.heap.size (fun k_=>some k_ ≠ (v155:Value).ownBlock) v158 t157) ∧ Aside0 (Below w.heap.size w w'))
 case atStart=>exact ⟨(0),(by rfl),H',⟨Nat.le_refl _⟩,⟨by exact Kd.R_mono HO156.out (fun _ hk=>hk.2)⟩,⟨by exact Kd.R_mono HO159.out (fun _ hk=>hk.2)⟩,⟨by exact HB.out⟩⟩
 case round=>
  clear H';obtain ⟨x7_1,rfl,HA,HK1,HO_5,HO_6,HB⟩:=hrel
  cases gk with
  | zero=>exact absurd HA.out (by simp [spec_l3LessPre.l0])
  | succ k1=>
   have H:=HA.out;clear HA;simp only [spec_l3LessPre.l0] at H;have HC7:=a_ H;clear H
   go_upto_region 4 with (fail)
   repeat (go_quiet (fail);go_upto_region 4 with (fail))
   go_cut [21] (fun v21 wc=>∃ (kq:Nat) (x21_6:Bool),v21 = .bool x21_6 ∧ Aside0 (spec_l3LessPre.j1 kq t154 t157 x7_1 x21_6=some r) ∧ Aside0 (kq ≤ k1) ∧ Aside0 (Kd.R Kd.string 9 wc w.heap.size (fun k_=>some k_ ≠ (v158:Value).ownBlock) v155 t154) ∧ Aside0 (Kd.R Kd.string 9 wc w.heap.size (fun k_=>some k_ ≠ (v155:Value).ownBlock) v158 t157) ∧ Aside0 (Below w.heap.size w wc))
   case first=>
    have H:=HC7.out;clear HC7
    by_cases c8:x7_1 < (t154.length:Int)
    ·rw [if_pos c8] at H;have c8b0:decide (x7_1 < (t154.length:Int))=true:=decide_eq_true c8;clear c8
     (skip)
     have H':=a_ H;clear H;obtain ⟨Ao9,co9,eo9⟩:=Kd.R_slice HO_5.out;subst eo9;obtain ⟨Ao10,co10,eo10⟩:=Kd.R_slice HO_6.out;subst eo10
     go_wp2
     repeat (go_quiet (fail))
     go_meet
     case rel=>exact ⟨_,(decide (x7_1 < (t157.length:Int))),(by rfl),H',⟨by have:=HK1.out;omega⟩,⟨by exact HO_5.out⟩,⟨by exact HO_6.out⟩,⟨by exact HB.out⟩⟩
    ·rw [if_neg c8] at H;have c8b0:decide (x7_1 < (t154.length:Int))=false:=decide_eq_false c8;clear c8
     (skip)
     have H':=a_ H;clear H;obtain ⟨Ao11,co11,eo11⟩:=Kd.R_slice HO_5.out;subst eo11
     go_wp2
     repeat (go_quiet (fail))
     go_meet
     case rel=>exact ⟨_,(false),(by rfl),H',⟨by have:=HK1.out;omega⟩,⟨by exact HO_5.out⟩,⟨by exact HO_6.out⟩,⟨by exact HB.out⟩⟩
   case rest=>
    clear HC7;obtain ⟨kq,x21_6,rfl,HA,HJ6,HO_5,HO_6,HB⟩:=hcut
    cases kq with
    | zero=>exact absurd HA.out (by simp [spec_l3LessPre.j1])
    | succ kj6=>
     have H:=HA.out;clear HA;simp only [spec_l3LessPre.j1] at H
     by_cases c12:x21_6=true
     ·subst c12;have H1:(if 0 ≤ x7_1 then (if x7_1 < (t154.length:Int) then (if x7_1 < (t157.length:Int) then (if (rdOf ByteArray.empty t154 x7_1).toList=(rdOf ByteArray.empty t157 x7_1).toList then (spec_l3LessPre.l0 kj6 t154 t157 (wrap64 (x7_1 + 1))) else ((spec_l3LessPart.f kj6 (rdOf ByteArray.empty t154 x7_1) (rdOf ByteArray.empty t157 x7_1)).bind fun t164=>(some t164))) else (none)) else (none)) else (none))=some r:=by rw [if_pos rfl] at H;exact H
      clear H;have H:=H1;clear H1
      by_cases c13:0 ≤ x7_1
      ·rw [if_pos c13] at H;have c13b0:decide (0 ≤ x7_1)=true:=decide_eq_true c13;clear c13
       by_cases c14:x7_1 < (t154.length:Int)
       ·rw [if_pos c14] at H;have c14b0:decide (x7_1 < (t154.length:Int))=true:=decide_eq_true c14;clear c14
        by_cases c15:x7_1 < (t157.length:Int)
        ·rw [if_pos c15] at H;have c15b0:decide (x7_1 < (t157.length:Int))=true:=decide_eq_true c15;clear c15
         by_cases c16:(rdOf ByteArray.empty t154 x7_1).toList=(rdOf ByteArray.empty t157 x7_1).toList
         ·rw [if_pos c16] at H;have c16b0:((rdOf ByteArray.empty t154 x7_1).toList == (rdOf ByteArray.empty t157 x7_1).toList)=true:=beq_iff_eq.mpr c16;have c16b1:((rdOf ByteArray.empty t154 x7_1).toList != (rdOf ByteArray.empty t157 x7_1).toList)=false:=bne_eq_false_iff_eq.mpr c16;clear c16;have H':=a_ H;clear H;obtain ⟨Ao17,co17,eo17⟩:=Kd.R_slice HO_5.out;subst eo17;have p160:0 ≤ (x7_1:Int):=of_decide_eq_true (by (with_reducible assumption))
          have q160:x7_1 < (t154.length:Int):=of_decide_eq_true (by (with_reducible assumption));obtain ⟨ad160,e160,hx160_0⟩:=Kd.at_string (Kd.R_reads' HO_5.out).2.2 x7_1 p160 q160;cases e160;replace p160:=eq_true p160;replace q160:=eq_true q160;obtain ⟨Ao18,co18,eo18⟩:=Kd.R_slice HO_6.out;subst eo18;have p161:0 ≤ (x7_1:Int):=of_decide_eq_true (by (with_reducible assumption));have q161:x7_1 < (t157.length:Int):=of_decide_eq_true (by (with_reducible assumption))
          obtain ⟨ad161,e161,hx161_0⟩:=Kd.at_string (Kd.R_reads' HO_6.out).2.2 x7_1 p161 q161;cases e161;replace p161:=eq_true p161;replace q161:=eq_true q161
          go_wp2
          repeat (go_quiet (fail);try go_wp2)
          go_roundg kj6
          case measure=>have:=HK1.out;have:=HJ6.out;omega
          case rel=>exact ⟨(wrap64 (x7_1 + 1)),(by rfl),H',⟨by have:=HK1.out;have:=HJ6.out;omega⟩,⟨by (with_reducible repeat (apply Kd.R_drewN));exact HO_5.out⟩,⟨by (with_reducible repeat (apply Kd.R_drewN));exact HO_6.out⟩,⟨by repeat (with_reducible first | exact HB.out | apply pw_below_drewN)⟩⟩
         ·rw [if_neg c16] at H;have c16b0:((rdOf ByteArray.empty t154 x7_1).toList == (rdOf ByteArray.empty t157 x7_1).toList)=false:=beq_eq_false_iff_ne.mpr c16;have c16b1:((rdOf ByteArray.empty t154 x7_1).toList != (rdOf ByteArray.empty t157 x7_1).toList)=true:=bne_iff_ne.mpr c16;replace H:=Option.bind_eq_some_iff.mp H;obtain ⟨t164,A190,H⟩:=H;replace H:(some t164)=some r:=H;have A19:=a_ A190;clear A190
          obtain rfl:=Option.some.inj H;obtain ⟨Ao20,co20,eo20⟩:=Kd.R_slice HO_5.out;subst eo20;have p160:0 ≤ (x7_1:Int):=of_decide_eq_true (by (with_reducible assumption));have q160:x7_1 < (t154.length:Int):=of_decide_eq_true (by (with_reducible assumption));obtain ⟨ad160,e160,hx160_0⟩:=Kd.at_string (Kd.R_reads' HO_5.out).2.2 x7_1 p160 q160;cases e160;replace p160:=eq_true p160;replace q160:=eq_true q160
          obtain ⟨Ao21,co21,eo21⟩:=Kd.R_slice HO_6.out;subst eo21;have p161:0 ≤ (x7_1:Int):=of_decide_eq_true (by (with_reducible assumption));have q161:x7_1 < (t157.length:Int):=of_decide_eq_true (by (with_reducible assumption));obtain ⟨ad161,e161,hx161_0⟩:=Kd.at_string (Kd.R_reads' HO_6.out).2.2 x7_1 p161 q161;cases e161;replace p161:=eq_true p161;replace q161:=eq_true q161;have p162:0 ≤ (x7_1:Int):=of_decide_eq_true (by (with_reducible assumption))
          have q162:x7_1 < (t154.length:Int):=of_decide_eq_true (by (with_reducible assumption));obtain ⟨ad162,e162,hx162_0⟩:=Kd.at_string (Kd.R_reads' HO_5.out).2.2 x7_1 p162 q162;obtain rfl:ad160=ad162:=(by injection e162);replace p162:=eq_true p162;replace q162:=eq_true q162;have p163:0 ≤ (x7_1:Int):=of_decide_eq_true (by (with_reducible assumption));have q163:x7_1 < (t157.length:Int):=of_decide_eq_true (by (with_reducible assumption))
          obtain ⟨ad163,e163,hx163_0⟩:=Kd.at_string (Kd.R_reads' HO_6.out).2.2 x7_1 p163 q163;obtain rfl:ad161=ad163:=(by injection e163);replace p163:=eq_true p163;replace q163:=eq_true q163
          go_wp2_with (fail)
          repeat (go_quiet ((go_at_call 59;(with_reducible refine (spec_l3LessPart.calls kj6 (rdOf ByteArray.empty t154 x7_1) (rdOf ByteArray.empty t157 x7_1) t164 _ A19.out).mono ?_);rintro e w' ⟨rfl,⟨nd,rfl⟩⟩;(try exact ⟨rfl,_,Eq.trans (World.drewN_drewN _ _ _) (congrArg (World.drewN _) (Nat.add_assoc _ _ _))⟩)));try go_wp2_with (fail))
          go_ret
          exact ⟨by rfl,by repeat (with_reducible first | exact HB.out | apply pw_below_drewN)⟩
        ·rw [if_neg c15] at H;exact absurd H (by simp)
       ·rw [if_neg c14] at H;exact absurd H (by simp)
      ·rw [if_neg c13] at H;exact absurd H (by simp)
     ·replace c12:=Bool.eq_false_iff.mpr c12;subst c12;have H1:(some (decide ((t154.length:Int) < (t157.length:Int))))=some r:=by rw [if_neg (show ¬ (false=true) by decide)] at H;exact H
      clear H;have H:=H1;clear H1;obtain rfl:=Option.some.inj H;obtain ⟨Ao22,co22,eo22⟩:=Kd.R_slice HO_5.out;subst eo22;obtain ⟨Ao23,co23,eo23⟩:=Kd.R_slice HO_6.out;subst eo23
      go_wp2
      repeat (go_quiet (fail))
      go_ret
      exact ⟨by rfl,by exact HB.out⟩
end Go.Proofs.YtmkdeknpphimbaaDoor.PFnClosed
