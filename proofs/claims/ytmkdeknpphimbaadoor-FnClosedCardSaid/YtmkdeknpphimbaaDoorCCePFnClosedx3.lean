import Derived.Test.YtmkdeknpphimbaaDoorCCePFnClosedx0
namespace Go.Proofs.YtmkdeknpphimbaaDoor.PFnClosed
open Go.RowKit Go.Proofs.YtmkdeknpphimbaaDoorW.PrintWords Go.Proofs.YtmkdeknpphimbaaDoorW.PrintLast Go.Proofs.YtmkdeknpphimbaaDoorW.PrintMore
attribute [local go_sem] max2_int min2_int max_two min_two max_three min_three max_four min_four
set_option linter.unusedVariables false
set_option linter.unusedSimpArgs false
def cmp_Or_int.l0:Nat → Int → List Int → Int → Int → Option (Int)
 | 0,_,_,_,_=>none
 | k + 1,x3,x6,x7,x8=>if x8 < x7 then (if 0 ≤ x8 then (if x8 < (x6.length:Int) then (if (rd x6 x8)=x3 then (cmp_Or_int.l0 k x3 x6 x7 (wrap64 (x8 + 1))) else (some (rd x6 x8))) else (none)) else (none)) else (some x3)
def cmp_Or_int.f (k:Nat) (l0:List Int):Option (Int):=cmp_Or_int.l0 k 0 l0 (l0.length:Int) 0
theorem cmp_Or_int.mono_l : ∀ k,(∀ y0 y1 y2 y3,LeO (cmp_Or_int.l0 k y0 y1 y2 y3) (cmp_Or_int.l0 (k + 1) y0 y1 y2 y3))
 | 0=>fun _ _ _ _ r h=>by simp [cmp_Or_int.l0] at h
 | k + 1=>by
  have ih0:=cmp_Or_int.mono_l k
  ·intro y0 y1 y2 y3;unfold cmp_Or_int.l0
   repeat' first
   | (with_reducible exact ih0 _ _ _ _)
   | (with_reducible exact LeO.refl _)
   | (with_reducible refine LeO.ite ?_ ?_)
theorem cmp_Or_int.mono : ∀ a0 k,LeO (cmp_Or_int.f k a0) (cmp_Or_int.f (k + 1) a0):=by
 intro a0 k;have ih0:=cmp_Or_int.mono_l k;unfold cmp_Or_int.f
 repeat' (with_reducible exact ih0 _ _ _ _)
set_option maxHeartbeats 8000000 in
set_option maxRecDepth 100000 in
theorem cmp_Or_int.calls (k:Nat) (A0:Option Addr) (c0:Nat) (l0:List Int) (r:Int) (w:World) (hr0:Kd.C (Kd.int .i64) w A0 l0.length l0) (hc0:l0.length ≤ c0) (h:cmp_Or_int.f k l0=some r) :
 Calls Tryd.prog 60 #[.slice A0 l0.length c0] w fun e w'=>e = .returned (.int .i64 r) ∧ Drawn0 w w':=by
 have HR0:=a_ hr0;have HC0:=a_ hc0;clear hr0 hc0;have H:(cmp_Or_int.l0 k 0 l0 (l0.length:Int) 0)=some r:=h;clear h;have H':=a_ H;clear H
 go_enter Tryd.func60,Tryd.ntmps60
 go_wp2
 go_loopg [8] k (fun kq v8 w'=>∃ (x8_1:Int),v8 = .int .i64 x8_1 ∧ Aside0 (cmp_Or_int.l0 kq 0 l0 (l0.length:Int) x8_1=some r) ∧ Aside0 (kq ≤ k) ∧ Drawn0 w w')
 case atStart=>exact ⟨(0),(by rfl),H',⟨Nat.le_refl _⟩,by repeat (exact Drawn0.refl _)⟩
 case round=>
  clear H';obtain ⟨x8_1,rfl,HA,HK1,⟨m1,rfl⟩⟩:=hrel
  cases gk with
  | zero=>exact absurd HA.out (by simp [cmp_Or_int.l0])
  | succ k1=>
   have H:=HA.out;clear HA;simp only [cmp_Or_int.l0] at H
   by_cases c2:x8_1 < (l0.length:Int)
   ·rw [if_pos c2] at H;have c2b0:decide (x8_1 < (l0.length:Int))=true:=decide_eq_true c2;clear c2
    by_cases c3:0 ≤ x8_1
    ·rw [if_pos c3] at H;have c3b0:decide (0 ≤ x8_1)=true:=decide_eq_true c3;clear c3
     by_cases c4:x8_1 < (l0.length:Int)
     ·rw [if_pos c4] at H;have c4b0:decide (x8_1 < (l0.length:Int))=true:=decide_eq_true c4;clear c4
      by_cases c5:(rd l0 x8_1)=0
      ·rw [if_pos c5] at H;have c5b0:((rd l0 x8_1) == 0)=true:=beq_iff_eq.mpr c5;have c5b1:((rd l0 x8_1) != 0)=false:=bne_eq_false_iff_eq.mpr c5;clear c5;have H':=a_ H;clear H;have p101:0 ≤ (x8_1:Int):=of_decide_eq_true (by (with_reducible assumption));have q101:x8_1 < (l0.length:Int):=of_decide_eq_true (by (with_reducible assumption));obtain ⟨ad101,e101,hx101_0⟩:=Kd.at_int HR0.out x8_1 p101 q101;cases e101
       replace p101:=eq_true p101;replace q101:=eq_true q101
       go_wp2
       go_roundg k1
       case measure=>have:=HK1.out;omega
       case rel=>exact ⟨(wrap64 (x8_1 + 1)),(by rfl),H',⟨by have:=HK1.out;omega⟩,by repeat (first | exact Drawn0.refl _ | apply Drawn0.step)⟩
      ·rw [if_neg c5] at H;have c5b0:((rd l0 x8_1) == 0)=false:=beq_eq_false_iff_ne.mpr c5;have c5b1:((rd l0 x8_1) != 0)=true:=bne_iff_ne.mpr c5;obtain rfl:=Option.some.inj H;have p101:0 ≤ (x8_1:Int):=of_decide_eq_true (by (with_reducible assumption));have q101:x8_1 < (l0.length:Int):=of_decide_eq_true (by (with_reducible assumption));obtain ⟨ad101,e101,hx101_0⟩:=Kd.at_int HR0.out x8_1 p101 q101;cases e101
       replace p101:=eq_true p101;replace q101:=eq_true q101
       go_wp2
       go_ret
       exact ⟨by rfl,by repeat (first | exact Drawn0.refl _ | apply Drawn0.step)⟩
     ·rw [if_neg c4] at H;exact absurd H (by simp)
    ·rw [if_neg c3] at H;exact absurd H (by simp)
   ·rw [if_neg c2] at H;have c2b0:decide (x8_1 < (l0.length:Int))=false:=decide_eq_false c2;clear c2;obtain rfl:=Option.some.inj H
    go_wp2
    go_ret
    exact ⟨by rfl,by repeat (first | exact Drawn0.refl _ | apply Drawn0.step)⟩
def cmp_isNaN_int.f (a0:Int):Option (Bool):=some (a0 != a0)
set_option maxHeartbeats 8000000 in
set_option maxRecDepth 100000 in
theorem cmp_isNaN_int.calls (a0:Int) (r:Bool) (w:World) (h:cmp_isNaN_int.f a0=some r) :
 Calls Tryd.prog 74 #[.int .i64 a0] w fun e w'=>e = .returned (.bool r) ∧ Drawn0 w w':=by
 have H:(some (a0 != a0))=some r:=h;clear h;obtain rfl:=Option.some.inj H
 go_enter Tryd.func74,Tryd.ntmps74
 go_wp2
 go_ret
 exact ⟨by rfl,by repeat (exact Drawn0.refl _)⟩
def cmp_Compare_int.f (a0:Int) (a1:Int):Option (Int):=(cmp_isNaN_int.f a0).bind fun t102=>((cmp_isNaN_int.f a1).bind fun t103=>(if t102=true then (if t103=true then (some 0) else (some (-1))) else (if t103=true then (some 1) else (if a0 < a1 then (some (-1)) else (if a0 > a1 then (some 1) else (some 0))))))
set_option maxHeartbeats 8000000 in
set_option maxRecDepth 100000 in
theorem cmp_Compare_int.calls (a0:Int) (a1:Int) (r:Int) (w:World) (h:cmp_Compare_int.f a0 a1=some r) :
 Calls Tryd.prog 61 #[.int .i64 a0,.int .i64 a1] w fun e w'=>e = .returned (.int .i64 r) ∧ Drawn0 w w':=by
 have H:((cmp_isNaN_int.f a0).bind fun t102=>((cmp_isNaN_int.f a1).bind fun t103=>(if t102=true then (if t103=true then (some 0) else (some (-1))) else (if t103=true then (some 1) else (if a0 < a1 then (some (-1)) else (if a0 > a1 then (some 1) else (some 0)))))))=some r:=h;clear h;replace H:=Option.bind_eq_some_iff.mp H;obtain ⟨t102,A30,H⟩:=H;replace H:((cmp_isNaN_int.f a1).bind fun t103=>(if t102=true then (if t103=true then (some 0) else (some (-1))) else (if t103=true then (some 1) else (if a0 < a1 then (some (-1)) else (if a0 > a1 then (some 1) else (some 0))))))=some r:=H
 have A3:=a_ A30;clear A30;replace H:=Option.bind_eq_some_iff.mp H;obtain ⟨t103,A40,H⟩:=H;replace H:(if t102=true then (if t103=true then (some 0) else (some (-1))) else (if t103=true then (some 1) else (if a0 < a1 then (some (-1)) else (if a0 > a1 then (some 1) else (some 0)))))=some r:=H;have A4:=a_ A40;clear A40
 by_cases c5:t102=true
 ·subst c5;have H1:(if t103=true then (some 0) else (some (-1)))=some r:=by rw [if_pos rfl] at H;exact H
  clear H;have H:=H1;clear H1
  by_cases c6:t103=true
  ·subst c6;have H1:(some 0)=some r:=by rw [if_pos rfl] at H;exact H
   clear H;have H:=H1;clear H1;obtain rfl:=Option.some.inj H
   go_enter Tryd.func61,Tryd.ntmps61
   go_wp2_with (first | ((with_reducible refine gate_callee (f:=74) rfl ?_);refine goesL_ (some 8) rfl rfl Tryd.func74 (by kernel_rfl) rfl #[.int .i64 a0] rfl (by (try simp only [List.map_toArray,List.map_cons,List.map_nil]);rfl) ?_;(with_reducible refine (cmp_isNaN_int.calls a0 true _ A3.out).mono ?_);rintro e w' ⟨rfl,⟨nd,rfl⟩⟩;refine ⟨_,rfl,?_⟩) | ((with_reducible refine gate_callee (f:=74) rfl ?_);refine goesL_ (some 10) rfl rfl Tryd.func74 (by kernel_rfl) rfl #[.int .i64 a1] rfl (by (try simp only [List.map_toArray,List.map_cons,List.map_nil]);rfl) ?_;(with_reducible refine (cmp_isNaN_int.calls a1 true _ A4.out).mono ?_);rintro e w' ⟨rfl,⟨nd,rfl⟩⟩;refine ⟨_,rfl,?_⟩))
   go_ret
   exact ⟨by rfl,by repeat (first | exact Drawn0.refl _ | apply Drawn0.step)⟩
  ·replace c6:=Bool.eq_false_iff.mpr c6;subst c6;have H1:(some (-1))=some r:=by rw [if_neg (show ¬ (false=true) by decide)] at H;exact H
   clear H;have H:=H1;clear H1;obtain rfl:=Option.some.inj H
   go_enter Tryd.func61,Tryd.ntmps61
   go_wp2_with (first | ((with_reducible refine gate_callee (f:=74) rfl ?_);refine goesL_ (some 8) rfl rfl Tryd.func74 (by kernel_rfl) rfl #[.int .i64 a0] rfl (by (try simp only [List.map_toArray,List.map_cons,List.map_nil]);rfl) ?_;(with_reducible refine (cmp_isNaN_int.calls a0 true _ A3.out).mono ?_);rintro e w' ⟨rfl,⟨nd,rfl⟩⟩;refine ⟨_,rfl,?_⟩) | ((with_reducible refine gate_callee (f:=74) rfl ?_);refine goesL_ (some 10) rfl rfl Tryd.func74 (by kernel_rfl) rfl #[.int .i64 a1] rfl (by (try simp only [List.map_toArray,List.map_cons,List.map_nil]);rfl) ?_;(with_reducible refine (cmp_isNaN_int.calls a1 false _ A4.out).mono ?_);rintro e w' ⟨rfl,⟨nd,rfl⟩⟩;refine ⟨_,rfl,?_⟩))
   go_ret
   exact ⟨by rfl,by repeat (first | exact Drawn0.refl _ | apply Drawn0.step)⟩
 ·replace c5:=Bool.eq_false_iff.mpr c5;subst c5;have H1:(if t103=true then (some 1) else (if a0 < a1 then (some (-1)) else (if a0 > a1 then (some 1) else (some 0))))=some r:=by rw [if_neg (show ¬ (false=true) by decide)] at H;exact H
  clear H;have H:=H1;clear H1
  by_cases c7:t103=true
  ·subst c7;have H1:(some 1)=some r:=by rw [if_pos rfl] at H;exact H
   clear H;have H:=H1;clear H1;obtain rfl:=Option.some.inj H
   go_enter Tryd.func61,Tryd.ntmps61
   go_wp2_with (first | ((with_reducible refine gate_callee (f:=74) rfl ?_);refine goesL_ (some 8) rfl rfl Tryd.func74 (by kernel_rfl) rfl #[.int .i64 a0] rfl (by (try simp only [List.map_toArray,List.map_cons,List.map_nil]);rfl) ?_;(with_reducible refine (cmp_isNaN_int.calls a0 false _ A3.out).mono ?_);rintro e w' ⟨rfl,⟨nd,rfl⟩⟩;refine ⟨_,rfl,?_⟩) | ((with_reducible refine gate_callee (f:=74) rfl ?_);refine goesL_ (some 10) rfl rfl Tryd.func74 (by kernel_rfl) rfl #[.int .i64 a1] rfl (by (try simp only [List.map_toArray,List.map_cons,List.map_nil]);rfl) ?_;(with_reducible refine (cmp_isNaN_int.calls a1 true _ A4.out).mono ?_);rintro e w' ⟨rfl,⟨nd,rfl⟩⟩;refine ⟨_,rfl,?_⟩))
   go_ret
   exact ⟨by rfl,by repeat (first | exact Drawn0.refl _ | apply Drawn0.step)⟩
  ·replace c7:=Bool.eq_false_iff.mpr c7;subst c7;have H1:(if a0 < a1 then (some (-1)) else (if a0 > a1 then (some 1) else (some 0)))=some r:=by rw [if_neg (show ¬ (false=true) by decide)] at H;exact H
   clear H;have H:=H1;clear H1
   by_cases c8:a0 < a1
   ·rw [if_pos c8] at H;have c8b0:decide (a0 < a1)=true:=decide_eq_true c8;clear c8;obtain rfl:=Option.some.inj H
    go_enter Tryd.func61,Tryd.ntmps61
    go_wp2_with (first | ((with_reducible refine gate_callee (f:=74) rfl ?_);refine goesL_ (some 8) rfl rfl Tryd.func74 (by kernel_rfl) rfl #[.int .i64 a0] rfl (by (try simp only [List.map_toArray,List.map_cons,List.map_nil]);rfl) ?_;(with_reducible refine (cmp_isNaN_int.calls a0 false _ A3.out).mono ?_);rintro e w' ⟨rfl,⟨nd,rfl⟩⟩;refine ⟨_,rfl,?_⟩) | ((with_reducible refine gate_callee (f:=74) rfl ?_);refine goesL_ (some 10) rfl rfl Tryd.func74 (by kernel_rfl) rfl #[.int .i64 a1] rfl (by (try simp only [List.map_toArray,List.map_cons,List.map_nil]);rfl) ?_;(with_reducible refine (cmp_isNaN_int.calls a1 false _ A4.out).mono ?_);rintro e w' ⟨rfl,⟨nd,rfl⟩⟩;refine ⟨_,rfl,?_⟩))
    go_ret
    exact ⟨by rfl,by repeat (first | exact Drawn0.refl _ | apply Drawn0.step)⟩
   ·rw [if_neg c8] at H;have c8b0:decide (a0 < a1)=false:=decide_eq_false c8;clear c8
    by_cases c9:a0 > a1
    ·rw [if_pos c9] at H;have c9b0:decide (a1 < a0)=true:=decide_eq_true c9;clear c9;obtain rfl:=Option.some.inj H
     go_enter Tryd.func61,Tryd.ntmps61
     go_wp2_with (first | ((with_reducible refine gate_callee (f:=74) rfl ?_);refine goesL_ (some 8) rfl rfl Tryd.func74 (by kernel_rfl) rfl #[.int .i64 a0] rfl (by (try simp only [List.map_toArray,List.map_cons,List.map_nil]);rfl) ?_;(with_reducible refine (cmp_isNaN_int.calls a0 false _ A3.out).mono ?_);rintro e w' ⟨rfl,⟨nd,rfl⟩⟩;refine ⟨_,rfl,?_⟩) | ((with_reducible refine gate_callee (f:=74) rfl ?_);refine goesL_ (some 10) rfl rfl Tryd.func74 (by kernel_rfl) rfl #[.int .i64 a1] rfl (by (try simp only [List.map_toArray,List.map_cons,List.map_nil]);rfl) ?_;(with_reducible refine (cmp_isNaN_int.calls a1 false _ A4.out).mono ?_);rintro e w' ⟨rfl,⟨nd,rfl⟩⟩;refine ⟨_,rfl,?_⟩))
     go_ret
     exact ⟨by rfl,by repeat (first | exact Drawn0.refl _ | apply Drawn0.step)⟩
    ·rw [if_neg c9] at H;have c9b0:decide (a1 < a0)=false:=decide_eq_false c9;clear c9;obtain rfl:=Option.some.inj H
     go_enter Tryd.func61,Tryd.ntmps61
     go_wp2_with (first | ((with_reducible refine gate_callee (f:=74) rfl ?_);refine goesL_ (some 8) rfl rfl Tryd.func74 (by kernel_rfl) rfl #[.int .i64 a0] rfl (by (try simp only [List.map_toArray,List.map_cons,List.map_nil]);rfl) ?_;(with_reducible refine (cmp_isNaN_int.calls a0 false _ A3.out).mono ?_);rintro e w' ⟨rfl,⟨nd,rfl⟩⟩;refine ⟨_,rfl,?_⟩) | ((with_reducible refine gate_callee (f:=74) rfl ?_);refine goesL_ (some 10) rfl rfl Tryd.func74 (by kernel_rfl) rfl #[.int .i64 a1] rfl (by (try simp only [List.map_toArray,List.map_cons,List.map_nil]);rfl) ?_;(with_reducible refine (cmp_isNaN_int.calls a1 false _ A4.out).mono ?_);rintro e w' ⟨rfl,⟨nd,rfl⟩⟩;refine ⟨_,rfl,?_⟩))
     go_ret
     exact ⟨by rfl,by repeat (first | exact Drawn0.refl _ | apply Drawn0.step)⟩
def strings_Split.lays146_ren:Go.Shelf.Ren:=⟨fun | 146=>53 | 221=>66 | 268=>80 | 138=>81 | 143=>82 | 195=>89 | 197=>90 | 218=>91 | 219=>92 | 260=>96 | 217=>97 | 225=>98 | 224=>99 | 267=>100 | 266=>102 | 314=>103 | n=>n,fun | 9=>9 | 31=>88 | 3=>3 | 4=>4 | 0=>0 | 105=>111 | 21=>21 | 5=>5 | 46=>99 | 119=>115 | 139=>118 | 138=>117 | 146=>120 | 51=>119 | n=>n,fun | 1=>0 | 3=>1 | 4=>2 | n=>n⟩
theorem strings_Split.lays146:Go.Proofs.Lays.n146 Tryd.prog strings_Split.lays146_ren:={
 mixed:=by kernel_rfl
 f138:=Tryd.func81.trans (congrArg some (by kernel_rfl))
 f143:=Tryd.func82.trans (congrArg some (by kernel_rfl))
 f146:=Tryd.func53.trans (congrArg some (by kernel_rfl))
 f195:=Tryd.func89.trans (congrArg some (by kernel_rfl))
 f197:=Tryd.func90.trans (congrArg some (by kernel_rfl))
 f217:=Tryd.func97.trans (congrArg some (by kernel_rfl))
 f218:=Tryd.func91.trans (congrArg some (by kernel_rfl))
 f219:=Tryd.func92.trans (congrArg some (by kernel_rfl))
 f221:=Tryd.func66.trans (congrArg some (by kernel_rfl))
 f224:=Tryd.func99.trans (congrArg some (by kernel_rfl))
 f225:=Tryd.func98.trans (congrArg some (by kernel_rfl))
 f260:=Tryd.func96.trans (congrArg some (by kernel_rfl))
 f266:=Tryd.func102.trans (congrArg some (by kernel_rfl))
 f267:=Tryd.func100.trans (congrArg some (by kernel_rfl))
 f268:=Tryd.func80.trans (congrArg some (by kernel_rfl))
 f314:=Tryd.func103.trans (congrArg some (by kernel_rfl))
 t0:=Tryd.underlying0
 a0:=Tryd.isAgg0
 z0:=Tryd.sizeOf0
 v0:=Tryd.zeroValue0
 t3:=Tryd.underlying3
 a3:=Tryd.isAgg3
 z3:=Tryd.sizeOf3
 v3:=Tryd.zeroValue3
 t4:=Tryd.underlying4
 a4:=Tryd.isAgg4
 z4:=Tryd.sizeOf4
 v4:=Tryd.zeroValue4
 t5:=Tryd.underlying5
 a5:=Tryd.isAgg5
 z5:=Tryd.sizeOf5
 v5:=Tryd.zeroValue5
 t9:=Tryd.underlying9
 a9:=Tryd.isAgg9
 z9:=Tryd.sizeOf9
 v9:=Tryd.zeroValue9
 t21:=Tryd.underlying21
 a21:=Tryd.isAgg21
 z21:=Tryd.sizeOf21
 v21:=Tryd.zeroValue21
 t31:=Tryd.underlying88
 a31:=Tryd.isAgg88
 z31:=Tryd.sizeOf88
 v31:=Tryd.zeroValue88
 t46:=Tryd.underlying99
 a46:=Tryd.isAgg99
 z46:=Tryd.sizeOf99
 v46:=Tryd.zeroValue99
 t51:=Tryd.underlying119
 a51:=Tryd.isAgg119
 z51:=Tryd.sizeOf119
 v51:=Tryd.zeroValue119
 t105:=Tryd.underlying111
 a105:=Tryd.isAgg111
 z105:=Tryd.sizeOf111
 v105:=Tryd.zeroValue111
 t119:=Tryd.underlying115
 a119:=Tryd.isAgg115
 z119:=Tryd.sizeOf115
 t138:=Tryd.underlying117
 a138:=Tryd.isAgg117
 z138:=Tryd.sizeOf117
 v138:=Tryd.zeroValue117
 t139:=Tryd.underlying118
 a139:=Tryd.isAgg118
 z139:=Tryd.sizeOf118
 v139:=Tryd.zeroValue118
 t146:=Tryd.underlying120
 a146:=Tryd.isAgg120
 z146:=Tryd.sizeOf120
 v146:=Tryd.zeroValue120
 g1:=by kernel_rfl
 g3:=by kernel_rfl
 g4:=by kernel_rfl }
theorem strings_Split.index_one {P:Program} {ρ:Go.Shelf.Ren} (L:Lays.n143 P ρ) (x:ByteArray) (c:UInt8) (w:World) :
 Calls P (ρ.f 143) #[.string x,.string ⟨#[c]⟩] w fun e w'=>e = .returned (.int .i64 (Go.Lib.indexB x ⟨#[c]⟩)) ∧ w'=w:=by
 refine (Any.strings_Index_one L x c w).mono fun e w' h=>⟨?_,h.2⟩
 rw [h.1];show _=Ending.returned (Value.int .i64 (Go.Lib.index x.data.toList [c]));rw [Go.Lib.index_one]
theorem strings_Split.count_one {P:Program} {ρ:Go.Shelf.Ren} (L:Lays.n138 P ρ) (x:ByteArray) (c:UInt8) (w:World) :
 Calls P (ρ.f 138) #[.string x,.string ⟨#[c]⟩] w fun e w'=>e = .returned (.int .i64 (Go.Lib.countB x ⟨#[c]⟩)) ∧ w'=w:=by
 refine (Any.strings_Count_one L x c w).mono fun e w' h=>⟨?_,h.2⟩
 rw [h.1];show _=Ending.returned (Value.int .i64 ((Go.Lib.count x.data.toList [c]:Nat):Int));rw [Go.Lib.count_one];rfl
set_option maxHeartbeats 1000000 in
theorem strings_Split.split_one {P:Program} {ρ:Go.Shelf.Ren} (L:Lays.n146 P ρ) (hi9:(P.info? (ρ.t 9)).map (fun i=>(i.zero,i.size,i.bytes))=some (some (.string ByteArray.empty),1,16)) (s:ByteArray) (c:UInt8) (w:World) (hs:s.size < 4294967281) :
 Calls P (ρ.f 146) #[.string s,.string ⟨#[c]⟩] w fun e w'=>
  e = .returned (.slice (some ⟨w.heap.size,0,none⟩) (Go.Lib.splitB ⟨#[c]⟩ 0 (Go.Lib.countB s ⟨#[c]⟩) s).length (Go.Lib.splitB ⟨#[c]⟩ 0 (Go.Lib.countB s ⟨#[c]⟩) s).length) ∧ w'=w.alloc (.cells ((Go.Lib.splitB ⟨#[c]⟩ 0 (Go.Lib.countB s ⟨#[c]⟩) s).map Value.string).toArray (ρ.t 9)):=by
 obtain ⟨sep,hsep⟩ : ∃ sep:ByteArray,sep=⟨#[c]⟩:=⟨_,rfl⟩;have h1:1 ≤ sep.size:=by rw [hsep];exact Nat.le_refl 1
 have hle:=Go.Lib.countB_le sep h1 s.size s (Nat.le_refl _);have hlen:=Go.Lib.splitB_all sep h1 0 _ s rfl;have c0:=Any.strings_genSplit_core { L with } hi9 s sep 0 (-1) (Go.Lib.countB s sep + 1) w hs h1 (Nat.zero_le _) (fun x cs _=>by rw [hsep];exact strings_Split.index_one { L with } x c _) (by rw [hsep];exact strings_Split.count_one { L with } s c w) (by decide) (by decide) (by rw [if_pos (by decide)];omega)
 rw [Nat.add_sub_cancel] at c0;have e2:Go.Lib.cellsOf (Go.Lib.splitB sep 0 (Go.Lib.countB s sep) s) (Go.Lib.countB s sep + 1)=((Go.Lib.splitB sep 0 (Go.Lib.countB s sep) s).map Value.string).toArray:=by rw [← hlen];exact Go.Lib.cellsOf_full _
 rw [e2,← hlen] at c0;rw [← hsep];clear hsep e2
 generalize (Go.Lib.splitB sep 0 (Go.Lib.countB s sep) s)=l at c0 hlen ⊢
 have t3:=L.t3;have t9:=L.t9;have t31:=L.t31;have a3:=L.a3;have a9:=L.a9;have a31:=L.a31;have z3:=L.z3;have v3:=L.v3;have z9:=L.z9;have v9:=L.v9;have z31:=L.z31;have v31:=L.v31;have e221 : ∀ args w,(callFunc (ρ.f 221) args).run P w = .ok (.enter (ρ.f 221) args) w:=enters_of L.f221 (by kernel_rfl) rfl;clear hlen hle
 go_enter L.f146,Go.Proofs.Body.n146_ntmps ρ
 go_wp2_with (go_at_fn (ρ.f 221);refine c0.mono ?_;rintro e w' ⟨rfl,hw⟩;rw [hw])
 go_ret
 exact ⟨rfl,rfl⟩
theorem strings_Split.row {w:World} {e:Nat} (l:List ByteArray) (hl:l.length ≤ maxLen):Kd.R Kd.string e (w.alloc (.cells (l.map Value.string).toArray e)) w.heap.size (fun _=>True) (.slice (some ⟨w.heap.size,0,none⟩) l.length l.length) l:=by
 refine Kd.R_of_own ?_ (fun _ _=>trivial);have h:=World.ownsRow_lit (base:=w.heap.size) (e:=e) (size:=1) w (l.map Value.string).toArray l.length (Nat.le_refl _) hl (by simp)
 simpa [encs] using h
def strings_Split.f (a0:ByteArray) (a1:ByteArray):Option (List ByteArray):=if a1.size=1 ∧ a0.size < 4294967281 then some (Go.Lib.splitB a1 0 (Go.Lib.countB a0 a1) a0) else none
set_option maxHeartbeats 8000000 in
set_option maxRecDepth 100000 in
theorem strings_Split.calls (a0:ByteArray) (a1:ByteArray) (r:List ByteArray) (w:World) (h:strings_Split.f a0 a1=some r) :
 Calls Tryd.prog 53 #[.string a0,.string a1] w fun e w'=>∃ v0_:Value,e = .returned (v0_) ∧ Kd.R Kd.string 9 w' w.heap.size (fun _=>True) v0_ r ∧ Below w.heap.size w w':=by
 by_cases c:a1.size=1 ∧ a0.size < 4294967281
 ·unfold strings_Split.f at h;rw [if_pos c] at h;obtain rfl:=Option.some.inj h;obtain ⟨ch,rfl⟩:=Go.Lib.one_byte a1 c.1;refine (strings_Split.split_one strings_Split.lays146 (by kernel_rfl) a0 ch w c.2).mono fun e w' he=>⟨_,he.1,?_⟩
  rw [he.2];refine ⟨strings_Split.row _ ?_,below_alloc (Below.refl _ _) _⟩;rw [Go.Lib.splitB_all _ (show 1 ≤ (⟨#[ch]⟩:ByteArray).size from Nat.le_refl 1) 0 _ a0 rfl]
  have:=Go.Lib.countB_le ⟨#[ch]⟩ (show 1 ≤ (⟨#[ch]⟩:ByteArray).size from Nat.le_refl 1) a0.size a0 (Nat.le_refl _)
  unfold maxLen
  omega
 ·unfold strings_Split.f at h;rw [if_neg c] at h;cases h
def impl_isFigure.f (a0:Int):Option (Bool):=if a0 ≥ 48 then (some (decide (a0 ≤ 57))) else (some false)
set_option maxHeartbeats 8000000 in
set_option maxRecDepth 100000 in
theorem impl_isFigure.calls (a0:Int) (r:Bool) (w:World) (h:impl_isFigure.f a0=some r) :
 Calls Tryd.prog 67 #[.int .u8 a0] w fun e w'=>e = .returned (.bool r) ∧ Drawn0 w w':=by
 have H:(if a0 ≥ 48 then (some (decide (a0 ≤ 57))) else (some false))=some r:=h;clear h
 by_cases c2:a0 ≥ 48
 ·rw [if_pos c2] at H;have c2b0:decide (48 ≤ a0)=true:=decide_eq_true c2;clear c2;obtain rfl:=Option.some.inj H
  go_enter Tryd.func67,Tryd.ntmps67
  go_wp2
  go_ret
  exact ⟨by rfl,by repeat (exact Drawn0.refl _)⟩
 ·rw [if_neg c2] at H;have c2b0:decide (48 ≤ a0)=false:=decide_eq_false c2;clear c2;obtain rfl:=Option.some.inj H
  go_enter Tryd.func67,Tryd.ntmps67
  go_wp2
  go_ret
  exact ⟨by rfl,by repeat (exact Drawn0.refl _)⟩
def impl_isFigures.l0:Nat → ByteArray → Int → Option (Bool)
 | 0,_,_=>none
 | k + 1,x0,x3=>if x3 < (x0.size:Int) then (if 0 ≤ x3 then ((impl_isFigure.f (bt x0 x3)).bind fun t104=>(if t104=true then (impl_isFigures.l0 k x0 (wrap64 (x3 + 1))) else (some false))) else (none)) else (some (x0.toList != ([]:List UInt8)))
def impl_isFigures.f (k:Nat) (a0:ByteArray):Option (Bool):=impl_isFigures.l0 k a0 0
theorem impl_isFigures.mono_l : ∀ k,(∀ y0 y1,LeO (impl_isFigures.l0 k y0 y1) (impl_isFigures.l0 (k + 1) y0 y1))
 | 0=>fun _ _ r h=>by simp [impl_isFigures.l0] at h
 | k + 1=>by
  have ih0:=impl_isFigures.mono_l k
  ·intro y0 y1;unfold impl_isFigures.l0
   repeat' first
   | (with_reducible exact ih0 _ _)
   | (with_reducible exact LeO.refl _)
   | (with_reducible refine LeO.ite ?_ ?_)
   | (with_reducible refine LeO.bind ?_ (fun _=>?_))
theorem impl_isFigures.mono : ∀ a0 k,LeO (impl_isFigures.f k a0) (impl_isFigures.f (k + 1) a0):=by
 intro a0 k;have ih0:=impl_isFigures.mono_l k;unfold impl_isFigures.f
 repeat' (with_reducible exact ih0 _ _)
set_option maxHeartbeats 8000000 in
set_option maxRecDepth 100000 in
theorem impl_isFigures.calls (k:Nat) (a0:ByteArray) (r:Bool) (w:World) (h:impl_isFigures.f k a0=some r) :
 Calls Tryd.prog 68 #[.string a0] w fun e w'=>e = .returned (.bool r) ∧ Drawn0 w w':=by
 have H:(impl_isFigures.l0 k a0 0)=some r:=h;clear h;have H':=a_ H;clear H
 go_enter Tryd.func68,Tryd.ntmps68
 go_wp2
 go_loopg [3] k (fun kq v3 w'=>∃ (x3_1:Int),v3 = .int .i64 x3_1 ∧ Aside0 (impl_isFigures.l0 kq a0 x3_1=some r) ∧ Aside0 (kq ≤ k) ∧ Drawn0 w w')
 case atStart=>exact ⟨(0),(by rfl),H',⟨Nat.le_refl _⟩,by repeat (exact Drawn0.refl _)⟩
 case round=>
  clear H';obtain ⟨x3_1,rfl,HA,HK1,⟨m1,rfl⟩⟩:=hrel
  cases gk with
  | zero=>exact absurd HA.out (by simp [impl_isFigures.l0])
  | succ k1=>
   have H:=HA.out;clear HA;simp only [impl_isFigures.l0] at H
   by_cases c2:x3_1 < (a0.size:Int)
   ·rw [if_pos c2] at H;have c2b0:decide (x3_1 < (a0.size:Int))=true:=decide_eq_true c2;clear c2
    by_cases c3:0 ≤ x3_1
    ·rw [if_pos c3] at H;have c3b0:decide (0 ≤ x3_1)=true:=decide_eq_true c3;clear c3;replace H:=Option.bind_eq_some_iff.mp H;obtain ⟨t104,A50,H⟩:=H;replace H:(if t104=true then (impl_isFigures.l0 k1 a0 (wrap64 (x3_1 + 1))) else (some false))=some r:=H;have A5:=a_ A50;clear A50
     by_cases c6:t104=true
     ·subst c6;have H1:(impl_isFigures.l0 k1 a0 (wrap64 (x3_1 + 1)))=some r:=by rw [if_pos rfl] at H;exact H
      clear H;have H:=H1;clear H1;have H':=a_ H;clear H;have p4:0 ≤ (x3_1:Int):=of_decide_eq_true (by (with_reducible assumption));have q4:x3_1 < (a0.size:Int):=of_decide_eq_true (by (with_reducible assumption));have hx4:=bt_at a0 x3_1;replace p4:=eq_true p4;replace q4:=eq_true q4
      go_wp2_with (((with_reducible refine gate_callee (f:=67) rfl ?_);refine goesL_ (some 13) rfl rfl Tryd.func67 (by kernel_rfl) rfl #[.int .u8 (bt a0 x3_1)] rfl (by (try simp only [List.map_toArray,List.map_cons,List.map_nil]);rfl) ?_;(with_reducible refine (impl_isFigure.calls (bt a0 x3_1) true _ A5.out).mono ?_);rintro e w' ⟨rfl,⟨nd,rfl⟩⟩;refine ⟨_,rfl,?_⟩))
      go_roundg k1
      case measure=>have:=HK1.out;omega
      case rel=>exact ⟨(wrap64 (x3_1 + 1)),(by rfl),H',⟨by have:=HK1.out;omega⟩,by repeat (first | exact Drawn0.refl _ | apply Drawn0.step)⟩
     ·replace c6:=Bool.eq_false_iff.mpr c6;subst c6;have H1:(some false)=some r:=by rw [if_neg (show ¬ (false=true) by decide)] at H;exact H
      clear H;have H:=H1;clear H1;obtain rfl:=Option.some.inj H;have p4:0 ≤ (x3_1:Int):=of_decide_eq_true (by (with_reducible assumption));have q4:x3_1 < (a0.size:Int):=of_decide_eq_true (by (with_reducible assumption));have hx4:=bt_at a0 x3_1;replace p4:=eq_true p4;replace q4:=eq_true q4
      go_wp2_with (((with_reducible refine gate_callee (f:=67) rfl ?_);refine goesL_ (some 13) rfl rfl Tryd.func67 (by kernel_rfl) rfl #[.int .u8 (bt a0 x3_1)] rfl (by (try simp only [List.map_toArray,List.map_cons,List.map_nil]);rfl) ?_;(with_reducible refine (impl_isFigure.calls (bt a0 x3_1) false _ A5.out).mono ?_);rintro e w' ⟨rfl,⟨nd,rfl⟩⟩;refine ⟨_,rfl,?_⟩))
      go_ret
      exact ⟨by rfl,by repeat (first | exact Drawn0.refl _ | apply Drawn0.step)⟩
    ·rw [if_neg c3] at H;exact absurd H (by simp)
   ·rw [if_neg c2] at H;have c2b0:decide (x3_1 < (a0.size:Int))=false:=decide_eq_false c2;clear c2;obtain rfl:=Option.some.inj H
    go_wp2
    go_ret
    exact ⟨by (simp [bne_nil_];done),by repeat (first | exact Drawn0.refl _ | apply Drawn0.step)⟩
def impl_isNumber.f (k:Nat) (a0:ByteArray):Option (Bool):=(impl_isFigures.f k a0).bind fun t105=>(if t105=true then (if a0.toList=([48]:List UInt8) then (some true) else (if 0 < (a0.size:Int) then (some ((bt a0 0) != 48)) else (none))) else (some false))
theorem impl_isNumber.mono : ∀ a0 k,LeO (impl_isNumber.f k a0) (impl_isNumber.f (k + 1) a0):=by
 intro a0 k;unfold impl_isNumber.f
 repeat' first
  | (with_reducible exact impl_isFigures.mono _ _)
  | (with_reducible exact LeO.refl _)
  | (with_reducible refine LeO.bind ?_ (fun _=>?_))
set_option maxHeartbeats 8000000 in
set_option maxRecDepth 100000 in
theorem impl_isNumber.calls (k:Nat) (a0:ByteArray) (r:Bool) (w:World) (h:impl_isNumber.f k a0=some r) :
 Calls Tryd.prog 69 #[.string a0] w fun e w'=>e = .returned (.bool r) ∧ Drawn0 w w':=by
 have H:((impl_isFigures.f k a0).bind fun t105=>(if t105=true then (if a0.toList=([48]:List UInt8) then (some true) else (if 0 < (a0.size:Int) then (some ((bt a0 0) != 48)) else (none))) else (some false)))=some r:=h;clear h;replace H:=Option.bind_eq_some_iff.mp H;obtain ⟨t105,A20,H⟩:=H;replace H:(if t105=true then (if a0.toList=([48]:List UInt8) then (some true) else (if 0 < (a0.size:Int) then (some ((bt a0 0) != 48)) else (none))) else (some false))=some r:=H
 have A2:=a_ A20;clear A20
 by_cases c3:t105=true
 ·subst c3;have H1:(if a0.toList=([48]:List UInt8) then (some true) else (if 0 < (a0.size:Int) then (some ((bt a0 0) != 48)) else (none)))=some r:=by rw [if_pos rfl] at H;exact H
  clear H;have H:=H1;clear H1
  by_cases c4:a0.toList=([48]:List UInt8)
  ·rw [if_pos c4] at H;have c4b0:(a0.toList == ([48]:List UInt8))=true:=beq_iff_eq.mpr c4;have c4b1:(a0.toList != ([48]:List UInt8))=false:=bne_eq_false_iff_eq.mpr c4;clear c4;obtain rfl:=Option.some.inj H
   go_enter Tryd.func69,Tryd.ntmps69
   go_wp2_with (((with_reducible refine gate_callee (f:=68) rfl ?_);refine goesL_ (some 4) rfl rfl Tryd.func68 (by kernel_rfl) rfl #[.string a0] rfl (by (try simp only [List.map_toArray,List.map_cons,List.map_nil]);rfl) ?_;(with_reducible refine (impl_isFigures.calls k a0 true _ A2.out).mono ?_);rintro e w' ⟨rfl,⟨nd,rfl⟩⟩;refine ⟨_,rfl,?_⟩))
   go_ret
   exact ⟨by rfl,by repeat (first | exact Drawn0.refl _ | apply Drawn0.step)⟩
  ·rw [if_neg c4] at H;have c4b0:(a0.toList == ([48]:List UInt8))=false:=beq_eq_false_iff_ne.mpr c4;have c4b1:(a0.toList != ([48]:List UInt8))=true:=bne_iff_ne.mpr c4
   by_cases c5:0 < (a0.size:Int)
   ·rw [if_pos c5] at H;have c5b0:decide (0 < (a0.size:Int))=true:=decide_eq_true c5;have c5b1:decide (0 < a0.size)=true:=decide_eq_true (by omega);clear c5;obtain rfl:=Option.some.inj H
    go_enter Tryd.func69,Tryd.ntmps69
    go_wp2_with (((with_reducible refine gate_callee (f:=68) rfl ?_);refine goesL_ (some 4) rfl rfl Tryd.func68 (by kernel_rfl) rfl #[.string a0] rfl (by (try simp only [List.map_toArray,List.map_cons,List.map_nil]);rfl) ?_;(with_reducible refine (impl_isFigures.calls k a0 true _ A2.out).mono ?_);rintro e w' ⟨rfl,⟨nd,rfl⟩⟩;refine ⟨_,rfl,?_⟩;have p6:0 ≤ (0:Int):=(by omega);have q6:0 < a0.size:=(by have:(0:Int) < (a0.size:Int):=of_decide_eq_true (by (with_reducible assumption));omega);have hx6 : ∀ h:0 < a0.size,((a0[0]'h).toNat:Int)=bt a0 0:=bt_at a0 0;clear p6;have qi6:(0 < (a0.size:Int))=True:=eq_true (of_decide_eq_true (by (with_reducible assumption)));replace q6:=eq_true q6))
    go_ret
    exact ⟨by rfl,by repeat (first | exact Drawn0.refl _ | apply Drawn0.step)⟩
   ·rw [if_neg c5] at H;exact absurd H (by simp)
 ·replace c3:=Bool.eq_false_iff.mpr c3;subst c3;have H1:(some false)=some r:=by rw [if_neg (show ¬ (false=true) by decide)] at H;exact H
  clear H;have H:=H1;clear H1;obtain rfl:=Option.some.inj H
  go_enter Tryd.func69,Tryd.ntmps69
  go_wp2_with (((with_reducible refine gate_callee (f:=68) rfl ?_);refine goesL_ (some 4) rfl rfl Tryd.func68 (by kernel_rfl) rfl #[.string a0] rfl (by (try simp only [List.map_toArray,List.map_cons,List.map_nil]);rfl) ?_;(with_reducible refine (impl_isFigures.calls k a0 false _ A2.out).mono ?_);rintro e w' ⟨rfl,⟨nd,rfl⟩⟩;refine ⟨_,rfl,?_⟩))
  go_ret
  exact ⟨by rfl,by repeat (first | exact Drawn0.refl _ | apply Drawn0.step)⟩
def cmp_isNaN_string.f (a0:ByteArray):Option (Bool):=some (a0.toList != a0.toList)
set_option maxHeartbeats 8000000 in
set_option maxRecDepth 100000 in
theorem cmp_isNaN_string.calls (a0:ByteArray) (r:Bool) (w:World) (h:cmp_isNaN_string.f a0=some r) :
 Calls Tryd.prog 95 #[.string a0] w fun e w'=>e = .returned (.bool r) ∧ Drawn0 w w':=by
 have H:(some (a0.toList != a0.toList))=some r:=h;clear h;obtain rfl:=Option.some.inj H
 go_enter Tryd.func95,Tryd.ntmps95
 go_wp2
 go_ret
 exact ⟨by rfl,by repeat (exact Drawn0.refl _)⟩
def cmp_Compare_string.f (a0:ByteArray) (a1:ByteArray):Option (Int):=(cmp_isNaN_string.f a0).bind fun t106=>((cmp_isNaN_string.f a1).bind fun t107=>(if t106=true then (if t107=true then (some 0) else (some (-1))) else (if t107=true then (some 1) else (if (Op.bytesLess a0.toList a1.toList)=true then (some (-1)) else (if a0.toList=a1.toList then (some 0) else (some 1))))))
set_option maxHeartbeats 8000000 in
set_option maxRecDepth 100000 in
theorem cmp_Compare_string.calls (a0:ByteArray) (a1:ByteArray) (r:Int) (w:World) (h:cmp_Compare_string.f a0 a1=some r) :
 Calls Tryd.prog 86 #[.string a0,.string a1] w fun e w'=>e = .returned (.int .i64 r) ∧ Drawn0 w w':=by
 have H:((cmp_isNaN_string.f a0).bind fun t106=>((cmp_isNaN_string.f a1).bind fun t107=>(if t106=true then (if t107=true then (some 0) else (some (-1))) else (if t107=true then (some 1) else (if (Op.bytesLess a0.toList a1.toList)=true then (some (-1)) else (if a0.toList=a1.toList then (some 0) else (some 1)))))))=some r:=h;clear h;replace H:=Option.bind_eq_some_iff.mp H;obtain ⟨t106,A30,H⟩:=H;replace H:((cmp_isNaN_string.f a1).bind fun t107=>(if t106=true then (if t107=true then (some 0) else (some (-1))) else (if t107=true then (some 1) else (if (Op.bytesLess a0.toList a1.toList)=true then (some (-1)) else (if a0.toList=a1.toList then (some 0) else (some 1))))))=some r:=H
 have A3:=a_ A30;clear A30;replace H:=Option.bind_eq_some_iff.mp H;obtain ⟨t107,A40,H⟩:=H;replace H:(if t106=true then (if t107=true then (some 0) else (some (-1))) else (if t107=true then (some 1) else (if (Op.bytesLess a0.toList a1.toList)=true then (some (-1)) else (if a0.toList=a1.toList then (some 0) else (some 1)))))=some r:=H;have A4:=a_ A40;clear A40
 by_cases c5:t106=true
 ·subst c5;have H1:(if t107=true then (some 0) else (some (-1)))=some r:=by rw [if_pos rfl] at H;exact H
  clear H;have H:=H1;clear H1
  by_cases c6:t107=true
  ·subst c6;have H1:(some 0)=some r:=by rw [if_pos rfl] at H;exact H
   clear H;have H:=H1;clear H1;obtain rfl:=Option.some.inj H
   go_enter Tryd.func86,Tryd.ntmps86
   go_wp2_with (first | ((with_reducible refine gate_callee (f:=95) rfl ?_);refine goesL_ (some 8) rfl rfl Tryd.func95 (by kernel_rfl) rfl #[.string a0] rfl (by (try simp only [List.map_toArray,List.map_cons,List.map_nil]);rfl) ?_;(with_reducible refine (cmp_isNaN_string.calls a0 true _ A3.out).mono ?_);rintro e w' ⟨rfl,⟨nd,rfl⟩⟩;refine ⟨_,rfl,?_⟩) | ((with_reducible refine gate_callee (f:=95) rfl ?_);refine goesL_ (some 10) rfl rfl Tryd.func95 (by kernel_rfl) rfl #[.string a1] rfl (by (try simp only [List.map_toArray,List.map_cons,List.map_nil]);rfl) ?_;(with_reducible refine (cmp_isNaN_string.calls a1 true _ A4.out).mono ?_);rintro e w' ⟨rfl,⟨nd,rfl⟩⟩;refine ⟨_,rfl,?_⟩))
   go_ret
   exact ⟨by rfl,by repeat (first | exact Drawn0.refl _ | apply Drawn0.step)⟩
  ·replace c6:=Bool.eq_false_iff.mpr c6;subst c6;have H1:(some (-1))=some r:=by rw [if_neg (show ¬ (false=true) by decide)] at H;exact H
   clear H;have H:=H1;clear H1;obtain rfl:=Option.some.inj H
   go_enter Tryd.func86,Tryd.ntmps86
   go_wp2_with (first | ((with_reducible refine gate_callee (f:=95) rfl ?_);refine goesL_ (some 8) rfl rfl Tryd.func95 (by kernel_rfl) rfl #[.string a0] rfl (by (try simp only [List.map_toArray,List.map_cons,List.map_nil]);rfl) ?_;(with_reducible refine (cmp_isNaN_string.calls a0 true _ A3.out).mono ?_);rintro e w' ⟨rfl,⟨nd,rfl⟩⟩;refine ⟨_,rfl,?_⟩) | ((with_reducible refine gate_callee (f:=95) rfl ?_);refine goesL_ (some 10) rfl rfl Tryd.func95 (by kernel_rfl) rfl #[.string a1] rfl (by (try simp only [List.map_toArray,List.map_cons,List.map_nil]);rfl) ?_;(with_reducible refine (cmp_isNaN_string.calls a1 false _ A4.out).mono ?_);rintro e w' ⟨rfl,⟨nd,rfl⟩⟩;refine ⟨_,rfl,?_⟩))
   go_ret
   exact ⟨by rfl,by repeat (first | exact Drawn0.refl _ | apply Drawn0.step)⟩
 ·replace c5:=Bool.eq_false_iff.mpr c5;subst c5;have H1:(if t107=true then (some 1) else (if (Op.bytesLess a0.toList a1.toList)=true then (some (-1)) else (if a0.toList=a1.toList then (some 0) else (some 1))))=some r:=by rw [if_neg (show ¬ (false=true) by decide)] at H;exact H
  clear H;have H:=H1;clear H1
  by_cases c7:t107=true
  ·subst c7;have H1:(some 1)=some r:=by rw [if_pos rfl] at H;exact H
   clear H;have H:=H1;clear H1;obtain rfl:=Option.some.inj H
   go_enter Tryd.func86,Tryd.ntmps86
   go_wp2_with (first | ((with_reducible refine gate_callee (f:=95) rfl ?_);refine goesL_ (some 8) rfl rfl Tryd.func95 (by kernel_rfl) rfl #[.string a0] rfl (by (try simp only [List.map_toArray,List.map_cons,List.map_nil]);rfl) ?_;(with_reducible refine (cmp_isNaN_string.calls a0 false _ A3.out).mono ?_);rintro e w' ⟨rfl,⟨nd,rfl⟩⟩;refine ⟨_,rfl,?_⟩) | ((with_reducible refine gate_callee (f:=95) rfl ?_);refine goesL_ (some 10) rfl rfl Tryd.func95 (by kernel_rfl) rfl #[.string a1] rfl (by (try simp only [List.map_toArray,List.map_cons,List.map_nil]);rfl) ?_;(with_reducible refine (cmp_isNaN_string.calls a1 true _ A4.out).mono ?_);rintro e w' ⟨rfl,⟨nd,rfl⟩⟩;refine ⟨_,rfl,?_⟩))
   go_ret
   exact ⟨by rfl,by repeat (first | exact Drawn0.refl _ | apply Drawn0.step)⟩
  ·replace c7:=Bool.eq_false_iff.mpr c7;subst c7;have H1:(if (Op.bytesLess a0.toList a1.toList)=true then (some (-1)) else (if a0.toList=a1.toList then (some 0) else (some 1)))=some r:=by rw [if_neg (show ¬ (false=true) by decide)] at H;exact H
   clear H;have H:=H1;clear H1
   by_cases c8:(Op.bytesLess a0.toList a1.toList)=true
   ·rw [if_pos c8] at H;have c8b0:(Op.bytesLess a0.toList a1.toList)=true:=c8;clear c8;obtain rfl:=Option.some.inj H
    go_enter Tryd.func86,Tryd.ntmps86
    go_wp2_with (first | ((with_reducible refine gate_callee (f:=95) rfl ?_);refine goesL_ (some 8) rfl rfl Tryd.func95 (by kernel_rfl) rfl #[.string a0] rfl (by (try simp only [List.map_toArray,List.map_cons,List.map_nil]);rfl) ?_;(with_reducible refine (cmp_isNaN_string.calls a0 false _ A3.out).mono ?_);rintro e w' ⟨rfl,⟨nd,rfl⟩⟩;refine ⟨_,rfl,?_⟩) | ((with_reducible refine gate_callee (f:=95) rfl ?_);refine goesL_ (some 10) rfl rfl Tryd.func95 (by kernel_rfl) rfl #[.string a1] rfl (by (try simp only [List.map_toArray,List.map_cons,List.map_nil]);rfl) ?_;(with_reducible refine (cmp_isNaN_string.calls a1 false _ A4.out).mono ?_);rintro e w' ⟨rfl,⟨nd,rfl⟩⟩;refine ⟨_,rfl,?_⟩))
    go_ret
    exact ⟨by rfl,by repeat (first | exact Drawn0.refl _ | apply Drawn0.step)⟩
   ·rw [if_neg c8] at H;have c8b0:(Op.bytesLess a0.toList a1.toList)=false:=by simpa using c8
    clear c8
    by_cases c9:a0.toList=a1.toList
    ·rw [if_pos c9] at H;have c9b0:(a0.toList == a1.toList)=true:=beq_iff_eq.mpr c9;have c9b1:(a0.toList != a1.toList)=false:=bne_eq_false_iff_eq.mpr c9;clear c9;obtain rfl:=Option.some.inj H
     go_enter Tryd.func86,Tryd.ntmps86
     go_wp2_with (first | ((with_reducible refine gate_callee (f:=95) rfl ?_);refine goesL_ (some 8) rfl rfl Tryd.func95 (by kernel_rfl) rfl #[.string a0] rfl (by (try simp only [List.map_toArray,List.map_cons,List.map_nil]);rfl) ?_;(with_reducible refine (cmp_isNaN_string.calls a0 false _ A3.out).mono ?_);rintro e w' ⟨rfl,⟨nd,rfl⟩⟩;refine ⟨_,rfl,?_⟩) | ((with_reducible refine gate_callee (f:=95) rfl ?_);refine goesL_ (some 10) rfl rfl Tryd.func95 (by kernel_rfl) rfl #[.string a1] rfl (by (try simp only [List.map_toArray,List.map_cons,List.map_nil]);rfl) ?_;(with_reducible refine (cmp_isNaN_string.calls a1 false _ A4.out).mono ?_);rintro e w' ⟨rfl,⟨nd,rfl⟩⟩;refine ⟨_,rfl,?_⟩))
     go_ret
     exact ⟨by rfl,by repeat (first | exact Drawn0.refl _ | apply Drawn0.step)⟩
    ·rw [if_neg c9] at H;have c9b0:(a0.toList == a1.toList)=false:=beq_eq_false_iff_ne.mpr c9;have c9b1:(a0.toList != a1.toList)=true:=bne_iff_ne.mpr c9;obtain rfl:=Option.some.inj H
     go_enter Tryd.func86,Tryd.ntmps86
     go_wp2_with (first | ((with_reducible refine gate_callee (f:=95) rfl ?_);refine goesL_ (some 8) rfl rfl Tryd.func95 (by kernel_rfl) rfl #[.string a0] rfl (by (try simp only [List.map_toArray,List.map_cons,List.map_nil]);rfl) ?_;(with_reducible refine (cmp_isNaN_string.calls a0 false _ A3.out).mono ?_);rintro e w' ⟨rfl,⟨nd,rfl⟩⟩;refine ⟨_,rfl,?_⟩) | ((with_reducible refine gate_callee (f:=95) rfl ?_);refine goesL_ (some 10) rfl rfl Tryd.func95 (by kernel_rfl) rfl #[.string a1] rfl (by (try simp only [List.map_toArray,List.map_cons,List.map_nil]);rfl) ?_;(with_reducible refine (cmp_isNaN_string.calls a1 false _ A4.out).mono ?_);rintro e w' ⟨rfl,⟨nd,rfl⟩⟩;refine ⟨_,rfl,?_⟩))
     go_ret
     exact ⟨by rfl,by repeat (first | exact Drawn0.refl _ | apply Drawn0.step)⟩
end Go.Proofs.YtmkdeknpphimbaaDoor.PFnClosed
