import Derived.Test.YtfpdikledfhcaaaGreatDoorCCaPFnExactClientOkx0
import Derived.Test.YtfpdikledfhcaaaGreatDoorCCaPFnExactClientOkx9
import Derived.Test.YtfpdikledfhcaaaGreatDoorCCaPFnExactClientOkx10
namespace Go.Proofs.YtfpdikledfhcaaaGreatDoor.PFnExactClientOk
open Go.RowKit Go.Proofs.YtfpdikledfhcaaaGreatDoorW.PrintWords Go.Proofs.YtfpdikledfhcaaaGreatDoorW.PrintLast Go.Proofs.YtfpdikledfhcaaaGreatDoorW.PrintMore
attribute [local go_sem] max2_int min2_int max_two min_two max_three min_three max_four min_four
set_option linter.unusedVariables false
set_option linter.unusedSimpArgs false
def impl_numberOf.f (k:Nat) (a0:ByteArray) (a1:Int):Option (Int × Bool):=(impl_isNumber.f k a0).bind fun t260=>(if t260=true then (if (a0.size:Int) > a1 then (some (0,false)) else ((strconv_Atoi.f a0).bind fun bt261=>(if bt261.2.isNone=true then (some (bt261.1,true)) else (some (bt261.1,false))))) else (some (0,false)))
theorem impl_numberOf.mono : ∀ a0 a1 k,LeO (impl_numberOf.f k a0 a1) (impl_numberOf.f (k + 1) a0 a1):=by
 intro a0 a1 k;unfold impl_numberOf.f
 repeat' first
  | (with_reducible exact impl_isNumber.mono _ _)
  | (with_reducible exact LeO.refl _)
  | (with_reducible refine LeO.bind ?_ (fun _=>?_))
set_option maxHeartbeats 8000000 in
set_option maxRecDepth 100000 in
theorem impl_numberOf.calls (k:Nat) (a0:ByteArray) (a1:Int) (r1:Int) (r2:Bool) (w:World) (h:impl_numberOf.f k a0 a1=some (r1,r2)) :
 Calls Tryz.prog 105 #[.string a0,.int .i64 a1] w fun e w'=>e = .returned (.tuple #[.int .i64 r1,.bool r2]) ∧ Below w.heap.size w w':=by
 have hu103:=Tryz.underlying103;have HB:=a_ (Below.refl w.heap.size w);have H:((impl_isNumber.f k a0).bind fun t260=>(if t260=true then (if (a0.size:Int) > a1 then (some (0,false)) else ((strconv_Atoi.f a0).bind fun bt261=>(if bt261.2.isNone=true then (some (bt261.1,true)) else (some (bt261.1,false))))) else (some (0,false))))=some (r1,r2):=h;clear h;replace H:=Option.bind_eq_some_iff.mp H;obtain ⟨t260,A30,H⟩:=H
 replace H:(if t260=true then (if (a0.size:Int) > a1 then (some (0,false)) else ((strconv_Atoi.f a0).bind fun bt261=>(if bt261.2.isNone=true then (some (bt261.1,true)) else (some (bt261.1,false))))) else (some (0,false)))=some (r1,r2):=H;have A3:=a_ A30;clear A30
 by_cases c4:t260=true
 ·subst c4;have H1:(if (a0.size:Int) > a1 then (some (0,false)) else ((strconv_Atoi.f a0).bind fun bt261=>(if bt261.2.isNone=true then (some (bt261.1,true)) else (some (bt261.1,false)))))=some (r1,r2):=by rw [if_pos rfl] at H;exact H
  clear H;have H:=H1;clear H1
  by_cases c5:(a0.size:Int) > a1
  ·rw [if_pos c5] at H;have c5b0:decide (a1 < (a0.size:Int))=true:=decide_eq_true c5;clear c5;simp only [Option.some.injEq,Prod.mk.injEq] at H;obtain ⟨rfl,rfl⟩:=H
   go_enter Tryz.func105,Tryz.ntmps105
   go_wp2_with ((go_at_call 147;(with_reducible refine (impl_isNumber.calls k a0 true _ A3.out).mono ?_);rintro e w' ⟨rfl,⟨nd,rfl⟩⟩))
   repeat (go_quiet (fail))
   go_ret2
   exact ⟨by rfl,by repeat (with_reducible first | exact HB.out | apply pw_below_drewN)⟩
  ·rw [if_neg c5] at H;have c5b0:decide (a1 < (a0.size:Int))=false:=decide_eq_false c5;clear c5;replace H:=Option.bind_eq_some_iff.mp H;obtain ⟨⟨t261,t262⟩,A60,H⟩:=H;replace H:(if t262.isNone=true then (some (t261,true)) else (some (t261,false)))=some (r1,r2):=H;have A6:=a_ A60;clear A60
   rcases t262 with _ | q263
   ·have H1:(some (t261,true))=some (r1,r2):=by rw [if_pos (show (none:Option Int).isNone=true by rfl)] at H;exact H
    clear H;have H:=H1;clear H1;simp only [Option.some.injEq,Prod.mk.injEq] at H;obtain ⟨rfl,rfl⟩:=H
    go_enter Tryz.func105,Tryz.ntmps105
    go_wp2_with (first | (go_at_call 147;(with_reducible refine (impl_isNumber.calls k a0 true _ A3.out).mono ?_);rintro e w' ⟨rfl,⟨nd,rfl⟩⟩) | (go_at_call 148;(with_reducible refine (strconv_Atoi.calls a0 t261 none _ A6.out).mono ?_);rintro e w7 ⟨rfl,hb⟩;have n0_:=a_ (below_step (by repeat (with_reducible first | exact HB.out | apply pw_below_drewN)) hb);clear HB;have HB:=n0_;clear n0_;(try clear hb);(try simp only [errW_none,errW_some])))
    repeat (go_quiet (fail);try go_wp2_with (fail))
    go_ret2
    exact ⟨by rfl,by repeat (with_reducible first | exact HB.out | apply pw_below_drewN)⟩
   ·have H1:(some (t261,false))=some (r1,r2):=by rw [if_neg (show ¬ (some q263).isNone=true by simp)] at H;exact H
    clear H;have H:=H1;clear H1;simp only [Option.some.injEq,Prod.mk.injEq] at H;obtain ⟨rfl,rfl⟩:=H
    go_enter Tryz.func105,Tryz.ntmps105
    go_wp2_with (first | (go_at_call 147;(with_reducible refine (impl_isNumber.calls k a0 true _ A3.out).mono ?_);rintro e w' ⟨rfl,⟨nd,rfl⟩⟩) | (go_at_call 148;(with_reducible refine (strconv_Atoi.calls a0 t261 (some q263) _ A6.out).mono ?_);rintro e w8 ⟨rfl,hb⟩;have n0_:=a_ (below_step (by repeat (with_reducible first | exact HB.out | apply pw_below_drewN)) hb);clear HB;have HB:=n0_;clear n0_;(try clear hb);(try simp only [errW_none,errW_some])))
    repeat (go_quiet (fail);try go_wp2_with (fail))
    go_ret2
    exact ⟨by rfl,by repeat (with_reducible first | exact HB.out | apply pw_below_drewN)⟩
 ·replace c4:=Bool.eq_false_iff.mpr c4;subst c4;have H1:(some (0,false))=some (r1,r2):=by rw [if_neg (show ¬ (false=true) by decide)] at H;exact H
  clear H;have H:=H1;clear H1;simp only [Option.some.injEq,Prod.mk.injEq] at H;obtain ⟨rfl,rfl⟩:=H
  go_enter Tryz.func105,Tryz.ntmps105
  go_wp2_with ((go_at_call 147;(with_reducible refine (impl_isNumber.calls k a0 false _ A3.out).mono ?_);rintro e w' ⟨rfl,⟨nd,rfl⟩⟩))
  repeat (go_quiet (fail))
  go_ret2
  exact ⟨by rfl,by repeat (with_reducible first | exact HB.out | apply pw_below_drewN)⟩
def bytealg_LastIndexByteString.l0:Nat → ByteArray → Int → Int → Option (Int)
 | 0,_,_,_=>none
 | k + 1,x0,x1,x5=>if x5 ≥ 0 then (if 0 ≤ x5 then (if x5 < (x0.size:Int) then (if (bt x0 x5)=x1 then (some x5) else (bytealg_LastIndexByteString.l0 k x0 x1 (wrap64 (x5 - 1)))) else (none)) else (none)) else (some (-1))
def bytealg_LastIndexByteString.f (k:Nat) (a0:ByteArray) (a1:Int):Option (Int):=bytealg_LastIndexByteString.l0 k a0 a1 (wrap64 ((a0.size:Int) - 1))
theorem bytealg_LastIndexByteString.mono_l : ∀ k,(∀ y0 y1 y2,LeO (bytealg_LastIndexByteString.l0 k y0 y1 y2) (bytealg_LastIndexByteString.l0 (k + 1) y0 y1 y2))
 | 0=>fun _ _ _ r h=>by simp [bytealg_LastIndexByteString.l0] at h
 | k + 1=>by
  have ih0:=bytealg_LastIndexByteString.mono_l k
  ·intro y0 y1 y2;unfold bytealg_LastIndexByteString.l0
   repeat' first
   | (with_reducible exact ih0 _ _ _)
   | (with_reducible exact LeO.refl _)
   | (with_reducible refine LeO.ite ?_ ?_)
theorem bytealg_LastIndexByteString.mono : ∀ a0 a1 k,LeO (bytealg_LastIndexByteString.f k a0 a1) (bytealg_LastIndexByteString.f (k + 1) a0 a1):=by
 intro a0 a1 k;have ih0:=bytealg_LastIndexByteString.mono_l k;unfold bytealg_LastIndexByteString.f
 repeat' (with_reducible exact ih0 _ _ _)
set_option maxHeartbeats 8000000 in
set_option maxRecDepth 100000 in
theorem bytealg_LastIndexByteString.calls (k:Nat) (a0:ByteArray) (a1:Int) (r:Int) (w:World) (h:bytealg_LastIndexByteString.f k a0 a1=some r) :
 Calls Tryz.prog 233 #[.string a0,.int .u8 a1] w fun e w'=>e = .returned (.int .i64 r) ∧ Drawn0 w w':=by
 have H:(bytealg_LastIndexByteString.l0 k a0 a1 (wrap64 ((a0.size:Int) - 1)))=some r:=h;clear h;have H':=a_ H;clear H
 go_enter Tryz.func233,Tryz.ntmps233
 go_wp2
 go_loopg [5] k (fun kq v5 w'=>∃ (x5_1:Int),v5 = .int .i64 x5_1 ∧ Aside0 (bytealg_LastIndexByteString.l0 kq a0 a1 x5_1=some r) ∧ Aside0 (kq ≤ k) ∧ Drawn0 w w')
 case atStart=>exact ⟨(wrap64 ((a0.size:Int) - 1)),(by rfl),H',⟨Nat.le_refl _⟩,by repeat (exact Drawn0.refl _)⟩
 case round=>
  clear H';obtain ⟨x5_1,rfl,HA,HK1,⟨m1,rfl⟩⟩:=hrel
  cases gk with
  | zero=>exact absurd HA.out (by simp [bytealg_LastIndexByteString.l0])
  | succ k1=>
   have H:=HA.out;clear HA;simp only [bytealg_LastIndexByteString.l0] at H
   by_cases c3:x5_1 ≥ 0
   ·rw [if_pos c3] at H;have c3b0:decide (0 ≤ x5_1)=true:=decide_eq_true c3;clear c3
    by_cases c4:0 ≤ x5_1
    ·rw [if_pos c4] at H;have c4b0:decide (0 ≤ x5_1)=true:=decide_eq_true c4;clear c4
     by_cases c5:x5_1 < (a0.size:Int)
     ·rw [if_pos c5] at H;have c5b0:decide (x5_1 < (a0.size:Int))=true:=decide_eq_true c5;clear c5
      by_cases c7:(bt a0 x5_1)=a1
      ·rw [if_pos c7] at H;have c7b0:((bt a0 x5_1) == a1)=true:=beq_iff_eq.mpr c7;have c7b1:((bt a0 x5_1) != a1)=false:=bne_eq_false_iff_eq.mpr c7;clear c7;obtain rfl:=Option.some.inj H;have p6:0 ≤ (x5_1:Int):=of_decide_eq_true (by (with_reducible assumption));have q6:x5_1 < (a0.size:Int):=of_decide_eq_true (by (with_reducible assumption));have hx6:=bt_at a0 x5_1;replace p6:=eq_true p6;replace q6:=eq_true q6
       go_wp2
       go_ret
       exact ⟨by rfl,by repeat (first | exact Drawn0.refl _ | apply Drawn0.step)⟩
      ·rw [if_neg c7] at H;have c7b0:((bt a0 x5_1) == a1)=false:=beq_eq_false_iff_ne.mpr c7;have c7b1:((bt a0 x5_1) != a1)=true:=bne_iff_ne.mpr c7;have H':=a_ H;clear H;have p6:0 ≤ (x5_1:Int):=of_decide_eq_true (by (with_reducible assumption));have q6:x5_1 < (a0.size:Int):=of_decide_eq_true (by (with_reducible assumption));have hx6:=bt_at a0 x5_1;replace p6:=eq_true p6;replace q6:=eq_true q6
       go_wp2
       go_roundg k1
       case measure=>have:=HK1.out;omega
       case rel=>exact ⟨(wrap64 (x5_1 - 1)),(by rfl),H',⟨by have:=HK1.out;omega⟩,by repeat (first | exact Drawn0.refl _ | apply Drawn0.step)⟩
     ·rw [if_neg c5] at H;exact absurd H (by simp)
    ·rw [if_neg c4] at H;exact absurd H (by simp)
   ·rw [if_neg c3] at H;have c3b0:decide (0 ≤ x5_1)=false:=decide_eq_false c3;clear c3;obtain rfl:=Option.some.inj H
    go_wp2
    go_ret
    exact ⟨by rfl,by repeat (first | exact Drawn0.refl _ | apply Drawn0.step)⟩
def strings_LastIndexByte.f (k:Nat) (a0:ByteArray) (a1:Int):Option (Int):=(bytealg_LastIndexByteString.f k a0 a1).bind fun t264=>(some t264)
theorem strings_LastIndexByte.mono : ∀ a0 a1 k,LeO (strings_LastIndexByte.f k a0 a1) (strings_LastIndexByte.f (k + 1) a0 a1):=by
 intro a0 a1 k;unfold strings_LastIndexByte.f
 repeat' first
  | (with_reducible exact bytealg_LastIndexByteString.mono _ _ _)
  | (with_reducible exact LeO.refl _)
  | (with_reducible refine LeO.bind ?_ (fun _=>?_))
set_option maxHeartbeats 8000000 in
set_option maxRecDepth 100000 in
theorem strings_LastIndexByte.calls (k:Nat) (a0:ByteArray) (a1:Int) (r:Int) (w:World) (h:strings_LastIndexByte.f k a0 a1=some r) :
 Calls Tryz.prog 221 #[.string a0,.int .u8 a1] w fun e w'=>e = .returned (.int .i64 r) ∧ Drawn0 w w':=by
 have H:((bytealg_LastIndexByteString.f k a0 a1).bind fun t264=>(some t264))=some r:=h;clear h;replace H:=Option.bind_eq_some_iff.mp H;obtain ⟨t264,A30,H⟩:=H;replace H:(some t264)=some r:=H;have A3:=a_ A30;clear A30;obtain rfl:=Option.some.inj H
 go_enter Tryz.func221,Tryz.ntmps221
 go_wp2_with (((with_reducible refine gate_callee (f:=233) rfl ?_);refine goesL_ (some 7) rfl rfl Tryz.func233 (by kernel_rfl) rfl #[.string a0,.int .u8 a1] rfl (by (try simp only [List.map_toArray,List.map_cons,List.map_nil]);rfl) ?_;(with_reducible refine (bytealg_LastIndexByteString.calls k a0 a1 t264 _ A3.out).mono ?_);rintro e w' ⟨rfl,⟨nd,rfl⟩⟩;refine ⟨_,rfl,?_⟩))
 go_ret
 exact ⟨by rfl,by repeat (first | exact Drawn0.refl _ | apply Drawn0.step)⟩
def impl_cutMajor.j0:Nat → ByteArray → Int → Bool → Option (ByteArray × Int)
 | 0,_,_,_=>none
 | k + 1,x0,x4,x17=>if x17=true then (some (x0,1)) else (if 0 ≤ (wrap64 (x4 + 2)) then (if (wrap64 (x4 + 2)) ≤ (x0.size:Int) then ((impl_numberOf.f k (x0.extract ((wrap64 (x4 + 2)):Int).toNat x0.size) 4).bind fun bt266=>(if bt266.2=true then ((impl_inRange.f bt266.1 2 1000).bind fun t268=>(if t268=true then (if 0 ≤ x4 then (if x4 ≤ (x0.size:Int) then (some (x0.extract 0 (x4:Int).toNat,bt266.1)) else (none)) else (none)) else (some (x0,1)))) else (some (x0,1)))) else (none)) else (none))
def impl_cutMajor.f (k:Nat) (a0:ByteArray):Option (ByteArray × Int):=(strings_LastIndexByte.f k a0 47).bind fun t265=>(if t265 < 0 then (impl_cutMajor.j0 k a0 t265 true) else (if 0 ≤ (wrap64 (t265 + 1)) then (if (wrap64 (t265 + 1)) < (a0.size:Int) then (impl_cutMajor.j0 k a0 t265 ((bt a0 (wrap64 (t265 + 1))) != 118)) else (none)) else (none)))
theorem impl_cutMajor.mono_l : ∀ k,(∀ y0 y1 y2,LeO (impl_cutMajor.j0 k y0 y1 y2) (impl_cutMajor.j0 (k + 1) y0 y1 y2))
 | 0=>fun _ _ _ r h=>by simp [impl_cutMajor.j0] at h
 | k + 1=>by
  have ih0:=impl_cutMajor.mono_l k
  ·intro y0 y1 y2;unfold impl_cutMajor.j0
   repeat' first
   | (with_reducible exact impl_numberOf.mono _ _ _)
   | (with_reducible exact LeO.refl _)
   | (with_reducible refine LeO.ite ?_ ?_)
   | (with_reducible refine LeO.bind ?_ (fun _=>?_))
theorem impl_cutMajor.mono : ∀ a0 k,LeO (impl_cutMajor.f k a0) (impl_cutMajor.f (k + 1) a0):=by
 intro a0 k;have ih0:=impl_cutMajor.mono_l k;unfold impl_cutMajor.f
 repeat' first
  | (with_reducible exact ih0 _ _ _)
  | (with_reducible exact strings_LastIndexByte.mono _ _ _)
  | (with_reducible exact LeO.refl _)
  | (with_reducible refine LeO.ite ?_ ?_)
  | (with_reducible refine LeO.bind ?_ (fun _=>?_))
set_option maxHeartbeats 8000000 in
set_option maxRecDepth 100000 in
theorem impl_cutMajor.calls (k:Nat) (a0:ByteArray) (r1:ByteArray) (r2:Int) (w:World) (h:impl_cutMajor.f k a0=some (r1,r2)) :
 Calls Tryz.prog 192 #[.string a0] w fun e w'=>e = .returned (.tuple #[.string r1,.int .i64 r2]) ∧ Below w.heap.size w w':=by
 have HB:=a_ (Below.refl w.heap.size w);have H:((strings_LastIndexByte.f k a0 47).bind fun t265=>(if t265 < 0 then (impl_cutMajor.j0 k a0 t265 true) else (if 0 ≤ (wrap64 (t265 + 1)) then (if (wrap64 (t265 + 1)) < (a0.size:Int) then (impl_cutMajor.j0 k a0 t265 ((bt a0 (wrap64 (t265 + 1))) != 118)) else (none)) else (none))))=some (r1,r2):=h;clear h;replace H:=Option.bind_eq_some_iff.mp H;obtain ⟨t265,A20,H⟩:=H
 replace H:(if t265 < 0 then (impl_cutMajor.j0 k a0 t265 true) else (if 0 ≤ (wrap64 (t265 + 1)) then (if (wrap64 (t265 + 1)) < (a0.size:Int) then (impl_cutMajor.j0 k a0 t265 ((bt a0 (wrap64 (t265 + 1))) != 118)) else (none)) else (none)))=some (r1,r2):=H;have A2:=a_ A20;clear A20;have HC3:=a_ H;clear H
 go_enter Tryz.func192,Tryz.ntmps192
 go_upto_region 2 with (((with_reducible refine gate_callee (f:=221) rfl ?_);refine goesL_ (some 8) rfl rfl Tryz.func221 (by kernel_rfl) rfl #[.string a0,.int .u8 47] rfl (by (try simp only [List.map_toArray,List.map_cons,List.map_nil]);rfl) ?_;(with_reducible refine (strings_LastIndexByte.calls k a0 47 t265 _ A2.out).mono ?_);rintro e w' ⟨rfl,⟨nd,rfl⟩⟩;refine ⟨_,rfl,?_⟩))
 (skip)
 go_cut [17] (fun v17 wc=>∃ (kq:Nat) (x17_2:Bool),v17 = .bool x17_2 ∧ Aside0 (impl_cutMajor.j0 kq a0 t265 x17_2=some (r1,r2)) ∧ Aside0 (kq ≤ k) ∧ Aside0 (Below w.heap.size w wc))
 case first=>
  have H:=HC3.out;clear HC3
  by_cases c4:t265 < 0
  ·rw [if_pos c4] at H;have c4b0:decide (t265 < 0)=true:=decide_eq_true c4;clear c4
   (skip)
   have H':=a_ H;clear H
   go_wp2
   go_meet
   case rel=>exact ⟨_,(true),(by rfl),H',⟨by omega⟩,⟨by repeat (with_reducible first | exact HB.out | apply pw_below_drewN)⟩⟩
  ·rw [if_neg c4] at H;have c4b0:decide (t265 < 0)=false:=decide_eq_false c4;clear c4
   (skip)
   obtain ⟨ji5,hji5⟩ : ∃ j_:Int,(wrap64 (t265 + 1))=j_:=⟨_,rfl⟩;replace H:(if 0 ≤ (ji5) then (if (ji5) < (a0.size:Int) then (impl_cutMajor.j0 k a0 t265 ((bt a0 (ji5)) != 118)) else (none)) else (none))=some (r1,r2):=by (rw [hji5] at H;exact H)
   have hji5w:(IntKind.i64.wrap (t265 + 1))=ji5:=(i64_w _).trans hji5
   by_cases c6:0 ≤ (ji5)
   ·rw [if_pos c6] at H;have c6b0:decide (0 ≤ (ji5))=true:=decide_eq_true c6;clear c6
    by_cases c7:(ji5) < (a0.size:Int)
    ·rw [if_pos c7] at H;have c7b0:decide ((ji5) < (a0.size:Int))=true:=decide_eq_true c7;clear c7;have H':=a_ H;clear H;have p8:0 ≤ ((ji5):Int):=of_decide_eq_true (by (with_reducible assumption));have q8:(ji5) < (a0.size:Int):=of_decide_eq_true (by (with_reducible assumption));have hx8:=bt_at a0 (ji5);replace p8:=eq_true p8;replace q8:=eq_true q8
     go_wp2
     go_meet
     case rel=>exact ⟨_,(((bt a0 (ji5)) != 118)),(by rfl),H',⟨by omega⟩,⟨by repeat (with_reducible first | exact HB.out | apply pw_below_drewN)⟩⟩
    ·rw [if_neg c7] at H;exact absurd H (by simp)
   ·rw [if_neg c6] at H;exact absurd H (by simp)
 case rest=>
  clear HC3;obtain ⟨kq,x17_2,rfl,HA,HJ2,HB⟩:=hcut
  cases kq with
  | zero=>exact absurd HA.out (by simp [impl_cutMajor.j0])
  | succ kj2=>
   have H:=HA.out;clear HA;simp only [impl_cutMajor.j0] at H
   by_cases c9:x17_2=true
   ·subst c9;have H1:(some (a0,1))=some (r1,r2):=by rw [if_pos rfl] at H;exact H
    clear H;have H:=H1;clear H1;simp only [Option.some.injEq,Prod.mk.injEq] at H;obtain ⟨rfl,rfl⟩:=H
    go_wp2
    go_ret2
    exact ⟨by rfl,by exact HB.out⟩
   ·replace c9:=Bool.eq_false_iff.mpr c9;subst c9;have H1:(if 0 ≤ (wrap64 (t265 + 2)) then (if (wrap64 (t265 + 2)) ≤ (a0.size:Int) then ((impl_numberOf.f kj2 (a0.extract ((wrap64 (t265 + 2)):Int).toNat a0.size) 4).bind fun bt266=>(if bt266.2=true then ((impl_inRange.f bt266.1 2 1000).bind fun t268=>(if t268=true then (if 0 ≤ t265 then (if t265 ≤ (a0.size:Int) then (some (a0.extract 0 (t265:Int).toNat,bt266.1)) else (none)) else (none)) else (some (a0,1)))) else (some (a0,1)))) else (none)) else (none))=some (r1,r2):=by rw [if_neg (show ¬ (false=true) by decide)] at H;exact H
    clear H;have H:=H1;clear H1;obtain ⟨ji10,hji10⟩ : ∃ j_:Int,(wrap64 (t265 + 2))=j_:=⟨_,rfl⟩;replace H:(if 0 ≤ (ji10) then (if (ji10) ≤ (a0.size:Int) then ((impl_numberOf.f kj2 (a0.extract ((ji10):Int).toNat a0.size) 4).bind fun bt266=>(if bt266.2=true then ((impl_inRange.f bt266.1 2 1000).bind fun t268=>(if t268=true then (if 0 ≤ t265 then (if t265 ≤ (a0.size:Int) then (some (a0.extract 0 (t265:Int).toNat,bt266.1)) else (none)) else (none)) else (some (a0,1)))) else (some (a0,1)))) else (none)) else (none))=some (r1,r2):=by (rw [hji10] at H;exact H)
    have hji10w:(IntKind.i64.wrap (t265 + 2))=ji10:=(i64_w _).trans hji10
    by_cases c11:0 ≤ (ji10)
    ·rw [if_pos c11] at H;have c11b0:=eq_true c11;have c11b1:decide (0 ≤ (ji10))=true:=decide_eq_true c11;clear c11
     by_cases c12:(ji10) ≤ (a0.size:Int)
     ·rw [if_pos c12] at H;have c12b0:=eq_true c12;have c12b1:decide ((ji10) ≤ (a0.size:Int))=true:=decide_eq_true c12;clear c12;replace H:=Option.bind_eq_some_iff.mp H;obtain ⟨⟨t266,t267⟩,A130,H⟩:=H;replace H:(if t267=true then ((impl_inRange.f t266 2 1000).bind fun t268=>(if t268=true then (if 0 ≤ t265 then (if t265 ≤ (a0.size:Int) then (some (a0.extract 0 (t265:Int).toNat,t266)) else (none)) else (none)) else (some (a0,1)))) else (some (a0,1)))=some (r1,r2):=H
      have A13:=a_ A130;clear A130
      by_cases c14:t267=true
      ·subst c14;have H1:((impl_inRange.f t266 2 1000).bind fun t268=>(if t268=true then (if 0 ≤ t265 then (if t265 ≤ (a0.size:Int) then (some (a0.extract 0 (t265:Int).toNat,t266)) else (none)) else (none)) else (some (a0,1))))=some (r1,r2):=by rw [if_pos rfl] at H;exact H
       clear H;have H:=H1;clear H1;replace H:=Option.bind_eq_some_iff.mp H;obtain ⟨t268,A150,H⟩:=H;replace H:(if t268=true then (if 0 ≤ t265 then (if t265 ≤ (a0.size:Int) then (some (a0.extract 0 (t265:Int).toNat,t266)) else (none)) else (none)) else (some (a0,1)))=some (r1,r2):=H;have A15:=a_ A150;clear A150
       by_cases c16:t268=true
       ·subst c16;have H1:(if 0 ≤ t265 then (if t265 ≤ (a0.size:Int) then (some (a0.extract 0 (t265:Int).toNat,t266)) else (none)) else (none))=some (r1,r2):=by rw [if_pos rfl] at H;exact H
        clear H;have H:=H1;clear H1
        by_cases c17:0 ≤ t265
        ·rw [if_pos c17] at H;have c17b0:=eq_true c17;have c17b1:decide (0 ≤ t265)=true:=decide_eq_true c17;clear c17
         by_cases c18:t265 ≤ (a0.size:Int)
         ·rw [if_pos c18] at H;have c18b0:=eq_true c18;have c18b1:decide (t265 ≤ (a0.size:Int))=true:=decide_eq_true c18;clear c18;simp only [Option.some.injEq,Prod.mk.injEq] at H;obtain ⟨rfl,rfl⟩:=H
          go_wp2_with (first | ((with_reducible refine gate_callee (f:=105) rfl ?_);refine goesL_ (some 24) rfl rfl Tryz.func105 (by kernel_rfl) rfl #[.string (a0.extract ((ji10):Int).toNat a0.size),.int .i64 4] rfl (by (try simp only [List.map_toArray,List.map_cons,List.map_nil]);rfl) ?_;(with_reducible refine (impl_numberOf.calls kj2 (a0.extract ((ji10):Int).toNat a0.size) 4 t266 true _ A13.out).mono ?_);rintro e w19 ⟨rfl,hb⟩;refine ⟨_,rfl,?_⟩;have n0_:=a_ (below_step HB.out hb);clear HB;have HB:=n0_;clear n0_;(try clear hb)) | (go_at_call 124;(with_reducible refine (impl_inRange.calls t266 2 1000 true _ A15.out).mono ?_);rintro e w' ⟨rfl,⟨nd,rfl⟩⟩))
          go_ret2
          exact ⟨by rfl,by repeat (with_reducible first | exact HB.out | apply pw_below_drewN)⟩
         ·rw [if_neg c18] at H;exact absurd H (by simp)
        ·rw [if_neg c17] at H;exact absurd H (by simp)
       ·replace c16:=Bool.eq_false_iff.mpr c16;subst c16;have H1:(some (a0,1))=some (r1,r2):=by rw [if_neg (show ¬ (false=true) by decide)] at H;exact H
        clear H;have H:=H1;clear H1;simp only [Option.some.injEq,Prod.mk.injEq] at H;obtain ⟨rfl,rfl⟩:=H
        go_wp2_with (first | ((with_reducible refine gate_callee (f:=105) rfl ?_);refine goesL_ (some 24) rfl rfl Tryz.func105 (by kernel_rfl) rfl #[.string (a0.extract ((ji10):Int).toNat a0.size),.int .i64 4] rfl (by (try simp only [List.map_toArray,List.map_cons,List.map_nil]);rfl) ?_;(with_reducible refine (impl_numberOf.calls kj2 (a0.extract ((ji10):Int).toNat a0.size) 4 t266 true _ A13.out).mono ?_);rintro e w20 ⟨rfl,hb⟩;refine ⟨_,rfl,?_⟩;have n0_:=a_ (below_step HB.out hb);clear HB;have HB:=n0_;clear n0_;(try clear hb)) | (go_at_call 124;(with_reducible refine (impl_inRange.calls t266 2 1000 false _ A15.out).mono ?_);rintro e w' ⟨rfl,⟨nd,rfl⟩⟩))
        go_ret2
        exact ⟨by rfl,by repeat (with_reducible first | exact HB.out | apply pw_below_drewN)⟩
      ·replace c14:=Bool.eq_false_iff.mpr c14;subst c14;have H1:(some (a0,1))=some (r1,r2):=by rw [if_neg (show ¬ (false=true) by decide)] at H;exact H
       clear H;have H:=H1;clear H1;simp only [Option.some.injEq,Prod.mk.injEq] at H;obtain ⟨rfl,rfl⟩:=H
       go_wp2_with (((with_reducible refine gate_callee (f:=105) rfl ?_);refine goesL_ (some 24) rfl rfl Tryz.func105 (by kernel_rfl) rfl #[.string (a0.extract ((ji10):Int).toNat a0.size),.int .i64 4] rfl (by (try simp only [List.map_toArray,List.map_cons,List.map_nil]);rfl) ?_;(with_reducible refine (impl_numberOf.calls kj2 (a0.extract ((ji10):Int).toNat a0.size) 4 t266 false _ A13.out).mono ?_);rintro e w21 ⟨rfl,hb⟩;refine ⟨_,rfl,?_⟩;have n0_:=a_ (below_step HB.out hb);clear HB;have HB:=n0_;clear n0_;(try clear hb)))
       go_ret2
       exact ⟨by rfl,by exact HB.out⟩
     ·rw [if_neg c12] at H;exact absurd H (by simp)
    ·rw [if_neg c11] at H;exact absurd H (by simp)
def impl_MajorOf.f (k:Nat) (a0:ByteArray):Option (Int):=(impl_PathOk.f k a0).bind fun t269=>(if t269=true then ((impl_cutMajor.f k a0).bind fun bt270=>(some bt270.2)) else (some 0))
theorem impl_MajorOf.mono : ∀ a0 k,LeO (impl_MajorOf.f k a0) (impl_MajorOf.f (k + 1) a0):=by
 intro a0 k;unfold impl_MajorOf.f
 repeat' first
  | (with_reducible exact impl_PathOk.mono _ _)
  | (with_reducible exact impl_cutMajor.mono _ _)
  | (with_reducible exact LeO.refl _)
  | (with_reducible refine LeO.ite ?_ ?_)
  | (with_reducible refine LeO.bind ?_ (fun _=>?_))
set_option maxHeartbeats 8000000 in
set_option maxRecDepth 100000 in
theorem impl_MajorOf.calls (k:Nat) (a0:ByteArray) (r:Int) (w:World) (h:impl_MajorOf.f k a0=some r) :
 Calls Tryz.prog 163 #[.string a0] w fun e w'=>e = .returned (.int .i64 r) ∧ Below w.heap.size w w':=by
 have HB:=a_ (Below.refl w.heap.size w);have H:((impl_PathOk.f k a0).bind fun t269=>(if t269=true then ((impl_cutMajor.f k a0).bind fun bt270=>(some bt270.2)) else (some 0)))=some r:=h;clear h;replace H:=Option.bind_eq_some_iff.mp H;obtain ⟨t269,A20,H⟩:=H;replace H:(if t269=true then ((impl_cutMajor.f k a0).bind fun bt270=>(some bt270.2)) else (some 0))=some r:=H;have A2:=a_ A20;clear A20
 by_cases c3:t269=true
 ·subst c3;have H1:((impl_cutMajor.f k a0).bind fun bt270=>(some bt270.2))=some r:=by rw [if_pos rfl] at H;exact H
  clear H;have H:=H1;clear H1;replace H:=Option.bind_eq_some_iff.mp H;obtain ⟨⟨t270,t271⟩,A40,H⟩:=H;replace H:(some t271)=some r:=H;have A4:=a_ A40;clear A40;obtain rfl:=Option.some.inj H
  go_enter Tryz.func163,Tryz.ntmps163
  go_wp2_with (first | ((with_reducible refine gate_callee (f:=191) rfl ?_);refine goesL_ (some 6) rfl rfl Tryz.func191 (by kernel_rfl) rfl #[.string a0] rfl (by (try simp only [List.map_toArray,List.map_cons,List.map_nil]);rfl) ?_;(with_reducible refine (impl_PathOk.calls k a0 true _ A2.out).mono ?_);rintro e w5 ⟨rfl,hb⟩;refine ⟨_,rfl,?_⟩;have n0_:=a_ (below_step HB.out hb);clear HB;have HB:=n0_;clear n0_;(try clear hb)) | ((with_reducible refine gate_callee (f:=192) rfl ?_);refine goesL_ (some 10) rfl rfl Tryz.func192 (by kernel_rfl) rfl #[.string a0] rfl (by (try simp only [List.map_toArray,List.map_cons,List.map_nil]);rfl) ?_;(with_reducible refine (impl_cutMajor.calls k a0 t270 t271 _ A4.out).mono ?_);rintro e w6 ⟨rfl,hb⟩;refine ⟨_,rfl,?_⟩;have n0_:=a_ (below_step HB.out hb);clear HB;have HB:=n0_;clear n0_;(try clear hb)))
  go_ret
  exact ⟨by rfl,by exact HB.out⟩
 ·replace c3:=Bool.eq_false_iff.mpr c3;subst c3;have H1:(some 0)=some r:=by rw [if_neg (show ¬ (false=true) by decide)] at H;exact H
  clear H;have H:=H1;clear H1;obtain rfl:=Option.some.inj H
  go_enter Tryz.func163,Tryz.ntmps163
  go_wp2_with (((with_reducible refine gate_callee (f:=191) rfl ?_);refine goesL_ (some 6) rfl rfl Tryz.func191 (by kernel_rfl) rfl #[.string a0] rfl (by (try simp only [List.map_toArray,List.map_cons,List.map_nil]);rfl) ?_;(with_reducible refine (impl_PathOk.calls k a0 false _ A2.out).mono ?_);rintro e w7 ⟨rfl,hb⟩;refine ⟨_,rfl,?_⟩;have n0_:=a_ (below_step HB.out hb);clear HB;have HB:=n0_;clear n0_;(try clear hb)))
  go_ret
  exact ⟨by rfl,by exact HB.out⟩
end Go.Proofs.YtfpdikledfhcaaaGreatDoor.PFnExactClientOk
