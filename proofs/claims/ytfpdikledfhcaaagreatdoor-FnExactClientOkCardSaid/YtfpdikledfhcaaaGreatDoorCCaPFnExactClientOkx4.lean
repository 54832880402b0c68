import Derived.Test.YtfpdikledfhcaaaGreatDoorCCaPFnExactClientOkx0
import Derived.Test.YtfpdikledfhcaaaGreatDoorCCaPFnExactClientOkx2
import Derived.Test.YtfpdikledfhcaaaGreatDoorCCaPFnExactClientOkx3
namespace Go.Proofs.YtfpdikledfhcaaaGreatDoor.PFnExactClientOk
open Go.RowKit Go.Proofs.YtfpdikledfhcaaaGreatDoorW.PrintWords Go.Proofs.YtfpdikledfhcaaaGreatDoorW.PrintLast Go.Proofs.YtfpdikledfhcaaaGreatDoorW.PrintMore
attribute [local go_sem] max2_int min2_int max_two min_two max_three min_three max_four min_four
set_option linter.unusedVariables false
set_option linter.unusedSimpArgs false
def spec_l4Major.j0:Nat → ByteArray → Bool → Option (Int)
 | 0,_,_=>none
 | k + 1,x4,x25=>if x25=true then (some 0) else (if 1 ≤ (x4.size:Int) then ((spec_l3Number.f k (x4.extract 1 x4.size)).bind fun t141=>((spec_l1In.f t141 2 1000).bind fun t142=>(if t142=true then (some t141) else (some 0)))) else (none))
def spec_l4Major.f (k:Nat) (a0:ByteArray):Option (Int):=(spec_l3Split.f k a0 47).bind fun t137=>(if 0 ≤ (wrap64 ((t137.length:Int) - 1)) then (if (wrap64 ((t137.length:Int) - 1)) < (t137.length:Int) then (if (t137.length:Int) < 2 then (spec_l4Major.j0 k (rdOf ByteArray.empty t137 (wrap64 ((t137.length:Int) - 1))) true) else (if (rdOf ByteArray.empty t137 (wrap64 ((t137.length:Int) - 1))).toList=([]:List UInt8) then (spec_l4Major.j0 k (rdOf ByteArray.empty t137 (wrap64 ((t137.length:Int) - 1))) true) else (if 0 < ((rdOf ByteArray.empty t137 (wrap64 ((t137.length:Int) - 1))).size:Int) then (spec_l4Major.j0 k (rdOf ByteArray.empty t137 (wrap64 ((t137.length:Int) - 1))) ((bt (rdOf ByteArray.empty t137 (wrap64 ((t137.length:Int) - 1))) 0) != 118)) else (none)))) else (none)) else (none))
theorem spec_l4Major.mono_l : ∀ k,(∀ y0 y1,LeO (spec_l4Major.j0 k y0 y1) (spec_l4Major.j0 (k + 1) y0 y1))
 | 0=>fun _ _ r h=>by simp [spec_l4Major.j0] at h
 | k + 1=>by
  have ih0:=spec_l4Major.mono_l k
  ·intro y0 y1;unfold spec_l4Major.j0
   repeat' first
   | (with_reducible exact spec_l3Number.mono _ _)
   | (with_reducible exact LeO.refl _)
   | (with_reducible refine LeO.ite ?_ ?_)
   | (with_reducible refine LeO.bind ?_ (fun _=>?_))
theorem spec_l4Major.mono : ∀ a0 k,LeO (spec_l4Major.f k a0) (spec_l4Major.f (k + 1) a0):=by
 intro a0 k;have ih0:=spec_l4Major.mono_l k;unfold spec_l4Major.f
 repeat' first
  | (with_reducible exact ih0 _ _)
  | (with_reducible exact spec_l3Split.mono _ _ _)
  | (with_reducible exact LeO.refl _)
  | (with_reducible refine LeO.ite ?_ ?_)
  | (with_reducible refine LeO.bind ?_ (fun _=>?_))
set_option maxHeartbeats 8000000 in
set_option maxRecDepth 100000 in
theorem spec_l4Major.calls (k:Nat) (a0:ByteArray) (r:Int) (w:World) (h:spec_l4Major.f k a0=some r) :
 Calls Tryz.prog 166 #[.string a0] w fun e w'=>e = .returned (.int .i64 r) ∧ Below w.heap.size w w':=by
 have HB:=a_ (Below.refl w.heap.size w);have H:((spec_l3Split.f k a0 47).bind fun t137=>(if 0 ≤ (wrap64 ((t137.length:Int) - 1)) then (if (wrap64 ((t137.length:Int) - 1)) < (t137.length:Int) then (if (t137.length:Int) < 2 then (spec_l4Major.j0 k (rdOf ByteArray.empty t137 (wrap64 ((t137.length:Int) - 1))) true) else (if (rdOf ByteArray.empty t137 (wrap64 ((t137.length:Int) - 1))).toList=([]:List UInt8) then (spec_l4Major.j0 k (rdOf ByteArray.empty t137 (wrap64 ((t137.length:Int) - 1))) true) else (if 0 < ((rdOf ByteArray.empty t137 (wrap64 ((t137.length:Int) - 1))).size:Int) then (spec_l4Major.j0 k (rdOf ByteArray.empty t137 (wrap64 ((t137.length:Int) - 1))) ((bt (rdOf ByteArray.empty t137 (wrap64 ((t137.length:Int) - 1))) 0) != 118)) else (none)))) else (none)) else (none)))=some r:=h
 clear h;replace H:=Option.bind_eq_some_iff.mp H;obtain ⟨t137,A20,H⟩:=H;replace H:(if 0 ≤ (wrap64 ((t137.length:Int) - 1)) then (if (wrap64 ((t137.length:Int) - 1)) < (t137.length:Int) then (if (t137.length:Int) < 2 then (spec_l4Major.j0 k (rdOf ByteArray.empty t137 (wrap64 ((t137.length:Int) - 1))) true) else (if (rdOf ByteArray.empty t137 (wrap64 ((t137.length:Int) - 1))).toList=([]:List UInt8) then (spec_l4Major.j0 k (rdOf ByteArray.empty t137 (wrap64 ((t137.length:Int) - 1))) true) else (if 0 < ((rdOf ByteArray.empty t137 (wrap64 ((t137.length:Int) - 1))).size:Int) then (spec_l4Major.j0 k (rdOf ByteArray.empty t137 (wrap64 ((t137.length:Int) - 1))) ((bt (rdOf ByteArray.empty t137 (wrap64 ((t137.length:Int) - 1))) 0) != 118)) else (none)))) else (none)) else (none))=some r:=H
 have A2:=a_ A20;clear A20;obtain ⟨ji3,hji3⟩ : ∃ j_:Int,(wrap64 ((t137.length:Int) - 1))=j_:=⟨_,rfl⟩;replace H:(if 0 ≤ (ji3) then (if (ji3) < (t137.length:Int) then (if (t137.length:Int) < 2 then (spec_l4Major.j0 k (rdOf ByteArray.empty t137 (ji3)) true) else (if (rdOf ByteArray.empty t137 (ji3)).toList=([]:List UInt8) then (spec_l4Major.j0 k (rdOf ByteArray.empty t137 (ji3)) true) else (if 0 < ((rdOf ByteArray.empty t137 (ji3)).size:Int) then (spec_l4Major.j0 k (rdOf ByteArray.empty t137 (ji3)) ((bt (rdOf ByteArray.empty t137 (ji3)) 0) != 118)) else (none)))) else (none)) else (none))=some r:=by (rw [hji3] at H;exact H)
 (skip)
 have hji3w:(IntKind.i64.wrap ((t137.length:Int) - 1))=ji3:=(i64_w _).trans hji3
 by_cases c4:0 ≤ (ji3)
 ·rw [if_pos c4] at H;have c4b0:decide (0 ≤ (ji3))=true:=decide_eq_true c4;clear c4
  by_cases c5:(ji3) < (t137.length:Int)
  ·rw [if_pos c5] at H;have c5b0:decide ((ji3) < (t137.length:Int))=true:=decide_eq_true c5;clear c5;have HC6:=a_ H;clear H
   go_enter Tryz.func166,Tryz.ntmps166
   go_upto_region 3 with (((with_reducible refine gate_callee (f:=99) rfl ?_);refine goesL_ (some 7) rfl rfl Tryz.func99 (by kernel_rfl) rfl #[.string a0,.int .u8 47] rfl (by (try simp only [List.map_toArray,List.map_cons,List.map_nil]);rfl) ?_;(with_reducible refine (spec_l3Split.calls k a0 47 t137 _ A2.out).mono ?_);rintro e w7 ⟨v138,rfl,ho0,hb⟩;refine ⟨_,rfl,?_⟩;have n0_:=a_ (Kd.R_lower ho0 (below_size HB.out));have n1_:=a_ (below_step HB.out hb);clear HB;have HO139:=n0_;have HB:=n1_;clear n0_ n1_;(try clear hb);(try clear ho0);obtain ⟨Ao8,co8,eo8⟩:=Kd.R_slice HO139.out;subst eo8;have p140:0 ≤ ((ji3):Int):=of_decide_eq_true (by (with_reducible assumption));have q140:(ji3) < (t137.length:Int):=of_decide_eq_true (by (with_reducible assumption));obtain ⟨ad140,e140,hx140_0⟩:=Kd.at_string (Kd.R_reads' HO139.out).2.2 (ji3) p140 q140;cases e140;replace p140:=eq_true p140;replace q140:=eq_true q140))
   (skip)
   go_cut [25] (fun v25 wc=>∃ (kq:Nat) (x25_5:Bool),v25 = .bool x25_5 ∧ Aside0 (spec_l4Major.j0 kq (rdOf ByteArray.empty t137 (ji3)) x25_5=some r) ∧ Aside0 (kq ≤ k) ∧ Aside0 (Below w.heap.size w wc))
   case first=>
    have H:=HC6.out;clear HC6
    by_cases c9:(t137.length:Int) < 2
    ·rw [if_pos c9] at H;have c9b0:decide ((t137.length:Int) < 2)=true:=decide_eq_true c9;have c9b1:decide (t137.length < 2)=true:=decide_eq_true (by omega);clear c9
     (skip)
     have H':=a_ H;clear H
     go_wp2
     go_meet
     case rel=>exact ⟨_,(true),(by rfl),H',⟨by omega⟩,⟨by exact HB.out⟩⟩
    ·rw [if_neg c9] at H;have c9b0:decide ((t137.length:Int) < 2)=false:=decide_eq_false c9;have c9b1:decide (t137.length < 2)=false:=decide_eq_false (by omega);clear c9
     (skip)
     by_cases c10:(rdOf ByteArray.empty t137 (ji3)).toList=([]:List UInt8)
     ·rw [if_pos c10] at H;have c10b0:((rdOf ByteArray.empty t137 (ji3)).toList == ([]:List UInt8))=true:=beq_iff_eq.mpr c10;have c10b1:((rdOf ByteArray.empty t137 (ji3)).toList != ([]:List UInt8))=false:=bne_eq_false_iff_eq.mpr c10;clear c10;have H':=a_ H;clear H
      go_wp2
      go_meet
      case rel=>exact ⟨_,(true),(by rfl),H',⟨by omega⟩,⟨by exact HB.out⟩⟩
     ·rw [if_neg c10] at H;have c10b0:((rdOf ByteArray.empty t137 (ji3)).toList == ([]:List UInt8))=false:=beq_eq_false_iff_ne.mpr c10;have c10b1:((rdOf ByteArray.empty t137 (ji3)).toList != ([]:List UInt8))=true:=bne_iff_ne.mpr c10
      by_cases c11:0 < ((rdOf ByteArray.empty t137 (ji3)).size:Int)
      ·rw [if_pos c11] at H;have c11b0:decide (0 < ((rdOf ByteArray.empty t137 (ji3)).size:Int))=true:=decide_eq_true c11;have c11b1:decide (0 < (rdOf ByteArray.empty t137 (ji3)).size)=true:=decide_eq_true (by omega);clear c11;have H':=a_ H;clear H;have p12:0 ≤ (0:Int):=(by omega);have q12:0 < (rdOf ByteArray.empty t137 (ji3)).size:=(by have:(0:Int) < ((rdOf ByteArray.empty t137 (ji3)).size:Int):=of_decide_eq_true (by (with_reducible assumption));omega)
       have hx12 : ∀ h:0 < (rdOf ByteArray.empty t137 (ji3)).size,(((rdOf ByteArray.empty t137 (ji3))[0]'h).toNat:Int)=bt (rdOf ByteArray.empty t137 (ji3)) 0:=bt_at (rdOf ByteArray.empty t137 (ji3)) 0;clear p12;have qi12:(0 < ((rdOf ByteArray.empty t137 (ji3)).size:Int))=True:=eq_true (of_decide_eq_true (by (with_reducible assumption)));replace q12:=eq_true q12
       go_wp2
       go_meet
       case rel=>exact ⟨_,(((bt (rdOf ByteArray.empty t137 (ji3)) 0) != 118)),(by rfl),H',⟨by omega⟩,⟨by exact HB.out⟩⟩
      ·rw [if_neg c11] at H;exact absurd H (by simp)
   case rest=>
    clear HC6
    try clear c4b0
    try clear c5b0
    try clear hx140_0
    try clear p140
    try clear q140
    obtain ⟨kq,x25_5,rfl,HA,HJ5,HB⟩:=hcut
    cases kq with
    | zero=>exact absurd HA.out (by simp [spec_l4Major.j0])
    | succ kj5=>
     have H:=HA.out;clear HA;simp only [spec_l4Major.j0] at H
     by_cases c13:x25_5=true
     ·subst c13;have H1:(some 0)=some r:=by rw [if_pos rfl] at H;exact H
      clear H;have H:=H1;clear H1;obtain rfl:=Option.some.inj H
      go_wp2
      go_ret
      exact ⟨by rfl,by exact HB.out⟩
     ·replace c13:=Bool.eq_false_iff.mpr c13;subst c13;have H1:(if 1 ≤ ((rdOf ByteArray.empty t137 (ji3)).size:Int) then ((spec_l3Number.f kj5 ((rdOf ByteArray.empty t137 (ji3)).extract 1 (rdOf ByteArray.empty t137 (ji3)).size)).bind fun t141=>((spec_l1In.f t141 2 1000).bind fun t142=>(if t142=true then (some t141) else (some 0)))) else (none))=some r:=by rw [if_neg (show ¬ (false=true) by decide)] at H;exact H
      clear H;have H:=H1;clear H1
      by_cases c14:1 ≤ ((rdOf ByteArray.empty t137 (ji3)).size:Int)
      ·rw [if_pos c14] at H;have c14b0:=eq_true c14;have c14b1:decide (1 ≤ ((rdOf ByteArray.empty t137 (ji3)).size:Int))=true:=decide_eq_true c14;clear c14;replace H:=Option.bind_eq_some_iff.mp H;obtain ⟨t141,A150,H⟩:=H;replace H:((spec_l1In.f t141 2 1000).bind fun t142=>(if t142=true then (some t141) else (some 0)))=some r:=H;have A15:=a_ A150;clear A150;replace H:=Option.bind_eq_some_iff.mp H;obtain ⟨t142,A160,H⟩:=H
       replace H:(if t142=true then (some t141) else (some 0))=some r:=H;have A16:=a_ A160;clear A160
       by_cases c17:t142=true
       ·subst c17;have H1:(some t141)=some r:=by rw [if_pos rfl] at H;exact H
        clear H;have H:=H1;clear H1;obtain rfl:=Option.some.inj H
        go_wp2_with (first | ((with_reducible refine gate_callee (f:=101) rfl ?_);refine goesL_ (some 28) rfl rfl Tryz.func101 (by kernel_rfl) rfl #[.string ((rdOf ByteArray.empty t137 (ji3)).extract 1 (rdOf ByteArray.empty t137 (ji3)).size)] rfl (by (try simp only [List.map_toArray,List.map_cons,List.map_nil]);rfl) ?_;(with_reducible refine (spec_l3Number.calls kj5 ((rdOf ByteArray.empty t137 (ji3)).extract 1 (rdOf ByteArray.empty t137 (ji3)).size) t141 _ A15.out).mono ?_);rintro e w' ⟨rfl,⟨nd,rfl⟩⟩;refine ⟨_,rfl,?_⟩) | ((with_reducible refine gate_callee (f:=119) rfl ?_);refine goesL_ (some 30) rfl rfl Tryz.func119 (by kernel_rfl) rfl #[.int .i64 t141,.int .i64 2,.int .i64 1000] rfl (by (try simp only [List.map_toArray,List.map_cons,List.map_nil]);rfl) ?_;(with_reducible refine (spec_l1In.calls t141 2 1000 true _ A16.out).mono ?_);rintro e w' ⟨rfl,⟨nd,rfl⟩⟩;refine ⟨_,rfl,?_⟩))
        go_ret
        exact ⟨by rfl,by repeat (with_reducible first | exact HB.out | apply pw_below_drewN)⟩
       ·replace c17:=Bool.eq_false_iff.mpr c17;subst c17;have H1:(some 0)=some r:=by rw [if_neg (show ¬ (false=true) by decide)] at H;exact H
        clear H;have H:=H1;clear H1;obtain rfl:=Option.some.inj H
        go_wp2_with (first | ((with_reducible refine gate_callee (f:=101) rfl ?_);refine goesL_ (some 28) rfl rfl Tryz.func101 (by kernel_rfl) rfl #[.string ((rdOf ByteArray.empty t137 (ji3)).extract 1 (rdOf ByteArray.empty t137 (ji3)).size)] rfl (by (try simp only [List.map_toArray,List.map_cons,List.map_nil]);rfl) ?_;(with_reducible refine (spec_l3Number.calls kj5 ((rdOf ByteArray.empty t137 (ji3)).extract 1 (rdOf ByteArray.empty t137 (ji3)).size) t141 _ A15.out).mono ?_);rintro e w' ⟨rfl,⟨nd,rfl⟩⟩;refine ⟨_,rfl,?_⟩) | ((with_reducible refine gate_callee (f:=119) rfl ?_);refine goesL_ (some 30) rfl rfl Tryz.func119 (by kernel_rfl) rfl #[.int .i64 t141,.int .i64 2,.int .i64 1000] rfl (by (try simp only [List.map_toArray,List.map_cons,List.map_nil]);rfl) ?_;(with_reducible refine (spec_l1In.calls t141 2 1000 false _ A16.out).mono ?_);rintro e w' ⟨rfl,⟨nd,rfl⟩⟩;refine ⟨_,rfl,?_⟩))
        go_ret
        exact ⟨by rfl,by repeat (with_reducible first | exact HB.out | apply pw_below_drewN)⟩
      ·rw [if_neg c14] at H;exact absurd H (by simp)
  ·rw [if_neg c5] at H;exact absurd H (by simp)
 ·rw [if_neg c4] at H;exact absurd H (by simp)
def spec_MajorOf.f (k:Nat) (a0:ByteArray):Option (Int):=(spec_PathOk.f k a0).bind fun t143=>(if t143=true then ((spec_l4Major.f k a0).bind fun t144=>(if t144=0 then (some 1) else (some t144))) else (some 0))
theorem spec_MajorOf.mono : ∀ a0 k,LeO (spec_MajorOf.f k a0) (spec_MajorOf.f (k + 1) a0):=by
 intro a0 k;unfold spec_MajorOf.f
 repeat' first
  | (with_reducible exact spec_PathOk.mono _ _)
  | (with_reducible exact spec_l4Major.mono _ _)
  | (with_reducible exact LeO.refl _)
  | (with_reducible refine LeO.ite ?_ ?_)
  | (with_reducible refine LeO.bind ?_ (fun _=>?_))
set_option maxHeartbeats 8000000 in
set_option maxRecDepth 100000 in
theorem spec_MajorOf.calls (k:Nat) (a0:ByteArray) (r:Int) (w:World) (h:spec_MajorOf.f k a0=some r) :
 Calls Tryz.prog 136 #[.string a0] w fun e w'=>e = .returned (.int .i64 r) ∧ Below w.heap.size w w':=by
 have HB:=a_ (Below.refl w.heap.size w);have H:((spec_PathOk.f k a0).bind fun t143=>(if t143=true then ((spec_l4Major.f k a0).bind fun t144=>(if t144=0 then (some 1) else (some t144))) else (some 0)))=some r:=h;clear h;replace H:=Option.bind_eq_some_iff.mp H;obtain ⟨t143,A20,H⟩:=H;replace H:(if t143=true then ((spec_l4Major.f k a0).bind fun t144=>(if t144=0 then (some 1) else (some t144))) else (some 0))=some r:=H
 have A2:=a_ A20;clear A20
 by_cases c3:t143=true
 ·subst c3;have H1:((spec_l4Major.f k a0).bind fun t144=>(if t144=0 then (some 1) else (some t144)))=some r:=by rw [if_pos rfl] at H;exact H
  clear H;have H:=H1;clear H1;replace H:=Option.bind_eq_some_iff.mp H;obtain ⟨t144,A40,H⟩:=H;replace H:(if t144=0 then (some 1) else (some t144))=some r:=H;have A4:=a_ A40;clear A40
  by_cases c5:t144=0
  ·rw [if_pos c5] at H;have c5b0:(t144 == 0)=true:=beq_iff_eq.mpr c5;have c5b1:(t144 != 0)=false:=bne_eq_false_iff_eq.mpr c5;clear c5;obtain rfl:=Option.some.inj H
   go_enter Tryz.func136,Tryz.ntmps136
   go_wp2_with (first | ((with_reducible refine gate_callee (f:=165) rfl ?_);refine goesL_ (some 5) rfl rfl Tryz.func165 (by kernel_rfl) rfl #[.string a0] rfl (by (try simp only [List.map_toArray,List.map_cons,List.map_nil]);rfl) ?_;(with_reducible refine (spec_PathOk.calls k a0 true _ A2.out).mono ?_);rintro e w6 ⟨rfl,hb⟩;refine ⟨_,rfl,?_⟩;have n0_:=a_ (below_step HB.out hb);clear HB;have HB:=n0_;clear n0_;(try clear hb)) | ((with_reducible refine gate_callee (f:=166) rfl ?_);refine goesL_ (some 8) rfl rfl Tryz.func166 (by kernel_rfl) rfl #[.string a0] rfl (by (try simp only [List.map_toArray,List.map_cons,List.map_nil]);rfl) ?_;(with_reducible refine (spec_l4Major.calls k a0 t144 _ A4.out).mono ?_);rintro e w7 ⟨rfl,hb⟩;refine ⟨_,rfl,?_⟩;have n0_:=a_ (below_step HB.out hb);clear HB;have HB:=n0_;clear n0_;(try clear hb)))
   go_ret
   exact ⟨by rfl,by exact HB.out⟩
  ·rw [if_neg c5] at H;have c5b0:(t144 == 0)=false:=beq_eq_false_iff_ne.mpr c5;have c5b1:(t144 != 0)=true:=bne_iff_ne.mpr c5;obtain rfl:=Option.some.inj H
   go_enter Tryz.func136,Tryz.ntmps136
   go_wp2_with (first | ((with_reducible refine gate_callee (f:=165) rfl ?_);refine goesL_ (some 5) rfl rfl Tryz.func165 (by kernel_rfl) rfl #[.string a0] rfl (by (try simp only [List.map_toArray,List.map_cons,List.map_nil]);rfl) ?_;(with_reducible refine (spec_PathOk.calls k a0 true _ A2.out).mono ?_);rintro e w8 ⟨rfl,hb⟩;refine ⟨_,rfl,?_⟩;have n0_:=a_ (below_step HB.out hb);clear HB;have HB:=n0_;clear n0_;(try clear hb)) | ((with_reducible refine gate_callee (f:=166) rfl ?_);refine goesL_ (some 8) rfl rfl Tryz.func166 (by kernel_rfl) rfl #[.string a0] rfl (by (try simp only [List.map_toArray,List.map_cons,List.map_nil]);rfl) ?_;(with_reducible refine (spec_l4Major.calls k a0 t144 _ A4.out).mono ?_);rintro e w9 ⟨rfl,hb⟩;refine ⟨_,rfl,?_⟩;have n0_:=a_ (below_step HB.out hb);clear HB;have HB:=n0_;clear n0_;(try clear hb)))
   go_ret
   exact ⟨by rfl,by exact HB.out⟩
 ·replace c3:=Bool.eq_false_iff.mpr c3;subst c3;have H1:(some 0)=some r:=by rw [if_neg (show ¬ (false=true) by decide)] at H;exact H
  clear H;have H:=H1;clear H1;obtain rfl:=Option.some.inj H
  go_enter Tryz.func136,Tryz.ntmps136
  go_wp2_with (((with_reducible refine gate_callee (f:=165) rfl ?_);refine goesL_ (some 5) rfl rfl Tryz.func165 (by kernel_rfl) rfl #[.string a0] rfl (by (try simp only [List.map_toArray,List.map_cons,List.map_nil]);rfl) ?_;(with_reducible refine (spec_PathOk.calls k a0 false _ A2.out).mono ?_);rintro e w10 ⟨rfl,hb⟩;refine ⟨_,rfl,?_⟩;have n0_:=a_ (below_step HB.out hb);clear HB;have HB:=n0_;clear n0_;(try clear hb)))
  go_ret
  exact ⟨by rfl,by exact HB.out⟩
def spec_l3Part.l0:Nat → ByteArray → Int → Option (Bool)
 | 0,_,_=>none
 | k + 1,x0,x3=>if x3 < (x0.size:Int) then (if 0 ≤ x3 then ((spec_l1In.f (wrap64 (bt x0 x3)) 97 122).bind fun t148=>(if t148=true then (spec_l3Part.l0 k x0 (wrap64 (x3 + 1))) else ((spec_l1In.f (wrap64 (bt x0 x3)) 65 90).bind fun t149=>(if t149=true then (spec_l3Part.l0 k x0 (wrap64 (x3 + 1))) else ((spec_l1In.f (wrap64 (bt x0 x3)) 48 57).bind fun t150=>(if t150=true then (spec_l3Part.l0 k x0 (wrap64 (x3 + 1))) else (if (wrap64 (bt x0 x3))=45 then (spec_l3Part.l0 k x0 (wrap64 (x3 + 1))) else (some false)))))))) else (none)) else ((spec_l1In.f (x0.size:Int) 1 8).bind fun t145=>(if t145=true then ((spec_l3Digits.f k x0).bind fun t146=>(if t146=true then ((spec_l3Number.f k x0).bind fun t147=>(some (decide (t147 ≥ 0)))) else (some true))) else (some false)))
def spec_l3Part.f (k:Nat) (a0:ByteArray):Option (Bool):=spec_l3Part.l0 k a0 0
theorem spec_l3Part.mono_l : ∀ k,(∀ y0 y1,LeO (spec_l3Part.l0 k y0 y1) (spec_l3Part.l0 (k + 1) y0 y1))
 | 0=>fun _ _ r h=>by simp [spec_l3Part.l0] at h
 | k + 1=>by
  have ih0:=spec_l3Part.mono_l k
  ·intro y0 y1;unfold spec_l3Part.l0
   repeat' first
   | (with_reducible exact ih0 _ _)
   | (with_reducible exact spec_l3Digits.mono _ _)
   | (with_reducible exact spec_l3Number.mono _ _)
   | (with_reducible exact LeO.refl _)
   | (with_reducible refine LeO.ite ?_ ?_)
   | (with_reducible refine LeO.bind ?_ (fun _=>?_))
theorem spec_l3Part.mono : ∀ a0 k,LeO (spec_l3Part.f k a0) (spec_l3Part.f (k + 1) a0):=by
 intro a0 k;have ih0:=spec_l3Part.mono_l k;unfold spec_l3Part.f
 repeat' (with_reducible exact ih0 _ _)
set_option maxHeartbeats 8000000 in
set_option maxRecDepth 100000 in
theorem spec_l3Part.calls (k:Nat) (a0:ByteArray) (r:Bool) (w:World) (h:spec_l3Part.f k a0=some r) :
 Calls Tryz.prog 214 #[.string a0] w fun e w'=>e = .returned (.bool r) ∧ Drawn0 w w':=by
 have H:(spec_l3Part.l0 k a0 0)=some r:=h;clear h;have H':=a_ H;clear H
 go_enter Tryz.func214,Tryz.ntmps214
 go_wp2
 go_loopg [3] k (fun kq v3 w'=>∃ (x3_1:Int),v3 = .int .i64 x3_1 ∧ Aside0 (spec_l3Part.l0 kq a0 x3_1=some r) ∧ Aside0 (kq ≤ k) ∧ Drawn0 w w')
 case atStart=>exact ⟨(0),(by rfl),H',⟨Nat.le_refl _⟩,by repeat (exact Drawn0.refl _)⟩
 case round=>
  clear H';obtain ⟨x3_1,rfl,HA,HK1,⟨m1,rfl⟩⟩:=hrel
  cases gk with
  | zero=>exact absurd HA.out (by simp [spec_l3Part.l0])
  | succ k1=>
   have H:=HA.out;clear HA;simp only [spec_l3Part.l0] at H
   by_cases c2:x3_1 < (a0.size:Int)
   ·rw [if_pos c2] at H;have c2b0:decide (x3_1 < (a0.size:Int))=true:=decide_eq_true c2;clear c2
    by_cases c3:0 ≤ x3_1
    ·rw [if_pos c3] at H;have c3b0:decide (0 ≤ x3_1)=true:=decide_eq_true c3;clear c3;replace H:=Option.bind_eq_some_iff.mp H;obtain ⟨t148,A50,H⟩:=H;replace H:(if t148=true then (spec_l3Part.l0 k1 a0 (wrap64 (x3_1 + 1))) else ((spec_l1In.f (wrap64 (bt a0 x3_1)) 65 90).bind fun t149=>(if t149=true then (spec_l3Part.l0 k1 a0 (wrap64 (x3_1 + 1))) else ((spec_l1In.f (wrap64 (bt a0 x3_1)) 48 57).bind fun t150=>(if t150=true then (spec_l3Part.l0 k1 a0 (wrap64 (x3_1 + 1))) else (if (wrap64 (bt a0 x3_1))=45 then (spec_l3Part.l0 k1 a0 (wrap64 (x3_1 + 1))) else (some false)))))))=some r:=H
     have A5:=a_ A50;clear A50
     by_cases c6:t148=true
     ·subst c6;have H1:(spec_l3Part.l0 k1 a0 (wrap64 (x3_1 + 1)))=some r:=by rw [if_pos rfl] at H;exact H
      clear H;have H:=H1;clear H1;have H':=a_ H;clear H;have p4:0 ≤ (x3_1:Int):=of_decide_eq_true (by (with_reducible assumption));have q4:x3_1 < (a0.size:Int):=of_decide_eq_true (by (with_reducible assumption));have hx4:=bt_at a0 x3_1;replace p4:=eq_true p4;replace q4:=eq_true q4
      go_wp2_with (((with_reducible refine gate_callee (f:=119) rfl ?_);refine goesL_ (some 16) rfl rfl Tryz.func119 (by kernel_rfl) rfl #[.int .i64 (wrap64 (bt a0 x3_1)),.int .i64 97,.int .i64 122] rfl (by (try simp only [List.map_toArray,List.map_cons,List.map_nil]);rfl) ?_;(with_reducible refine (spec_l1In.calls (wrap64 (bt a0 x3_1)) 97 122 true _ A5.out).mono ?_);rintro e w' ⟨rfl,⟨nd,rfl⟩⟩;refine ⟨_,rfl,?_⟩))
      go_roundg k1
      case measure=>have:=HK1.out;omega
      case rel=>exact ⟨(wrap64 (x3_1 + 1)),(by rfl),H',⟨by have:=HK1.out;omega⟩,by repeat (first | exact Drawn0.refl _ | apply Drawn0.step)⟩
     ·replace c6:=Bool.eq_false_iff.mpr c6;subst c6;have H1:((spec_l1In.f (wrap64 (bt a0 x3_1)) 65 90).bind fun t149=>(if t149=true then (spec_l3Part.l0 k1 a0 (wrap64 (x3_1 + 1))) else ((spec_l1In.f (wrap64 (bt a0 x3_1)) 48 57).bind fun t150=>(if t150=true then (spec_l3Part.l0 k1 a0 (wrap64 (x3_1 + 1))) else (if (wrap64 (bt a0 x3_1))=45 then (spec_l3Part.l0 k1 a0 (wrap64 (x3_1 + 1))) else (some false))))))=some r:=by rw [if_neg (show ¬ (false=true) by decide)] at H;exact H
      clear H;have H:=H1;clear H1;replace H:=Option.bind_eq_some_iff.mp H;obtain ⟨t149,A70,H⟩:=H;replace H:(if t149=true then (spec_l3Part.l0 k1 a0 (wrap64 (x3_1 + 1))) else ((spec_l1In.f (wrap64 (bt a0 x3_1)) 48 57).bind fun t150=>(if t150=true then (spec_l3Part.l0 k1 a0 (wrap64 (x3_1 + 1))) else (if (wrap64 (bt a0 x3_1))=45 then (spec_l3Part.l0 k1 a0 (wrap64 (x3_1 + 1))) else (some false)))))=some r:=H
      have A7:=a_ A70;clear A70
      by_cases c8:t149=true
      ·subst c8;have H1:(spec_l3Part.l0 k1 a0 (wrap64 (x3_1 + 1)))=some r:=by rw [if_pos rfl] at H;exact H
       clear H;have H:=H1;clear H1;have H':=a_ H;clear H;have p4:0 ≤ (x3_1:Int):=of_decide_eq_true (by (with_reducible assumption));have q4:x3_1 < (a0.size:Int):=of_decide_eq_true (by (with_reducible assumption));have hx4:=bt_at a0 x3_1;replace p4:=eq_true p4;replace q4:=eq_true q4
       go_wp2_with (first | ((with_reducible refine gate_callee (f:=119) rfl ?_);refine goesL_ (some 16) rfl rfl Tryz.func119 (by kernel_rfl) rfl #[.int .i64 (wrap64 (bt a0 x3_1)),.int .i64 97,.int .i64 122] rfl (by (try simp only [List.map_toArray,List.map_cons,List.map_nil]);rfl) ?_;(with_reducible refine (spec_l1In.calls (wrap64 (bt a0 x3_1)) 97 122 false _ A5.out).mono ?_);rintro e w' ⟨rfl,⟨nd,rfl⟩⟩;refine ⟨_,rfl,?_⟩) | (go_at_call 119;(with_reducible refine (spec_l1In.calls (wrap64 (bt a0 x3_1)) 65 90 true _ A7.out).mono ?_);rintro e w' ⟨rfl,⟨nd,rfl⟩⟩))
       go_roundg k1
       case measure=>have:=HK1.out;omega
       case rel=>exact ⟨(wrap64 (x3_1 + 1)),(by rfl),H',⟨by have:=HK1.out;omega⟩,by repeat (first | exact Drawn0.refl _ | apply Drawn0.step)⟩
      ·replace c8:=Bool.eq_false_iff.mpr c8;subst c8;have H1:((spec_l1In.f (wrap64 (bt a0 x3_1)) 48 57).bind fun t150=>(if t150=true then (spec_l3Part.l0 k1 a0 (wrap64 (x3_1 + 1))) else (if (wrap64 (bt a0 x3_1))=45 then (spec_l3Part.l0 k1 a0 (wrap64 (x3_1 + 1))) else (some false))))=some r:=by rw [if_neg (show ¬ (false=true) by decide)] at H;exact H
       clear H;have H:=H1;clear H1;replace H:=Option.bind_eq_some_iff.mp H;obtain ⟨t150,A90,H⟩:=H;replace H:(if t150=true then (spec_l3Part.l0 k1 a0 (wrap64 (x3_1 + 1))) else (if (wrap64 (bt a0 x3_1))=45 then (spec_l3Part.l0 k1 a0 (wrap64 (x3_1 + 1))) else (some false)))=some r:=H;have A9:=a_ A90;clear A90
       by_cases c10:t150=true
       ·subst c10;have H1:(spec_l3Part.l0 k1 a0 (wrap64 (x3_1 + 1)))=some r:=by rw [if_pos rfl] at H;exact H
        clear H;have H:=H1;clear H1;have H':=a_ H;clear H;have p4:0 ≤ (x3_1:Int):=of_decide_eq_true (by (with_reducible assumption));have q4:x3_1 < (a0.size:Int):=of_decide_eq_true (by (with_reducible assumption));have hx4:=bt_at a0 x3_1;replace p4:=eq_true p4;replace q4:=eq_true q4
        go_wp2_with (first | ((with_reducible refine gate_callee (f:=119) rfl ?_);refine goesL_ (some 16) rfl rfl Tryz.func119 (by kernel_rfl) rfl #[.int .i64 (wrap64 (bt a0 x3_1)),.int .i64 97,.int .i64 122] rfl (by (try simp only [List.map_toArray,List.map_cons,List.map_nil]);rfl) ?_;(with_reducible refine (spec_l1In.calls (wrap64 (bt a0 x3_1)) 97 122 false _ A5.out).mono ?_);rintro e w' ⟨rfl,⟨nd,rfl⟩⟩;refine ⟨_,rfl,?_⟩) | (go_at_call 119;(with_reducible refine (spec_l1In.calls (wrap64 (bt a0 x3_1)) 65 90 false _ A7.out).mono ?_);rintro e w' ⟨rfl,⟨nd,rfl⟩⟩) | (go_at_call 119;(with_reducible refine (spec_l1In.calls (wrap64 (bt a0 x3_1)) 48 57 true _ A9.out).mono ?_);rintro e w' ⟨rfl,⟨nd,rfl⟩⟩))
        go_roundg k1
        case measure=>have:=HK1.out;omega
        case rel=>exact ⟨(wrap64 (x3_1 + 1)),(by rfl),H',⟨by have:=HK1.out;omega⟩,by repeat (first | exact Drawn0.refl _ | apply Drawn0.step)⟩
       ·replace c10:=Bool.eq_false_iff.mpr c10;subst c10;have H1:(if (wrap64 (bt a0 x3_1))=45 then (spec_l3Part.l0 k1 a0 (wrap64 (x3_1 + 1))) else (some false))=some r:=by rw [if_neg (show ¬ (false=true) by decide)] at H;exact H
        clear H;have H:=H1;clear H1
        by_cases c11:(wrap64 (bt a0 x3_1))=45
        ·rw [if_pos c11] at H;have c11b0:((wrap64 (bt a0 x3_1)) == 45)=true:=beq_iff_eq.mpr c11;have c11b1:((wrap64 (bt a0 x3_1)) != 45)=false:=bne_eq_false_iff_eq.mpr c11;clear c11;have H':=a_ H;clear H;have p4:0 ≤ (x3_1:Int):=of_decide_eq_true (by (with_reducible assumption));have q4:x3_1 < (a0.size:Int):=of_decide_eq_true (by (with_reducible assumption));have hx4:=bt_at a0 x3_1;replace p4:=eq_true p4
         replace q4:=eq_true q4
         go_wp2_with (first | ((with_reducible refine gate_callee (f:=119) rfl ?_);refine goesL_ (some 16) rfl rfl Tryz.func119 (by kernel_rfl) rfl #[.int .i64 (wrap64 (bt a0 x3_1)),.int .i64 97,.int .i64 122] rfl (by (try simp only [List.map_toArray,List.map_cons,List.map_nil]);rfl) ?_;(with_reducible refine (spec_l1In.calls (wrap64 (bt a0 x3_1)) 97 122 false _ A5.out).mono ?_);rintro e w' ⟨rfl,⟨nd,rfl⟩⟩;refine ⟨_,rfl,?_⟩) | (go_at_call 119;(with_reducible refine (spec_l1In.calls (wrap64 (bt a0 x3_1)) 65 90 false _ A7.out).mono ?_);rintro e w' ⟨rfl,⟨nd,rfl⟩⟩) | (go_at_call 119;(with_reducible refine (spec_l1In.calls (wrap64 (bt a0 x3_1)) 48 57 false _ A9.out).mono ?_);rintro e w' ⟨rfl,⟨nd,rfl⟩⟩))
         go_roundg k1
         case measure=>have:=HK1.out;omega
         case rel=>exact ⟨(wrap64 (x3_1 + 1)),(by rfl),H',⟨by have:=HK1.out;omega⟩,by repeat (first | exact Drawn0.refl _ | apply Drawn0.step)⟩
        ·rw [if_neg c11] at H;have c11b0:((wrap64 (bt a0 x3_1)) == 45)=false:=beq_eq_false_iff_ne.mpr c11;have c11b1:((wrap64 (bt a0 x3_1)) != 45)=true:=bne_iff_ne.mpr c11;obtain rfl:=Option.some.inj H;have p4:0 ≤ (x3_1:Int):=of_decide_eq_true (by (with_reducible assumption));have q4:x3_1 < (a0.size:Int):=of_decide_eq_true (by (with_reducible assumption));have hx4:=bt_at a0 x3_1;replace p4:=eq_true p4
         replace q4:=eq_true q4
         go_wp2_with (first | ((with_reducible refine gate_callee (f:=119) rfl ?_);refine goesL_ (some 16) rfl rfl Tryz.func119 (by kernel_rfl) rfl #[.int .i64 (wrap64 (bt a0 x3_1)),.int .i64 97,.int .i64 122] rfl (by (try simp only [List.map_toArray,List.map_cons,List.map_nil]);rfl) ?_;(with_reducible refine (spec_l1In.calls (wrap64 (bt a0 x3_1)) 97 122 false _ A5.out).mono ?_);rintro e w' ⟨rfl,⟨nd,rfl⟩⟩;refine ⟨_,rfl,?_⟩) | (go_at_call 119;(with_reducible refine (spec_l1In.calls (wrap64 (bt a0 x3_1)) 65 90 false _ A7.out).mono ?_);rintro e w' ⟨rfl,⟨nd,rfl⟩⟩) | (go_at_call 119;(with_reducible refine (spec_l1In.calls (wrap64 (bt a0 x3_1)) 48 57 false _ A9.out).mono ?_);rintro e w' ⟨rfl,⟨nd,rfl⟩⟩))
         go_ret
         exact ⟨by rfl,by repeat (first | exact Drawn0.refl _ | apply Drawn0.step)⟩
    ·rw [if_neg c3] at H;exact absurd H (by simp)
   ·rw [if_neg c2] at H;have c2b0:decide (x3_1 < (a0.size:Int))=false:=decide_eq_false c2;clear c2;replace H:=Option.bind_eq_some_iff.mp H;obtain ⟨t145,A120,H⟩:=H;replace H:(if t145=true then ((spec_l3Digits.f k1 a0).bind fun t146=>(if t146=true then ((spec_l3Number.f k1 a0).bind fun t147=>(some (decide (t147 ≥ 0)))) else (some true))) else (some false))=some r:=H;have A12:=a_ A120;clear A120
    by_cases c13:t145=true
    ·subst c13;have H1:((spec_l3Digits.f k1 a0).bind fun t146=>(if t146=true then ((spec_l3Number.f k1 a0).bind fun t147=>(some (decide (t147 ≥ 0)))) else (some true)))=some r:=by rw [if_pos rfl] at H;exact H
     clear H;have H:=H1;clear H1;replace H:=Option.bind_eq_some_iff.mp H;obtain ⟨t146,A140,H⟩:=H;replace H:(if t146=true then ((spec_l3Number.f k1 a0).bind fun t147=>(some (decide (t147 ≥ 0)))) else (some true))=some r:=H;have A14:=a_ A140;clear A140
     by_cases c15:t146=true
     ·subst c15;have H1:((spec_l3Number.f k1 a0).bind fun t147=>(some (decide (t147 ≥ 0))))=some r:=by rw [if_pos rfl] at H;exact H
      clear H;have H:=H1;clear H1;replace H:=Option.bind_eq_some_iff.mp H;obtain ⟨t147,A160,H⟩:=H;replace H:(some (decide (t147 ≥ 0)))=some r:=H;have A16:=a_ A160;clear A160;obtain rfl:=Option.some.inj H
      go_wp2_with (first | ((with_reducible refine gate_callee (f:=119) rfl ?_);refine goesL_ (some 34) rfl rfl Tryz.func119 (by kernel_rfl) rfl #[.int .i64 (a0.size:Int),.int .i64 1,.int .i64 8] rfl (by (try simp only [List.map_toArray,List.map_cons,List.map_nil]);rfl) ?_;(with_reducible refine (spec_l1In.calls (a0.size:Int) 1 8 true _ A12.out).mono ?_);rintro e w' ⟨rfl,⟨nd,rfl⟩⟩;refine ⟨_,rfl,?_⟩) | (go_at_call 143;(with_reducible refine (spec_l3Digits.calls k1 a0 true _ A14.out).mono ?_);rintro e w' ⟨rfl,⟨nd,rfl⟩⟩) | (go_at_call 101;(with_reducible refine (spec_l3Number.calls k1 a0 t147 _ A16.out).mono ?_);rintro e w' ⟨rfl,⟨nd,rfl⟩⟩))
      go_ret
      exact ⟨by rfl,by repeat (first | exact Drawn0.refl _ | apply Drawn0.step)⟩
     ·replace c15:=Bool.eq_false_iff.mpr c15;subst c15;have H1:(some true)=some r:=by rw [if_neg (show ¬ (false=true) by decide)] at H;exact H
      clear H;have H:=H1;clear H1;obtain rfl:=Option.some.inj H
      go_wp2_with (first | ((with_reducible refine gate_callee (f:=119) rfl ?_);refine goesL_ (some 34) rfl rfl Tryz.func119 (by kernel_rfl) rfl #[.int .i64 (a0.size:Int),.int .i64 1,.int .i64 8] rfl (by (try simp only [List.map_toArray,List.map_cons,List.map_nil]);rfl) ?_;(with_reducible refine (spec_l1In.calls (a0.size:Int) 1 8 true _ A12.out).mono ?_);rintro e w' ⟨rfl,⟨nd,rfl⟩⟩;refine ⟨_,rfl,?_⟩) | (go_at_call 143;(with_reducible refine (spec_l3Digits.calls k1 a0 false _ A14.out).mono ?_);rintro e w' ⟨rfl,⟨nd,rfl⟩⟩))
      go_ret
      exact ⟨by rfl,by repeat (first | exact Drawn0.refl _ | apply Drawn0.step)⟩
    ·replace c13:=Bool.eq_false_iff.mpr c13;subst c13;have H1:(some false)=some r:=by rw [if_neg (show ¬ (false=true) by decide)] at H;exact H
     clear H;have H:=H1;clear H1;obtain rfl:=Option.some.inj H
     go_wp2_with (((with_reducible refine gate_callee (f:=119) rfl ?_);refine goesL_ (some 34) rfl rfl Tryz.func119 (by kernel_rfl) rfl #[.int .i64 (a0.size:Int),.int .i64 1,.int .i64 8] rfl (by (try simp only [List.map_toArray,List.map_cons,List.map_nil]);rfl) ?_;(with_reducible refine (spec_l1In.calls (a0.size:Int) 1 8 false _ A12.out).mono ?_);rintro e w' ⟨rfl,⟨nd,rfl⟩⟩;refine ⟨_,rfl,?_⟩))
     go_ret
     exact ⟨by rfl,by repeat (first | exact Drawn0.refl _ | apply Drawn0.step)⟩
def spec_l3Pre.l0:Nat → List ByteArray → Int → Option (Bool)
 | 0,_,_=>none
 | k + 1,x3,x4=>if x4 < (x3.length:Int) then (if 0 ≤ x4 then ((spec_l3Part.f k (rdOf ByteArray.empty x3 x4)).bind fun t155=>(if t155=true then (spec_l3Pre.l0 k x3 (wrap64 (x4 + 1))) else (some false))) else (none)) else (some (decide ((x3.length:Int) ≤ 4)))
def spec_l3Pre.f (k:Nat) (a0:ByteArray):Option (Bool):=(spec_l3Split.f k a0 46).bind fun t151=>(spec_l3Pre.l0 k t151 0)
theorem spec_l3Pre.mono_l : ∀ k,(∀ y0 y1,LeO (spec_l3Pre.l0 k y0 y1) (spec_l3Pre.l0 (k + 1) y0 y1))
 | 0=>fun _ _ r h=>by simp [spec_l3Pre.l0] at h
 | k + 1=>by
  have ih0:=spec_l3Pre.mono_l k
  ·intro y0 y1;unfold spec_l3Pre.l0
   repeat' first
   | (with_reducible exact ih0 _ _)
   | (with_reducible exact spec_l3Part.mono _ _)
   | (with_reducible exact LeO.refl _)
   | (with_reducible refine LeO.ite ?_ ?_)
   | (with_reducible refine LeO.bind ?_ (fun _=>?_))
theorem spec_l3Pre.mono : ∀ a0 k,LeO (spec_l3Pre.f k a0) (spec_l3Pre.f (k + 1) a0):=by
 intro a0 k;have ih0:=spec_l3Pre.mono_l k;unfold spec_l3Pre.f
 repeat' first
  | (with_reducible exact ih0 _ _)
  | (with_reducible exact spec_l3Split.mono _ _ _)
  | (with_reducible refine LeO.bind ?_ (fun _=>?_))
set_option maxHeartbeats 8000000 in
set_option maxRecDepth 100000 in
theorem spec_l3Pre.calls (k:Nat) (a0:ByteArray) (r:Bool) (w:World) (h:spec_l3Pre.f k a0=some r) :
 Calls Tryz.prog 186 #[.string a0] w fun e w'=>e = .returned (.bool r) ∧ Below w.heap.size w w':=by
 have HB:=a_ (Below.refl w.heap.size w);have H:((spec_l3Split.f k a0 46).bind fun t151=>(spec_l3Pre.l0 k t151 0))=some r:=h;clear h;replace H:=Option.bind_eq_some_iff.mp H;obtain ⟨t151,A20,H⟩:=H;replace H:(spec_l3Pre.l0 k t151 0)=some r:=H;have A2:=a_ A20;clear A20;have H':=a_ H;clear H
 go_enter Tryz.func186,Tryz.ntmps186
 go_wp2_with (((with_reducible refine gate_callee (f:=99) rfl ?_);refine goesL_ (some 6) rfl rfl Tryz.func99 (by kernel_rfl) rfl #[.string a0,.int .u8 46] rfl (by (try simp only [List.map_toArray,List.map_cons,List.map_nil]);rfl) ?_;(with_reducible refine (spec_l3Split.calls k a0 46 t151 _ A2.out).mono ?_);rintro e w3 ⟨v152,rfl,ho0,hb⟩;refine ⟨_,rfl,?_⟩;have n0_:=a_ (Kd.R_lower ho0 (below_size HB.out));have n1_:=a_ (below_step HB.out hb);clear HB;have HO153:=n0_;have HB:=n1_;clear n0_ n1_;(try clear hb);(try clear ho0)))
 go_loopg [4] k (fun kq v4 w'=>∃ (x4_1:Int),v4 = .int .i64 x4_1 ∧ Aside0 (spec_l3Pre.l0 kq t151 x4_1=some r) ∧ Aside0 (kq ≤ k) ∧ Aside0 (Kd.R Kd.string 9 w' w.heap.size (fun _=>True) v152 t151) ∧ Aside0 (Below w.heap.size w w'))
 case atStart=>exact ⟨(0),(by rfl),H',⟨Nat.le_refl _⟩,⟨by exact HO153.out⟩,⟨by exact HB.out⟩⟩
 case round=>
  clear H';obtain ⟨x4_1,rfl,HA,HK1,HO_3,HB⟩:=hrel
  cases gk with
  | zero=>exact absurd HA.out (by simp [spec_l3Pre.l0])
  | succ k1=>
   have H:=HA.out;clear HA;simp only [spec_l3Pre.l0] at H
   by_cases c4:x4_1 < (t151.length:Int)
   ·rw [if_pos c4] at H;have c4b0:decide (x4_1 < (t151.length:Int))=true:=decide_eq_true c4;clear c4
    by_cases c5:0 ≤ x4_1
    ·rw [if_pos c5] at H;have c5b0:decide (0 ≤ x4_1)=true:=decide_eq_true c5;clear c5;replace H:=Option.bind_eq_some_iff.mp H;obtain ⟨t155,A60,H⟩:=H;replace H:(if t155=true then (spec_l3Pre.l0 k1 t151 (wrap64 (x4_1 + 1))) else (some false))=some r:=H;have A6:=a_ A60;clear A60
     by_cases c7:t155=true
     ·subst c7;have H1:(spec_l3Pre.l0 k1 t151 (wrap64 (x4_1 + 1)))=some r:=by rw [if_pos rfl] at H;exact H
      clear H;have H:=H1;clear H1;have H':=a_ H;clear H;obtain ⟨Ao8,co8,eo8⟩:=Kd.R_slice HO_3.out;subst eo8;have p154:0 ≤ (x4_1:Int):=of_decide_eq_true (by (with_reducible assumption));have q154:x4_1 < (t151.length:Int):=of_decide_eq_true (by (with_reducible assumption));obtain ⟨ad154,e154,hx154_0⟩:=Kd.at_string (Kd.R_reads' HO_3.out).2.2 x4_1 p154 q154;cases e154;replace p154:=eq_true p154;replace q154:=eq_true q154
      go_wp2_with (((with_reducible refine gate_callee (f:=214) rfl ?_);refine goesL_ (some 17) rfl rfl Tryz.func214 (by kernel_rfl) rfl #[.string (rdOf ByteArray.empty t151 x4_1)] rfl (by (try simp only [List.map_toArray,List.map_cons,List.map_nil]);rfl) ?_;(with_reducible refine (spec_l3Part.calls k1 (rdOf ByteArray.empty t151 x4_1) true _ A6.out).mono ?_);rintro e w' ⟨rfl,⟨nd,rfl⟩⟩;refine ⟨_,rfl,?_⟩))
      go_roundg k1
      case measure=>have:=HK1.out;omega
      case rel=>exact ⟨(wrap64 (x4_1 + 1)),(by rfl),H',⟨by have:=HK1.out;omega⟩,⟨by (with_reducible repeat (apply Kd.R_drewN));exact HO_3.out⟩,⟨by repeat (with_reducible first | exact HB.out | apply pw_below_drewN)⟩⟩
     ·replace c7:=Bool.eq_false_iff.mpr c7;subst c7;have H1:(some false)=some r:=by rw [if_neg (show ¬ (false=true) by decide)] at H;exact H
      clear H;have H:=H1;clear H1;obtain rfl:=Option.some.inj H;obtain ⟨Ao9,co9,eo9⟩:=Kd.R_slice HO_3.out;subst eo9;have p154:0 ≤ (x4_1:Int):=of_decide_eq_true (by (with_reducible assumption));have q154:x4_1 < (t151.length:Int):=of_decide_eq_true (by (with_reducible assumption));obtain ⟨ad154,e154,hx154_0⟩:=Kd.at_string (Kd.R_reads' HO_3.out).2.2 x4_1 p154 q154;cases e154;replace p154:=eq_true p154
      replace q154:=eq_true q154
      go_wp2_with (((with_reducible refine gate_callee (f:=214) rfl ?_);refine goesL_ (some 17) rfl rfl Tryz.func214 (by kernel_rfl) rfl #[.string (rdOf ByteArray.empty t151 x4_1)] rfl (by (try simp only [List.map_toArray,List.map_cons,List.map_nil]);rfl) ?_;(with_reducible refine (spec_l3Part.calls k1 (rdOf ByteArray.empty t151 x4_1) false _ A6.out).mono ?_);rintro e w' ⟨rfl,⟨nd,rfl⟩⟩;refine ⟨_,rfl,?_⟩))
      go_ret
      exact ⟨by rfl,by repeat (with_reducible first | exact HB.out | apply pw_below_drewN)⟩
    ·rw [if_neg c5] at H;exact absurd H (by simp)
   ·rw [if_neg c4] at H;have c4b0:decide (x4_1 < (t151.length:Int))=false:=decide_eq_false c4;clear c4;obtain rfl:=Option.some.inj H;obtain ⟨Ao10,co10,eo10⟩:=Kd.R_slice HO_3.out;subst eo10
    go_wp2
    go_ret
    exact ⟨by rfl,by exact HB.out⟩
def spec_VersionOk.f (k:Nat) (a0_0:Int) (a0_1:Int) (a0_2:Int) (a0_3:ByteArray):Option (Bool):=(spec_l1In.f a0_0 0 1000000).bind fun t157=>(if t157=true then ((spec_l1In.f a0_1 0 1000000).bind fun t158=>(if t158=true then ((spec_l1In.f a0_2 0 1000000).bind fun t159=>(if t159=true then (if a0_3.toList=([]:List UInt8) then (some true) else ((spec_l3Pre.f k a0_3).bind fun t160=>(some t160))) else (some false))) else (some false))) else (some false))
theorem spec_VersionOk.mono : ∀ a0 a1 a2 a3 k,LeO (spec_VersionOk.f k a0 a1 a2 a3) (spec_VersionOk.f (k + 1) a0 a1 a2 a3):=by
 intro a0 a1 a2 a3 k;unfold spec_VersionOk.f
 repeat' first
  | (with_reducible exact spec_l3Pre.mono _ _)
  | (with_reducible exact LeO.refl _)
  | (with_reducible refine LeO.ite ?_ ?_)
  | (with_reducible refine LeO.bind ?_ (fun _=>?_))
set_option maxHeartbeats 8000000 in
set_option maxRecDepth 100000 in
theorem spec_VersionOk.calls (k:Nat) (a0_0:Int) (a0_1:Int) (a0_2:Int) (a0_3:ByteArray) (r:Bool) (w:World) (h:spec_VersionOk.f k a0_0 a0_1 a0_2 a0_3=some r) :
 Calls Tryz.prog 159 #[.agg #[.int .i64 a0_0,.int .i64 a0_1,.int .i64 a0_2,.string a0_3]] w fun e w'=>e = .returned (.bool r) ∧ Below w.heap.size w w':=by
 have hu52:=Tryz.underlying52;have HB:=a_ (Below.refl w.heap.size w);have H:((spec_l1In.f a0_0 0 1000000).bind fun t157=>(if t157=true then ((spec_l1In.f a0_1 0 1000000).bind fun t158=>(if t158=true then ((spec_l1In.f a0_2 0 1000000).bind fun t159=>(if t159=true then (if a0_3.toList=([]:List UInt8) then (some true) else ((spec_l3Pre.f k a0_3).bind fun t160=>(some t160))) else (some false))) else (some false))) else (some false)))=some r:=h
 clear h;replace H:=Option.bind_eq_some_iff.mp H;obtain ⟨t157,A20,H⟩:=H;replace H:(if t157=true then ((spec_l1In.f a0_1 0 1000000).bind fun t158=>(if t158=true then ((spec_l1In.f a0_2 0 1000000).bind fun t159=>(if t159=true then (if a0_3.toList=([]:List UInt8) then (some true) else ((spec_l3Pre.f k a0_3).bind fun t160=>(some t160))) else (some false))) else (some false))) else (some false))=some r:=H
 have A2:=a_ A20;clear A20
 by_cases c3:t157=true
 ·subst c3;have H1:((spec_l1In.f a0_1 0 1000000).bind fun t158=>(if t158=true then ((spec_l1In.f a0_2 0 1000000).bind fun t159=>(if t159=true then (if a0_3.toList=([]:List UInt8) then (some true) else ((spec_l3Pre.f k a0_3).bind fun t160=>(some t160))) else (some false))) else (some false)))=some r:=by rw [if_pos rfl] at H;exact H
  clear H;have H:=H1;clear H1;replace H:=Option.bind_eq_some_iff.mp H;obtain ⟨t158,A40,H⟩:=H;replace H:(if t158=true then ((spec_l1In.f a0_2 0 1000000).bind fun t159=>(if t159=true then (if a0_3.toList=([]:List UInt8) then (some true) else ((spec_l3Pre.f k a0_3).bind fun t160=>(some t160))) else (some false))) else (some false))=some r:=H;have A4:=a_ A40;clear A40
  by_cases c5:t158=true
  ·subst c5;have H1:((spec_l1In.f a0_2 0 1000000).bind fun t159=>(if t159=true then (if a0_3.toList=([]:List UInt8) then (some true) else ((spec_l3Pre.f k a0_3).bind fun t160=>(some t160))) else (some false)))=some r:=by rw [if_pos rfl] at H;exact H
   clear H;have H:=H1;clear H1;replace H:=Option.bind_eq_some_iff.mp H;obtain ⟨t159,A60,H⟩:=H;replace H:(if t159=true then (if a0_3.toList=([]:List UInt8) then (some true) else ((spec_l3Pre.f k a0_3).bind fun t160=>(some t160))) else (some false))=some r:=H;have A6:=a_ A60;clear A60
   by_cases c7:t159=true
   ·subst c7;have H1:(if a0_3.toList=([]:List UInt8) then (some true) else ((spec_l3Pre.f k a0_3).bind fun t160=>(some t160)))=some r:=by rw [if_pos rfl] at H;exact H
    clear H;have H:=H1;clear H1
    by_cases c8:a0_3.toList=([]:List UInt8)
    ·rw [if_pos c8] at H;have c8b0:(a0_3.toList == ([]:List UInt8))=true:=beq_iff_eq.mpr c8;have c8b1:(a0_3.toList != ([]:List UInt8))=false:=bne_eq_false_iff_eq.mpr c8;clear c8;obtain rfl:=Option.some.inj H
     go_enter Tryz.func159,Tryz.ntmps159
     go_wp2_with (first | ((with_reducible refine gate_dst (N:=1) rfl ?_);refine box_event ?hg (N:=1) ?hd (cs:=#[.int .i64 a0_0,.int .i64 a0_1,.int .i64 a0_2,.string a0_3]) (t:=52) ?hr ?_;(case hd=>rfl);(case hg=>rfl);(case hr=>(go_simp;done));intro gb156 hg w9 hbox hb;have n0_:=a_ (below_step HB.out hb);have n1_:=a_ (hbox);have n2_:=a_ ((by rw [hg];exact (below_size HB.out):w.heap.size ≤ gb156));have n3_:=a_ ((by rw [hg];exact (below_size HB.out):w.heap.size ≤ gb156));clear HB;have HB:=n0_;have BK156:=n1_;have GW156:=n2_;have GE156:=n3_;clear n0_ n1_ n2_ n3_;clear hb hbox hg;have hcz10_0:w9.cell? ⟨gb156,0,none⟩=some (.int .i64 a0_0):=(blk_cell BK156.out 0).trans rfl;have hcz10_1:w9.cell? ⟨gb156,1,none⟩=some (.int .i64 a0_1):=(blk_cell BK156.out 1).trans rfl;have hcz10_2:w9.cell? ⟨gb156,2,none⟩=some (.int .i64 a0_2):=(blk_cell BK156.out 2).trans rfl;have hcz10_3:w9.cell? ⟨gb156,3,none⟩=some (.string a0_3):=(blk_cell BK156.out 3).trans rfl;have hfz10_0:=blk_frozen BK156.out 0;have hfz10_1:=blk_frozen BK156.out 1;have hfz10_2:=blk_frozen BK156.out 2;have hfz10_3:=blk_frozen BK156.out 3) | ((with_reducible refine gate_callee (f:=119) rfl ?_);refine goesL_ (some 5) rfl rfl Tryz.func119 (by kernel_rfl) rfl #[.int .i64 a0_0,.int .i64 0,.int .i64 1000000] rfl (by (try simp only [List.map_toArray,List.map_cons,List.map_nil]);rfl) ?_;(with_reducible refine (spec_l1In.calls a0_0 0 1000000 true _ A2.out).mono ?_);rintro e w' ⟨rfl,⟨nd,rfl⟩⟩;refine ⟨_,rfl,?_⟩) | (go_at_call 119;(with_reducible refine (spec_l1In.calls a0_1 0 1000000 true _ A4.out).mono ?_);rintro e w' ⟨rfl,⟨nd,rfl⟩⟩) | (go_at_call 119;(with_reducible refine (spec_l1In.calls a0_2 0 1000000 true _ A6.out).mono ?_);rintro e w' ⟨rfl,⟨nd,rfl⟩⟩))
     go_ret
     exact ⟨by rfl,by repeat (with_reducible first | exact HB.out | apply pw_below_drewN)⟩
    ·rw [if_neg c8] at H;have c8b0:(a0_3.toList == ([]:List UInt8))=false:=beq_eq_false_iff_ne.mpr c8;have c8b1:(a0_3.toList != ([]:List UInt8))=true:=bne_iff_ne.mpr c8;replace H:=Option.bind_eq_some_iff.mp H;obtain ⟨t160,A110,H⟩:=H;replace H:(some t160)=some r:=H;have A11:=a_ A110;clear A110;obtain rfl:=Option.some.inj H
     go_enter Tryz.func159,Tryz.ntmps159
     go_wp2_with (first | ((with_reducible refine gate_dst (N:=1) rfl ?_);refine box_event ?hg (N:=1) ?hd (cs:=#[.int .i64 a0_0,.int .i64 a0_1,.int .i64 a0_2,.string a0_3]) (t:=52) ?hr ?_;(case hd=>rfl);(case hg=>rfl);(case hr=>(go_simp;done));intro gb156 hg w12 hbox hb;have n0_:=a_ (below_step HB.out hb);have n1_:=a_ (hbox);have n2_:=a_ ((by rw [hg];exact (below_size HB.out):w.heap.size ≤ gb156));have n3_:=a_ ((by rw [hg];exact (below_size HB.out):w.heap.size ≤ gb156));clear HB;have HB:=n0_;have BK156:=n1_;have GW156:=n2_;have GE156:=n3_;clear n0_ n1_ n2_ n3_;clear hb hbox hg;have hcz13_0:w12.cell? ⟨gb156,0,none⟩=some (.int .i64 a0_0):=(blk_cell BK156.out 0).trans rfl;have hcz13_1:w12.cell? ⟨gb156,1,none⟩=some (.int .i64 a0_1):=(blk_cell BK156.out 1).trans rfl;have hcz13_2:w12.cell? ⟨gb156,2,none⟩=some (.int .i64 a0_2):=(blk_cell BK156.out 2).trans rfl;have hcz13_3:w12.cell? ⟨gb156,3,none⟩=some (.string a0_3):=(blk_cell BK156.out 3).trans rfl;have hfz13_0:=blk_frozen BK156.out 0;have hfz13_1:=blk_frozen BK156.out 1;have hfz13_2:=blk_frozen BK156.out 2;have hfz13_3:=blk_frozen BK156.out 3) | ((with_reducible refine gate_callee (f:=119) rfl ?_);refine goesL_ (some 5) rfl rfl Tryz.func119 (by kernel_rfl) rfl #[.int .i64 a0_0,.int .i64 0,.int .i64 1000000] rfl (by (try simp only [List.map_toArray,List.map_cons,List.map_nil]);rfl) ?_;(with_reducible refine (spec_l1In.calls a0_0 0 1000000 true _ A2.out).mono ?_);rintro e w' ⟨rfl,⟨nd,rfl⟩⟩;refine ⟨_,rfl,?_⟩) | (go_at_call 119;(with_reducible refine (spec_l1In.calls a0_1 0 1000000 true _ A4.out).mono ?_);rintro e w' ⟨rfl,⟨nd,rfl⟩⟩) | (go_at_call 119;(with_reducible refine (spec_l1In.calls a0_2 0 1000000 true _ A6.out).mono ?_);rintro e w' ⟨rfl,⟨nd,rfl⟩⟩) | (go_at_call 186;(with_reducible refine (spec_l3Pre.calls k a0_3 t160 _ A11.out).mono ?_);rintro e w14 ⟨rfl,hb⟩;have n0_:=a_ (blk_below (g:=gb156) (o:=.cells #[.int .i64 a0_0,.int .i64 a0_1,.int .i64 a0_2,.string a0_3] 52 (0,0)) (by (with_reducible repeat (refine blk_drewN ?_ _));exact BK156.out) hb);have n1_:=a_ (below_step (by repeat (with_reducible first | exact HB.out | apply pw_below_drewN)) hb);clear BK156;clear HB;have BK156:=n0_;have HB:=n1_;clear n0_ n1_;(try clear hb)))
     go_ret
     exact ⟨by rfl,by exact HB.out⟩
   ·replace c7:=Bool.eq_false_iff.mpr c7;subst c7;have H1:(some false)=some r:=by rw [if_neg (show ¬ (false=true) by decide)] at H;exact H
    clear H;have H:=H1;clear H1;obtain rfl:=Option.some.inj H
    go_enter Tryz.func159,Tryz.ntmps159
    go_wp2_with (first | ((with_reducible refine gate_dst (N:=1) rfl ?_);refine box_event ?hg (N:=1) ?hd (cs:=#[.int .i64 a0_0,.int .i64 a0_1,.int .i64 a0_2,.string a0_3]) (t:=52) ?hr ?_;(case hd=>rfl);(case hg=>rfl);(case hr=>(go_simp;done));intro gb156 hg w15 hbox hb;have n0_:=a_ (below_step HB.out hb);have n1_:=a_ (hbox);have n2_:=a_ ((by rw [hg];exact (below_size HB.out):w.heap.size ≤ gb156));have n3_:=a_ ((by rw [hg];exact (below_size HB.out):w.heap.size ≤ gb156));clear HB;have HB:=n0_;have BK156:=n1_;have GW156:=n2_;have GE156:=n3_;clear n0_ n1_ n2_ n3_;clear hb hbox hg;have hcz16_0:w15.cell? ⟨gb156,0,none⟩=some (.int .i64 a0_0):=(blk_cell BK156.out 0).trans rfl;have hcz16_1:w15.cell? ⟨gb156,1,none⟩=some (.int .i64 a0_1):=(blk_cell BK156.out 1).trans rfl;have hcz16_2:w15.cell? ⟨gb156,2,none⟩=some (.int .i64 a0_2):=(blk_cell BK156.out 2).trans rfl;have hcz16_3:w15.cell? ⟨gb156,3,none⟩=some (.string a0_3):=(blk_cell BK156.out 3).trans rfl;have hfz16_0:=blk_frozen BK156.out 0;have hfz16_1:=blk_frozen BK156.out 1;have hfz16_2:=blk_frozen BK156.out 2;have hfz16_3:=blk_frozen BK156.out 3) | ((with_reducible refine gate_callee (f:=119) rfl ?_);refine goesL_ (some 5) rfl rfl Tryz.func119 (by kernel_rfl) rfl #[.int .i64 a0_0,.int .i64 0,.int .i64 1000000] rfl (by (try simp only [List.map_toArray,List.map_cons,List.map_nil]);rfl) ?_;(with_reducible refine (spec_l1In.calls a0_0 0 1000000 true _ A2.out).mono ?_);rintro e w' ⟨rfl,⟨nd,rfl⟩⟩;refine ⟨_,rfl,?_⟩) | (go_at_call 119;(with_reducible refine (spec_l1In.calls a0_1 0 1000000 true _ A4.out).mono ?_);rintro e w' ⟨rfl,⟨nd,rfl⟩⟩) | (go_at_call 119;(with_reducible refine (spec_l1In.calls a0_2 0 1000000 false _ A6.out).mono ?_);rintro e w' ⟨rfl,⟨nd,rfl⟩⟩))
    go_ret
    exact ⟨by rfl,by repeat (with_reducible first | exact HB.out | apply pw_below_drewN)⟩
  ·replace c5:=Bool.eq_false_iff.mpr c5;subst c5;have H1:(some false)=some r:=by rw [if_neg (show ¬ (false=true) by decide)] at H;exact H
   clear H;have H:=H1;clear H1;obtain rfl:=Option.some.inj H
   go_enter Tryz.func159,Tryz.ntmps159
   go_wp2_with (first | ((with_reducible refine gate_dst (N:=1) rfl ?_);refine box_event ?hg (N:=1) ?hd (cs:=#[.int .i64 a0_0,.int .i64 a0_1,.int .i64 a0_2,.string a0_3]) (t:=52) ?hr ?_;(case hd=>rfl);(case hg=>rfl);(case hr=>(go_simp;done));intro gb156 hg w17 hbox hb;have n0_:=a_ (below_step HB.out hb);have n1_:=a_ (hbox);have n2_:=a_ ((by rw [hg];exact (below_size HB.out):w.heap.size ≤ gb156));have n3_:=a_ ((by rw [hg];exact (below_size HB.out):w.heap.size ≤ gb156));clear HB;have HB:=n0_;have BK156:=n1_;have GW156:=n2_;have GE156:=n3_;clear n0_ n1_ n2_ n3_;clear hb hbox hg;have hcz18_0:w17.cell? ⟨gb156,0,none⟩=some (.int .i64 a0_0):=(blk_cell BK156.out 0).trans rfl;have hcz18_1:w17.cell? ⟨gb156,1,none⟩=some (.int .i64 a0_1):=(blk_cell BK156.out 1).trans rfl;have hcz18_2:w17.cell? ⟨gb156,2,none⟩=some (.int .i64 a0_2):=(blk_cell BK156.out 2).trans rfl;have hcz18_3:w17.cell? ⟨gb156,3,none⟩=some (.string a0_3):=(blk_cell BK156.out 3).trans rfl;have hfz18_0:=blk_frozen BK156.out 0;have hfz18_1:=blk_frozen BK156.out 1;have hfz18_2:=blk_frozen BK156.out 2;have hfz18_3:=blk_frozen BK156.out 3) | ((with_reducible refine gate_callee (f:=119) rfl ?_);refine goesL_ (some 5) rfl rfl Tryz.func119 (by kernel_rfl) rfl #[.int .i64 a0_0,.int .i64 0,.int .i64 1000000] rfl (by (try simp only [List.map_toArray,List.map_cons,List.map_nil]);rfl) ?_;(with_reducible refine (spec_l1In.calls a0_0 0 1000000 true _ A2.out).mono ?_);rintro e w' ⟨rfl,⟨nd,rfl⟩⟩;refine ⟨_,rfl,?_⟩) | (go_at_call 119;(with_reducible refine (spec_l1In.calls a0_1 0 1000000 false _ A4.out).mono ?_);rintro e w' ⟨rfl,⟨nd,rfl⟩⟩))
   go_ret
   exact ⟨by rfl,by repeat (with_reducible first | exact HB.out | apply pw_below_drewN)⟩
 ·replace c3:=Bool.eq_false_iff.mpr c3;subst c3;have H1:(some false)=some r:=by rw [if_neg (show ¬ (false=true) by decide)] at H;exact H
  clear H;have H:=H1;clear H1;obtain rfl:=Option.some.inj H
  go_enter Tryz.func159,Tryz.ntmps159
  go_wp2_with (first | ((with_reducible refine gate_dst (N:=1) rfl ?_);refine box_event ?hg (N:=1) ?hd (cs:=#[.int .i64 a0_0,.int .i64 a0_1,.int .i64 a0_2,.string a0_3]) (t:=52) ?hr ?_;(case hd=>rfl);(case hg=>rfl);(case hr=>(go_simp;done));intro gb156 hg w19 hbox hb;have n0_:=a_ (below_step HB.out hb);have n1_:=a_ (hbox);have n2_:=a_ ((by rw [hg];exact (below_size HB.out):w.heap.size ≤ gb156));have n3_:=a_ ((by rw [hg];exact (below_size HB.out):w.heap.size ≤ gb156));clear HB;have HB:=n0_;have BK156:=n1_;have GW156:=n2_;have GE156:=n3_;clear n0_ n1_ n2_ n3_;clear hb hbox hg;have hcz20_0:w19.cell? ⟨gb156,0,none⟩=some (.int .i64 a0_0):=(blk_cell BK156.out 0).trans rfl;have hcz20_1:w19.cell? ⟨gb156,1,none⟩=some (.int .i64 a0_1):=(blk_cell BK156.out 1).trans rfl;have hcz20_2:w19.cell? ⟨gb156,2,none⟩=some (.int .i64 a0_2):=(blk_cell BK156.out 2).trans rfl;have hcz20_3:w19.cell? ⟨gb156,3,none⟩=some (.string a0_3):=(blk_cell BK156.out 3).trans rfl;have hfz20_0:=blk_frozen BK156.out 0;have hfz20_1:=blk_frozen BK156.out 1;have hfz20_2:=blk_frozen BK156.out 2;have hfz20_3:=blk_frozen BK156.out 3) | ((with_reducible refine gate_callee (f:=119) rfl ?_);refine goesL_ (some 5) rfl rfl Tryz.func119 (by kernel_rfl) rfl #[.int .i64 a0_0,.int .i64 0,.int .i64 1000000] rfl (by (try simp only [List.map_toArray,List.map_cons,List.map_nil]);rfl) ?_;(with_reducible refine (spec_l1In.calls a0_0 0 1000000 false _ A2.out).mono ?_);rintro e w' ⟨rfl,⟨nd,rfl⟩⟩;refine ⟨_,rfl,?_⟩))
  go_ret
  exact ⟨by rfl,by repeat (with_reducible first | exact HB.out | apply pw_below_drewN)⟩
def spec_Fits.f (k:Nat) (a0:ByteArray) (a1_0:Int) (a1_1:Int) (a1_2:Int) (a1_3:ByteArray):Option (Bool):=(spec_MajorOf.f k a0).bind fun t162=>(if t162 > 0 then ((spec_VersionOk.f k a1_0 a1_1 a1_2 a1_3).bind fun t163=>(if t163=true then (if a1_0=t162 then (some true) else (if t162=1 then (some (a1_0 == 0)) else (some false))) else (some false))) else (some false))
theorem spec_Fits.mono : ∀ a0 a1 a2 a3 a4 k,LeO (spec_Fits.f k a0 a1 a2 a3 a4) (spec_Fits.f (k + 1) a0 a1 a2 a3 a4):=by
 intro a0 a1 a2 a3 a4 k;unfold spec_Fits.f
 repeat' first
  | (with_reducible exact spec_MajorOf.mono _ _)
  | (with_reducible exact spec_VersionOk.mono _ _ _ _ _)
  | (with_reducible exact LeO.refl _)
  | (with_reducible refine LeO.ite ?_ ?_)
  | (with_reducible refine LeO.bind ?_ (fun _=>?_))
set_option maxHeartbeats 8000000 in
set_option maxRecDepth 100000 in
theorem spec_Fits.calls (k:Nat) (a0:ByteArray) (a1_0:Int) (a1_1:Int) (a1_2:Int) (a1_3:ByteArray) (r:Bool) (w:World) (h:spec_Fits.f k a0 a1_0 a1_1 a1_2 a1_3=some r) :
 Calls Tryz.prog 121 #[.string a0,.agg #[.int .i64 a1_0,.int .i64 a1_1,.int .i64 a1_2,.string a1_3]] w fun e w'=>e = .returned (.bool r) ∧ Below w.heap.size w w':=by
 have hu52:=Tryz.underlying52;have HB:=a_ (Below.refl w.heap.size w);have H:((spec_MajorOf.f k a0).bind fun t162=>(if t162 > 0 then ((spec_VersionOk.f k a1_0 a1_1 a1_2 a1_3).bind fun t163=>(if t163=true then (if a1_0=t162 then (some true) else (if t162=1 then (some (a1_0 == 0)) else (some false))) else (some false))) else (some false)))=some r:=h;clear h;replace H:=Option.bind_eq_some_iff.mp H;obtain ⟨t162,A30,H⟩:=H
 replace H:(if t162 > 0 then ((spec_VersionOk.f k a1_0 a1_1 a1_2 a1_3).bind fun t163=>(if t163=true then (if a1_0=t162 then (some true) else (if t162=1 then (some (a1_0 == 0)) else (some false))) else (some false))) else (some false))=some r:=H;have A3:=a_ A30;clear A30
 by_cases c4:t162 > 0
 ·rw [if_pos c4] at H;have c4b0:decide (0 < t162)=true:=decide_eq_true c4;clear c4;replace H:=Option.bind_eq_some_iff.mp H;obtain ⟨t163,A50,H⟩:=H;replace H:(if t163=true then (if a1_0=t162 then (some true) else (if t162=1 then (some (a1_0 == 0)) else (some false))) else (some false))=some r:=H;have A5:=a_ A50;clear A50
  by_cases c6:t163=true
  ·subst c6;have H1:(if a1_0=t162 then (some true) else (if t162=1 then (some (a1_0 == 0)) else (some false)))=some r:=by rw [if_pos rfl] at H;exact H
   clear H;have H:=H1;clear H1
   by_cases c7:a1_0=t162
   ·rw [if_pos c7] at H;have c7b0:(a1_0 == t162)=true:=beq_iff_eq.mpr c7;have c7b1:(a1_0 != t162)=false:=bne_eq_false_iff_eq.mpr c7;clear c7;obtain rfl:=Option.some.inj H
    go_enter Tryz.func121,Tryz.ntmps121
    go_wp2_with (first | ((with_reducible refine gate_dst (N:=3) rfl ?_);refine box_event ?hg (N:=3) ?hd (cs:=#[.int .i64 a1_0,.int .i64 a1_1,.int .i64 a1_2,.string a1_3]) (t:=52) ?hr ?_;(case hd=>rfl);(case hg=>rfl);(case hr=>(go_simp;done));intro gb161 hg w8 hbox hb;have n0_:=a_ (below_step HB.out hb);have n1_:=a_ (hbox);have n2_:=a_ ((by rw [hg];exact (below_size HB.out):w.heap.size ≤ gb161));have n3_:=a_ ((by rw [hg];exact (below_size HB.out):w.heap.size ≤ gb161));clear HB;have HB:=n0_;have BK161:=n1_;have GW161:=n2_;have GE161:=n3_;clear n0_ n1_ n2_ n3_;clear hb hbox hg) | ((with_reducible refine gate_callee (f:=136) rfl ?_);refine goesL_ (some 7) rfl rfl Tryz.func136 (by kernel_rfl) rfl #[.string a0] rfl (by (try simp only [List.map_toArray,List.map_cons,List.map_nil]);rfl) ?_;(with_reducible refine (spec_MajorOf.calls k a0 t162 _ A3.out).mono ?_);rintro e w9 ⟨rfl,hb⟩;refine ⟨_,rfl,?_⟩;have n0_:=a_ (blk_below (g:=gb161) (o:=.cells #[.int .i64 a1_0,.int .i64 a1_1,.int .i64 a1_2,.string a1_3] 52 (0,0)) (by exact BK161.out) hb);have n1_:=a_ (below_step HB.out hb);clear BK161;clear HB;have BK161:=n0_;have HB:=n1_;clear n0_ n1_;(try clear hb);have hcz10_0:w9.cell? ⟨gb161,0,none⟩=some (.int .i64 a1_0):=(blk_cell BK161.out 0).trans rfl;have hcz10_1:w9.cell? ⟨gb161,1,none⟩=some (.int .i64 a1_1):=(blk_cell BK161.out 1).trans rfl;have hcz10_2:w9.cell? ⟨gb161,2,none⟩=some (.int .i64 a1_2):=(blk_cell BK161.out 2).trans rfl;have hcz10_3:w9.cell? ⟨gb161,3,none⟩=some (.string a1_3):=(blk_cell BK161.out 3).trans rfl;have hfz10_0:=blk_frozen BK161.out 0;have hfz10_1:=blk_frozen BK161.out 1;have hfz10_2:=blk_frozen BK161.out 2;have hfz10_3:=blk_frozen BK161.out 3) | (go_at_call 159;(with_reducible refine (spec_VersionOk.calls k a1_0 a1_1 a1_2 a1_3 true _ A5.out).mono ?_);rintro e w11 ⟨rfl,hb⟩;have n0_:=a_ (blk_below (g:=gb161) (o:=.cells #[.int .i64 a1_0,.int .i64 a1_1,.int .i64 a1_2,.string a1_3] 52 (0,0)) (by exact BK161.out) hb);have n1_:=a_ (below_step HB.out hb);clear BK161;clear HB;have BK161:=n0_;have HB:=n1_;clear n0_ n1_;(try clear hb);have hcz12_0:w11.cell? ⟨gb161,0,none⟩=some (.int .i64 a1_0):=(blk_cell BK161.out 0).trans rfl;have hcz12_1:w11.cell? ⟨gb161,1,none⟩=some (.int .i64 a1_1):=(blk_cell BK161.out 1).trans rfl;have hcz12_2:w11.cell? ⟨gb161,2,none⟩=some (.int .i64 a1_2):=(blk_cell BK161.out 2).trans rfl;have hcz12_3:w11.cell? ⟨gb161,3,none⟩=some (.string a1_3):=(blk_cell BK161.out 3).trans rfl;have hfz12_0:=blk_frozen BK161.out 0;have hfz12_1:=blk_frozen BK161.out 1;have hfz12_2:=blk_frozen BK161.out 2;have hfz12_3:=blk_frozen BK161.out 3))
    go_ret
    exact ⟨by rfl,by exact HB.out⟩
   ·rw [if_neg c7] at H;have c7b0:(a1_0 == t162)=false:=beq_eq_false_iff_ne.mpr c7;have c7b1:(a1_0 != t162)=true:=bne_iff_ne.mpr c7
    by_cases c13:t162=1
    ·rw [if_pos c13] at H;have c13b0:(t162 == 1)=true:=beq_iff_eq.mpr c13;have c13b1:(t162 != 1)=false:=bne_eq_false_iff_eq.mpr c13;clear c13;obtain rfl:=Option.some.inj H
     go_enter Tryz.func121,Tryz.ntmps121
     go_wp2_with (first | ((with_reducible refine gate_dst (N:=3) rfl ?_);refine box_event ?hg (N:=3) ?hd (cs:=#[.int .i64 a1_0,.int .i64 a1_1,.int .i64 a1_2,.string a1_3]) (t:=52) ?hr ?_;(case hd=>rfl);(case hg=>rfl);(case hr=>(go_simp;done));intro gb161 hg w14 hbox hb;have n0_:=a_ (below_step HB.out hb);have n1_:=a_ (hbox);have n2_:=a_ ((by rw [hg];exact (below_size HB.out):w.heap.size ≤ gb161));have n3_:=a_ ((by rw [hg];exact (below_size HB.out):w.heap.size ≤ gb161));clear HB;have HB:=n0_;have BK161:=n1_;have GW161:=n2_;have GE161:=n3_;clear n0_ n1_ n2_ n3_;clear hb hbox hg) | ((with_reducible refine gate_callee (f:=136) rfl ?_);refine goesL_ (some 7) rfl rfl Tryz.func136 (by kernel_rfl) rfl #[.string a0] rfl (by (try simp only [List.map_toArray,List.map_cons,List.map_nil]);rfl) ?_;(with_reducible refine (spec_MajorOf.calls k a0 t162 _ A3.out).mono ?_);rintro e w15 ⟨rfl,hb⟩;refine ⟨_,rfl,?_⟩;have n0_:=a_ (blk_below (g:=gb161) (o:=.cells #[.int .i64 a1_0,.int .i64 a1_1,.int .i64 a1_2,.string a1_3] 52 (0,0)) (by exact BK161.out) hb);have n1_:=a_ (below_step HB.out hb);clear BK161;clear HB;have BK161:=n0_;have HB:=n1_;clear n0_ n1_;(try clear hb);have hcz16_0:w15.cell? ⟨gb161,0,none⟩=some (.int .i64 a1_0):=(blk_cell BK161.out 0).trans rfl;have hcz16_1:w15.cell? ⟨gb161,1,none⟩=some (.int .i64 a1_1):=(blk_cell BK161.out 1).trans rfl;have hcz16_2:w15.cell? ⟨gb161,2,none⟩=some (.int .i64 a1_2):=(blk_cell BK161.out 2).trans rfl;have hcz16_3:w15.cell? ⟨gb161,3,none⟩=some (.string a1_3):=(blk_cell BK161.out 3).trans rfl;have hfz16_0:=blk_frozen BK161.out 0;have hfz16_1:=blk_frozen BK161.out 1;have hfz16_2:=blk_frozen BK161.out 2;have hfz16_3:=blk_frozen BK161.out 3) | (go_at_call 159;(with_reducible refine (spec_VersionOk.calls k a1_0 a1_1 a1_2 a1_3 true _ A5.out).mono ?_);rintro e w17 ⟨rfl,hb⟩;have n0_:=a_ (blk_below (g:=gb161) (o:=.cells #[.int .i64 a1_0,.int .i64 a1_1,.int .i64 a1_2,.string a1_3] 52 (0,0)) (by exact BK161.out) hb);have n1_:=a_ (below_step HB.out hb);clear BK161;clear HB;have BK161:=n0_;have HB:=n1_;clear n0_ n1_;(try clear hb);have hcz18_0:w17.cell? ⟨gb161,0,none⟩=some (.int .i64 a1_0):=(blk_cell BK161.out 0).trans rfl;have hcz18_1:w17.cell? ⟨gb161,1,none⟩=some (.int .i64 a1_1):=(blk_cell BK161.out 1).trans rfl;have hcz18_2:w17.cell? ⟨gb161,2,none⟩=some (.int .i64 a1_2):=(blk_cell BK161.out 2).trans rfl;have hcz18_3:w17.cell? ⟨gb161,3,none⟩=some (.string a1_3):=(blk_cell BK161.out 3).trans rfl;have hfz18_0:=blk_frozen BK161.out 0;have hfz18_1:=blk_frozen BK161.out 1;have hfz18_2:=blk_frozen BK161.out 2;have hfz18_3:=blk_frozen BK161.out 3))
     go_ret
     exact ⟨by rfl,by exact HB.out⟩
    ·rw [if_neg c13] at H;have c13b0:(t162 == 1)=false:=beq_eq_false_iff_ne.mpr c13;have c13b1:(t162 != 1)=true:=bne_iff_ne.mpr c13;obtain rfl:=Option.some.inj H
     go_enter Tryz.func121,Tryz.ntmps121
     go_wp2_with (first | ((with_reducible refine gate_dst (N:=3) rfl ?_);refine box_event ?hg (N:=3) ?hd (cs:=#[.int .i64 a1_0,.int .i64 a1_1,.int .i64 a1_2,.string a1_3]) (t:=52) ?hr ?_;(case hd=>rfl);(case hg=>rfl);(case hr=>(go_simp;done));intro gb161 hg w19 hbox hb;have n0_:=a_ (below_step HB.out hb);have n1_:=a_ (hbox);have n2_:=a_ ((by rw [hg];exact (below_size HB.out):w.heap.size ≤ gb161));have n3_:=a_ ((by rw [hg];exact (below_size HB.out):w.heap.size ≤ gb161));clear HB;have HB:=n0_;have BK161:=n1_;have GW161:=n2_;have GE161:=n3_;clear n0_ n1_ n2_ n3_;clear hb hbox hg) | ((with_reducible refine gate_callee (f:=136) rfl ?_);refine goesL_ (some 7) rfl rfl Tryz.func136 (by kernel_rfl) rfl #[.string a0] rfl (by (try simp only [List.map_toArray,List.map_cons,List.map_nil]);rfl) ?_;(with_reducible refine (spec_MajorOf.calls k a0 t162 _ A3.out).mono ?_);rintro e w20 ⟨rfl,hb⟩;refine ⟨_,rfl,?_⟩;have n0_:=a_ (blk_below (g:=gb161) (o:=.cells #[.int .i64 a1_0,.int .i64 a1_1,.int .i64 a1_2,.string a1_3] 52 (0,0)) (by exact BK161.out) hb);have n1_:=a_ (below_step HB.out hb);clear BK161;clear HB;have BK161:=n0_;have HB:=n1_;clear n0_ n1_;(try clear hb);have hcz21_0:w20.cell? ⟨gb161,0,none⟩=some (.int .i64 a1_0):=(blk_cell BK161.out 0).trans rfl;have hcz21_1:w20.cell? ⟨gb161,1,none⟩=some (.int .i64 a1_1):=(blk_cell BK161.out 1).trans rfl;have hcz21_2:w20.cell? ⟨gb161,2,none⟩=some (.int .i64 a1_2):=(blk_cell BK161.out 2).trans rfl;have hcz21_3:w20.cell? ⟨gb161,3,none⟩=some (.string a1_3):=(blk_cell BK161.out 3).trans rfl;have hfz21_0:=blk_frozen BK161.out 0;have hfz21_1:=blk_frozen BK161.out 1;have hfz21_2:=blk_frozen BK161.out 2;have hfz21_3:=blk_frozen BK161.out 3) | (go_at_call 159;(with_reducible refine (spec_VersionOk.calls k a1_0 a1_1 a1_2 a1_3 true _ A5.out).mono ?_);rintro e w22 ⟨rfl,hb⟩;have n0_:=a_ (blk_below (g:=gb161) (o:=.cells #[.int .i64 a1_0,.int .i64 a1_1,.int .i64 a1_2,.string a1_3] 52 (0,0)) (by exact BK161.out) hb);have n1_:=a_ (below_step HB.out hb);clear BK161;clear HB;have BK161:=n0_;have HB:=n1_;clear n0_ n1_;(try clear hb);have hcz23_0:w22.cell? ⟨gb161,0,none⟩=some (.int .i64 a1_0):=(blk_cell BK161.out 0).trans rfl;have hcz23_1:w22.cell? ⟨gb161,1,none⟩=some (.int .i64 a1_1):=(blk_cell BK161.out 1).trans rfl;have hcz23_2:w22.cell? ⟨gb161,2,none⟩=some (.int .i64 a1_2):=(blk_cell BK161.out 2).trans rfl;have hcz23_3:w22.cell? ⟨gb161,3,none⟩=some (.string a1_3):=(blk_cell BK161.out 3).trans rfl;have hfz23_0:=blk_frozen BK161.out 0;have hfz23_1:=blk_frozen BK161.out 1;have hfz23_2:=blk_frozen BK161.out 2;have hfz23_3:=blk_frozen BK161.out 3))
     go_ret
     exact ⟨by rfl,by exact HB.out⟩
  ·replace c6:=Bool.eq_false_iff.mpr c6;subst c6;have H1:(some false)=some r:=by rw [if_neg (show ¬ (false=true) by decide)] at H;exact H
   clear H;have H:=H1;clear H1;obtain rfl:=Option.some.inj H
   go_enter Tryz.func121,Tryz.ntmps121
   go_wp2_with (first | ((with_reducible refine gate_dst (N:=3) rfl ?_);refine box_event ?hg (N:=3) ?hd (cs:=#[.int .i64 a1_0,.int .i64 a1_1,.int .i64 a1_2,.string a1_3]) (t:=52) ?hr ?_;(case hd=>rfl);(case hg=>rfl);(case hr=>(go_simp;done));intro gb161 hg w24 hbox hb;have n0_:=a_ (below_step HB.out hb);have n1_:=a_ (hbox);have n2_:=a_ ((by rw [hg];exact (below_size HB.out):w.heap.size ≤ gb161));have n3_:=a_ ((by rw [hg];exact (below_size HB.out):w.heap.size ≤ gb161));clear HB;have HB:=n0_;have BK161:=n1_;have GW161:=n2_;have GE161:=n3_;clear n0_ n1_ n2_ n3_;clear hb hbox hg) | ((with_reducible refine gate_callee (f:=136) rfl ?_);refine goesL_ (some 7) rfl rfl Tryz.func136 (by kernel_rfl) rfl #[.string a0] rfl (by (try simp only [List.map_toArray,List.map_cons,List.map_nil]);rfl) ?_;(with_reducible refine (spec_MajorOf.calls k a0 t162 _ A3.out).mono ?_);rintro e w25 ⟨rfl,hb⟩;refine ⟨_,rfl,?_⟩;have n0_:=a_ (blk_below (g:=gb161) (o:=.cells #[.int .i64 a1_0,.int .i64 a1_1,.int .i64 a1_2,.string a1_3] 52 (0,0)) (by exact BK161.out) hb);have n1_:=a_ (below_step HB.out hb);clear BK161;clear HB;have BK161:=n0_;have HB:=n1_;clear n0_ n1_;(try clear hb);have hcz26_0:w25.cell? ⟨gb161,0,none⟩=some (.int .i64 a1_0):=(blk_cell BK161.out 0).trans rfl;have hcz26_1:w25.cell? ⟨gb161,1,none⟩=some (.int .i64 a1_1):=(blk_cell BK161.out 1).trans rfl;have hcz26_2:w25.cell? ⟨gb161,2,none⟩=some (.int .i64 a1_2):=(blk_cell BK161.out 2).trans rfl;have hcz26_3:w25.cell? ⟨gb161,3,none⟩=some (.string a1_3):=(blk_cell BK161.out 3).trans rfl;have hfz26_0:=blk_frozen BK161.out 0;have hfz26_1:=blk_frozen BK161.out 1;have hfz26_2:=blk_frozen BK161.out 2;have hfz26_3:=blk_frozen BK161.out 3) | (go_at_call 159;(with_reducible refine (spec_VersionOk.calls k a1_0 a1_1 a1_2 a1_3 false _ A5.out).mono ?_);rintro e w27 ⟨rfl,hb⟩;have n0_:=a_ (blk_below (g:=gb161) (o:=.cells #[.int .i64 a1_0,.int .i64 a1_1,.int .i64 a1_2,.string a1_3] 52 (0,0)) (by exact BK161.out) hb);have n1_:=a_ (below_step HB.out hb);clear BK161;clear HB;have BK161:=n0_;have HB:=n1_;clear n0_ n1_;(try clear hb)))
   go_ret
   exact ⟨by rfl,by exact HB.out⟩
 ·rw [if_neg c4] at H;have c4b0:decide (0 < t162)=false:=decide_eq_false c4;clear c4;obtain rfl:=Option.some.inj H
  go_enter Tryz.func121,Tryz.ntmps121
  go_wp2_with (first | ((with_reducible refine gate_dst (N:=3) rfl ?_);refine box_event ?hg (N:=3) ?hd (cs:=#[.int .i64 a1_0,.int .i64 a1_1,.int .i64 a1_2,.string a1_3]) (t:=52) ?hr ?_;(case hd=>rfl);(case hg=>rfl);(case hr=>(go_simp;done));intro gb161 hg w28 hbox hb;have n0_:=a_ (below_step HB.out hb);have n1_:=a_ (hbox);have n2_:=a_ ((by rw [hg];exact (below_size HB.out):w.heap.size ≤ gb161));have n3_:=a_ ((by rw [hg];exact (below_size HB.out):w.heap.size ≤ gb161));clear HB;have HB:=n0_;have BK161:=n1_;have GW161:=n2_;have GE161:=n3_;clear n0_ n1_ n2_ n3_;clear hb hbox hg) | ((with_reducible refine gate_callee (f:=136) rfl ?_);refine goesL_ (some 7) rfl rfl Tryz.func136 (by kernel_rfl) rfl #[.string a0] rfl (by (try simp only [List.map_toArray,List.map_cons,List.map_nil]);rfl) ?_;(with_reducible refine (spec_MajorOf.calls k a0 t162 _ A3.out).mono ?_);rintro e w29 ⟨rfl,hb⟩;refine ⟨_,rfl,?_⟩;have n0_:=a_ (blk_below (g:=gb161) (o:=.cells #[.int .i64 a1_0,.int .i64 a1_1,.int .i64 a1_2,.string a1_3] 52 (0,0)) (by exact BK161.out) hb);have n1_:=a_ (below_step HB.out hb);clear BK161;clear HB;have BK161:=n0_;have HB:=n1_;clear n0_ n1_;(try clear hb)))
  go_ret
  exact ⟨by rfl,by exact HB.out⟩
end Go.Proofs.YtfpdikledfhcaaaGreatDoor.PFnExactClientOk
