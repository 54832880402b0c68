import Derived.Test.YtmkdeknpphimbaaCVoMkVersionsOf
import Derived.Test.YtmkdeknpphimbaaCVoOwn
namespace Go.Proofs.Ytmkdeknpphimbaa.PFnExactVersionsOf
open Go Go.RowKit Go.Proofs.YtmkdeknpphimbaaW.PrintWords Go.Proofs.YtmkdeknpphimbaaW.PrintLast Go.Proofs.YtmkdeknpphimbaaW.PrintMore Go.Proofs.Ytmkdeknpphimbaa
set_option linter.unusedVariables false
set_option linter.unusedSimpArgs false
set_option maxHeartbeats 8000000 in
set_option maxRecDepth 100000 in
theorem big0 (l0 : List S72) (A0 : Option Addr) (c0 : Nat) (b : ByteArray) (w : World) (hr0 : Kd.C k72 w A0 l0.length l0) (hc0 : l0.length ≤ c0) (d0 : decide ((1048576 : Int) < (b.size : Int)) = true) :
    Calls Try.prog 4 #[.slice A0 l0.length c0, .string b] w fun e w' => e = .returned (.bool true) ∧ Below w.heap.size w w' := by
  have HR0 := Aside0.mk hr0
  have HC0 := Aside0.mk hc0
  clear hr0 hc0
  have HB0 := Aside0.mk (Below.refl w.heap.size w)
  go_enter Try.func4, Try.ntmps4
  go_wp2
  go_ret
  exact ⟨rfl, HB0.out⟩
set_option maxHeartbeats 8000000 in
set_option maxRecDepth 100000 in
theorem big1 (l0 : List S72) (A0 : Option Addr) (c0 : Nat) (b : ByteArray) (w : World) (hr0 : Kd.C k72 w A0 l0.length l0) (hc0 : l0.length ≤ c0) (k1 : Nat) (s1 : Int) (d0 : decide ((1048576 : Int) < (b.size : Int)) = false) (e1 : laws_szEntryS.f k1 l0 1048576 = some s1) (d1 : decide (s1 < 0) = true) :
    Calls Try.prog 4 #[.slice A0 l0.length c0, .string b] w fun e w' => e = .returned (.bool true) ∧ Below w.heap.size w w' := by
  have HR0 := Aside0.mk hr0
  have HC0 := Aside0.mk hc0
  have E1 := Aside0.mk e1
  clear hr0 hc0 e1
  have HB0 := Aside0.mk (Below.refl w.heap.size w)
  go_enter Try.func4, Try.ntmps4
  go_wp2_with (fail)
  (with_reducible refine (laws_szEntryS.calls k1 _ _ l0 1048576 s1 w (Kd.C_below HR0.out HB0.out) HC0.out E1.out).mono ?_)
  rintro e w1 ⟨rfl, hb⟩
  have HB2 := Aside0.mk (below_step HB0.out hb)
  have Z3 := Aside0.mk hb.size
  clear HB0 hb
  go_wp2
  go_ret
  exact ⟨rfl, HB2.out⟩
set_option maxHeartbeats 8000000 in
set_option maxRecDepth 100000 in
theorem good (l0 : List S72) (A0 : Option Addr) (c0 : Nat) (b : ByteArray) (w : World) (hr0 : Kd.C k72 w A0 l0.length l0) (hc0 : l0.length ≤ c0) (k1 k3 k5 k6 k7 k8 k11 k12 : Nat) (s1 m0 mg : Int) (x0 : List S46) (g yg : List S44) (e1 : laws_szEntryS.f k1 l0 1048576 = some s1) (e3 : laws_toEntryS.f k3 l0 = some x0) (e5 : spec_VersionsOf.f k5 x0 b = some g) (e6 : impl_VersionsOf.f k6 x0 b = some g) (e7 : laws_eqVersionS.f k7 g g = some true) (e8 : laws_eqEntryS.f k8 x0 x0 = some true) (e11 : laws_markVersionS.f k11 g 1 = some (mg, yg)) (e12 : laws_heldVersionS.f k12 yg 1 = some mg) (e13 : m0 = 1 + cnt x0) (e14 : m0 ≤ 4611686018427387904) (e15 : x0.length ≤ 281474976710656) (e17 : yg.length = g.length) (e16 : ∀ i, (el x0 i).f2.length ≤ 281474976710656) (d0 : decide ((1048576 : Int) < (b.size : Int)) = false) (d1 : decide (s1 < 0) = false) (d3 : decide (m0 < 0) = false) (d4 : decide (mg < 0) = false) :
    Calls Try.prog 4 #[.slice A0 l0.length c0, .string b] w fun e w' => e = .returned (.bool true) ∧ Below w.heap.size w w' := by
  have HR0 := Aside0.mk hr0
  have HC0 := Aside0.mk hc0
  have E1 := Aside0.mk e1
  have E3 := Aside0.mk e3
  have E5 := Aside0.mk e5
  have E6 := Aside0.mk e6
  have E7 := Aside0.mk e7
  have E8 := Aside0.mk e8
  have E11 := Aside0.mk e11
  have E12 := Aside0.mk e12
  have E13 := Aside0.mk e13
  have E14 := Aside0.mk e14
  have E15 := Aside0.mk e15
  have E17 := Aside0.mk e17
  have E16 := Aside0.mk e16
  clear hr0 hc0 e1 e3 e5 e6 e7 e8 e11 e12 e13 e14 e15 e17 e16
  have HB0 := Aside0.mk (Below.refl w.heap.size w)
  go_enter Try.func4, Try.ntmps4
  go_wp2_with (fail)
  (with_reducible refine (laws_szEntryS.calls k1 _ _ l0 1048576 s1 w (Kd.C_below HR0.out HB0.out) HC0.out E1.out).mono ?_)
  rintro e w1 ⟨rfl, hb⟩
  have HB2 := Aside0.mk (below_step HB0.out hb)
  have Z3 := Aside0.mk hb.size
  clear HB0 hb
  go_wp2_with (fail)
  (with_reducible refine (laws_toEntryS.calls k3 _ _ l0 x0 w1 (Kd.C_below HR0.out HB2.out) HC0.out E3.out).mono ?_)
  rintro e w4 ⟨v5, rfl, hv, hb⟩
  obtain ⟨Av5, cv5, rfl, -, -⟩ := Kd.S_reads hv
  have O6 := Aside0.mk (Own.S_mk HB2.out hv)
  clear hv
  have HB7 := Aside0.mk (below_step HB2.out hb)
  have Z8 := Aside0.mk hb.size
  clear HB2 hb
  go_wp2_with (fail)
  (with_reducible refine (spec_VersionsOf.calls k5 _ _ x0 b g w4 ((Kd.S_reads' O6.out).2.2) ((Kd.S_reads' O6.out).2.1) E5.out).mono ?_)
  rintro e w9 ⟨v10, rfl, hv, hb⟩
  obtain ⟨Av10, cv10, rfl, -, -⟩ := Kd.R_reads hv
  have O11 := Aside0.mk (Own.R_mk HB7.out hv)
  clear hv
  have HB12 := Aside0.mk (below_step HB7.out hb)
  have Z13 := Aside0.mk hb.size
  have O14 := Aside0.mk (Kd.S_below O6.out hb)
  clear HB7 O6 hb
  clear O14
  go_wp2_with (fail)
  (with_reducible refine (laws_toEntryS.calls k3 _ _ l0 x0 w9 (Kd.C_below HR0.out HB12.out) HC0.out E3.out).mono ?_)
  rintro e w15 ⟨v16, rfl, hv, hb⟩
  obtain ⟨Av16, cv16, rfl, -, -⟩ := Kd.S_reads hv
  have O17 := Aside0.mk (Own.S_mk HB12.out hv)
  clear hv
  have HB18 := Aside0.mk (below_step HB12.out hb)
  have Z19 := Aside0.mk hb.size
  have O20 := Aside0.mk (Kd.R_below O11.out hb)
  clear HB12 O11 hb
  go_wp2_with (fail)
  (with_reducible refine (impl_VersionsOf.calls k6 _ _ x0 b g w15 ((Kd.S_reads' O17.out).2.2) ((Kd.S_reads' O17.out).2.1) E6.out).mono ?_)
  rintro e w21 ⟨v22, rfl, hv, hb⟩
  obtain ⟨Av22, cv22, rfl, -, -⟩ := Kd.R_reads hv
  have O23 := Aside0.mk (Own.R_mk HB18.out hv)
  clear hv
  have HB24 := Aside0.mk (below_step HB18.out hb)
  have Z25 := Aside0.mk hb.size
  have O26 := Aside0.mk (Kd.R_below O20.out hb)
  have O27 := Aside0.mk (Kd.S_below O17.out hb)
  clear HB18 O20 O17 hb
  go_wp2_with (fail)
  (with_reducible refine (laws_eqVersionS.calls k7 _ _ g _ _ g true w21 ((Kd.R_reads' O23.out).2.2) ((Kd.R_reads' O23.out).2.1) ((Kd.R_reads' O26.out).2.2) ((Kd.R_reads' O26.out).2.1) E7.out).mono ?_)
  rintro e w28 ⟨rfl, hb⟩
  have HB29 := Aside0.mk (below_step HB24.out hb)
  have Z30 := Aside0.mk hb.size
  have O31 := Aside0.mk (Kd.R_below O26.out hb)
  have O32 := Aside0.mk (Kd.S_below O27.out hb)
  have O33 := Aside0.mk (Kd.R_below O23.out hb)
  clear HB24 O26 O27 O23 hb
  go_wp2_with (fail)
  (with_reducible refine (laws_toEntryS.calls k3 _ _ l0 x0 w28 (Kd.C_below HR0.out HB29.out) HC0.out E3.out).mono ?_)
  rintro e w34 ⟨v35, rfl, hv, hb⟩
  obtain ⟨Av35, cv35, rfl, -, -⟩ := Kd.S_reads hv
  have O36 := Aside0.mk (Own.S_mk HB29.out hv)
  clear hv
  have HB37 := Aside0.mk (below_step HB29.out hb)
  have Z38 := Aside0.mk hb.size
  have O39 := Aside0.mk (Kd.R_below O31.out hb)
  have O40 := Aside0.mk (Kd.S_below O32.out hb)
  have O41 := Aside0.mk (Kd.R_below O33.out hb)
  clear HB29 O31 O32 O33 hb
  go_wp2_with (fail)
  (with_reducible refine (laws_eqEntryS.calls k8 _ _ x0 _ _ x0 true w34 ((Kd.S_reads' O40.out).2.2) ((Kd.S_reads' O40.out).2.1) ((Kd.S_reads' O36.out).2.2) ((Kd.S_reads' O36.out).2.1) E8.out).mono ?_)
  rintro e w42 ⟨rfl, hb⟩
  have HB43 := Aside0.mk (below_step HB37.out hb)
  have Z44 := Aside0.mk hb.size
  have O45 := Aside0.mk (Kd.R_below O39.out hb)
  have O46 := Aside0.mk (Kd.S_below O40.out hb)
  have O47 := Aside0.mk (Kd.R_below O41.out hb)
  have O48 := Aside0.mk (Kd.S_below O36.out hb)
  clear HB37 O39 O40 O41 O36 hb
  clear O48
  go_wp2_with (fail)
  (with_reducible refine (markEntryS_to (Own.In w9.heap.size w15.heap.size) _ x0 1 w _ HB43.out O46.out E13.out (by omega) E14.out E15.out E16.out).mono ?_)
  rintro e w49 ⟨rfl, hB, hK⟩
  have Z50 := Aside0.mk hK.1
  have O51 := Aside0.mk (Own.R_keep O45.out hK (by have := Z3.out; have := Z8.out; have := Z13.out; have := Z19.out; have := Z25.out; have := Z30.out; have := Z38.out; have := Z44.out; omega))
  have O52 := Aside0.mk (Own.R_keep O47.out hK (by have := Z3.out; have := Z8.out; have := Z13.out; have := Z19.out; have := Z25.out; have := Z30.out; have := Z38.out; have := Z44.out; omega))
  clear O45 O47
  have HB53 := Aside0.mk hB
  clear O46 HB43 hB hK
  go_wp2_with (fail)
  (with_reducible refine (laws_eqVersionS.calls k7 _ _ g _ _ g true w49 ((Kd.R_reads' O52.out).2.2) ((Kd.R_reads' O52.out).2.1) ((Kd.R_reads' O51.out).2.2) ((Kd.R_reads' O51.out).2.1) E7.out).mono ?_)
  rintro e w54 ⟨rfl, hb⟩
  have HB55 := Aside0.mk (below_step HB53.out hb)
  have Z56 := Aside0.mk hb.size
  have O57 := Aside0.mk (Kd.R_below O51.out hb)
  have O58 := Aside0.mk (Kd.R_below O52.out hb)
  clear HB53 O51 O52 hb
  go_wp2_with (fail)
  (with_reducible refine (laws_markVersionS.calls k11 (Own.In w15.heap.size w21.heap.size) _ g 1 mg yg w _ HB55.out O58.out E11.out).mono ?_)
  rintro e w59 ⟨rfl, hR, hB, hK⟩
  have O60 := Aside0.mk (Own.R_marked rfl O58.out hR)
  have Z61 := Aside0.mk hK.1
  have O62 := Aside0.mk (Own.R_keep O57.out hK (by have := Z3.out; have := Z8.out; have := Z13.out; have := Z19.out; have := Z25.out; have := Z30.out; have := Z38.out; have := Z44.out; have := Z50.out; have := Z56.out; omega))
  clear O57
  have HB63 := Aside0.mk hB
  clear O58 HB55 hR hB hK
  go_wp2_with (fail)
  have hq_ := laws_heldVersionS.calls k12 _ _ yg 1 mg w59 ((Kd.R_reads' O60.out).2.2) (by rw [E17.out]; exact (Kd.R_reads' O60.out).2.1) E12.out
  rw [E17.out] at hq_
  (with_reducible refine hq_.mono ?_)
  clear hq_
  rintro e w64 ⟨rfl, hb⟩
  have HB65 := Aside0.mk (below_step HB63.out hb)
  have Z66 := Aside0.mk hb.size
  have O67 := Aside0.mk (Kd.R_below O62.out hb)
  have O68 := Aside0.mk (Kd.R_below O60.out hb)
  clear HB63 O62 O60 hb
  go_wp2_with (fail)
  (with_reducible refine (laws_toEntryS.calls k3 _ _ l0 x0 w64 (Kd.C_below HR0.out HB65.out) HC0.out E3.out).mono ?_)
  rintro e w69 ⟨v70, rfl, hv, hb⟩
  obtain ⟨Av70, cv70, rfl, -, -⟩ := Kd.S_reads hv
  have O71 := Aside0.mk (Own.S_mk HB65.out hv)
  clear hv
  have HB72 := Aside0.mk (below_step HB65.out hb)
  have Z73 := Aside0.mk hb.size
  have O74 := Aside0.mk (Kd.R_below O67.out hb)
  have O75 := Aside0.mk (Kd.R_below O68.out hb)
  clear HB65 O67 O68 hb
  go_wp2_with (fail)
  (with_reducible refine (impl_VersionsOf.calls k6 _ _ x0 b g w69 ((Kd.S_reads' O71.out).2.2) ((Kd.S_reads' O71.out).2.1) E6.out).mono ?_)
  rintro e w76 ⟨v77, rfl, hv, hb⟩
  obtain ⟨Av77, cv77, rfl, -, -⟩ := Kd.R_reads hv
  have O78 := Aside0.mk (Own.R_mk HB72.out hv)
  clear hv
  have HB79 := Aside0.mk (below_step HB72.out hb)
  have Z80 := Aside0.mk hb.size
  have O81 := Aside0.mk (Kd.R_below O74.out hb)
  have O82 := Aside0.mk (Kd.R_below O75.out hb)
  have O83 := Aside0.mk (Kd.S_below O71.out hb)
  clear HB72 O74 O75 O71 hb
  clear O83
  go_wp2_with (fail)
  (with_reducible refine (laws_eqVersionS.calls k7 _ _ g _ _ g true w76 ((Kd.R_reads' O78.out).2.2) ((Kd.R_reads' O78.out).2.1) ((Kd.R_reads' O81.out).2.2) ((Kd.R_reads' O81.out).2.1) E7.out).mono ?_)
  rintro e w84 ⟨rfl, hb⟩
  have HB85 := Aside0.mk (below_step HB79.out hb)
  have Z86 := Aside0.mk hb.size
  have O87 := Aside0.mk (Kd.R_below O81.out hb)
  have O88 := Aside0.mk (Kd.R_below O82.out hb)
  have O89 := Aside0.mk (Kd.R_below O78.out hb)
  clear HB79 O81 O82 O78 hb
  go_wp2_with (fail)
  have hq_ := laws_heldVersionS.calls k12 _ _ yg 1 mg w84 ((Kd.R_reads' O88.out).2.2) (by rw [E17.out]; exact (Kd.R_reads' O88.out).2.1) E12.out
  rw [E17.out] at hq_
  (with_reducible refine hq_.mono ?_)
  clear hq_
  rintro e w90 ⟨rfl, hb⟩
  have HB91 := Aside0.mk (below_step HB85.out hb)
  have Z92 := Aside0.mk hb.size
  have O93 := Aside0.mk (Kd.R_below O87.out hb)
  have O94 := Aside0.mk (Kd.R_below O88.out hb)
  have O95 := Aside0.mk (Kd.R_below O89.out hb)
  clear HB85 O87 O88 O89 hb
  go_wp2
  go_ret
  exact ⟨rfl, HB91.out⟩
end Go.Proofs.Ytmkdeknpphimbaa.PFnExactVersionsOf
