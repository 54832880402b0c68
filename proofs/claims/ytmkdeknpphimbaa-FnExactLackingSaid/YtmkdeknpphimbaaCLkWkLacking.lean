import Derived.Test.YtmkdeknpphimbaaCLkMkLacking
import Derived.Test.YtmkdeknpphimbaaCLkOwn
namespace Go.Proofs.Ytmkdeknpphimbaa.PFnExactLacking
open Go Go.RowKit Go.Proofs.YtmkdeknpphimbaaW.PrintWords Go.Proofs.YtmkdeknpphimbaaW.PrintLast Go.Proofs.YtmkdeknpphimbaaW.PrintMore Go.Proofs.Ytmkdeknpphimbaa
set_option linter.unusedVariables false
set_option linter.unusedSimpArgs false
set_option maxHeartbeats 8000000 in
set_option maxRecDepth 100000 in
theorem big1 (l0 : List S72) (l1 : List S75) (A0 A1 : Option Addr) (c0 c1 : Nat) (w : World) (hr0 : Kd.C k72 w A0 l0.length l0) (hc0 : l0.length ≤ c0) (hr1 : Kd.C k75 w A1 l1.length l1) (hc1 : l1.length ≤ c1) (k1 : Nat) (s1 : Int) (e1 : laws_szEntryS.f k1 l0 1048576 = some s1) (d1 : decide (s1 < 0) = true) :
    Calls Try.prog 3 #[.slice A0 l0.length c0, .slice A1 l1.length c1] w fun e w' => e = .returned (.bool true) ∧ Below w.heap.size w w' := by
  have HR0 := Aside0.mk hr0
  have HC0 := Aside0.mk hc0
  have HR1 := Aside0.mk hr1
  have HC1 := Aside0.mk hc1
  have E1 := Aside0.mk e1
  clear hr0 hc0 hr1 hc1 e1
  have HB0 := Aside0.mk (Below.refl w.heap.size w)
  go_enter Try.func3, Try.ntmps3
  go_wp2_with (fail)
  (with_reducible refine (laws_szEntryS.calls k1 _ _ l0 1048576 s1 w (Kd.C_below HR0.out HB0.out) HC0.out E1.out).mono ?_)
  rintro e w1 ⟨rfl, hb⟩
  have HB2 := Aside0.mk (below_step HB0.out hb)
  have Z3 := Aside0.mk hb.size
  clear HB0 hb
  go_wp2
  go_ret
  exact ⟨rfl, HB2.out⟩
set_option maxHeartbeats 8000000 in
set_option maxRecDepth 100000 in
theorem big2 (l0 : List S72) (l1 : List S75) (A0 A1 : Option Addr) (c0 c1 : Nat) (w : World) (hr0 : Kd.C k72 w A0 l0.length l0) (hc0 : l0.length ≤ c0) (hr1 : Kd.C k75 w A1 l1.length l1) (hc1 : l1.length ≤ c1) (k1 k2 : Nat) (s1 s2 : Int) (e1 : laws_szEntryS.f k1 l0 1048576 = some s1) (d1 : decide (s1 < 0) = false) (e2 : laws_szNeedS.f k2 l1 s1 = some s2) (d2 : decide (s2 < 0) = true) :
    Calls Try.prog 3 #[.slice A0 l0.length c0, .slice A1 l1.length c1] w fun e w' => e = .returned (.bool true) ∧ Below w.heap.size w w' := by
  have HR0 := Aside0.mk hr0
  have HC0 := Aside0.mk hc0
  have HR1 := Aside0.mk hr1
  have HC1 := Aside0.mk hc1
  have E1 := Aside0.mk e1
  have E2 := Aside0.mk e2
  clear hr0 hc0 hr1 hc1 e1 e2
  have HB0 := Aside0.mk (Below.refl w.heap.size w)
  go_enter Try.func3, Try.ntmps3
  go_wp2_with (fail)
  (with_reducible refine (laws_szEntryS.calls k1 _ _ l0 1048576 s1 w (Kd.C_below HR0.out HB0.out) HC0.out E1.out).mono ?_)
  rintro e w1 ⟨rfl, hb⟩
  have HB2 := Aside0.mk (below_step HB0.out hb)
  have Z3 := Aside0.mk hb.size
  clear HB0 hb
  go_wp2_with (fail)
  (with_reducible refine (laws_szNeedS.calls k2 _ _ l1 s1 s2 w1 (Kd.C_below HR1.out HB2.out) HC1.out E2.out).mono ?_)
  rintro e w4 ⟨rfl, hb⟩
  have HB5 := Aside0.mk (below_step HB2.out hb)
  have Z6 := Aside0.mk hb.size
  clear HB2 hb
  go_wp2
  go_ret
  exact ⟨rfl, HB5.out⟩
set_option maxHeartbeats 8000000 in
set_option maxRecDepth 100000 in
theorem good (l0 : List S72) (l1 : List S75) (A0 A1 : Option Addr) (c0 c1 : Nat) (w : World) (hr0 : Kd.C k72 w A0 l0.length l0) (hc0 : l0.length ≤ c0) (hr1 : Kd.C k75 w A1 l1.length l1) (hc1 : l1.length ≤ c1) (k1 k2 k3 k4 k5 k6 k7 k8 k9 k10 k11 k12 : Nat) (s1 s2 m0 m1 mg : Int) (x0 : List S46) (x1 g y1 yg : List S78) (e1 : laws_szEntryS.f k1 l0 1048576 = some s1) (e2 : laws_szNeedS.f k2 l1 s1 = some s2) (e3 : laws_toEntryS.f k3 l0 = some x0) (e4 : laws_toNeedS.f k4 l1 = some x1) (e5 : spec_Lacking.f k5 x0 x1 = some g) (e6 : impl_Lacking.f k6 x0 x1 = some g) (e7 : laws_eqNeedS.f k7 g g = some true) (e8 : laws_eqEntryS.f k8 x0 x0 = some true) (e9 : laws_eqNeedS.f k9 x1 x1 = some true) (e10 : laws_markNeedS.f k10 x1 m0 = some (m1, y1)) (e11 : laws_markNeedS.f k11 g 1 = some (mg, yg)) (e12 : laws_heldNeedS.f k12 yg 1 = some mg) (e13 : m0 = 1 + cnt x0) (e14 : m0 ≤ 4611686018427387904) (e15 : x0.length ≤ 281474976710656) (e17 : yg.length = g.length) (e16 : ∀ i, (el x0 i).f2.length ≤ 281474976710656) (d1 : decide (s1 < 0) = false) (d2 : decide (s2 < 0) = false) (d3 : decide (m1 < 0) = false) (d4 : decide (mg < 0) = false) :
    Calls Try.prog 3 #[.slice A0 l0.length c0, .slice A1 l1.length c1] w fun e w' => e = .returned (.bool true) ∧ Below w.heap.size w w' := by
  have HR0 := Aside0.mk hr0
  have HC0 := Aside0.mk hc0
  have HR1 := Aside0.mk hr1
  have HC1 := Aside0.mk hc1
  have E1 := Aside0.mk e1
  have E2 := Aside0.mk e2
  have E3 := Aside0.mk e3
  have E4 := Aside0.mk e4
  have E5 := Aside0.mk e5
  have E6 := Aside0.mk e6
  have E7 := Aside0.mk e7
  have E8 := Aside0.mk e8
  have E9 := Aside0.mk e9
  have E10 := Aside0.mk e10
  have E11 := Aside0.mk e11
  have E12 := Aside0.mk e12
  have E13 := Aside0.mk e13
  have E14 := Aside0.mk e14
  have E15 := Aside0.mk e15
  have E17 := Aside0.mk e17
  have E16 := Aside0.mk e16
  clear hr0 hc0 hr1 hc1 e1 e2 e3 e4 e5 e6 e7 e8 e9 e10 e11 e12 e13 e14 e15 e17 e16
  have HB0 := Aside0.mk (Below.refl w.heap.size w)
  go_enter Try.func3, Try.ntmps3
  go_wp2_with (fail)
  (with_reducible refine (laws_szEntryS.calls k1 _ _ l0 1048576 s1 w (Kd.C_below HR0.out HB0.out) HC0.out E1.out).mono ?_)
  rintro e w1 ⟨rfl, hb⟩
  have HB2 := Aside0.mk (below_step HB0.out hb)
  have Z3 := Aside0.mk hb.size
  clear HB0 hb
  go_wp2_with (fail)
  (with_reducible refine (laws_szNeedS.calls k2 _ _ l1 s1 s2 w1 (Kd.C_below HR1.out HB2.out) HC1.out E2.out).mono ?_)
  rintro e w4 ⟨rfl, hb⟩
  have HB5 := Aside0.mk (below_step HB2.out hb)
  have Z6 := Aside0.mk hb.size
  clear HB2 hb
  go_wp2_with (fail)
  (with_reducible refine (laws_toEntryS.calls k3 _ _ l0 x0 w4 (Kd.C_below HR0.out HB5.out) HC0.out E3.out).mono ?_)
  rintro e w7 ⟨v8, rfl, hv, hb⟩
  obtain ⟨Av8, cv8, rfl, -, -⟩ := Kd.S_reads hv
  have O9 := Aside0.mk (Own.S_mk HB5.out hv)
  clear hv
  have HB10 := Aside0.mk (below_step HB5.out hb)
  have Z11 := Aside0.mk hb.size
  clear HB5 hb
  go_wp2_with (fail)
  (with_reducible refine (laws_toNeedS.calls k4 _ _ l1 x1 w7 (Kd.C_below HR1.out HB10.out) HC1.out E4.out).mono ?_)
  rintro e w12 ⟨v13, rfl, hv, hb⟩
  obtain ⟨Av13, cv13, rfl, -, -⟩ := Kd.R_reads hv
  have O14 := Aside0.mk (Own.R_mk HB10.out hv)
  clear hv
  have HB15 := Aside0.mk (below_step HB10.out hb)
  have Z16 := Aside0.mk hb.size
  have O17 := Aside0.mk (Kd.S_below O9.out hb)
  clear HB10 O9 hb
  go_wp2_with (fail)
  (with_reducible refine (spec_Lacking.calls k5 _ _ x0 _ _ x1 g w12 ((Kd.S_reads' O17.out).2.2) ((Kd.S_reads' O17.out).2.1) ((Kd.R_reads' O14.out).2.2) ((Kd.R_reads' O14.out).2.1) E5.out).mono ?_)
  rintro e w18 ⟨v19, rfl, hv, hb⟩
  obtain ⟨Av19, cv19, rfl, -, -⟩ := Kd.R_reads hv
  have O20 := Aside0.mk (Own.R_mk HB15.out hv)
  clear hv
  have HB21 := Aside0.mk (below_step HB15.out hb)
  have Z22 := Aside0.mk hb.size
  have O23 := Aside0.mk (Kd.S_below O17.out hb)
  have O24 := Aside0.mk (Kd.R_below O14.out hb)
  clear HB15 O17 O14 hb
  clear O23
  clear O24
  go_wp2_with (fail)
  (with_reducible refine (laws_toEntryS.calls k3 _ _ l0 x0 w18 (Kd.C_below HR0.out HB21.out) HC0.out E3.out).mono ?_)
  rintro e w25 ⟨v26, rfl, hv, hb⟩
  obtain ⟨Av26, cv26, rfl, -, -⟩ := Kd.S_reads hv
  have O27 := Aside0.mk (Own.S_mk HB21.out hv)
  clear hv
  have HB28 := Aside0.mk (below_step HB21.out hb)
  have Z29 := Aside0.mk hb.size
  have O30 := Aside0.mk (Kd.R_below O20.out hb)
  clear HB21 O20 hb
  go_wp2_with (fail)
  (with_reducible refine (laws_toNeedS.calls k4 _ _ l1 x1 w25 (Kd.C_below HR1.out HB28.out) HC1.out E4.out).mono ?_)
  rintro e w31 ⟨v32, rfl, hv, hb⟩
  obtain ⟨Av32, cv32, rfl, -, -⟩ := Kd.R_reads hv
  have O33 := Aside0.mk (Own.R_mk HB28.out hv)
  clear hv
  have HB34 := Aside0.mk (below_step HB28.out hb)
  have Z35 := Aside0.mk hb.size
  have O36 := Aside0.mk (Kd.R_below O30.out hb)
  have O37 := Aside0.mk (Kd.S_below O27.out hb)
  clear HB28 O30 O27 hb
  go_wp2_with (fail)
  (with_reducible refine (impl_Lacking.calls k6 _ _ x0 _ _ x1 g w31 ((Kd.S_reads' O37.out).2.2) ((Kd.S_reads' O37.out).2.1) ((Kd.R_reads' O33.out).2.2) ((Kd.R_reads' O33.out).2.1) E6.out).mono ?_)
  rintro e w38 ⟨v39, rfl, hv, hb⟩
  obtain ⟨Av39, cv39, rfl, -, -⟩ := Kd.R_reads hv
  have O40 := Aside0.mk (Own.R_mk HB34.out hv)
  clear hv
  have HB41 := Aside0.mk (below_step HB34.out hb)
  have Z42 := Aside0.mk hb.size
  have O43 := Aside0.mk (Kd.R_below O36.out hb)
  have O44 := Aside0.mk (Kd.S_below O37.out hb)
  have O45 := Aside0.mk (Kd.R_below O33.out hb)
  clear HB34 O36 O37 O33 hb
  go_wp2_with (fail)
  (with_reducible refine (laws_eqNeedS.calls k7 _ _ g _ _ g true w38 ((Kd.R_reads' O40.out).2.2) ((Kd.R_reads' O40.out).2.1) ((Kd.R_reads' O43.out).2.2) ((Kd.R_reads' O43.out).2.1) E7.out).mono ?_)
  rintro e w46 ⟨rfl, hb⟩
  have HB47 := Aside0.mk (below_step HB41.out hb)
  have Z48 := Aside0.mk hb.size
  have O49 := Aside0.mk (Kd.R_below O43.out hb)
  have O50 := Aside0.mk (Kd.S_below O44.out hb)
  have O51 := Aside0.mk (Kd.R_below O45.out hb)
  have O52 := Aside0.mk (Kd.R_below O40.out hb)
  clear HB41 O43 O44 O45 O40 hb
  go_wp2_with (fail)
  (with_reducible refine (laws_toEntryS.calls k3 _ _ l0 x0 w46 (Kd.C_below HR0.out HB47.out) HC0.out E3.out).mono ?_)
  rintro e w53 ⟨v54, rfl, hv, hb⟩
  obtain ⟨Av54, cv54, rfl, -, -⟩ := Kd.S_reads hv
  have O55 := Aside0.mk (Own.S_mk HB47.out hv)
  clear hv
  have HB56 := Aside0.mk (below_step HB47.out hb)
  have Z57 := Aside0.mk hb.size
  have O58 := Aside0.mk (Kd.R_below O49.out hb)
  have O59 := Aside0.mk (Kd.S_below O50.out hb)
  have O60 := Aside0.mk (Kd.R_below O51.out hb)
  have O61 := Aside0.mk (Kd.R_below O52.out hb)
  clear HB47 O49 O50 O51 O52 hb
  go_wp2_with (fail)
  (with_reducible refine (laws_eqEntryS.calls k8 _ _ x0 _ _ x0 true w53 ((Kd.S_reads' O59.out).2.2) ((Kd.S_reads' O59.out).2.1) ((Kd.S_reads' O55.out).2.2) ((Kd.S_reads' O55.out).2.1) E8.out).mono ?_)
  rintro e w62 ⟨rfl, hb⟩
  have HB63 := Aside0.mk (below_step HB56.out hb)
  have Z64 := Aside0.mk hb.size
  have O65 := Aside0.mk (Kd.R_below O58.out hb)
  have O66 := Aside0.mk (Kd.S_below O59.out hb)
  have O67 := Aside0.mk (Kd.R_below O60.out hb)
  have O68 := Aside0.mk (Kd.R_below O61.out hb)
  have O69 := Aside0.mk (Kd.S_below O55.out hb)
  clear HB56 O58 O59 O60 O61 O55 hb
  clear O69
  go_wp2_with (fail)
  (with_reducible refine (laws_toNeedS.calls k4 _ _ l1 x1 w62 (Kd.C_below HR1.out HB63.out) HC1.out E4.out).mono ?_)
  rintro e w70 ⟨v71, rfl, hv, hb⟩
  obtain ⟨Av71, cv71, rfl, -, -⟩ := Kd.R_reads hv
  have O72 := Aside0.mk (Own.R_mk HB63.out hv)
  clear hv
  have HB73 := Aside0.mk (below_step HB63.out hb)
  have Z74 := Aside0.mk hb.size
  have O75 := Aside0.mk (Kd.R_below O65.out hb)
  have O76 := Aside0.mk (Kd.S_below O66.out hb)
  have O77 := Aside0.mk (Kd.R_below O67.out hb)
  have O78 := Aside0.mk (Kd.R_below O68.out hb)
  clear HB63 O65 O66 O67 O68 hb
  go_wp2_with (fail)
  (with_reducible refine (laws_eqNeedS.calls k9 _ _ x1 _ _ x1 true w70 ((Kd.R_reads' O77.out).2.2) ((Kd.R_reads' O77.out).2.1) ((Kd.R_reads' O72.out).2.2) ((Kd.R_reads' O72.out).2.1) E9.out).mono ?_)
  rintro e w79 ⟨rfl, hb⟩
  have HB80 := Aside0.mk (below_step HB73.out hb)
  have Z81 := Aside0.mk hb.size
  have O82 := Aside0.mk (Kd.R_below O75.out hb)
  have O83 := Aside0.mk (Kd.S_below O76.out hb)
  have O84 := Aside0.mk (Kd.R_below O77.out hb)
  have O85 := Aside0.mk (Kd.R_below O78.out hb)
  have O86 := Aside0.mk (Kd.R_below O72.out hb)
  clear HB73 O75 O76 O77 O78 O72 hb
  clear O86
  go_wp2_with (fail)
  (with_reducible refine (markEntryS_to (Own.In w18.heap.size w25.heap.size) _ x0 1 w _ HB80.out O83.out E13.out (by omega) E14.out E15.out E16.out).mono ?_)
  rintro e w87 ⟨rfl, hB, hK⟩
  have Z88 := Aside0.mk hK.1
  have O89 := Aside0.mk (Own.R_keep O82.out hK (by have := Z3.out; have := Z6.out; have := Z11.out; have := Z16.out; have := Z22.out; have := Z29.out; have := Z35.out; have := Z42.out; have := Z48.out; have := Z57.out; have := Z64.out; have := Z74.out; have := Z81.out; omega))
  have O90 := Aside0.mk (Own.R_keep O84.out hK (by have := Z3.out; have := Z6.out; have := Z11.out; have := Z16.out; have := Z22.out; have := Z29.out; have := Z35.out; have := Z42.out; have := Z48.out; have := Z57.out; have := Z64.out; have := Z74.out; have := Z81.out; omega))
  have O91 := Aside0.mk (Own.R_keep O85.out hK (by have := Z3.out; have := Z6.out; have := Z11.out; have := Z16.out; have := Z22.out; have := Z29.out; have := Z35.out; have := Z42.out; have := Z48.out; have := Z57.out; have := Z64.out; have := Z74.out; have := Z81.out; omega))
  clear O82 O84 O85
  have HB92 := Aside0.mk hB
  clear O83 HB80 hB hK
  go_wp2_with (fail)
  (with_reducible refine (laws_markNeedS.calls k10 (Own.In w25.heap.size w31.heap.size) _ x1 m0 m1 y1 w _ HB92.out O90.out E10.out).mono ?_)
  rintro e w93 ⟨rfl, hR, hB, hK⟩
  have O94 := Aside0.mk (Own.R_marked rfl O90.out hR)
  have Z95 := Aside0.mk hK.1
  have O96 := Aside0.mk (Own.R_keep O89.out hK (by have := Z3.out; have := Z6.out; have := Z11.out; have := Z16.out; have := Z22.out; have := Z29.out; have := Z35.out; have := Z42.out; have := Z48.out; have := Z57.out; have := Z64.out; have := Z74.out; have := Z81.out; have := Z88.out; omega))
  have O97 := Aside0.mk (Own.R_keep O91.out hK (by have := Z3.out; have := Z6.out; have := Z11.out; have := Z16.out; have := Z22.out; have := Z29.out; have := Z35.out; have := Z42.out; have := Z48.out; have := Z57.out; have := Z64.out; have := Z74.out; have := Z81.out; have := Z88.out; omega))
  clear O89 O91
  have HB98 := Aside0.mk hB
  clear O90 HB92 hR hB hK
  clear O94
  go_wp2_with (fail)
  (with_reducible refine (laws_eqNeedS.calls k7 _ _ g _ _ g true w93 ((Kd.R_reads' O97.out).2.2) ((Kd.R_reads' O97.out).2.1) ((Kd.R_reads' O96.out).2.2) ((Kd.R_reads' O96.out).2.1) E7.out).mono ?_)
  rintro e w99 ⟨rfl, hb⟩
  have HB100 := Aside0.mk (below_step HB98.out hb)
  have Z101 := Aside0.mk hb.size
  have O102 := Aside0.mk (Kd.R_below O96.out hb)
  have O103 := Aside0.mk (Kd.R_below O97.out hb)
  clear HB98 O96 O97 hb
  go_wp2_with (fail)
  (with_reducible refine (laws_markNeedS.calls k11 (Own.In w31.heap.size w38.heap.size) _ g 1 mg yg w _ HB100.out O103.out E11.out).mono ?_)
  rintro e w104 ⟨rfl, hR, hB, hK⟩
  have O105 := Aside0.mk (Own.R_marked rfl O103.out hR)
  have Z106 := Aside0.mk hK.1
  have O107 := Aside0.mk (Own.R_keep O102.out hK (by have := Z3.out; have := Z6.out; have := Z11.out; have := Z16.out; have := Z22.out; have := Z29.out; have := Z35.out; have := Z42.out; have := Z48.out; have := Z57.out; have := Z64.out; have := Z74.out; have := Z81.out; have := Z88.out; have := Z95.out; have := Z101.out; omega))
  clear O102
  have HB108 := Aside0.mk hB
  clear O103 HB100 hR hB hK
  go_wp2_with (fail)
  have hq_ := laws_heldNeedS.calls k12 _ _ yg 1 mg w104 ((Kd.R_reads' O105.out).2.2) (by rw [E17.out]; exact (Kd.R_reads' O105.out).2.1) E12.out
  rw [E17.out] at hq_
  (with_reducible refine hq_.mono ?_)
  clear hq_
  rintro e w109 ⟨rfl, hb⟩
  have HB110 := Aside0.mk (below_step HB108.out hb)
  have Z111 := Aside0.mk hb.size
  have O112 := Aside0.mk (Kd.R_below O107.out hb)
  have O113 := Aside0.mk (Kd.R_below O105.out hb)
  clear HB108 O107 O105 hb
  go_wp2_with (fail)
  (with_reducible refine (laws_toEntryS.calls k3 _ _ l0 x0 w109 (Kd.C_below HR0.out HB110.out) HC0.out E3.out).mono ?_)
  rintro e w114 ⟨v115, rfl, hv, hb⟩
  obtain ⟨Av115, cv115, rfl, -, -⟩ := Kd.S_reads hv
  have O116 := Aside0.mk (Own.S_mk HB110.out hv)
  clear hv
  have HB117 := Aside0.mk (below_step HB110.out hb)
  have Z118 := Aside0.mk hb.size
  have O119 := Aside0.mk (Kd.R_below O112.out hb)
  have O120 := Aside0.mk (Kd.R_below O113.out hb)
  clear HB110 O112 O113 hb
  go_wp2_with (fail)
  (with_reducible refine (laws_toNeedS.calls k4 _ _ l1 x1 w114 (Kd.C_below HR1.out HB117.out) HC1.out E4.out).mono ?_)
  rintro e w121 ⟨v122, rfl, hv, hb⟩
  obtain ⟨Av122, cv122, rfl, -, -⟩ := Kd.R_reads hv
  have O123 := Aside0.mk (Own.R_mk HB117.out hv)
  clear hv
  have HB124 := Aside0.mk (below_step HB117.out hb)
  have Z125 := Aside0.mk hb.size
  have O126 := Aside0.mk (Kd.R_below O119.out hb)
  have O127 := Aside0.mk (Kd.R_below O120.out hb)
  have O128 := Aside0.mk (Kd.S_below O116.out hb)
  clear HB117 O119 O120 O116 hb
  go_wp2_with (fail)
  (with_reducible refine (impl_Lacking.calls k6 _ _ x0 _ _ x1 g w121 ((Kd.S_reads' O128.out).2.2) ((Kd.S_reads' O128.out).2.1) ((Kd.R_reads' O123.out).2.2) ((Kd.R_reads' O123.out).2.1) E6.out).mono ?_)
  rintro e w129 ⟨v130, rfl, hv, hb⟩
  obtain ⟨Av130, cv130, rfl, -, -⟩ := Kd.R_reads hv
  have O131 := Aside0.mk (Own.R_mk HB124.out hv)
  clear hv
  have HB132 := Aside0.mk (below_step HB124.out hb)
  have Z133 := Aside0.mk hb.size
  have O134 := Aside0.mk (Kd.R_below O126.out hb)
  have O135 := Aside0.mk (Kd.R_below O127.out hb)
  have O136 := Aside0.mk (Kd.S_below O128.out hb)
  have O137 := Aside0.mk (Kd.R_below O123.out hb)
  clear HB124 O126 O127 O128 O123 hb
  clear O136
  clear O137
  go_wp2_with (fail)
  (with_reducible refine (laws_eqNeedS.calls k7 _ _ g _ _ g true w129 ((Kd.R_reads' O131.out).2.2) ((Kd.R_reads' O131.out).2.1) ((Kd.R_reads' O134.out).2.2) ((Kd.R_reads' O134.out).2.1) E7.out).mono ?_)
  rintro e w138 ⟨rfl, hb⟩
  have HB139 := Aside0.mk (below_step HB132.out hb)
  have Z140 := Aside0.mk hb.size
  have O141 := Aside0.mk (Kd.R_below O134.out hb)
  have O142 := Aside0.mk (Kd.R_below O135.out hb)
  have O143 := Aside0.mk (Kd.R_below O131.out hb)
  clear HB132 O134 O135 O131 hb
  go_wp2_with (fail)
  have hq_ := laws_heldNeedS.calls k12 _ _ yg 1 mg w138 ((Kd.R_reads' O142.out).2.2) (by rw [E17.out]; exact (Kd.R_reads' O142.out).2.1) E12.out
  rw [E17.out] at hq_
  (with_reducible refine hq_.mono ?_)
  clear hq_
  rintro e w144 ⟨rfl, hb⟩
  have HB145 := Aside0.mk (below_step HB139.out hb)
  have Z146 := Aside0.mk hb.size
  have O147 := Aside0.mk (Kd.R_below O141.out hb)
  have O148 := Aside0.mk (Kd.R_below O142.out hb)
  have O149 := Aside0.mk (Kd.R_below O143.out hb)
  clear HB139 O141 O142 O143 hb
  go_wp2
  go_ret
  exact ⟨rfl, HB145.out⟩
end Go.Proofs.Ytmkdeknpphimbaa.PFnExactLacking
