/- FnExactClosed: for every input the law returns true, and each argument reads afterwards as it read before. No condition. -/
import Derived.Test.YtmkdeknpphimbaaDoorRows
import Derived.Test.YtmkdeknpphimbaaDoorCClFnExactClosed
import Derived.Test.YtmkdeknpphimbaaDoorCClOpen
import Derived.WalkKit
import Derived.ProofKit
import Derived.OpenShut
import Derived.ShutString
import Derived.ChangeOld
import Derived.Below
import Derived.SizedLaws
import Derived.Test.YtmkdeknpphimbaaDoorTie
import Derived.Test.YtmkdeknpphimbaaDoorCards
import Derived.Lay
import Derived.LaidMore
import Derived.SevenTiedAt
import Derived.Stop.Joined
namespace Go.Proofs.YtmkdeknpphimbaaDoor.fnExactClosed
open Go.ChangeShapes Go.WideShapes Go.ChangeAt Go.RowKit
open Go.ChangeMaps (open_string shut_string)
open Go.Proofs.YtmkdeknpphimbaaDoorW.PrintWords Go.Proofs.YtmkdeknpphimbaaDoor.Open Go.Proofs.YtmkdeknpphimbaaDoor.PFnExactClosed
set_option linter.unusedVariables false
theorem op_string : Opens Tryd.prog 9 Kd.string (fun s => s.size ≤ 140737488351232) := opens_string Tryd.underlying9 (by kernel_rfl)
theorem op_int : Opens Tryd.prog 3 (Kd.int .i64) (fun n => (Lit.int .i64 n).wf = true) := opens_int Tryd.underlying3 (by kernel_rfl)
theorem op_Version : Opens Tryd.prog 51 k51 gdVersion := by
  refine opens_struct (g := fun p : (Int) × (Int) × (Int) × (ByteArray) => gdVersion ⟨p.1, p.2.1, p.2.2.1, p.2.2.2⟩) (fun p => ⟨p.1, p.2.1, p.2.2.1, p.2.2.2⟩) (fun _ => rfl) Tryd.underlying51 (by kernel_rfl) ?_
  show OpensFs _ [_, _, _, _] _ _ _
  refine (opensFs_cons op_int ?_ ?_ (opensFs_cons op_int ?_ ?_ (opensFs_cons op_int ?_ ?_ (opensFs_one op_string ?_ ?_)))) <;> rfl
theorem op_Need : Opens Tryd.prog 53 k53 gdNeed := by
  refine opens_struct (g := fun p : (ByteArray) × (S51) => gdNeed ⟨p.1, p.2⟩) (fun p => ⟨p.1, p.2⟩) (fun _ => rfl) Tryd.underlying53 (by kernel_rfl) ?_
  show OpensFs _ [_, _] _ _ _
  refine (opensFs_cons op_string ?_ ?_ (opensFs_one op_Version ?_ ?_)) <;> rfl
theorem op_Needs : Opens Tryd.prog 22 (Kd.slice 53 k53) (fun l => (∀ a ∈ l, gdNeed a) ∧ l.length * 56 ≤ 140737488351232) := opens_slice (B := 56) Tryd.underlying22 (by kernel_rfl) (by kernel_rfl) op_Need
theorem op_Entry : Opens Tryd.prog 67 k67 gdEntry := by
  refine opens_struct (g := fun p : (ByteArray) × (S51) × (List S53) => gdEntry ⟨p.1, p.2.1, p.2.2⟩) (fun p => ⟨p.1, p.2.1, p.2.2⟩) (fun _ => rfl) Tryd.underlying67 (by kernel_rfl) ?_
  show OpensFs _ [_, _, _] _ _ _
  refine (opensFs_cons op_string ?_ ?_ (opensFs_cons op_Version ?_ ?_ (opensFs_one op_Needs ?_ ?_))) <;> rfl
theorem op_Entrys : Opens Tryd.prog 37 (Kd.slice 67 k67) (fun l => (∀ a ∈ l, gdEntry a) ∧ l.length * 80 ≤ 140737488351232) := opens_slice (B := 80) Tryd.underlying37 (by kernel_rfl) (by kernel_rfl) op_Entry
theorem own : ownKnob Tryd.prog.godebug = none := by kernel_rfl
theorem laidOut : laidOutB Tryd.prog = true := by kernel_rfl
set_option maxRecDepth 100000 in
theorem lifted (os : Os) (started : os.Started) (H : Type) (enc : TypeId × Value → H) :
    ReturnsInHanded {} Tryd.checked os 5 .any (fun w args => (Rows.fnExactClosedSpec.pre enc Tryd.prog Tryd.f5 Rows.fnExactClosedRow.domain false w args ∧ laidMetH Tryd.prog Rows.fnExactClosedRow.laid w) ∧ sizedMet enc Tryd.prog Tryd.f5 (OpenSpec.ofChange Rows.fnExactClosedSpec) false w args) (Rows.fnExactClosedSpec.post enc Tryd.prog Tryd.f5 false true false false) := by
  refine returnsInHanded_of_change_and (C := Tryd.checked) (X := fun w _ => laidMetH Tryd.prog Rows.fnExactClosedRow.laid w) (fun _ _ _ hh h => h.of_heap hh) own started (by kernel_rfl) Tryd.func5
    (ChangeSpec.witness_shaped (enc := enc) (C := Tryd.checked) (os := os) (X := fun w _ => laidMetH Tryd.prog Rows.fnExactClosedRow.laid w) false (World.laidAll Tryd.prog os Rows.fnExactClosedRow.laid) #[.slice none 0 0, .slice none 0 0] 8 (World.laidAll_os _ _ _)
      (World.shaped_of_ZipB (by kernel_rfl) (by kernel_rfl)) (by kernel_rfl) (by kernel_rfl) (by kernel_rfl)
      (by rw [MakeChecks.laidMetH_plain _ _ _ (by kernel_rfl)]; exact laidMet_laidAll _ (by kernel_rfl) (by kernel_rfl))) ?_
  intro W base args ds gs before hval0 hW hcnd hsz0 _ _
  have hsz : (DataW.weightsEach Tryd.prog (Tryd.f5.params.toList ++ Rows.fnExactClosedSpec.plain.varTypes Tryd.prog) (ds ++ gs)).all (· ≤ reachBytes) = true := hsz0
  have hval : ∀ (j : Nat) t v, Tryd.f5.params[j]? = some t → args[j]? = some v → Value.okWide Tryd.prog W .any base t v := hval0
  have hW' := hW
  obtain ⟨p, q, hA0, hV, rfl, hfz, hnd⟩ := hW
  have hA : DataW.TrodAll enc Tryd.prog W 0 (fun _ => true) true Tryd.f5.params.toList args.toList ds p := hA0
  rw [Tryd.params5] at hA hval hsz
  obtain ⟨v0, vs0, d0, ds0, p0, q0, hargs, rfl, rfl, h0, r0⟩ := trodAll_cons hA
  obtain ⟨v1, vs1, d1, ds1, p1, q1, rfl, rfl, rfl, h1, r1⟩ := trodAll_cons r0
  obtain ⟨rfl, rfl, rfl⟩ := trodAll_nil r1
  obtain rfl : args = #[v0, v1] := by cases args; simp_all
  obtain ⟨rfl, rfl⟩ := trodVars_none hV
  have k0 := h0
  have lt0 : ∀ x ∈ p0, x.block < W.heap.size := by obtain ⟨m, hm⟩ := k0; exact DataW.trod_lt m _ _ _ hm
  have k1 := h1
  have lt1 : ∀ x ∈ p1, x.block < W.heap.size := by obtain ⟨m, hm⟩ := k1; exact DataW.trod_lt m _ _ _ hm
  obtain ⟨fuel0, hf0⟩ := h0
  obtain ⟨a0, ln0, cp0, rfl⟩ := okWide_slice Tryd.underlying37 (hval 0 37 v0 rfl rfl)
  obtain ⟨l0, hK0, b0⟩ := op_Entrys.op hf0 (fun n hn => by have := List.all_eq_true.1 hsz n (DataW.weights_mem_each (j := 0) rfl rfl n hn); simpa using this)
  obtain ⟨A0, c0, e0, m0, g0⟩ := hK0
  obtain ⟨rfl, rfl, rfl⟩ : a0 = A0 ∧ ln0 = l0.length ∧ cp0 = c0 := by simpa [Value.cells] using e0
  obtain ⟨fuel1, hf1⟩ := h1
  obtain ⟨a1, ln1, cp1, rfl⟩ := okWide_slice Tryd.underlying22 (hval 1 22 v1 rfl rfl)
  obtain ⟨l1, hK1, b1⟩ := op_Needs.op hf1 (fun n hn => by have := List.all_eq_true.1 hsz n (DataW.weights_mem_each (j := 1) rfl rfl n hn); simpa using this)
  obtain ⟨A1, c1, e1, m1, g1⟩ := hK1
  obtain ⟨rfl, rfl, rfl⟩ : a1 = A1 ∧ ln1 = l1.length ∧ cp1 = c1 := by simpa [Value.cells] using e1
  clear hA0 hval0 hsz0 hsz
  refine (law l0 l1 a0 a1 cp0 cp1 W g0 m0 g1 m1 b0 b1).mono fun e W' ⟨he, bel⟩ => ?_
  subst he
  exact ⟨_, rfl, _, _, _, [], _, [], hW', trodAll_mk1 (shut_bool Tryd.underlying4 _), trodAll_cons_mk (Below.trod laidOut (by kernel_rfl) (of_decide_eq_true (by kernel_rfl)) k0 bel lt0) (trodAll_cons_mk (Below.trod laidOut (by kernel_rfl) (of_decide_eq_true (by kernel_rfl)) k1 bel lt1) trodAll_mk0), rfl, bel.frame _, fun h => by cases h⟩
theorem over : Rows.fnExactClosedRow.holds Tryd.pinned (OpenSpec.ofChange Rows.fnExactClosedSpec) :=
  OpenClaim.holds_of_wide 5 Tryd.f5 rfl rfl rfl rfl rfl rfl rfl ⟨rfl, rfl, rfl, rfl, rfl⟩ rfl rfl rfl rfl rfl (by kernel_rfl) Tryd.func5 (by kernel_rfl)
    (of_decide_eq_true (by kernel_rfl)) (by unfold Func.isWrapper; first | (rw [if_pos (by decide +kernel)]; kernel_rfl) | (rw [if_neg (by decide +kernel)]; exact ⟨rfl, rfl⟩))
    (fun os started H enc _ => lifted os started H enc)
theorem proved : Rows.FnExactClosedCardSaid :=
  Claim7.holds_tied_plain_at .later [] [.data, .pinned] true (true, "e63ef1fe62f380642631eff40ef3755d5e0aeddd4824b746ddea324e835e51f5") false over (fun _ h => by cases h) (by kernel_rfl) (fun _ h => by cases h) fnExactClosed_row_tie rfl ⟨rfl, rfl⟩ (by kernel_rfl) rfl
    (fun f fn hf hfn => by
      obtain rfl : f = 5 := Option.some.inj ((show Tryd.prog.funcNamed Tryd.f5.name = some 5 by kernel_rfl).symm.trans hf) |>.symm
      obtain rfl : fn = Tryd.f5 := (Option.some.inj (Tryd.func5.symm.trans hfn)).symm
      exact ⟨by kernel_rfl, fun j t ht => by
        rw [Tryd.params5] at ht
        have hm : t ∈ [37, 22] := by simpa using Array.mem_of_getElem? ht
        have hall : ([37, 22].all fun u => !Tryd.prog.wantsStandIn u) = true := by kernel_rfl
        exact (show Tryd.prog.wantsStandIn t = false by simpa using List.all_eq_true.1 hall t hm)⟩)
    (by kernel_rfl)
#print axioms proved
end Go.Proofs.YtmkdeknpphimbaaDoor.fnExactClosed
namespace Go.Proofs.YtmkdeknpphimbaaDoor
/-- The card, under a short name, for the claim. -/
theorem fnExactClosed_holds : Rows.FnExactClosedCardSaid := fnExactClosed.proved
end Go.Proofs.YtmkdeknpphimbaaDoor
