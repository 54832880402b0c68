/- FnExactVersionsOf: for every input the law returns true, and each argument reads afterwards as it read before. No condition. -/
import Derived.Test.YtmkdeknpphimbaaRows
import Derived.Test.YtmkdeknpphimbaaCVoVersionsOf
import Derived.Test.YtmkdeknpphimbaaCVoOpen
import Derived.WalkKit
import Derived.ProofKit
import Derived.OpenShut
import Derived.ShutString
import Derived.ChangeOld
import Derived.Below
import Derived.SizedLaws
namespace Go.Proofs.Ytmkdeknpphimbaa.fnExactVersionsOf
open Go.ChangeShapes Go.WideShapes Go.ChangeAt Go.RowKit
open Go.ChangeMaps (open_string shut_string)
open Go.Proofs.YtmkdeknpphimbaaW.PrintWords Go.Proofs.Ytmkdeknpphimbaa.Open Go.Proofs.Ytmkdeknpphimbaa.PFnExactVersionsOf
set_option linter.unusedVariables false
theorem op_string : Opens Try.prog 9 Kd.string (fun s => s.size ≤ 140737488351232) := opens_string Try.underlying9 (by kernel_rfl)
theorem op_int : Opens Try.prog 3 (Kd.int .i64) (fun n => (Lit.int .i64 n).wf = true) := opens_int Try.underlying3 (by kernel_rfl)
theorem op_Version : Opens Try.prog 42 k42 gdVersion := by
  refine opens_struct (g := fun p : (Int) × (Int) × (Int) × (ByteArray) => gdVersion ⟨p.1, p.2.1, p.2.2.1, p.2.2.2⟩) (fun p => ⟨p.1, p.2.1, p.2.2.1, p.2.2.2⟩) (fun _ => rfl) Try.underlying42 (by kernel_rfl) ?_
  show OpensFs _ [_, _, _, _] _ _ _
  refine (opensFs_cons op_int ?_ ?_ (opensFs_cons op_int ?_ ?_ (opensFs_cons op_int ?_ ?_ (opensFs_one op_string ?_ ?_)))) <;> rfl
theorem op_Need : Opens Try.prog 75 k75 gdNeed := by
  refine opens_struct (g := fun p : (ByteArray) × (S42) => gdNeed ⟨p.1, p.2⟩) (fun p => ⟨p.1, p.2⟩) (fun _ => rfl) Try.underlying75 (by kernel_rfl) ?_
  show OpensFs _ [_, _] _ _ _
  refine (opensFs_cons op_string ?_ ?_ (opensFs_one op_Version ?_ ?_)) <;> rfl
theorem op_Needs : Opens Try.prog 23 (Kd.slice 75 k75) (fun l => (∀ a ∈ l, gdNeed a) ∧ l.length * 56 ≤ 140737488351232) := opens_slice (B := 56) Try.underlying23 (by kernel_rfl) (by kernel_rfl) op_Need
theorem op_Entry : Opens Try.prog 72 k72 gdEntry := by
  refine opens_struct (g := fun p : (ByteArray) × (S42) × (List S75) => gdEntry ⟨p.1, p.2.1, p.2.2⟩) (fun p => ⟨p.1, p.2.1, p.2.2⟩) (fun _ => rfl) Try.underlying72 (by kernel_rfl) ?_
  show OpensFs _ [_, _, _] _ _ _
  refine (opensFs_cons op_string ?_ ?_ (opensFs_cons op_Version ?_ ?_ (opensFs_one op_Needs ?_ ?_))) <;> rfl
theorem op_Entrys : Opens Try.prog 22 (Kd.slice 72 k72) (fun l => (∀ a ∈ l, gdEntry a) ∧ l.length * 80 ≤ 140737488351232) := opens_slice (B := 80) Try.underlying22 (by kernel_rfl) (by kernel_rfl) op_Entry
theorem own : ownKnob Try.prog.godebug = none := by kernel_rfl
theorem laidOut : laidOutB Try.prog = true := by kernel_rfl
set_option maxRecDepth 100000 in
theorem lifted (os : Os) (started : os.Started) (H : Type) (enc : TypeId × Value → H) :
    ReturnsInHanded {} Try.checked os 4 .any (Rows.fnExactVersionsOfSpec.pre6 enc Try.prog Try.f4 Rows.fnExactVersionsOfRow.domain false) (Rows.fnExactVersionsOfSpec.post enc Try.prog Try.f4 false true false false) := by
  refine returnsInHanded_of_change_sized (C := Try.checked) own started (by kernel_rfl) Try.func4
    (ChangeSpec.witness6 (enc := enc) (C := Try.checked) false ⟨#[], #[.slice none 0 0, .string ⟨#[]⟩], []⟩ 8 (by kernel_rfl) (by kernel_rfl) (by kernel_rfl) (by kernel_rfl)) ?_
  intro W base args ds gs before hval0 hW hcnd hsz0 _
  have hsz : (DataW.weightsEach Try.prog (Try.f4.params.toList ++ Rows.fnExactVersionsOfSpec.plain.varTypes Try.prog) (ds ++ gs)).all (· ≤ reachBytes) = true := hsz0
  have hval : ∀ (j : Nat) t v, Try.f4.params[j]? = some t → args[j]? = some v → Value.okWide Try.prog W .any base t v := hval0
  have hW' := hW
  obtain ⟨p, q, hA0, hV, rfl, hfz, hnd⟩ := hW
  have hA : DataW.TrodAll enc Try.prog W 0 (fun _ => true) true Try.f4.params.toList args.toList ds p := hA0
  rw [Try.params4] at hA hval hsz
  obtain ⟨v0, vs0, d0, ds0, p0, q0, hargs, rfl, rfl, h0, r0⟩ := trodAll_cons hA
  obtain ⟨v1, vs1, d1, ds1, p1, q1, rfl, rfl, rfl, h1, r1⟩ := trodAll_cons r0
  obtain ⟨rfl, rfl, rfl⟩ := trodAll_nil r1
  obtain rfl : args = #[v0, v1] := by cases args; simp_all
  obtain ⟨rfl, rfl⟩ := trodVars_none hV
  have k0 := h0
  have lt0 : ∀ x ∈ p0, x.block < W.heap.size := by obtain ⟨m, hm⟩ := k0; exact DataW.trod_lt m _ _ _ hm
  have k1 := h1
  have lt1 : ∀ x ∈ p1, x.block < W.heap.size := by obtain ⟨m, hm⟩ := k1; exact DataW.trod_lt m _ _ _ hm
  obtain ⟨fuel0, hf0⟩ := h0
  obtain ⟨a0, ln0, cp0, rfl⟩ := okWide_slice Try.underlying22 (hval 0 22 v0 rfl rfl)
  obtain ⟨l0, hK0, b0⟩ := op_Entrys.op hf0 (fun n hn => by have := List.all_eq_true.1 hsz n (DataW.weights_mem_each (j := 0) rfl rfl n hn); simpa using this)
  obtain ⟨A0, c0, e0, m0, g0⟩ := hK0
  obtain ⟨rfl, rfl, rfl⟩ : a0 = A0 ∧ ln0 = l0.length ∧ cp0 = c0 := by simpa [Value.cells] using e0
  obtain ⟨fuel1, hf1⟩ := h1
  obtain ⟨s1, rfl⟩ := okWide_string Try.underlying9 (hval 1 9 v1 rfl rfl)
  obtain ⟨l1, hK1, b1⟩ := op_string.op hf1 (fun n hn => by have := List.all_eq_true.1 hsz n (DataW.weights_mem_each (j := 1) rfl rfl n hn); simpa using this)
  obtain rfl : l1 = s1 := by simpa [Value.cells, Kd.string, Kd.int] using hK1.symm
  clear hA0 hval0 hsz0 hsz
  refine (law l0 l1 a0 cp0 W g0 m0 b0 b1).mono fun e W' ⟨he, bel⟩ => ?_
  subst he
  exact ⟨_, rfl, _, _, _, [], _, [], hW', trodAll_mk1 (shut_bool Try.underlying4 _), trodAll_cons_mk (Below.trod laidOut (by kernel_rfl) (of_decide_eq_true (by kernel_rfl)) k0 bel lt0) (trodAll_cons_mk (Below.trod laidOut (by kernel_rfl) (of_decide_eq_true (by kernel_rfl)) k1 bel lt1) trodAll_mk0), rfl, bel.frame _, fun h => by cases h⟩
theorem over : Rows.fnExactVersionsOfRow.holds Try.pinned (OpenSpec.ofChange Rows.fnExactVersionsOfSpec) :=
  OpenClaim.holds_of_wide 4 Try.f4 rfl rfl rfl rfl rfl rfl rfl ⟨rfl, rfl, rfl, rfl, rfl⟩ rfl rfl rfl rfl rfl (by kernel_rfl) Try.func4 (by kernel_rfl)
    (of_decide_eq_true (by kernel_rfl)) (by unfold Func.isWrapper; first | (rw [if_pos (by decide +kernel)]; kernel_rfl) | (rw [if_neg (by decide +kernel)]; exact ⟨rfl, rfl⟩))
    (fun os started H enc _ => lifted os started H enc)
theorem proved : Rows.FnExactVersionsOfSaid := over
#print axioms proved
end Go.Proofs.Ytmkdeknpphimbaa.fnExactVersionsOf
namespace Go.Proofs.Ytmkdeknpphimbaa
/-- The row, under a short name, for the claim. -/
theorem fnExactVersionsOf_holds : Rows.FnExactVersionsOfSaid := fnExactVersionsOf.proved
end Go.Proofs.Ytmkdeknpphimbaa
