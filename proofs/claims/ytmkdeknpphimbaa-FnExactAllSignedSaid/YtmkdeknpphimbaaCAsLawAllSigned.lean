/- FnExactAllSigned: for every input the law returns true, and each argument reads afterwards as it read before. No condition. -/
import Derived.Test.YtmkdeknpphimbaaRows
import Derived.Test.YtmkdeknpphimbaaCAsPFnExactAllSignedx
import Derived.Test.YtmkdeknpphimbaaCAsAllSigned
import Derived.Test.YtmkdeknpphimbaaCAsOpen
import Derived.WalkKit
import Derived.ProofKit
import Derived.OpenShut
import Derived.ShutString
import Derived.ChangeOld
import Derived.Below
import Derived.SizedLaws
namespace Go.Proofs.Ytmkdeknpphimbaa.fnExactAllSigned
open Go.ChangeShapes Go.WideShapes Go.ChangeAt Go.RowKit
open Go.ChangeMaps (open_string shut_string)
open Go.Proofs.YtmkdeknpphimbaaW.PrintWords Go.Proofs.Ytmkdeknpphimbaa.Open Go.Proofs.Ytmkdeknpphimbaa.PFnExactAllSigned
set_option linter.unusedVariables false
theorem op_string : Opens Try.prog 9 Kd.string (fun s => s.size ≤ 140737488351232) := opens_string Try.underlying9 (by kernel_rfl)
theorem op_strings : Opens Try.prog 53 (Kd.slice 9 Kd.string) (fun l => (∀ a ∈ l, a.size ≤ 140737488351232) ∧ l.length * 16 ≤ 140737488351232) := opens_slice (B := 16) Try.underlying53 (by kernel_rfl) (by kernel_rfl) op_string
theorem op_int : Opens Try.prog 3 (Kd.int .i64) (fun n => (Lit.int .i64 n).wf = true) := opens_int Try.underlying3 (by kernel_rfl)
theorem op_Head : Opens Try.prog 114 k114 gdHead := by
  refine opens_struct (g := fun p : (Int) × (ByteArray) => gdHead ⟨p.1, p.2⟩) (fun p => ⟨p.1, p.2⟩) (fun _ => rfl) Try.underlying114 (by kernel_rfl) ?_
  show OpensFs _ [_, _] _ _ _
  refine (opensFs_cons op_int ?_ ?_ (opensFs_one op_string ?_ ?_)) <;> rfl
theorem op_Heads : Opens Try.prog 54 (Kd.slice 114 k114) (fun l => (∀ a ∈ l, gdHead a) ∧ l.length * 24 ≤ 140737488351232) := opens_slice (B := 24) Try.underlying54 (by kernel_rfl) (by kernel_rfl) op_Head
theorem op_Log : Opens Try.prog 117 k117 gdLog := by
  refine opens_struct (g := fun p : (List ByteArray) × (S114) => gdLog ⟨p.1, p.2⟩) (fun p => ⟨p.1, p.2⟩) (fun _ => rfl) Try.underlying117 (by kernel_rfl) ?_
  show OpensFs _ [_, _] _ _ _
  refine (opensFs_cons op_strings ?_ ?_ (opensFs_one op_Head ?_ ?_)) <;> rfl
theorem op_byte : Opens Try.prog 5 (Kd.int .u8) (fun n => (Lit.int .u8 n).wf = true) := opens_int Try.underlying5 (by kernel_rfl)
theorem op_bytes : Opens Try.prog 106 (Kd.slice 5 (Kd.int .u8)) (fun l => (∀ a ∈ l, (Lit.int .u8 a).wf = true) ∧ l.length * 1 ≤ 140737488351232) := opens_slice (B := 1) Try.underlying106 (by kernel_rfl) (by kernel_rfl) op_byte
theorem op_Store : Opens Try.prog 119 k119 gdStore := by
  refine opens_struct (g := fun p : (S117) × (List Int) × (Int) => gdStore ⟨p.1, p.2.1, p.2.2⟩) (fun p => ⟨p.1, p.2.1, p.2.2⟩) (fun _ => rfl) Try.underlying119 (by kernel_rfl) ?_
  show OpensFs _ [_, _, _] _ _ _
  refine (opensFs_cons op_Log ?_ ?_ (opensFs_cons op_bytes ?_ ?_ (opensFs_one op_int ?_ ?_))) <;> rfl
theorem op_Mirror : Opens Try.prog 121 k121 gdMirror := by
  refine opens_struct (g := fun p : (Int) × (S119) × (S114) => gdMirror ⟨p.1, p.2.1, p.2.2⟩) (fun p => ⟨p.1, p.2.1, p.2.2⟩) (fun _ => rfl) Try.underlying121 (by kernel_rfl) ?_
  show OpensFs _ [_, _, _] _ _ _
  refine (opensFs_cons op_int ?_ ?_ (opensFs_cons op_Store ?_ ?_ (opensFs_one op_Head ?_ ?_))) <;> rfl
theorem op_Mirrors : Opens Try.prog 55 (Kd.slice 121 k121) (fun l => (∀ a ∈ l, gdMirror a) ∧ l.length * 112 ≤ 140737488351232) := opens_slice (B := 112) Try.underlying55 (by kernel_rfl) (by kernel_rfl) op_Mirror
theorem op_ints : Opens Try.prog 56 (Kd.slice 3 (Kd.int .i64)) (fun l => (∀ a ∈ l, (Lit.int .i64 a).wf = true) ∧ l.length * 8 ≤ 140737488351232) := opens_slice (B := 8) Try.underlying56 (by kernel_rfl) (by kernel_rfl) op_int
theorem op_Msg : Opens Try.prog 124 k124 gdMsg := by
  refine opens_struct (g := fun p : (Int) × (Int) × (Int) × (S114) × (Int) × (List ByteArray) => gdMsg ⟨p.1, p.2.1, p.2.2.1, p.2.2.2.1, p.2.2.2.2.1, p.2.2.2.2.2⟩) (fun p => ⟨p.1, p.2.1, p.2.2.1, p.2.2.2.1, p.2.2.2.2.1, p.2.2.2.2.2⟩) (fun _ => rfl) Try.underlying124 (by kernel_rfl) ?_
  show OpensFs _ [_, _, _, _, _, _] _ _ _
  refine (opensFs_cons op_int ?_ ?_ (opensFs_cons op_int ?_ ?_ (opensFs_cons op_int ?_ ?_ (opensFs_cons op_Head ?_ ?_ (opensFs_cons op_int ?_ ?_ (opensFs_one op_strings ?_ ?_)))))) <;> rfl
theorem op_Msgs : Opens Try.prog 57 (Kd.slice 124 k124) (fun l => (∀ a ∈ l, gdMsg a) ∧ l.length * 80 ≤ 140737488351232) := opens_slice (B := 80) Try.underlying57 (by kernel_rfl) (by kernel_rfl) op_Msg
theorem op_World : Opens Try.prog 59 (Kd.iso (Kd.pair (Kd.slice 9 Kd.string) (Kd.pair (Kd.slice 114 k114) (Kd.pair (Kd.slice 121 k121) (Kd.pair (Kd.slice 3 (Kd.int .i64)) (Kd.slice 124 k124))))) (fun x => x)) (fun p => ((∀ a ∈ p.1, a.size ≤ 140737488351232) ∧ p.1.length * 16 ≤ 140737488351232) ∧ ((∀ a ∈ p.2.1, gdHead a) ∧ p.2.1.length * 24 ≤ 140737488351232) ∧ ((∀ a ∈ p.2.2.1, gdMirror a) ∧ p.2.2.1.length * 112 ≤ 140737488351232) ∧ ((∀ a ∈ p.2.2.2.1, (Lit.int .i64 a).wf = true) ∧ p.2.2.2.1.length * 8 ≤ 140737488351232) ∧ ((∀ a ∈ p.2.2.2.2, gdMsg a) ∧ p.2.2.2.2.length * 80 ≤ 140737488351232)) := by
  refine opens_struct (g := fun p : (List ByteArray) × (List S114) × (List S121) × (List Int) × (List S124) => ((∀ a ∈ p.1, a.size ≤ 140737488351232) ∧ p.1.length * 16 ≤ 140737488351232) ∧ ((∀ a ∈ p.2.1, gdHead a) ∧ p.2.1.length * 24 ≤ 140737488351232) ∧ ((∀ a ∈ p.2.2.1, gdMirror a) ∧ p.2.2.1.length * 112 ≤ 140737488351232) ∧ ((∀ a ∈ p.2.2.2.1, (Lit.int .i64 a).wf = true) ∧ p.2.2.2.1.length * 8 ≤ 140737488351232) ∧ ((∀ a ∈ p.2.2.2.2, gdMsg a) ∧ p.2.2.2.2.length * 80 ≤ 140737488351232)) (fun p => p) (fun _ => rfl) Try.underlying59 (by kernel_rfl) ?_
  show OpensFs _ [_, _, _, _, _] _ _ _
  refine (opensFs_cons op_strings ?_ ?_ (opensFs_cons op_Heads ?_ ?_ (opensFs_cons op_Mirrors ?_ ?_ (opensFs_cons op_ints ?_ ?_ (opensFs_one op_Msgs ?_ ?_))))) <;> rfl
theorem own : ownKnob Try.prog.godebug = none := by kernel_rfl
theorem laidOut : laidOutB Try.prog = true := by kernel_rfl
set_option maxRecDepth 100000 in
theorem lifted (os : Os) (started : os.Started) (H : Type) (enc : TypeId × Value → H) :
    ReturnsInHanded {} Try.checked os 8 .any (Rows.fnExactAllSignedSpec.pre6 enc Try.prog Try.f8 Rows.fnExactAllSignedRow.domain false) (Rows.fnExactAllSignedSpec.post enc Try.prog Try.f8 false true false false) := by
  refine returnsInHanded_of_change_sized (C := Try.checked) own started (by kernel_rfl) Try.func8
    (ChangeSpec.witness6 (enc := enc) (C := Try.checked) false ⟨#[], #[.agg #[.slice none 0 0, .slice none 0 0, .slice none 0 0, .slice none 0 0, .slice none 0 0]], []⟩ 8 (by kernel_rfl) (by kernel_rfl) (by kernel_rfl) (by kernel_rfl)) ?_
  intro W base args ds gs before hval0 hW hcnd hsz0 _
  have hsz : (DataW.weightsEach Try.prog (Try.f8.params.toList ++ Rows.fnExactAllSignedSpec.plain.varTypes Try.prog) (ds ++ gs)).all (· ≤ reachBytes) = true := hsz0
  have hval : ∀ (j : Nat) t v, Try.f8.params[j]? = some t → args[j]? = some v → Value.okWide Try.prog W .any base t v := hval0
  have hW' := hW
  obtain ⟨p, q, hA0, hV, rfl, hfz, hnd⟩ := hW
  have hA : DataW.TrodAll enc Try.prog W 0 (fun _ => true) true Try.f8.params.toList args.toList ds p := hA0
  rw [Try.params8] at hA hval hsz
  obtain ⟨v0, vs0, d0, ds0, p0, q0, hargs, rfl, rfl, h0, r0⟩ := trodAll_cons hA
  obtain ⟨rfl, rfl, rfl⟩ := trodAll_nil r0
  obtain rfl : args = #[v0] := by cases args; simp_all
  obtain ⟨rfl, rfl⟩ := trodVars_none hV
  have k0 := h0
  have lt0 : ∀ x ∈ p0, x.block < W.heap.size := by obtain ⟨m, hm⟩ := k0; exact DataW.trod_lt m _ _ _ hm
  obtain ⟨cs, rfl, hcs⟩ := okWide_struct Try.underlying59 (hval 0 59 v0 rfl rfl)
  obtain ⟨fuel, hf⟩ := h0
  obtain ⟨⟨l0, l1, l2, l3, l4⟩, hK, b0, b1, b2, b3, b4⟩ := op_World.op hf (fun n hn => by have := List.all_eq_true.1 hsz n (DataW.weights_mem_each (j := 0) rfl rfl n hn); simpa using this)
  obtain ⟨_, _, e, ⟨A0, c0, rfl, m0, g0⟩, ⟨_, _, rfl, ⟨A1, c1, rfl, m1, g1⟩, ⟨_, _, rfl, ⟨A2, c2, rfl, m2, g2⟩, ⟨_, _, rfl, ⟨A3, c3, rfl, m3, g3⟩, ⟨A4, c4, rfl, m4, g4⟩⟩⟩⟩⟩ := hK
  obtain rfl : cs = #[.slice A0 l0.length c0, .slice A1 l1.length c1, .slice A2 l2.length c2, .slice A3 l3.length c3, .slice A4 l4.length c4] := by cases cs; simpa [Value.cells] using e
  clear hA0 hval0 hsz0 hsz
  obtain ⟨k, hk⟩ := law l0 l1 l2 l3 l4 b0 b1 b2 b3 b4
  refine (laws_FnExactAllSigned.calls k A0 c0 l0 A1 c1 l1 A2 c2 l2 A3 c3 l3 A4 c4 l4 true W g0 m0 g1 m1 g2 m2 g3 m3 g4 m4 hk).mono fun e W' ⟨he, bel⟩ => ?_
  subst he
  exact ⟨_, rfl, _, _, _, [], _, [], hW', trodAll_mk1 (shut_bool Try.underlying4 _), trodAll_cons_mk (Below.trod laidOut (by kernel_rfl) (of_decide_eq_true (by kernel_rfl)) k0 bel lt0) trodAll_mk0, rfl, bel.frame _, fun h => by cases h⟩
theorem over : Rows.fnExactAllSignedRow.holds Try.pinned (OpenSpec.ofChange Rows.fnExactAllSignedSpec) :=
  OpenClaim.holds_of_wide 8 Try.f8 rfl rfl rfl rfl rfl rfl rfl ⟨rfl, rfl, rfl, rfl, rfl⟩ rfl rfl rfl rfl rfl (by kernel_rfl) Try.func8 (by kernel_rfl)
    (of_decide_eq_true (by kernel_rfl)) (by unfold Func.isWrapper; first | (rw [if_pos (by decide +kernel)]; kernel_rfl) | (rw [if_neg (by decide +kernel)]; exact ⟨rfl, rfl⟩))
    (fun os started H enc _ => lifted os started H enc)
theorem proved : Rows.FnExactAllSignedSaid := over
#print axioms proved
end Go.Proofs.Ytmkdeknpphimbaa.fnExactAllSigned
namespace Go.Proofs.Ytmkdeknpphimbaa
/-- The row, under a short name, for the claim. -/
theorem fnExactAllSigned_holds : Rows.FnExactAllSignedSaid := fnExactAllSigned.proved
end Go.Proofs.Ytmkdeknpphimbaa
