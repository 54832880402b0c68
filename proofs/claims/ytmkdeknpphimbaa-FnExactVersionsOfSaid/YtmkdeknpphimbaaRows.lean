/-
  No cell of these rows narrows 'for every input' (looked for: loops, veiled, ifaces, maps, wideKeys, modest, calm, conditions, laid).
  DERIVED. THE GIVEN ROWS OF THIS SEAT. 8 by the template 'for every input the law returns true; each argument reads behind the call as it read before'; 0 by the template 'total and deterministic' (their statements: YtmkdeknpphimbaaTotals.lean).
  GIVEN WITH THE SEED: the statements are not yours to turn. If you find one false, say at which input.
  Laid BY PROGRAM, IN A SANDBOX (cutbox-rows.mjs): the forced cells as the released guide's own fill.sh prints them over the translation 02d9201befff85bb… (all of the seat's roots in one cut). By AI agents, Wed Nov 11 2026. No macro, syntax, notation, axiom, sorry.
-/
import Derived.Test.YtmkdeknpphimbaaChecked
import GoSem.Claim
import GoSem.ClaimJoined
import GoSem.ClaimMapViews
import Derived.JoinedTies
import Derived.KernelRfl
namespace Go.Proofs.Ytmkdeknpphimbaa
/- THE CELL 'sum', in the pinned program and in every row, IS THE sha256 OF THE DUMP (.gsa) THAT YtmkdeknpphimbaaProg.lean LOADS. Nothing in Lean hashes anything: it is a label: what it is worth is what the hold of that sum in a sandbox is worth. -/
noncomputable def Try.pinned : Pinned := { name := "ytmkdeknpphimbaa", sum := "02d9201befff85bbd5064f70657c54599056b97423b16cc38f4573488fc13c38", checked := Try.checked }
namespace Rows
def none {H : Type} : Left H := { results := [], args := [] }

/-- 'laws.FnExactLacking': WHATEVER THE INPUT: true; the input reads as it did. -/
def fnExactLackingSpec : ChangeSpec := { name := "fnExactLacking", fn := fun _ => fun
  | [d1, d2] => { results := [.lit (.bool true)], args := [d1, d2] }
  | _ => none }
def fnExactLackingRow : OpenClaim := { program := "ytmkdeknpphimbaa", sum := "02d9201befff85bbd5064f70657c54599056b97423b16cc38f4573488fc13c38", func := "loop.example/g00233/laws.FnExactLacking", spec := "fnExactLacking", apart := false }
def FnExactLackingSaid : Prop := fnExactLackingRow.holds Try.pinned (OpenSpec.ofChange fnExactLackingSpec)

/-- ITS FALSE NEIGHBOUR: 'it returns false'. Refute it at one input. -/
def fnExactLackingWrong : ChangeSpec := { name := "fnExactLacking", fn := fun _ => fun
  | [d1, d2] => { results := [.lit (.bool false)], args := [d1, d2] }
  | _ => none }
def FnExactLackingWrongFalsely : Prop := fnExactLackingRow.holds Try.pinned (OpenSpec.ofChange fnExactLackingWrong)

/-- 'laws.FnExactVersionsOf': WHATEVER THE INPUT: true; the input reads as it did. -/
def fnExactVersionsOfSpec : ChangeSpec := { name := "fnExactVersionsOf", fn := fun _ => fun
  | [d1, d2] => { results := [.lit (.bool true)], args := [d1, d2] }
  | _ => none }
def fnExactVersionsOfRow : OpenClaim := { program := "ytmkdeknpphimbaa", sum := "02d9201befff85bbd5064f70657c54599056b97423b16cc38f4573488fc13c38", func := "loop.example/g00233/laws.FnExactVersionsOf", spec := "fnExactVersionsOf", apart := false }
def FnExactVersionsOfSaid : Prop := fnExactVersionsOfRow.holds Try.pinned (OpenSpec.ofChange fnExactVersionsOfSpec)

/-- ITS FALSE NEIGHBOUR: 'it returns false'. Refute it at one input. -/
def fnExactVersionsOfWrong : ChangeSpec := { name := "fnExactVersionsOf", fn := fun _ => fun
  | [d1, d2] => { results := [.lit (.bool false)], args := [d1, d2] }
  | _ => none }
def FnExactVersionsOfWrongFalsely : Prop := fnExactVersionsOfRow.holds Try.pinned (OpenSpec.ofChange fnExactVersionsOfWrong)

/-- 'laws.FnExactFindEntry': WHATEVER THE INPUT: true; the input reads as it did. -/
def fnExactFindEntrySpec : ChangeSpec := { name := "fnExactFindEntry", fn := fun _ => fun
  | [d1, d2, d3] => { results := [.lit (.bool true)], args := [d1, d2, d3] }
  | _ => none }
def fnExactFindEntryRow : OpenClaim := { program := "ytmkdeknpphimbaa", sum := "02d9201befff85bbd5064f70657c54599056b97423b16cc38f4573488fc13c38", func := "loop.example/g00233/laws.FnExactFindEntry", spec := "fnExactFindEntry", apart := false }
def FnExactFindEntrySaid : Prop := fnExactFindEntryRow.holds Try.pinned (OpenSpec.ofChange fnExactFindEntrySpec)

/-- ITS FALSE NEIGHBOUR: 'it returns false'. Refute it at one input. -/
def fnExactFindEntryWrong : ChangeSpec := { name := "fnExactFindEntry", fn := fun _ => fun
  | [d1, d2, d3] => { results := [.lit (.bool false)], args := [d1, d2, d3] }
  | _ => none }
def FnExactFindEntryWrongFalsely : Prop := fnExactFindEntryRow.holds Try.pinned (OpenSpec.ofChange fnExactFindEntryWrong)

/-- 'laws.FnExactNoFork': WHATEVER THE INPUT: true; the input reads as it did. -/
def fnExactNoForkSpec : ChangeSpec := { name := "fnExactNoFork", fn := fun _ => fun
  | [d] => { results := [.lit (.bool true)], args := [d] }
  | _ => none }
def fnExactNoForkRow : OpenClaim := { program := "ytmkdeknpphimbaa", sum := "02d9201befff85bbd5064f70657c54599056b97423b16cc38f4573488fc13c38", func := "loop.example/g00233/laws.FnExactNoFork", spec := "fnExactNoFork", apart := false }
def FnExactNoForkSaid : Prop := fnExactNoForkRow.holds Try.pinned (OpenSpec.ofChange fnExactNoForkSpec)

/-- ITS FALSE NEIGHBOUR: 'it returns false'. Refute it at one input. -/
def fnExactNoForkWrong : ChangeSpec := { name := "fnExactNoFork", fn := fun _ => fun
  | [d] => { results := [.lit (.bool false)], args := [d] }
  | _ => none }
def FnExactNoForkWrongFalsely : Prop := fnExactNoForkRow.holds Try.pinned (OpenSpec.ofChange fnExactNoForkWrong)

/-- 'laws.FnExactLevel': WHATEVER THE INPUT: true; the input reads as it did. -/
def fnExactLevelSpec : ChangeSpec := { name := "fnExactLevel", fn := fun _ => fun
  | [d] => { results := [.lit (.bool true)], args := [d] }
  | _ => none }
def fnExactLevelRow : OpenClaim := { program := "ytmkdeknpphimbaa", sum := "02d9201befff85bbd5064f70657c54599056b97423b16cc38f4573488fc13c38", func := "loop.example/g00233/laws.FnExactLevel", spec := "fnExactLevel", apart := false }
def FnExactLevelSaid : Prop := fnExactLevelRow.holds Try.pinned (OpenSpec.ofChange fnExactLevelSpec)

/-- ITS FALSE NEIGHBOUR: 'it returns false'. Refute it at one input. -/
def fnExactLevelWrong : ChangeSpec := { name := "fnExactLevel", fn := fun _ => fun
  | [d] => { results := [.lit (.bool false)], args := [d] }
  | _ => none }
def FnExactLevelWrongFalsely : Prop := fnExactLevelRow.holds Try.pinned (OpenSpec.ofChange fnExactLevelWrong)

/-- 'laws.FnExactAllSigned': WHATEVER THE INPUT: true; the input reads as it did. -/
def fnExactAllSignedSpec : ChangeSpec := { name := "fnExactAllSigned", fn := fun _ => fun
  | [d] => { results := [.lit (.bool true)], args := [d] }
  | _ => none }
def fnExactAllSignedRow : OpenClaim := { program := "ytmkdeknpphimbaa", sum := "02d9201befff85bbd5064f70657c54599056b97423b16cc38f4573488fc13c38", func := "loop.example/g00233/laws.FnExactAllSigned", spec := "fnExactAllSigned", apart := false }
def FnExactAllSignedSaid : Prop := fnExactAllSignedRow.holds Try.pinned (OpenSpec.ofChange fnExactAllSignedSpec)

/-- ITS FALSE NEIGHBOUR: 'it returns false'. Refute it at one input. -/
def fnExactAllSignedWrong : ChangeSpec := { name := "fnExactAllSigned", fn := fun _ => fun
  | [d] => { results := [.lit (.bool false)], args := [d] }
  | _ => none }
def FnExactAllSignedWrongFalsely : Prop := fnExactAllSignedRow.holds Try.pinned (OpenSpec.ofChange fnExactAllSignedWrong)

/-- 'laws.FnExactBeginnings': WHATEVER THE INPUT: true; the input reads as it did. -/
def fnExactBeginningsSpec : ChangeSpec := { name := "fnExactBeginnings", fn := fun _ => fun
  | [d] => { results := [.lit (.bool true)], args := [d] }
  | _ => none }
def fnExactBeginningsRow : OpenClaim := { program := "ytmkdeknpphimbaa", sum := "02d9201befff85bbd5064f70657c54599056b97423b16cc38f4573488fc13c38", func := "loop.example/g00233/laws.FnExactBeginnings", spec := "fnExactBeginnings", apart := false }
def FnExactBeginningsSaid : Prop := fnExactBeginningsRow.holds Try.pinned (OpenSpec.ofChange fnExactBeginningsSpec)

/-- ITS FALSE NEIGHBOUR: 'it returns false'. Refute it at one input. -/
def fnExactBeginningsWrong : ChangeSpec := { name := "fnExactBeginnings", fn := fun _ => fun
  | [d] => { results := [.lit (.bool false)], args := [d] }
  | _ => none }
def FnExactBeginningsWrongFalsely : Prop := fnExactBeginningsRow.holds Try.pinned (OpenSpec.ofChange fnExactBeginningsWrong)

/-- 'laws.FnExactAgree': WHATEVER THE INPUT: true; the input reads as it did. -/
def fnExactAgreeSpec : ChangeSpec := { name := "fnExactAgree", fn := fun _ => fun
  | [d] => { results := [.lit (.bool true)], args := [d] }
  | _ => none }
def fnExactAgreeRow : OpenClaim := { program := "ytmkdeknpphimbaa", sum := "02d9201befff85bbd5064f70657c54599056b97423b16cc38f4573488fc13c38", func := "loop.example/g00233/laws.FnExactAgree", spec := "fnExactAgree", apart := false }
def FnExactAgreeSaid : Prop := fnExactAgreeRow.holds Try.pinned (OpenSpec.ofChange fnExactAgreeSpec)

/-- ITS FALSE NEIGHBOUR: 'it returns false'. Refute it at one input. -/
def fnExactAgreeWrong : ChangeSpec := { name := "fnExactAgree", fn := fun _ => fun
  | [d] => { results := [.lit (.bool false)], args := [d] }
  | _ => none }
def FnExactAgreeWrongFalsely : Prop := fnExactAgreeRow.holds Try.pinned (OpenSpec.ofChange fnExactAgreeWrong)

/- THE SECOND FORM. 'bulk': how many values and letters a reading holds, each counted each time it is reached (what is shared counts as often as it is met; a slice's spare places count too). A statement '..UptoSaid' is the law's where the arguments, and the package variables that the reading takes, are together of bulk at most 1048576: NARROWER than '..Said'. Prove '..Said' where nothing that the law and all that it calls make is longer than what came in: it says more and counts as full. Else prove '..UptoSaid'. A law counts once. -/
mutual
def uptoBulk {H : Type} : DataW H → Nat
  | .lit (.string bytes) => bytes.length + 1
  | .lit _ => 1
  | .nil => 1
  | .ptr d => uptoBulk d + 1
  | .slice elems spare => uptoBulkAll elems + uptoBulkAll spare + 1
  | .agg parts => uptoBulkAll parts + 1
  | .iface _ d => uptoBulk d + 1
  | .map entries => uptoBulkEntries entries + 1
  | .held _ => 1
def uptoBulkAll {H : Type} : List (DataW H) → Nat
  | [] => 0
  | d :: r => uptoBulk d + uptoBulkAll r
def uptoBulkEntries {H : Type} : List (Lit × DataW H) → Nat
  | [] => 0
  | x :: r => uptoBulkEntry x + uptoBulkEntries r
def uptoBulkEntry {H : Type} : Lit × DataW H → Nat
  | (.string bytes, d) => bytes.length + uptoBulk d + 1
  | (_, d) => uptoBulk d + 1
 end
def uptoSmall : (H : Type) → List (DataW H) → Bool := fun _ ds => decide (uptoBulkAll ds ≤ 1048576)
def OpenSpec.upto (s : _root_.Go.ChangeSpec) : _root_.Go.OpenSpec := { _root_.Go.OpenSpec.ofChange s with cond := some uptoSmall }

/-- 'laws.FnExactLacking', WHERE WHAT IT READS IS OF BULK AT MOST 1048576: true; the input reads as it did. -/
def fnExactLackingUptoRow : OpenClaim := { program := "ytmkdeknpphimbaa", sum := "02d9201befff85bbd5064f70657c54599056b97423b16cc38f4573488fc13c38", func := "loop.example/g00233/laws.FnExactLacking", spec := "fnExactLacking", apart := false, narrowed := true }
def FnExactLackingUptoSaid : Prop := fnExactLackingUptoRow.holds Try.pinned (OpenSpec.upto fnExactLackingSpec)

/-- 'laws.FnExactVersionsOf', WHERE WHAT IT READS IS OF BULK AT MOST 1048576: true; the input reads as it did. -/
def fnExactVersionsOfUptoRow : OpenClaim := { program := "ytmkdeknpphimbaa", sum := "02d9201befff85bbd5064f70657c54599056b97423b16cc38f4573488fc13c38", func := "loop.example/g00233/laws.FnExactVersionsOf", spec := "fnExactVersionsOf", apart := false, narrowed := true }
def FnExactVersionsOfUptoSaid : Prop := fnExactVersionsOfUptoRow.holds Try.pinned (OpenSpec.upto fnExactVersionsOfSpec)

/-- 'laws.FnExactFindEntry', WHERE WHAT IT READS IS OF BULK AT MOST 1048576: true; the input reads as it did. -/
def fnExactFindEntryUptoRow : OpenClaim := { program := "ytmkdeknpphimbaa", sum := "02d9201befff85bbd5064f70657c54599056b97423b16cc38f4573488fc13c38", func := "loop.example/g00233/laws.FnExactFindEntry", spec := "fnExactFindEntry", apart := false, narrowed := true }
def FnExactFindEntryUptoSaid : Prop := fnExactFindEntryUptoRow.holds Try.pinned (OpenSpec.upto fnExactFindEntrySpec)

/-- 'laws.FnExactNoFork', WHERE WHAT IT READS IS OF BULK AT MOST 1048576: true; the input reads as it did. -/
def fnExactNoForkUptoRow : OpenClaim := { program := "ytmkdeknpphimbaa", sum := "02d9201befff85bbd5064f70657c54599056b97423b16cc38f4573488fc13c38", func := "loop.example/g00233/laws.FnExactNoFork", spec := "fnExactNoFork", apart := false, narrowed := true }
def FnExactNoForkUptoSaid : Prop := fnExactNoForkUptoRow.holds Try.pinned (OpenSpec.upto fnExactNoForkSpec)

/-- 'laws.FnExactLevel', WHERE WHAT IT READS IS OF BULK AT MOST 1048576: true; the input reads as it did. -/
def fnExactLevelUptoRow : OpenClaim := { program := "ytmkdeknpphimbaa", sum := "02d9201befff85bbd5064f70657c54599056b97423b16cc38f4573488fc13c38", func := "loop.example/g00233/laws.FnExactLevel", spec := "fnExactLevel", apart := false, narrowed := true }
def FnExactLevelUptoSaid : Prop := fnExactLevelUptoRow.holds Try.pinned (OpenSpec.upto fnExactLevelSpec)

/-- 'laws.FnExactAllSigned', WHERE WHAT IT READS IS OF BULK AT MOST 1048576: true; the input reads as it did. -/
def fnExactAllSignedUptoRow : OpenClaim := { program := "ytmkdeknpphimbaa", sum := "02d9201befff85bbd5064f70657c54599056b97423b16cc38f4573488fc13c38", func := "loop.example/g00233/laws.FnExactAllSigned", spec := "fnExactAllSigned", apart := false, narrowed := true }
def FnExactAllSignedUptoSaid : Prop := fnExactAllSignedUptoRow.holds Try.pinned (OpenSpec.upto fnExactAllSignedSpec)

/-- 'laws.FnExactBeginnings', WHERE WHAT IT READS IS OF BULK AT MOST 1048576: true; the input reads as it did. -/
def fnExactBeginningsUptoRow : OpenClaim := { program := "ytmkdeknpphimbaa", sum := "02d9201befff85bbd5064f70657c54599056b97423b16cc38f4573488fc13c38", func := "loop.example/g00233/laws.FnExactBeginnings", spec := "fnExactBeginnings", apart := false, narrowed := true }
def FnExactBeginningsUptoSaid : Prop := fnExactBeginningsUptoRow.holds Try.pinned (OpenSpec.upto fnExactBeginningsSpec)

/-- 'laws.FnExactAgree', WHERE WHAT IT READS IS OF BULK AT MOST 1048576: true; the input reads as it did. -/
def fnExactAgreeUptoRow : OpenClaim := { program := "ytmkdeknpphimbaa", sum := "02d9201befff85bbd5064f70657c54599056b97423b16cc38f4573488fc13c38", func := "loop.example/g00233/laws.FnExactAgree", spec := "fnExactAgree", apart := false, narrowed := true }
def FnExactAgreeUptoSaid : Prop := fnExactAgreeUptoRow.holds Try.pinned (OpenSpec.upto fnExactAgreeSpec)

end Rows
end Go.Proofs.Ytmkdeknpphimbaa
