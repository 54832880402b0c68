/-
  DERIVED. GIVEN WITH THE SEED: THE CARDS: each row of YtfpdikledfhcaaaGreatDoorRows.lean that lists a variable, with what it lists TIED to the program's text (the seventh form; the later family's looks); each row that meets fmt, with fmt's text TOLD by the authors' own Lean function (tested against real Go, not proved from fmt's source: count such statements apart). THE CARD IS WHAT COUNTS. Prove the row's statement (the work); the ties are given (YtfpdikledfhcaaaGreatDoorTie.lean); close each card by the builder's one call (the guide's Derived/Test/ToyasCard.lean, 'card_holds'). Laid BY PROGRAM, IN A SANDBOX (cutbox-door.mjs). By AI agents, Wed Nov 11 2026. No macro, syntax, notation, axiom, sorry.
-/
import Derived.Test.YtfpdikledfhcaaaGreatDoorRows
import GoSem.ClaimSeven
namespace Go.Proofs.YtfpdikledfhcaaaGreatDoor
namespace Rows

/-- THE TIED CARD OF 'laws.FnExactLockText'. -/
def fnExactLockTextCard : Claim7 := { stood := { row := fnExactLockTextRow, standIns := [], harness := (true, "a63e342e5869a138a45726afa8ed8d1e5ab897291d891536a59044af415b15b4"), looks := true }, kinds := [], alts := [], laidByText := true, laidKinds := [.data, .data, .data, .data, .sentinel, .sentinel, .pinned], laidTests := true, laidLooks := .later }
def FnExactLockTextCardSaid : Prop := Claim7.holds Tryz.pinned (.plain (OpenSpec.ofChange fnExactLockTextSpec)) fnExactLockTextCard

/-- THE TIED CARD OF 'laws.FnExactClientOk'. -/
def fnExactClientOkCard : Claim7 := { stood := { row := fnExactClientOkRow, standIns := [], harness := (true, "a63e342e5869a138a45726afa8ed8d1e5ab897291d891536a59044af415b15b4"), looks := true }, kinds := [], alts := [], laidByText := true, laidKinds := [.data, .data, .data, .data, .sentinel, .sentinel, .pinned], laidTests := true, laidLooks := .later }
def FnExactClientOkCardSaid : Prop := Claim7.holds Tryz.pinned (.plain (OpenSpec.ofChange fnExactClientOkSpec)) fnExactClientOkCard

/-- THE TIED CARD OF 'laws.FnReached'. -/
def fnReachedCard : Claim7 := { stood := { row := fnReachedRow, standIns := [], harness := (true, "a63e342e5869a138a45726afa8ed8d1e5ab897291d891536a59044af415b15b4"), looks := true }, kinds := [], alts := [], laidByText := true, laidKinds := [.data, .data, .data, .data, .sentinel, .sentinel, .pinned], laidTests := true, laidLooks := .later }
def FnReachedCardSaid : Prop := Claim7.holds Tryz.pinned (.plain (OpenSpec.ofChange fnReachedSpec)) fnReachedCard

/-- THE TIED CARD OF 'laws.FnExactReach'. -/
def fnExactReachCard : Claim7 := { stood := { row := fnExactReachRow, standIns := [], harness := (true, "a63e342e5869a138a45726afa8ed8d1e5ab897291d891536a59044af415b15b4"), looks := true }, kinds := [], alts := [], laidByText := true, laidKinds := [.data, .data, .data, .data, .sentinel, .sentinel, .pinned], laidTests := true, laidLooks := .later }
def FnExactReachCardSaid : Prop := Claim7.holds Tryz.pinned (.plain (OpenSpec.ofChange fnExactReachSpec)) fnExactReachCard

/-- THE TIED CARD OF 'laws.FnExactClientNew'. -/
def fnExactClientNewCard : Claim7 := { stood := { row := fnExactClientNewRow, standIns := [], harness := (true, "a63e342e5869a138a45726afa8ed8d1e5ab897291d891536a59044af415b15b4"), looks := true }, kinds := [], alts := [], laidByText := true, laidKinds := [.data, .data, .data, .data, .sentinel, .sentinel, .pinned], laidTests := true, laidLooks := .later }
def FnExactClientNewCardSaid : Prop := Claim7.holds Tryz.pinned (.plain (OpenSpec.ofChange fnExactClientNewSpec)) fnExactClientNewCard

/-- THE TIED CARD OF 'laws.FnExactParseLock'. -/
def fnExactParseLockCard : Claim7 := { stood := { row := fnExactParseLockRow, standIns := [], harness := (true, "a63e342e5869a138a45726afa8ed8d1e5ab897291d891536a59044af415b15b4"), looks := true }, kinds := [], alts := [], laidByText := true, laidKinds := [.data, .data, .data, .data, .sentinel, .sentinel, .pinned], laidTests := true, laidLooks := .later }
def FnExactParseLockCardSaid : Prop := Claim7.holds Tryz.pinned (.plain (OpenSpec.ofChange fnExactParseLockSpec)) fnExactParseLockCard

/-- THE TIED CARD OF 'laws.FnExactWanted'. -/
def fnExactWantedCard : Claim7 := { stood := { row := fnExactWantedRow, standIns := [], harness := (true, "a63e342e5869a138a45726afa8ed8d1e5ab897291d891536a59044af415b15b4"), looks := true }, kinds := [], alts := [], laidByText := true, laidKinds := [.data, .data, .data, .data, .sentinel, .sentinel, .pinned], laidTests := true, laidLooks := .later }
def FnExactWantedCardSaid : Prop := Claim7.holds Tryz.pinned (.plain (OpenSpec.ofChange fnExactWantedSpec)) fnExactWantedCard

/-- THE TIED CARD OF 'laws.FnLocks'. -/
def fnLocksCard : Claim7 := { stood := { row := fnLocksRow, standIns := [], harness := (true, "a63e342e5869a138a45726afa8ed8d1e5ab897291d891536a59044af415b15b4"), looks := true }, kinds := [], alts := [], laidByText := true, laidKinds := [.data, .data, .data, .data, .sentinel, .sentinel, .pinned], laidTests := true, laidLooks := .later }
def FnLocksCardSaid : Prop := Claim7.holds Tryz.pinned (.plain (OpenSpec.ofChange fnLocksSpec)) fnLocksCard

/-- THE TIED CARD OF 'laws.FnLeast'. -/
def fnLeastCard : Claim7 := { stood := { row := fnLeastRow, standIns := [], harness := (true, "a63e342e5869a138a45726afa8ed8d1e5ab897291d891536a59044af415b15b4"), looks := true }, kinds := [], alts := [], laidByText := true, laidKinds := [.data, .data, .data, .data, .sentinel, .sentinel, .pinned], laidTests := true, laidLooks := .later }
def FnLeastCardSaid : Prop := Claim7.holds Tryz.pinned (.plain (OpenSpec.ofChange fnLeastSpec)) fnLeastCard

/-- THE SECOND FORM's CARD OF 'laws.FnExactLockText'. -/
def fnExactLockTextUptoCard : Claim7 := { stood := { row := fnExactLockTextUptoRow, standIns := [], harness := (true, "a63e342e5869a138a45726afa8ed8d1e5ab897291d891536a59044af415b15b4"), looks := true }, kinds := [], alts := [], laidByText := true, laidKinds := [.data, .data, .data, .data, .sentinel, .sentinel, .pinned], laidTests := true, laidLooks := .later }
def FnExactLockTextUptoCardSaid : Prop := Claim7.holds Tryz.pinned (.plain (OpenSpec.upto fnExactLockTextSpec)) fnExactLockTextUptoCard

/-- THE SECOND FORM's CARD OF 'laws.FnExactClientOk'. -/
def fnExactClientOkUptoCard : Claim7 := { stood := { row := fnExactClientOkUptoRow, standIns := [], harness := (true, "a63e342e5869a138a45726afa8ed8d1e5ab897291d891536a59044af415b15b4"), looks := true }, kinds := [], alts := [], laidByText := true, laidKinds := [.data, .data, .data, .data, .sentinel, .sentinel, .pinned], laidTests := true, laidLooks := .later }
def FnExactClientOkUptoCardSaid : Prop := Claim7.holds Tryz.pinned (.plain (OpenSpec.upto fnExactClientOkSpec)) fnExactClientOkUptoCard

/-- THE SECOND FORM's CARD OF 'laws.FnReached'. -/
def fnReachedUptoCard : Claim7 := { stood := { row := fnReachedUptoRow, standIns := [], harness := (true, "a63e342e5869a138a45726afa8ed8d1e5ab897291d891536a59044af415b15b4"), looks := true }, kinds := [], alts := [], laidByText := true, laidKinds := [.data, .data, .data, .data, .sentinel, .sentinel, .pinned], laidTests := true, laidLooks := .later }
def FnReachedUptoCardSaid : Prop := Claim7.holds Tryz.pinned (.plain (OpenSpec.upto fnReachedSpec)) fnReachedUptoCard

/-- THE SECOND FORM's CARD OF 'laws.FnExactReach'. -/
def fnExactReachUptoCard : Claim7 := { stood := { row := fnExactReachUptoRow, standIns := [], harness := (true, "a63e342e5869a138a45726afa8ed8d1e5ab897291d891536a59044af415b15b4"), looks := true }, kinds := [], alts := [], laidByText := true, laidKinds := [.data, .data, .data, .data, .sentinel, .sentinel, .pinned], laidTests := true, laidLooks := .later }
def FnExactReachUptoCardSaid : Prop := Claim7.holds Tryz.pinned (.plain (OpenSpec.upto fnExactReachSpec)) fnExactReachUptoCard

/-- THE SECOND FORM's CARD OF 'laws.FnExactClientNew'. -/
def fnExactClientNewUptoCard : Claim7 := { stood := { row := fnExactClientNewUptoRow, standIns := [], harness := (true, "a63e342e5869a138a45726afa8ed8d1e5ab897291d891536a59044af415b15b4"), looks := true }, kinds := [], alts := [], laidByText := true, laidKinds := [.data, .data, .data, .data, .sentinel, .sentinel, .pinned], laidTests := true, laidLooks := .later }
def FnExactClientNewUptoCardSaid : Prop := Claim7.holds Tryz.pinned (.plain (OpenSpec.upto fnExactClientNewSpec)) fnExactClientNewUptoCard

/-- THE SECOND FORM's CARD OF 'laws.FnExactParseLock'. -/
def fnExactParseLockUptoCard : Claim7 := { stood := { row := fnExactParseLockUptoRow, standIns := [], harness := (true, "a63e342e5869a138a45726afa8ed8d1e5ab897291d891536a59044af415b15b4"), looks := true }, kinds := [], alts := [], laidByText := true, laidKinds := [.data, .data, .data, .data, .sentinel, .sentinel, .pinned], laidTests := true, laidLooks := .later }
def FnExactParseLockUptoCardSaid : Prop := Claim7.holds Tryz.pinned (.plain (OpenSpec.upto fnExactParseLockSpec)) fnExactParseLockUptoCard

/-- THE SECOND FORM's CARD OF 'laws.FnExactWanted'. -/
def fnExactWantedUptoCard : Claim7 := { stood := { row := fnExactWantedUptoRow, standIns := [], harness := (true, "a63e342e5869a138a45726afa8ed8d1e5ab897291d891536a59044af415b15b4"), looks := true }, kinds := [], alts := [], laidByText := true, laidKinds := [.data, .data, .data, .data, .sentinel, .sentinel, .pinned], laidTests := true, laidLooks := .later }
def FnExactWantedUptoCardSaid : Prop := Claim7.holds Tryz.pinned (.plain (OpenSpec.upto fnExactWantedSpec)) fnExactWantedUptoCard

/-- THE SECOND FORM's CARD OF 'laws.FnLocks'. -/
def fnLocksUptoCard : Claim7 := { stood := { row := fnLocksUptoRow, standIns := [], harness := (true, "a63e342e5869a138a45726afa8ed8d1e5ab897291d891536a59044af415b15b4"), looks := true }, kinds := [], alts := [], laidByText := true, laidKinds := [.data, .data, .data, .data, .sentinel, .sentinel, .pinned], laidTests := true, laidLooks := .later }
def FnLocksUptoCardSaid : Prop := Claim7.holds Tryz.pinned (.plain (OpenSpec.upto fnLocksSpec)) fnLocksUptoCard

/-- THE SECOND FORM's CARD OF 'laws.FnLeast'. -/
def fnLeastUptoCard : Claim7 := { stood := { row := fnLeastUptoRow, standIns := [], harness := (true, "a63e342e5869a138a45726afa8ed8d1e5ab897291d891536a59044af415b15b4"), looks := true }, kinds := [], alts := [], laidByText := true, laidKinds := [.data, .data, .data, .data, .sentinel, .sentinel, .pinned], laidTests := true, laidLooks := .later }
def FnLeastUptoCardSaid : Prop := Claim7.holds Tryz.pinned (.plain (OpenSpec.upto fnLeastSpec)) fnLeastUptoCard
end Rows
end Go.Proofs.YtfpdikledfhcaaaGreatDoor
