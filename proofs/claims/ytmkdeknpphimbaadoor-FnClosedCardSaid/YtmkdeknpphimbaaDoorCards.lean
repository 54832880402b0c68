/-
  DERIVED. GIVEN WITH THE SEED: THE CARDS: each row of YtmkdeknpphimbaaDoorRows.lean that lists a variable, with what it lists TIED to the program's text (the seventh form; the later family's looks); each row that meets fmt, with fmt's text TOLD by the authors' own Lean function (tested against real Go, not proved from fmt's source: count such statements apart). THE CARD IS WHAT COUNTS. Prove the row's statement (the work); the ties are given (YtmkdeknpphimbaaDoorTie.lean); close each card by the builder's one call (the guide's Derived/Test/ToyasCard.lean, 'card_holds'). Laid BY PROGRAM, IN A SANDBOX (cutbox-door.mjs). By AI agents, Wed Nov 11 2026. No macro, syntax, notation, axiom, sorry.
-/
import Derived.Test.YtmkdeknpphimbaaDoorRows
import GoSem.ClaimSeven
namespace Go.Proofs.YtmkdeknpphimbaaDoor
namespace Rows

/-- THE TIED CARD OF 'laws.FnExactCovers'. -/
def fnExactCoversCard : Claim7 := { stood := { row := fnExactCoversRow, standIns := [], harness := (true, "e63ef1fe62f380642631eff40ef3755d5e0aeddd4824b746ddea324e835e51f5"), looks := false }, kinds := [], alts := [], laidByText := true, laidKinds := [.data, .pinned], laidTests := true, laidLooks := .later }
def FnExactCoversCardSaid : Prop := Claim7.holds Tryd.pinned (.plain (OpenSpec.ofChange fnExactCoversSpec)) fnExactCoversCard

/-- THE TIED CARD OF 'laws.FnCovered'. -/
def fnCoveredCard : Claim7 := { stood := { row := fnCoveredRow, standIns := [], harness := (true, "e63ef1fe62f380642631eff40ef3755d5e0aeddd4824b746ddea324e835e51f5"), looks := false }, kinds := [], alts := [], laidByText := true, laidKinds := [.data, .pinned], laidTests := true, laidLooks := .later }
def FnCoveredCardSaid : Prop := Claim7.holds Tryd.pinned (.plain (OpenSpec.ofChange fnCoveredSpec)) fnCoveredCard

/-- THE TIED CARD OF 'laws.FnExactClosed'. -/
def fnExactClosedCard : Claim7 := { stood := { row := fnExactClosedRow, standIns := [], harness := (true, "e63ef1fe62f380642631eff40ef3755d5e0aeddd4824b746ddea324e835e51f5"), looks := false }, kinds := [], alts := [], laidByText := true, laidKinds := [.data, .pinned], laidTests := true, laidLooks := .later }
def FnExactClosedCardSaid : Prop := Claim7.holds Tryd.pinned (.plain (OpenSpec.ofChange fnExactClosedSpec)) fnExactClosedCard

/-- THE TIED CARD OF 'laws.FnClosed'. -/
def fnClosedCard : Claim7 := { stood := { row := fnClosedRow, standIns := [], harness := (true, "e63ef1fe62f380642631eff40ef3755d5e0aeddd4824b746ddea324e835e51f5"), looks := false }, kinds := [], alts := [], laidByText := true, laidKinds := [.data, .pinned], laidTests := true, laidLooks := .later }
def FnClosedCardSaid : Prop := Claim7.holds Tryd.pinned (.plain (OpenSpec.ofChange fnClosedSpec)) fnClosedCard

/-- THE SECOND FORM's CARD OF 'laws.FnExactCovers'. -/
def fnExactCoversUptoCard : Claim7 := { stood := { row := fnExactCoversUptoRow, standIns := [], harness := (true, "e63ef1fe62f380642631eff40ef3755d5e0aeddd4824b746ddea324e835e51f5"), looks := false }, kinds := [], alts := [], laidByText := true, laidKinds := [.data, .pinned], laidTests := true, laidLooks := .later }
def FnExactCoversUptoCardSaid : Prop := Claim7.holds Tryd.pinned (.plain (OpenSpec.upto fnExactCoversSpec)) fnExactCoversUptoCard

/-- THE SECOND FORM's CARD OF 'laws.FnCovered'. -/
def fnCoveredUptoCard : Claim7 := { stood := { row := fnCoveredUptoRow, standIns := [], harness := (true, "e63ef1fe62f380642631eff40ef3755d5e0aeddd4824b746ddea324e835e51f5"), looks := false }, kinds := [], alts := [], laidByText := true, laidKinds := [.data, .pinned], laidTests := true, laidLooks := .later }
def FnCoveredUptoCardSaid : Prop := Claim7.holds Tryd.pinned (.plain (OpenSpec.upto fnCoveredSpec)) fnCoveredUptoCard

/-- THE SECOND FORM's CARD OF 'laws.FnExactClosed'. -/
def fnExactClosedUptoCard : Claim7 := { stood := { row := fnExactClosedUptoRow, standIns := [], harness := (true, "e63ef1fe62f380642631eff40ef3755d5e0aeddd4824b746ddea324e835e51f5"), looks := false }, kinds := [], alts := [], laidByText := true, laidKinds := [.data, .pinned], laidTests := true, laidLooks := .later }
def FnExactClosedUptoCardSaid : Prop := Claim7.holds Tryd.pinned (.plain (OpenSpec.upto fnExactClosedSpec)) fnExactClosedUptoCard

/-- THE SECOND FORM's CARD OF 'laws.FnClosed'. -/
def fnClosedUptoCard : Claim7 := { stood := { row := fnClosedUptoRow, standIns := [], harness := (true, "e63ef1fe62f380642631eff40ef3755d5e0aeddd4824b746ddea324e835e51f5"), looks := false }, kinds := [], alts := [], laidByText := true, laidKinds := [.data, .pinned], laidTests := true, laidLooks := .later }
def FnClosedUptoCardSaid : Prop := Claim7.holds Tryd.pinned (.plain (OpenSpec.upto fnClosedSpec)) fnClosedUptoCard
end Rows
end Go.Proofs.YtmkdeknpphimbaaDoor
