/-
  DERIVED. GIVEN WITH THE SEED: THE CARDS: each row of YtgknhiknjimdpaaGreatDoorRows.lean that lists a variable, with what it lists TIED to the program's text (the seventh form; the later family's looks); each row that meets fmt, with fmt's text TOLD by the authors' own Lean function (tested against real Go, not proved from fmt's source: count such statements apart). THE CARD IS WHAT COUNTS. Prove the row's statement (the work); the ties are given (YtgknhiknjimdpaaGreatDoorTie.lean); close each card by the builder's one call (the guide's Derived/Test/ToyasCard.lean, 'card_holds'). Laid BY PROGRAM, IN A SANDBOX (cutbox-door.mjs). By AI agents, Wed Nov 11 2026. No macro, syntax, notation, axiom, sorry.
-/
import Derived.Test.YtgknhiknjimdpaaGreatDoorRows
import GoSem.ClaimSeven
namespace Go.Proofs.YtgknhiknjimdpaaGreatDoor
namespace Rows

/-- THE TIED CARD OF 'lorrylaw59.WeekCarries'. -/
def weekCarriesCard : Claim7 := { stood := { row := weekCarriesRow, standIns := [], harness := (true, "3898d2af7178e41d210d0ade5173cbbce815fdbadb69ba2be7effd11b6b2e3f4"), looks := false }, kinds := [], alts := [], laidByText := true, laidKinds := [.data, .data, .data], laidTests := true, laidLooks := .later }
def WeekCarriesCardSaid : Prop := Claim7.holds Tryz.pinned (.plain (OpenSpec.ofChange weekCarriesSpec)) weekCarriesCard

/-- THE TIED CARD OF 'lorrylaw51.ExplainLines'. -/
def explainLinesCard : Claim7 := { stood := { row := explainLinesRow, standIns := [], harness := (true, "3898d2af7178e41d210d0ade5173cbbce815fdbadb69ba2be7effd11b6b2e3f4"), looks := false }, kinds := [], alts := [], laidByText := true, laidKinds := [.data, .data, .data], laidTests := true, laidLooks := .later }
def ExplainLinesCardSaid : Prop := Claim7.holds Tryz.pinned (.plain (OpenSpec.ofChange explainLinesSpec)) explainLinesCard

/-- THE SECOND FORM's CARD OF 'lorrylaw59.WeekCarries'. -/
def weekCarriesUptoCard : Claim7 := { stood := { row := weekCarriesUptoRow, standIns := [], harness := (true, "3898d2af7178e41d210d0ade5173cbbce815fdbadb69ba2be7effd11b6b2e3f4"), looks := false }, kinds := [], alts := [], laidByText := true, laidKinds := [.data, .data, .data], laidTests := true, laidLooks := .later }
def WeekCarriesUptoCardSaid : Prop := Claim7.holds Tryz.pinned (.plain (OpenSpec.upto weekCarriesSpec)) weekCarriesUptoCard

/-- THE SECOND FORM's CARD OF 'lorrylaw51.ExplainLines'. -/
def explainLinesUptoCard : Claim7 := { stood := { row := explainLinesUptoRow, standIns := [], harness := (true, "3898d2af7178e41d210d0ade5173cbbce815fdbadb69ba2be7effd11b6b2e3f4"), looks := false }, kinds := [], alts := [], laidByText := true, laidKinds := [.data, .data, .data], laidTests := true, laidLooks := .later }
def ExplainLinesUptoCardSaid : Prop := Claim7.holds Tryz.pinned (.plain (OpenSpec.upto explainLinesSpec)) explainLinesUptoCard
end Rows
end Go.Proofs.YtgknhiknjimdpaaGreatDoor
