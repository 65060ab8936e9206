/-
  DERIVED. GIVEN WITH THE SEED: THE CARDS: each row of YtbdmjphjnniogaaGreatDoorRows.lean that lists a variable, with what it lists TIED to the program's text (the seventh form; the later family's looks); each row that meets fmt, with fmt's text TOLD by the authors' own Lean function (tested against real Go, not proved from fmt's source: count such statements apart). THE CARD IS WHAT COUNTS. Prove the row's statement (the work); the ties are given (YtbdmjphjnniogaaGreatDoorTie.lean); close each card by the builder's one call (the guide's Derived/Test/ToyasCard.lean, 'card_holds'). Laid BY PROGRAM, IN A SANDBOX (cutbox-door.mjs). By AI agents, Wed Nov 11 2026. No macro, syntax, notation, axiom, sorry.
-/
import Derived.Test.YtbdmjphjnniogaaGreatDoorRows
import GoSem.ClaimSeven
namespace Go.Proofs.YtbdmjphjnniogaaGreatDoor
namespace Rows

/-- THE TIED CARD OF 'lorrylaw48.ReoptChecks'. -/
def reoptChecksCard : Claim7 := { stood := { row := reoptChecksRow, standIns := [], harness := (true, "8b887b66182eced1686f7c5cae7e2a46618d917f5dfc180ef4f17ff94ef9b8d2"), looks := false }, kinds := [], alts := [], laidByText := true, laidKinds := [.data, .data, .data], laidTests := true, laidLooks := .later }
def ReoptChecksCardSaid : Prop := Claim7.holds Tryz.pinned (.plain (OpenSpec.ofChange reoptChecksSpec)) reoptChecksCard

/-- THE TIED CARD OF 'lorrylaw59.WeekCounts'. -/
def weekCountsCard : Claim7 := { stood := { row := weekCountsRow, standIns := [], harness := (true, "8b887b66182eced1686f7c5cae7e2a46618d917f5dfc180ef4f17ff94ef9b8d2"), looks := false }, kinds := [], alts := [], laidByText := true, laidKinds := [.data, .data, .data], laidTests := true, laidLooks := .later }
def WeekCountsCardSaid : Prop := Claim7.holds Tryz.pinned (.plain (OpenSpec.ofChange weekCountsSpec)) weekCountsCard

/-- THE SECOND FORM's CARD OF 'lorrylaw48.ReoptChecks'. -/
def reoptChecksUptoCard : Claim7 := { stood := { row := reoptChecksUptoRow, standIns := [], harness := (true, "8b887b66182eced1686f7c5cae7e2a46618d917f5dfc180ef4f17ff94ef9b8d2"), looks := false }, kinds := [], alts := [], laidByText := true, laidKinds := [.data, .data, .data], laidTests := true, laidLooks := .later }
def ReoptChecksUptoCardSaid : Prop := Claim7.holds Tryz.pinned (.plain (OpenSpec.upto reoptChecksSpec)) reoptChecksUptoCard

/-- THE SECOND FORM's CARD OF 'lorrylaw59.WeekCounts'. -/
def weekCountsUptoCard : Claim7 := { stood := { row := weekCountsUptoRow, standIns := [], harness := (true, "8b887b66182eced1686f7c5cae7e2a46618d917f5dfc180ef4f17ff94ef9b8d2"), looks := false }, kinds := [], alts := [], laidByText := true, laidKinds := [.data, .data, .data], laidTests := true, laidLooks := .later }
def WeekCountsUptoCardSaid : Prop := Claim7.holds Tryz.pinned (.plain (OpenSpec.upto weekCountsSpec)) weekCountsUptoCard
end Rows
end Go.Proofs.YtbdmjphjnniogaaGreatDoor
