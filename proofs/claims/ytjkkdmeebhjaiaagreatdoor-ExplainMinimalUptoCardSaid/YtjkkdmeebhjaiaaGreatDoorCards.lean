/-
  DERIVED. GIVEN WITH THE SEED: THE CARDS: each row of YtjkkdmeebhjaiaaGreatDoorRows.lean that lists a variable, with what it lists TIED to the program's text (the seventh form; the later family's looks); each row that meets fmt, with fmt's text TOLD by the authors' own Lean function (tested against real Go, not proved from fmt's source: count such statements apart). THE CARD IS WHAT COUNTS. Prove the row's statement (the work); the ties are given (YtjkkdmeebhjaiaaGreatDoorTie.lean); close each card by the builder's one call (the guide's Derived/Test/ToyasCard.lean, 'card_holds'). Laid BY PROGRAM, IN A SANDBOX (cutbox-door.mjs). By AI agents, Wed Nov 11 2026. No macro, syntax, notation, axiom, sorry.
-/
import Derived.Test.YtjkkdmeebhjaiaaGreatDoorRows
import GoSem.ClaimSeven
namespace Go.Proofs.YtjkkdmeebhjaiaaGreatDoor
namespace Rows

/-- THE TIED CARD OF 'lorrylaw50.ConflictKeeps'. -/
def conflictKeepsCard : Claim7 := { stood := { row := conflictKeepsRow, standIns := [], harness := (true, "ad4b7874777524824feb8b799edab471e4194b16822c0824ba3771b55d9be586"), looks := false }, kinds := [], alts := [], laidByText := true, laidKinds := [.data, .data, .data], laidTests := true, laidLooks := .later }
def ConflictKeepsCardSaid : Prop := Claim7.holds Tryz.pinned (.plain (OpenSpec.ofChange conflictKeepsSpec)) conflictKeepsCard

/-- THE TIED CARD OF 'lorrylaw50.ConflictChecks'. -/
def conflictChecksCard : Claim7 := { stood := { row := conflictChecksRow, standIns := [], harness := (true, "ad4b7874777524824feb8b799edab471e4194b16822c0824ba3771b55d9be586"), looks := false }, kinds := [], alts := [], laidByText := true, laidKinds := [.data, .data, .data], laidTests := true, laidLooks := .later }
def ConflictChecksCardSaid : Prop := Claim7.holds Tryz.pinned (.plain (OpenSpec.ofChange conflictChecksSpec)) conflictChecksCard

/-- THE TIED CARD OF 'lorrylaw51.ExplainWhys'. -/
def explainWhysCard : Claim7 := { stood := { row := explainWhysRow, standIns := [], harness := (true, "ad4b7874777524824feb8b799edab471e4194b16822c0824ba3771b55d9be586"), looks := false }, kinds := [], alts := [], laidByText := true, laidKinds := [.data, .data, .data], laidTests := true, laidLooks := .later }
def ExplainWhysCardSaid : Prop := Claim7.holds Tryz.pinned (.plain (OpenSpec.ofChange explainWhysSpec)) explainWhysCard

/-- THE TIED CARD OF 'lorrylaw51.ExplainMinimal'. -/
def explainMinimalCard : Claim7 := { stood := { row := explainMinimalRow, standIns := [], harness := (true, "ad4b7874777524824feb8b799edab471e4194b16822c0824ba3771b55d9be586"), looks := false }, kinds := [], alts := [], laidByText := true, laidKinds := [.data, .data, .data], laidTests := true, laidLooks := .later }
def ExplainMinimalCardSaid : Prop := Claim7.holds Tryz.pinned (.plain (OpenSpec.ofChange explainMinimalSpec)) explainMinimalCard

/-- THE TIED CARD OF 'lorrylaw51.ExplainPrices'. -/
def explainPricesCard : Claim7 := { stood := { row := explainPricesRow, standIns := [], harness := (true, "ad4b7874777524824feb8b799edab471e4194b16822c0824ba3771b55d9be586"), looks := false }, kinds := [], alts := [], laidByText := true, laidKinds := [.data, .data, .data], laidTests := true, laidLooks := .later }
def ExplainPricesCardSaid : Prop := Claim7.holds Tryz.pinned (.plain (OpenSpec.ofChange explainPricesSpec)) explainPricesCard

/-- THE SECOND FORM's CARD OF 'lorrylaw50.ConflictKeeps'. -/
def conflictKeepsUptoCard : Claim7 := { stood := { row := conflictKeepsUptoRow, standIns := [], harness := (true, "ad4b7874777524824feb8b799edab471e4194b16822c0824ba3771b55d9be586"), looks := false }, kinds := [], alts := [], laidByText := true, laidKinds := [.data, .data, .data], laidTests := true, laidLooks := .later }
def ConflictKeepsUptoCardSaid : Prop := Claim7.holds Tryz.pinned (.plain (OpenSpec.upto conflictKeepsSpec)) conflictKeepsUptoCard

/-- THE SECOND FORM's CARD OF 'lorrylaw50.ConflictChecks'. -/
def conflictChecksUptoCard : Claim7 := { stood := { row := conflictChecksUptoRow, standIns := [], harness := (true, "ad4b7874777524824feb8b799edab471e4194b16822c0824ba3771b55d9be586"), looks := false }, kinds := [], alts := [], laidByText := true, laidKinds := [.data, .data, .data], laidTests := true, laidLooks := .later }
def ConflictChecksUptoCardSaid : Prop := Claim7.holds Tryz.pinned (.plain (OpenSpec.upto conflictChecksSpec)) conflictChecksUptoCard

/-- THE SECOND FORM's CARD OF 'lorrylaw51.ExplainWhys'. -/
def explainWhysUptoCard : Claim7 := { stood := { row := explainWhysUptoRow, standIns := [], harness := (true, "ad4b7874777524824feb8b799edab471e4194b16822c0824ba3771b55d9be586"), looks := false }, kinds := [], alts := [], laidByText := true, laidKinds := [.data, .data, .data], laidTests := true, laidLooks := .later }
def ExplainWhysUptoCardSaid : Prop := Claim7.holds Tryz.pinned (.plain (OpenSpec.upto explainWhysSpec)) explainWhysUptoCard

/-- THE SECOND FORM's CARD OF 'lorrylaw51.ExplainMinimal'. -/
def explainMinimalUptoCard : Claim7 := { stood := { row := explainMinimalUptoRow, standIns := [], harness := (true, "ad4b7874777524824feb8b799edab471e4194b16822c0824ba3771b55d9be586"), looks := false }, kinds := [], alts := [], laidByText := true, laidKinds := [.data, .data, .data], laidTests := true, laidLooks := .later }
def ExplainMinimalUptoCardSaid : Prop := Claim7.holds Tryz.pinned (.plain (OpenSpec.upto explainMinimalSpec)) explainMinimalUptoCard

/-- THE SECOND FORM's CARD OF 'lorrylaw51.ExplainPrices'. -/
def explainPricesUptoCard : Claim7 := { stood := { row := explainPricesUptoRow, standIns := [], harness := (true, "ad4b7874777524824feb8b799edab471e4194b16822c0824ba3771b55d9be586"), looks := false }, kinds := [], alts := [], laidByText := true, laidKinds := [.data, .data, .data], laidTests := true, laidLooks := .later }
def ExplainPricesUptoCardSaid : Prop := Claim7.holds Tryz.pinned (.plain (OpenSpec.upto explainPricesSpec)) explainPricesUptoCard
end Rows
end Go.Proofs.YtjkkdmeebhjaiaaGreatDoor
