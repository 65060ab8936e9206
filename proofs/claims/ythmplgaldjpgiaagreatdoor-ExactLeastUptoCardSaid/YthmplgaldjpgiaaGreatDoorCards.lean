/-
  DERIVED. GIVEN WITH THE SEED: THE CARDS: each row of YthmplgaldjpgiaaGreatDoorRows.lean that lists a variable, with what it lists TIED to the program's text (the seventh form; the later family's looks); each row that meets fmt, with fmt's text TOLD by the authors' own Lean function (tested against real Go, not proved from fmt's source: count such statements apart). THE CARD IS WHAT COUNTS. Prove the row's statement (the work); the ties are given (YthmplgaldjpgiaaGreatDoorTie.lean); close each card by the builder's one call (the guide's Derived/Test/ToyasCard.lean, 'card_holds'). Laid BY PROGRAM, IN A SANDBOX (cutbox-door.mjs). By AI agents, Wed Nov 11 2026. No macro, syntax, notation, axiom, sorry.
-/
import Derived.Test.YthmplgaldjpgiaaGreatDoorRows
import GoSem.ClaimSeven
namespace Go.Proofs.YthmplgaldjpgiaaGreatDoor
namespace Rows

/-- THE TIED CARD OF 'lorrylaw24.ExactSolves'. -/
def exactSolvesCard : Claim7 := { stood := { row := exactSolvesRow, standIns := [], harness := (true, "1e31b3f0cad78b767cc1c6da28160433ffc31461db7f92f3eccdae58a396bfac"), looks := false }, kinds := [], alts := [], laidByText := true, laidKinds := [.data, .data, .data], laidTests := true, laidLooks := .later }
def ExactSolvesCardSaid : Prop := Claim7.holds Tryz.pinned (.plain (OpenSpec.ofChange exactSolvesSpec)) exactSolvesCard

/-- THE TIED CARD OF 'lorrylaw24.ExactLeast'. -/
def exactLeastCard : Claim7 := { stood := { row := exactLeastRow, standIns := [], harness := (true, "1e31b3f0cad78b767cc1c6da28160433ffc31461db7f92f3eccdae58a396bfac"), looks := false }, kinds := [], alts := [], laidByText := true, laidKinds := [.data, .data, .data], laidTests := true, laidLooks := .later }
def ExactLeastCardSaid : Prop := Claim7.holds Tryz.pinned (.plain (OpenSpec.ofChange exactLeastSpec)) exactLeastCard

/-- THE TIED CARD OF 'lorrylaw24.ExactValid'. -/
def exactValidCard : Claim7 := { stood := { row := exactValidRow, standIns := [], harness := (true, "1e31b3f0cad78b767cc1c6da28160433ffc31461db7f92f3eccdae58a396bfac"), looks := false }, kinds := [], alts := [], laidByText := true, laidKinds := [.data, .data, .data], laidTests := true, laidLooks := .later }
def ExactValidCardSaid : Prop := Claim7.holds Tryz.pinned (.plain (OpenSpec.ofChange exactValidSpec)) exactValidCard

/-- THE SECOND FORM's CARD OF 'lorrylaw24.ExactSolves'. -/
def exactSolvesUptoCard : Claim7 := { stood := { row := exactSolvesUptoRow, standIns := [], harness := (true, "1e31b3f0cad78b767cc1c6da28160433ffc31461db7f92f3eccdae58a396bfac"), looks := false }, kinds := [], alts := [], laidByText := true, laidKinds := [.data, .data, .data], laidTests := true, laidLooks := .later }
def ExactSolvesUptoCardSaid : Prop := Claim7.holds Tryz.pinned (.plain (OpenSpec.upto exactSolvesSpec)) exactSolvesUptoCard

/-- THE SECOND FORM's CARD OF 'lorrylaw24.ExactLeast'. -/
def exactLeastUptoCard : Claim7 := { stood := { row := exactLeastUptoRow, standIns := [], harness := (true, "1e31b3f0cad78b767cc1c6da28160433ffc31461db7f92f3eccdae58a396bfac"), looks := false }, kinds := [], alts := [], laidByText := true, laidKinds := [.data, .data, .data], laidTests := true, laidLooks := .later }
def ExactLeastUptoCardSaid : Prop := Claim7.holds Tryz.pinned (.plain (OpenSpec.upto exactLeastSpec)) exactLeastUptoCard

/-- THE SECOND FORM's CARD OF 'lorrylaw24.ExactValid'. -/
def exactValidUptoCard : Claim7 := { stood := { row := exactValidUptoRow, standIns := [], harness := (true, "1e31b3f0cad78b767cc1c6da28160433ffc31461db7f92f3eccdae58a396bfac"), looks := false }, kinds := [], alts := [], laidByText := true, laidKinds := [.data, .data, .data], laidTests := true, laidLooks := .later }
def ExactValidUptoCardSaid : Prop := Claim7.holds Tryz.pinned (.plain (OpenSpec.upto exactValidSpec)) exactValidUptoCard
end Rows
end Go.Proofs.YthmplgaldjpgiaaGreatDoor
