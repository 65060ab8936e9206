/-
  DERIVED. GIVEN WITH THE SEED: THE CARDS: each row of YtiigdaohjanidaaGreatDoorRows.lean that lists a variable, with what it lists TIED to the program's text (the seventh form; the later family's looks); each row that meets fmt, with fmt's text TOLD by the authors' own Lean function (tested against real Go, not proved from fmt's source: count such statements apart). THE CARD IS WHAT COUNTS. Prove the row's statement (the work); the ties are given (YtiigdaohjanidaaGreatDoorTie.lean); close each card by the builder's one call (the guide's Derived/Test/ToyasCard.lean, 'card_holds'). Laid BY PROGRAM, IN A SANDBOX (cutbox-door.mjs). By AI agents, Wed Nov 11 2026. No macro, syntax, notation, axiom, sorry.
-/
import Derived.Test.YtiigdaohjanidaaGreatDoorRows
import GoSem.ClaimSeven
namespace Go.Proofs.YtiigdaohjanidaaGreatDoor
namespace Rows

/-- THE TIED CARD OF 'lorrylaw59.WeekPlans'. -/
def weekPlansCard : Claim7 := { stood := { row := weekPlansRow, standIns := [], harness := (true, "fc6ae7564400a4ccc495708dec3f5f6f0c5f670c02cb8027deb9d52430da8ae4"), looks := false }, kinds := [], alts := [], laidByText := true, laidKinds := [.data, .data, .data], laidTests := true, laidLooks := .later }
def WeekPlansCardSaid : Prop := Claim7.holds Tryz.pinned (.plain (OpenSpec.ofChange weekPlansSpec)) weekPlansCard

/-- THE TIED CARD OF 'lorrylaw59.WeekLeast'. -/
def weekLeastCard : Claim7 := { stood := { row := weekLeastRow, standIns := [], harness := (true, "fc6ae7564400a4ccc495708dec3f5f6f0c5f670c02cb8027deb9d52430da8ae4"), looks := false }, kinds := [], alts := [], laidByText := true, laidKinds := [.data, .data, .data], laidTests := true, laidLooks := .later }
def WeekLeastCardSaid : Prop := Claim7.holds Tryz.pinned (.plain (OpenSpec.ofChange weekLeastSpec)) weekLeastCard

/-- THE TIED CARD OF 'lorrylaw59.WeekOthers'. -/
def weekOthersCard : Claim7 := { stood := { row := weekOthersRow, standIns := [], harness := (true, "fc6ae7564400a4ccc495708dec3f5f6f0c5f670c02cb8027deb9d52430da8ae4"), looks := false }, kinds := [], alts := [], laidByText := true, laidKinds := [.data, .data, .data], laidTests := true, laidLooks := .later }
def WeekOthersCardSaid : Prop := Claim7.holds Tryz.pinned (.plain (OpenSpec.ofChange weekOthersSpec)) weekOthersCard

/-- THE TIED CARD OF 'lorrylaw48.ReoptSolves'. -/
def reoptSolvesCard : Claim7 := { stood := { row := reoptSolvesRow, standIns := [], harness := (true, "fc6ae7564400a4ccc495708dec3f5f6f0c5f670c02cb8027deb9d52430da8ae4"), looks := false }, kinds := [], alts := [], laidByText := true, laidKinds := [.data, .data, .data], laidTests := true, laidLooks := .later }
def ReoptSolvesCardSaid : Prop := Claim7.holds Tryz.pinned (.plain (OpenSpec.ofChange reoptSolvesSpec)) reoptSolvesCard

/-- THE TIED CARD OF 'lorrylaw48.ReoptKeeps'. -/
def reoptKeepsCard : Claim7 := { stood := { row := reoptKeepsRow, standIns := [], harness := (true, "fc6ae7564400a4ccc495708dec3f5f6f0c5f670c02cb8027deb9d52430da8ae4"), looks := false }, kinds := [], alts := [], laidByText := true, laidKinds := [.data, .data, .data], laidTests := true, laidLooks := .later }
def ReoptKeepsCardSaid : Prop := Claim7.holds Tryz.pinned (.plain (OpenSpec.ofChange reoptKeepsSpec)) reoptKeepsCard

/-- THE TIED CARD OF 'lorrylaw48.ReoptStays'. -/
def reoptStaysCard : Claim7 := { stood := { row := reoptStaysRow, standIns := [], harness := (true, "fc6ae7564400a4ccc495708dec3f5f6f0c5f670c02cb8027deb9d52430da8ae4"), looks := false }, kinds := [], alts := [], laidByText := true, laidKinds := [.data, .data, .data], laidTests := true, laidLooks := .later }
def ReoptStaysCardSaid : Prop := Claim7.holds Tryz.pinned (.plain (OpenSpec.ofChange reoptStaysSpec)) reoptStaysCard

/-- THE SECOND FORM's CARD OF 'lorrylaw59.WeekPlans'. -/
def weekPlansUptoCard : Claim7 := { stood := { row := weekPlansUptoRow, standIns := [], harness := (true, "fc6ae7564400a4ccc495708dec3f5f6f0c5f670c02cb8027deb9d52430da8ae4"), looks := false }, kinds := [], alts := [], laidByText := true, laidKinds := [.data, .data, .data], laidTests := true, laidLooks := .later }
def WeekPlansUptoCardSaid : Prop := Claim7.holds Tryz.pinned (.plain (OpenSpec.upto weekPlansSpec)) weekPlansUptoCard

/-- THE SECOND FORM's CARD OF 'lorrylaw59.WeekLeast'. -/
def weekLeastUptoCard : Claim7 := { stood := { row := weekLeastUptoRow, standIns := [], harness := (true, "fc6ae7564400a4ccc495708dec3f5f6f0c5f670c02cb8027deb9d52430da8ae4"), looks := false }, kinds := [], alts := [], laidByText := true, laidKinds := [.data, .data, .data], laidTests := true, laidLooks := .later }
def WeekLeastUptoCardSaid : Prop := Claim7.holds Tryz.pinned (.plain (OpenSpec.upto weekLeastSpec)) weekLeastUptoCard

/-- THE SECOND FORM's CARD OF 'lorrylaw59.WeekOthers'. -/
def weekOthersUptoCard : Claim7 := { stood := { row := weekOthersUptoRow, standIns := [], harness := (true, "fc6ae7564400a4ccc495708dec3f5f6f0c5f670c02cb8027deb9d52430da8ae4"), looks := false }, kinds := [], alts := [], laidByText := true, laidKinds := [.data, .data, .data], laidTests := true, laidLooks := .later }
def WeekOthersUptoCardSaid : Prop := Claim7.holds Tryz.pinned (.plain (OpenSpec.upto weekOthersSpec)) weekOthersUptoCard

/-- THE SECOND FORM's CARD OF 'lorrylaw48.ReoptSolves'. -/
def reoptSolvesUptoCard : Claim7 := { stood := { row := reoptSolvesUptoRow, standIns := [], harness := (true, "fc6ae7564400a4ccc495708dec3f5f6f0c5f670c02cb8027deb9d52430da8ae4"), looks := false }, kinds := [], alts := [], laidByText := true, laidKinds := [.data, .data, .data], laidTests := true, laidLooks := .later }
def ReoptSolvesUptoCardSaid : Prop := Claim7.holds Tryz.pinned (.plain (OpenSpec.upto reoptSolvesSpec)) reoptSolvesUptoCard

/-- THE SECOND FORM's CARD OF 'lorrylaw48.ReoptKeeps'. -/
def reoptKeepsUptoCard : Claim7 := { stood := { row := reoptKeepsUptoRow, standIns := [], harness := (true, "fc6ae7564400a4ccc495708dec3f5f6f0c5f670c02cb8027deb9d52430da8ae4"), looks := false }, kinds := [], alts := [], laidByText := true, laidKinds := [.data, .data, .data], laidTests := true, laidLooks := .later }
def ReoptKeepsUptoCardSaid : Prop := Claim7.holds Tryz.pinned (.plain (OpenSpec.upto reoptKeepsSpec)) reoptKeepsUptoCard

/-- THE SECOND FORM's CARD OF 'lorrylaw48.ReoptStays'. -/
def reoptStaysUptoCard : Claim7 := { stood := { row := reoptStaysUptoRow, standIns := [], harness := (true, "fc6ae7564400a4ccc495708dec3f5f6f0c5f670c02cb8027deb9d52430da8ae4"), looks := false }, kinds := [], alts := [], laidByText := true, laidKinds := [.data, .data, .data], laidTests := true, laidLooks := .later }
def ReoptStaysUptoCardSaid : Prop := Claim7.holds Tryz.pinned (.plain (OpenSpec.upto reoptStaysSpec)) reoptStaysUptoCard
end Rows
end Go.Proofs.YtiigdaohjanidaaGreatDoor
