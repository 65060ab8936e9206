/-
  DERIVED. GIVEN WITH THE SEED: THE CARDS: each row of YtcdoglogglbemaaGreatDoorRows.lean that lists a variable, with what it lists TIED to the program's text (the seventh form; the later family's looks); each row that meets fmt, with fmt's text TOLD by the authors' own Lean function (tested against real Go, not proved from fmt's source: count such statements apart). THE CARD IS WHAT COUNTS. Prove the row's statement (the work); the ties are given (YtcdoglogglbemaaGreatDoorTie.lean); close each card by the builder's one call (the guide's Derived/Test/ToyasCard.lean, 'card_holds'). Laid BY PROGRAM, IN A SANDBOX (cutbox-door.mjs). By AI agents, Wed Nov 11 2026. No macro, syntax, notation, axiom, sorry.
-/
import Derived.Test.YtcdoglogglbemaaGreatDoorRows
import GoSem.ClaimSeven
namespace Go.Proofs.YtcdoglogglbemaaGreatDoor
namespace Rows

/-- THE TIED CARD OF 'lorrylaw42.RemoveOrders'. -/
def removeOrdersCard : Claim7 := { stood := { row := removeOrdersRow, standIns := [], harness := (true, "24d26ef79c81d03697112dd31db44e49fbcbcace4f1341fd48d75ffd43531fcd"), looks := false }, kinds := [], alts := [], laidByText := true, laidKinds := [.data, .data, .data], laidTests := true, laidLooks := .later }
def RemoveOrdersCardSaid : Prop := Claim7.holds Tryz.pinned (.plain (OpenSpec.ofChange removeOrdersSpec)) removeOrdersCard

/-- THE TIED CARD OF 'lorrylaw42.RemoveSaves'. -/
def removeSavesCard : Claim7 := { stood := { row := removeSavesRow, standIns := [], harness := (true, "24d26ef79c81d03697112dd31db44e49fbcbcace4f1341fd48d75ffd43531fcd"), looks := false }, kinds := [], alts := [], laidByText := true, laidKinds := [.data, .data, .data], laidTests := true, laidLooks := .later }
def RemoveSavesCardSaid : Prop := Claim7.holds Tryz.pinned (.plain (OpenSpec.ofChange removeSavesSpec)) removeSavesCard

/-- THE TIED CARD OF 'lorrylaw42.RemoveChooses'. -/
def removeChoosesCard : Claim7 := { stood := { row := removeChoosesRow, standIns := [], harness := (true, "24d26ef79c81d03697112dd31db44e49fbcbcace4f1341fd48d75ffd43531fcd"), looks := false }, kinds := [], alts := [], laidByText := true, laidKinds := [.data, .data, .data], laidTests := true, laidLooks := .later }
def RemoveChoosesCardSaid : Prop := Claim7.holds Tryz.pinned (.plain (OpenSpec.ofChange removeChoosesSpec)) removeChoosesCard

/-- THE TIED CARD OF 'lorrylaw42.RemoveKeeps'. -/
def removeKeepsCard : Claim7 := { stood := { row := removeKeepsRow, standIns := [], harness := (true, "24d26ef79c81d03697112dd31db44e49fbcbcace4f1341fd48d75ffd43531fcd"), looks := false }, kinds := [], alts := [], laidByText := true, laidKinds := [.data, .data, .data], laidTests := true, laidLooks := .later }
def RemoveKeepsCardSaid : Prop := Claim7.holds Tryz.pinned (.plain (OpenSpec.ofChange removeKeepsSpec)) removeKeepsCard

/-- THE TIED CARD OF 'lorrylaw42.RemovePicks'. -/
def removePicksCard : Claim7 := { stood := { row := removePicksRow, standIns := [], harness := (true, "24d26ef79c81d03697112dd31db44e49fbcbcace4f1341fd48d75ffd43531fcd"), looks := false }, kinds := [], alts := [], laidByText := true, laidKinds := [.data, .data, .data], laidTests := true, laidLooks := .later }
def RemovePicksCardSaid : Prop := Claim7.holds Tryz.pinned (.plain (OpenSpec.ofChange removePicksSpec)) removePicksCard

/-- THE TIED CARD OF 'lorrylaw24.ExactSolves'. -/
def exactSolvesCard : Claim7 := { stood := { row := exactSolvesRow, standIns := [], harness := (true, "24d26ef79c81d03697112dd31db44e49fbcbcace4f1341fd48d75ffd43531fcd"), looks := false }, kinds := [], alts := [], laidByText := true, laidKinds := [.data, .data, .data], laidTests := true, laidLooks := .later }
def ExactSolvesCardSaid : Prop := Claim7.holds Tryz.pinned (.plain (OpenSpec.ofChange exactSolvesSpec)) exactSolvesCard

/-- THE TIED CARD OF 'lorrylaw24.ExactLeast'. -/
def exactLeastCard : Claim7 := { stood := { row := exactLeastRow, standIns := [], harness := (true, "24d26ef79c81d03697112dd31db44e49fbcbcace4f1341fd48d75ffd43531fcd"), looks := false }, kinds := [], alts := [], laidByText := true, laidKinds := [.data, .data, .data], laidTests := true, laidLooks := .later }
def ExactLeastCardSaid : Prop := Claim7.holds Tryz.pinned (.plain (OpenSpec.ofChange exactLeastSpec)) exactLeastCard

/-- THE TIED CARD OF 'lorrylaw24.ExactValid'. -/
def exactValidCard : Claim7 := { stood := { row := exactValidRow, standIns := [], harness := (true, "24d26ef79c81d03697112dd31db44e49fbcbcace4f1341fd48d75ffd43531fcd"), looks := false }, kinds := [], alts := [], laidByText := true, laidKinds := [.data, .data, .data], laidTests := true, laidLooks := .later }
def ExactValidCardSaid : Prop := Claim7.holds Tryz.pinned (.plain (OpenSpec.ofChange exactValidSpec)) exactValidCard

/-- THE SECOND FORM's CARD OF 'lorrylaw42.RemoveOrders'. -/
def removeOrdersUptoCard : Claim7 := { stood := { row := removeOrdersUptoRow, standIns := [], harness := (true, "24d26ef79c81d03697112dd31db44e49fbcbcace4f1341fd48d75ffd43531fcd"), looks := false }, kinds := [], alts := [], laidByText := true, laidKinds := [.data, .data, .data], laidTests := true, laidLooks := .later }
def RemoveOrdersUptoCardSaid : Prop := Claim7.holds Tryz.pinned (.plain (OpenSpec.upto removeOrdersSpec)) removeOrdersUptoCard

/-- THE SECOND FORM's CARD OF 'lorrylaw42.RemoveSaves'. -/
def removeSavesUptoCard : Claim7 := { stood := { row := removeSavesUptoRow, standIns := [], harness := (true, "24d26ef79c81d03697112dd31db44e49fbcbcace4f1341fd48d75ffd43531fcd"), looks := false }, kinds := [], alts := [], laidByText := true, laidKinds := [.data, .data, .data], laidTests := true, laidLooks := .later }
def RemoveSavesUptoCardSaid : Prop := Claim7.holds Tryz.pinned (.plain (OpenSpec.upto removeSavesSpec)) removeSavesUptoCard

/-- THE SECOND FORM's CARD OF 'lorrylaw42.RemoveChooses'. -/
def removeChoosesUptoCard : Claim7 := { stood := { row := removeChoosesUptoRow, standIns := [], harness := (true, "24d26ef79c81d03697112dd31db44e49fbcbcace4f1341fd48d75ffd43531fcd"), looks := false }, kinds := [], alts := [], laidByText := true, laidKinds := [.data, .data, .data], laidTests := true, laidLooks := .later }
def RemoveChoosesUptoCardSaid : Prop := Claim7.holds Tryz.pinned (.plain (OpenSpec.upto removeChoosesSpec)) removeChoosesUptoCard

/-- THE SECOND FORM's CARD OF 'lorrylaw42.RemoveKeeps'. -/
def removeKeepsUptoCard : Claim7 := { stood := { row := removeKeepsUptoRow, standIns := [], harness := (true, "24d26ef79c81d03697112dd31db44e49fbcbcace4f1341fd48d75ffd43531fcd"), looks := false }, kinds := [], alts := [], laidByText := true, laidKinds := [.data, .data, .data], laidTests := true, laidLooks := .later }
def RemoveKeepsUptoCardSaid : Prop := Claim7.holds Tryz.pinned (.plain (OpenSpec.upto removeKeepsSpec)) removeKeepsUptoCard

/-- THE SECOND FORM's CARD OF 'lorrylaw42.RemovePicks'. -/
def removePicksUptoCard : Claim7 := { stood := { row := removePicksUptoRow, standIns := [], harness := (true, "24d26ef79c81d03697112dd31db44e49fbcbcace4f1341fd48d75ffd43531fcd"), looks := false }, kinds := [], alts := [], laidByText := true, laidKinds := [.data, .data, .data], laidTests := true, laidLooks := .later }
def RemovePicksUptoCardSaid : Prop := Claim7.holds Tryz.pinned (.plain (OpenSpec.upto removePicksSpec)) removePicksUptoCard

/-- THE SECOND FORM's CARD OF 'lorrylaw24.ExactSolves'. -/
def exactSolvesUptoCard : Claim7 := { stood := { row := exactSolvesUptoRow, standIns := [], harness := (true, "24d26ef79c81d03697112dd31db44e49fbcbcace4f1341fd48d75ffd43531fcd"), looks := false }, kinds := [], alts := [], laidByText := true, laidKinds := [.data, .data, .data], laidTests := true, laidLooks := .later }
def ExactSolvesUptoCardSaid : Prop := Claim7.holds Tryz.pinned (.plain (OpenSpec.upto exactSolvesSpec)) exactSolvesUptoCard

/-- THE SECOND FORM's CARD OF 'lorrylaw24.ExactLeast'. -/
def exactLeastUptoCard : Claim7 := { stood := { row := exactLeastUptoRow, standIns := [], harness := (true, "24d26ef79c81d03697112dd31db44e49fbcbcace4f1341fd48d75ffd43531fcd"), looks := false }, kinds := [], alts := [], laidByText := true, laidKinds := [.data, .data, .data], laidTests := true, laidLooks := .later }
def ExactLeastUptoCardSaid : Prop := Claim7.holds Tryz.pinned (.plain (OpenSpec.upto exactLeastSpec)) exactLeastUptoCard

/-- THE SECOND FORM's CARD OF 'lorrylaw24.ExactValid'. -/
def exactValidUptoCard : Claim7 := { stood := { row := exactValidUptoRow, standIns := [], harness := (true, "24d26ef79c81d03697112dd31db44e49fbcbcace4f1341fd48d75ffd43531fcd"), looks := false }, kinds := [], alts := [], laidByText := true, laidKinds := [.data, .data, .data], laidTests := true, laidLooks := .later }
def ExactValidUptoCardSaid : Prop := Claim7.holds Tryz.pinned (.plain (OpenSpec.upto exactValidSpec)) exactValidUptoCard
end Rows
end Go.Proofs.YtcdoglogglbemaaGreatDoor
