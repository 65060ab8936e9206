/-
  DERIVED. GIVEN WITH THE SEED: THE CARDS: each row of YtenjikkmmibffaaGreatDoorRows.lean that lists a variable, with what it lists TIED to the program's text (the seventh form; the later family's looks); each row that meets fmt, with fmt's text TOLD by the authors' own Lean function (tested against real Go, not proved from fmt's source: count such statements apart). THE CARD IS WHAT COUNTS. Prove the row's statement (the work); the ties are given (YtenjikkmmibffaaGreatDoorTie.lean); close each card by the builder's one call (the guide's Derived/Test/ToyasCard.lean, 'card_holds'). Laid BY PROGRAM, IN A SANDBOX (cutbox-door.mjs). By AI agents, Wed Nov 11 2026. No macro, syntax, notation, axiom, sorry.
-/
import Derived.Test.YtenjikkmmibffaaGreatDoorRows
import GoSem.ClaimSeven
namespace Go.Proofs.YtenjikkmmibffaaGreatDoor
namespace Rows

/-- THE TIED CARD OF 'lorrylaw57.ShadowBounds'. -/
def shadowBoundsCard : Claim7 := { stood := { row := shadowBoundsRow, standIns := [], harness := (true, "49f178dbb4b16adf6ff54d8cd3900edf5e5a4cbd46db93f1d53abce9e6351c5a"), looks := false }, kinds := [], alts := [], laidByText := true, laidKinds := [.data, .data, .data], laidTests := true, laidLooks := .later }
def ShadowBoundsCardSaid : Prop := Claim7.holds Tryz.pinned (.plain (OpenSpec.ofChange shadowBoundsSpec)) shadowBoundsCard

/-- THE TIED CARD OF 'lorrylaw57.ShadowPrices'. -/
def shadowPricesCard : Claim7 := { stood := { row := shadowPricesRow, standIns := [], harness := (true, "49f178dbb4b16adf6ff54d8cd3900edf5e5a4cbd46db93f1d53abce9e6351c5a"), looks := false }, kinds := [], alts := [], laidByText := true, laidKinds := [.data, .data, .data], laidTests := true, laidLooks := .later }
def ShadowPricesCardSaid : Prop := Claim7.holds Tryz.pinned (.plain (OpenSpec.ofChange shadowPricesSpec)) shadowPricesCard

/-- THE TIED CARD OF 'lorrylaw57.ShadowGrows'. -/
def shadowGrowsCard : Claim7 := { stood := { row := shadowGrowsRow, standIns := [], harness := (true, "49f178dbb4b16adf6ff54d8cd3900edf5e5a4cbd46db93f1d53abce9e6351c5a"), looks := false }, kinds := [], alts := [], laidByText := true, laidKinds := [.data, .data, .data], laidTests := true, laidLooks := .later }
def ShadowGrowsCardSaid : Prop := Claim7.holds Tryz.pinned (.plain (OpenSpec.ofChange shadowGrowsSpec)) shadowGrowsCard

/-- THE TIED CARD OF 'lorrylaw57.ShadowRanks'. -/
def shadowRanksCard : Claim7 := { stood := { row := shadowRanksRow, standIns := [], harness := (true, "49f178dbb4b16adf6ff54d8cd3900edf5e5a4cbd46db93f1d53abce9e6351c5a"), looks := false }, kinds := [], alts := [], laidByText := true, laidKinds := [.data, .data, .data], laidTests := true, laidLooks := .later }
def ShadowRanksCardSaid : Prop := Claim7.holds Tryz.pinned (.plain (OpenSpec.ofChange shadowRanksSpec)) shadowRanksCard

/-- THE SECOND FORM's CARD OF 'lorrylaw57.ShadowBounds'. -/
def shadowBoundsUptoCard : Claim7 := { stood := { row := shadowBoundsUptoRow, standIns := [], harness := (true, "49f178dbb4b16adf6ff54d8cd3900edf5e5a4cbd46db93f1d53abce9e6351c5a"), looks := false }, kinds := [], alts := [], laidByText := true, laidKinds := [.data, .data, .data], laidTests := true, laidLooks := .later }
def ShadowBoundsUptoCardSaid : Prop := Claim7.holds Tryz.pinned (.plain (OpenSpec.upto shadowBoundsSpec)) shadowBoundsUptoCard

/-- THE SECOND FORM's CARD OF 'lorrylaw57.ShadowPrices'. -/
def shadowPricesUptoCard : Claim7 := { stood := { row := shadowPricesUptoRow, standIns := [], harness := (true, "49f178dbb4b16adf6ff54d8cd3900edf5e5a4cbd46db93f1d53abce9e6351c5a"), looks := false }, kinds := [], alts := [], laidByText := true, laidKinds := [.data, .data, .data], laidTests := true, laidLooks := .later }
def ShadowPricesUptoCardSaid : Prop := Claim7.holds Tryz.pinned (.plain (OpenSpec.upto shadowPricesSpec)) shadowPricesUptoCard

/-- THE SECOND FORM's CARD OF 'lorrylaw57.ShadowGrows'. -/
def shadowGrowsUptoCard : Claim7 := { stood := { row := shadowGrowsUptoRow, standIns := [], harness := (true, "49f178dbb4b16adf6ff54d8cd3900edf5e5a4cbd46db93f1d53abce9e6351c5a"), looks := false }, kinds := [], alts := [], laidByText := true, laidKinds := [.data, .data, .data], laidTests := true, laidLooks := .later }
def ShadowGrowsUptoCardSaid : Prop := Claim7.holds Tryz.pinned (.plain (OpenSpec.upto shadowGrowsSpec)) shadowGrowsUptoCard

/-- THE SECOND FORM's CARD OF 'lorrylaw57.ShadowRanks'. -/
def shadowRanksUptoCard : Claim7 := { stood := { row := shadowRanksUptoRow, standIns := [], harness := (true, "49f178dbb4b16adf6ff54d8cd3900edf5e5a4cbd46db93f1d53abce9e6351c5a"), looks := false }, kinds := [], alts := [], laidByText := true, laidKinds := [.data, .data, .data], laidTests := true, laidLooks := .later }
def ShadowRanksUptoCardSaid : Prop := Claim7.holds Tryz.pinned (.plain (OpenSpec.upto shadowRanksSpec)) shadowRanksUptoCard
end Rows
end Go.Proofs.YtenjikkmmibffaaGreatDoor
