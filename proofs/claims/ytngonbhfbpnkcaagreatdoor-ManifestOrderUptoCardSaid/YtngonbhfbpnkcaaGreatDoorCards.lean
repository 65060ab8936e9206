/-
  DERIVED. GIVEN WITH THE SEED: THE CARDS: each row of YtngonbhfbpnkcaaGreatDoorRows.lean that lists a variable, with what it lists TIED to the program's text (the seventh form; the later family's looks); each row that meets fmt, with fmt's text TOLD by the authors' own Lean function (tested against real Go, not proved from fmt's source: count such statements apart). THE CARD IS WHAT COUNTS. Prove the row's statement (the work); the ties are given (YtngonbhfbpnkcaaGreatDoorTie.lean); close each card by the builder's one call (the guide's Derived/Test/ToyasCard.lean, 'card_holds'). Laid BY PROGRAM, IN A SANDBOX (cutbox-door.mjs). By AI agents, Wed Nov 11 2026. No macro, syntax, notation, axiom, sorry.
-/
import Derived.Test.YtngonbhfbpnkcaaGreatDoorRows
import GoSem.ClaimSeven
namespace Go.Proofs.YtngonbhfbpnkcaaGreatDoor
namespace Rows

/-- THE TIED CARD OF 'lorrylaw58.ManifestRows'. -/
def manifestRowsCard : Claim7 := { stood := { row := manifestRowsRow, standIns := [], harness := (true, "724531d32426ce654e7285be7fbb7bbb0ff51425ea23325b0915c31279d6a94b"), looks := true }, kinds := [], alts := [], laidByText := true, laidKinds := [.data, .data, .data], laidTests := true, laidLooks := .later }
def ManifestRowsCardSaid : Prop := Claim7.holds Tryz.pinned (.plain (OpenSpec.ofChange manifestRowsSpec)) manifestRowsCard

/-- THE TIED CARD OF 'lorrylaw58.ManifestTicks'. -/
def manifestTicksCard : Claim7 := { stood := { row := manifestTicksRow, standIns := [], harness := (true, "724531d32426ce654e7285be7fbb7bbb0ff51425ea23325b0915c31279d6a94b"), looks := true }, kinds := [], alts := [], laidByText := true, laidKinds := [.data, .data, .data], laidTests := true, laidLooks := .later }
def ManifestTicksCardSaid : Prop := Claim7.holds Tryz.pinned (.plain (OpenSpec.ofChange manifestTicksSpec)) manifestTicksCard

/-- THE TIED CARD OF 'lorrylaw58.ManifestTotals'. -/
def manifestTotalsCard : Claim7 := { stood := { row := manifestTotalsRow, standIns := [], harness := (true, "724531d32426ce654e7285be7fbb7bbb0ff51425ea23325b0915c31279d6a94b"), looks := true }, kinds := [], alts := [], laidByText := true, laidKinds := [.data, .data, .data], laidTests := true, laidLooks := .later }
def ManifestTotalsCardSaid : Prop := Claim7.holds Tryz.pinned (.plain (OpenSpec.ofChange manifestTotalsSpec)) manifestTotalsCard

/-- THE TIED CARD OF 'lorrylaw58.ManifestOrder'. -/
def manifestOrderCard : Claim7 := { stood := { row := manifestOrderRow, standIns := [], harness := (true, "724531d32426ce654e7285be7fbb7bbb0ff51425ea23325b0915c31279d6a94b"), looks := true }, kinds := [], alts := [], laidByText := true, laidKinds := [.data, .data, .data], laidTests := true, laidLooks := .later }
def ManifestOrderCardSaid : Prop := Claim7.holds Tryz.pinned (.plain (OpenSpec.ofChange manifestOrderSpec)) manifestOrderCard

/-- THE TIED CARD OF 'lorrylaw58.ManifestPrints'. -/
def manifestPrintsCard : Claim7 := { stood := { row := manifestPrintsRow, standIns := [], harness := (true, "724531d32426ce654e7285be7fbb7bbb0ff51425ea23325b0915c31279d6a94b"), looks := true }, kinds := [], alts := [], laidByText := true, laidKinds := [.data, .data, .data, .sentinel, .sentinel], laidTests := true, laidLooks := .later }
def ManifestPrintsCardSaid : Prop := Claim7.holds Tryz.pinned (.plain (OpenSpec.ofChange manifestPrintsSpec)) manifestPrintsCard

/-- THE TIED CARD OF 'lorrylaw58.ManifestParses'. -/
def manifestParsesCard : Claim7 := { stood := { row := manifestParsesRow, standIns := [], harness := (true, "724531d32426ce654e7285be7fbb7bbb0ff51425ea23325b0915c31279d6a94b"), looks := true }, kinds := [], alts := [], laidByText := true, laidKinds := [.data, .data, .data, .sentinel, .sentinel], laidTests := true, laidLooks := .later }
def ManifestParsesCardSaid : Prop := Claim7.holds Tryz.pinned (.plain (OpenSpec.ofChange manifestParsesSpec)) manifestParsesCard

/-- THE TIED CARD OF 'lorrylaw23.PlanRoundTrip'. -/
def planRoundTripCard : Claim7 := { stood := { row := planRoundTripRow, standIns := [], harness := (true, "724531d32426ce654e7285be7fbb7bbb0ff51425ea23325b0915c31279d6a94b"), looks := true }, kinds := [], alts := [], laidByText := true, laidKinds := [.data, .data, .data, .sentinel, .sentinel], laidTests := true, laidLooks := .later }
def PlanRoundTripCardSaid : Prop := Claim7.holds Tryz.pinned (.plain (OpenSpec.ofChange planRoundTripSpec)) planRoundTripCard

/-- THE TIED CARD OF 'lorrylaw23.PlanParses'. -/
def planParsesCard : Claim7 := { stood := { row := planParsesRow, standIns := [], harness := (true, "724531d32426ce654e7285be7fbb7bbb0ff51425ea23325b0915c31279d6a94b"), looks := true }, kinds := [], alts := [], laidByText := true, laidKinds := [.data, .data, .data, .sentinel, .sentinel], laidTests := true, laidLooks := .later }
def PlanParsesCardSaid : Prop := Claim7.holds Tryz.pinned (.plain (OpenSpec.ofChange planParsesSpec)) planParsesCard

/-- THE TIED CARD OF 'lorrylaw23.PlanOf'. -/
def planOfCard : Claim7 := { stood := { row := planOfRow, standIns := [], harness := (true, "724531d32426ce654e7285be7fbb7bbb0ff51425ea23325b0915c31279d6a94b"), looks := true }, kinds := [], alts := [], laidByText := true, laidKinds := [.data, .data, .data, .sentinel, .sentinel], laidTests := true, laidLooks := .later }
def PlanOfCardSaid : Prop := Claim7.holds Tryz.pinned (.plain (OpenSpec.ofChange planOfSpec)) planOfCard

/-- THE TIED CARD OF 'lorrylaw23.PlanChecks'. -/
def planChecksCard : Claim7 := { stood := { row := planChecksRow, standIns := [], harness := (true, "724531d32426ce654e7285be7fbb7bbb0ff51425ea23325b0915c31279d6a94b"), looks := true }, kinds := [], alts := [], laidByText := true, laidKinds := [.data, .data, .data, .sentinel, .sentinel], laidTests := true, laidLooks := .later }
def PlanChecksCardSaid : Prop := Claim7.holds Tryz.pinned (.plain (OpenSpec.ofChange planChecksSpec)) planChecksCard

/-- THE TIED CARD OF 'lorrylaw23.PlanSorts'. -/
def planSortsCard : Claim7 := { stood := { row := planSortsRow, standIns := [], harness := (true, "724531d32426ce654e7285be7fbb7bbb0ff51425ea23325b0915c31279d6a94b"), looks := true }, kinds := [], alts := [], laidByText := true, laidKinds := [.data, .data, .data, .sentinel, .sentinel], laidTests := true, laidLooks := .later }
def PlanSortsCardSaid : Prop := Claim7.holds Tryz.pinned (.plain (OpenSpec.ofChange planSortsSpec)) planSortsCard

/-- THE SECOND FORM's CARD OF 'lorrylaw58.ManifestRows'. -/
def manifestRowsUptoCard : Claim7 := { stood := { row := manifestRowsUptoRow, standIns := [], harness := (true, "724531d32426ce654e7285be7fbb7bbb0ff51425ea23325b0915c31279d6a94b"), looks := true }, kinds := [], alts := [], laidByText := true, laidKinds := [.data, .data, .data], laidTests := true, laidLooks := .later }
def ManifestRowsUptoCardSaid : Prop := Claim7.holds Tryz.pinned (.plain (OpenSpec.upto manifestRowsSpec)) manifestRowsUptoCard

/-- THE SECOND FORM's CARD OF 'lorrylaw58.ManifestTicks'. -/
def manifestTicksUptoCard : Claim7 := { stood := { row := manifestTicksUptoRow, standIns := [], harness := (true, "724531d32426ce654e7285be7fbb7bbb0ff51425ea23325b0915c31279d6a94b"), looks := true }, kinds := [], alts := [], laidByText := true, laidKinds := [.data, .data, .data], laidTests := true, laidLooks := .later }
def ManifestTicksUptoCardSaid : Prop := Claim7.holds Tryz.pinned (.plain (OpenSpec.upto manifestTicksSpec)) manifestTicksUptoCard

/-- THE SECOND FORM's CARD OF 'lorrylaw58.ManifestTotals'. -/
def manifestTotalsUptoCard : Claim7 := { stood := { row := manifestTotalsUptoRow, standIns := [], harness := (true, "724531d32426ce654e7285be7fbb7bbb0ff51425ea23325b0915c31279d6a94b"), looks := true }, kinds := [], alts := [], laidByText := true, laidKinds := [.data, .data, .data], laidTests := true, laidLooks := .later }
def ManifestTotalsUptoCardSaid : Prop := Claim7.holds Tryz.pinned (.plain (OpenSpec.upto manifestTotalsSpec)) manifestTotalsUptoCard

/-- THE SECOND FORM's CARD OF 'lorrylaw58.ManifestOrder'. -/
def manifestOrderUptoCard : Claim7 := { stood := { row := manifestOrderUptoRow, standIns := [], harness := (true, "724531d32426ce654e7285be7fbb7bbb0ff51425ea23325b0915c31279d6a94b"), looks := true }, kinds := [], alts := [], laidByText := true, laidKinds := [.data, .data, .data], laidTests := true, laidLooks := .later }
def ManifestOrderUptoCardSaid : Prop := Claim7.holds Tryz.pinned (.plain (OpenSpec.upto manifestOrderSpec)) manifestOrderUptoCard

/-- THE SECOND FORM's CARD OF 'lorrylaw58.ManifestPrints'. -/
def manifestPrintsUptoCard : Claim7 := { stood := { row := manifestPrintsUptoRow, standIns := [], harness := (true, "724531d32426ce654e7285be7fbb7bbb0ff51425ea23325b0915c31279d6a94b"), looks := true }, kinds := [], alts := [], laidByText := true, laidKinds := [.data, .data, .data, .sentinel, .sentinel], laidTests := true, laidLooks := .later }
def ManifestPrintsUptoCardSaid : Prop := Claim7.holds Tryz.pinned (.plain (OpenSpec.upto manifestPrintsSpec)) manifestPrintsUptoCard

/-- THE SECOND FORM's CARD OF 'lorrylaw58.ManifestParses'. -/
def manifestParsesUptoCard : Claim7 := { stood := { row := manifestParsesUptoRow, standIns := [], harness := (true, "724531d32426ce654e7285be7fbb7bbb0ff51425ea23325b0915c31279d6a94b"), looks := true }, kinds := [], alts := [], laidByText := true, laidKinds := [.data, .data, .data, .sentinel, .sentinel], laidTests := true, laidLooks := .later }
def ManifestParsesUptoCardSaid : Prop := Claim7.holds Tryz.pinned (.plain (OpenSpec.upto manifestParsesSpec)) manifestParsesUptoCard

/-- THE SECOND FORM's CARD OF 'lorrylaw23.PlanRoundTrip'. -/
def planRoundTripUptoCard : Claim7 := { stood := { row := planRoundTripUptoRow, standIns := [], harness := (true, "724531d32426ce654e7285be7fbb7bbb0ff51425ea23325b0915c31279d6a94b"), looks := true }, kinds := [], alts := [], laidByText := true, laidKinds := [.data, .data, .data, .sentinel, .sentinel], laidTests := true, laidLooks := .later }
def PlanRoundTripUptoCardSaid : Prop := Claim7.holds Tryz.pinned (.plain (OpenSpec.upto planRoundTripSpec)) planRoundTripUptoCard

/-- THE SECOND FORM's CARD OF 'lorrylaw23.PlanParses'. -/
def planParsesUptoCard : Claim7 := { stood := { row := planParsesUptoRow, standIns := [], harness := (true, "724531d32426ce654e7285be7fbb7bbb0ff51425ea23325b0915c31279d6a94b"), looks := true }, kinds := [], alts := [], laidByText := true, laidKinds := [.data, .data, .data, .sentinel, .sentinel], laidTests := true, laidLooks := .later }
def PlanParsesUptoCardSaid : Prop := Claim7.holds Tryz.pinned (.plain (OpenSpec.upto planParsesSpec)) planParsesUptoCard

/-- THE SECOND FORM's CARD OF 'lorrylaw23.PlanOf'. -/
def planOfUptoCard : Claim7 := { stood := { row := planOfUptoRow, standIns := [], harness := (true, "724531d32426ce654e7285be7fbb7bbb0ff51425ea23325b0915c31279d6a94b"), looks := true }, kinds := [], alts := [], laidByText := true, laidKinds := [.data, .data, .data, .sentinel, .sentinel], laidTests := true, laidLooks := .later }
def PlanOfUptoCardSaid : Prop := Claim7.holds Tryz.pinned (.plain (OpenSpec.upto planOfSpec)) planOfUptoCard

/-- THE SECOND FORM's CARD OF 'lorrylaw23.PlanChecks'. -/
def planChecksUptoCard : Claim7 := { stood := { row := planChecksUptoRow, standIns := [], harness := (true, "724531d32426ce654e7285be7fbb7bbb0ff51425ea23325b0915c31279d6a94b"), looks := true }, kinds := [], alts := [], laidByText := true, laidKinds := [.data, .data, .data, .sentinel, .sentinel], laidTests := true, laidLooks := .later }
def PlanChecksUptoCardSaid : Prop := Claim7.holds Tryz.pinned (.plain (OpenSpec.upto planChecksSpec)) planChecksUptoCard

/-- THE SECOND FORM's CARD OF 'lorrylaw23.PlanSorts'. -/
def planSortsUptoCard : Claim7 := { stood := { row := planSortsUptoRow, standIns := [], harness := (true, "724531d32426ce654e7285be7fbb7bbb0ff51425ea23325b0915c31279d6a94b"), looks := true }, kinds := [], alts := [], laidByText := true, laidKinds := [.data, .data, .data, .sentinel, .sentinel], laidTests := true, laidLooks := .later }
def PlanSortsUptoCardSaid : Prop := Claim7.holds Tryz.pinned (.plain (OpenSpec.upto planSortsSpec)) planSortsUptoCard
end Rows
end Go.Proofs.YtngonbhfbpnkcaaGreatDoor
