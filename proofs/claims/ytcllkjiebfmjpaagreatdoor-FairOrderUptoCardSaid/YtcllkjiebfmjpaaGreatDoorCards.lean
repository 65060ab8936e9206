/-
  DERIVED. GIVEN WITH THE SEED: THE CARDS: each row of YtcllkjiebfmjpaaGreatDoorRows.lean that lists a variable, with what it lists TIED to the program's text (the seventh form; the later family's looks); each row that meets fmt, with fmt's text TOLD by the authors' own Lean function (tested against real Go, not proved from fmt's source: count such statements apart). THE CARD IS WHAT COUNTS. Prove the row's statement (the work); the ties are given (YtcllkjiebfmjpaaGreatDoorTie.lean); close each card by the builder's one call (the guide's Derived/Test/ToyasCard.lean, 'card_holds'). Laid BY PROGRAM, IN A SANDBOX (cutbox-door.mjs). By AI agents, Wed Nov 11 2026. No macro, syntax, notation, axiom, sorry.
-/
import Derived.Test.YtcllkjiebfmjpaaGreatDoorRows
import GoSem.ClaimSeven
namespace Go.Proofs.YtcllkjiebfmjpaaGreatDoor
namespace Rows

/-- THE TIED CARD OF 'lorrylaw58.ManifestRows'. -/
def manifestRowsCard : Claim7 := { stood := { row := manifestRowsRow, standIns := [], harness := (true, "195ef8421860d3c904b32017d1dd8597365bfa35dcbd13ff5e58ffbc68873c3e"), looks := true }, kinds := [], alts := [], laidByText := true, laidKinds := [.data, .data, .data], laidTests := true, laidLooks := .later }
def ManifestRowsCardSaid : Prop := Claim7.holds Tryz.pinned (.plain (OpenSpec.ofChange manifestRowsSpec)) manifestRowsCard

/-- THE TIED CARD OF 'lorrylaw58.ManifestTicks'. -/
def manifestTicksCard : Claim7 := { stood := { row := manifestTicksRow, standIns := [], harness := (true, "195ef8421860d3c904b32017d1dd8597365bfa35dcbd13ff5e58ffbc68873c3e"), looks := true }, kinds := [], alts := [], laidByText := true, laidKinds := [.data, .data, .data], laidTests := true, laidLooks := .later }
def ManifestTicksCardSaid : Prop := Claim7.holds Tryz.pinned (.plain (OpenSpec.ofChange manifestTicksSpec)) manifestTicksCard

/-- THE TIED CARD OF 'lorrylaw58.ManifestTotals'. -/
def manifestTotalsCard : Claim7 := { stood := { row := manifestTotalsRow, standIns := [], harness := (true, "195ef8421860d3c904b32017d1dd8597365bfa35dcbd13ff5e58ffbc68873c3e"), looks := true }, kinds := [], alts := [], laidByText := true, laidKinds := [.data, .data, .data], laidTests := true, laidLooks := .later }
def ManifestTotalsCardSaid : Prop := Claim7.holds Tryz.pinned (.plain (OpenSpec.ofChange manifestTotalsSpec)) manifestTotalsCard

/-- THE TIED CARD OF 'lorrylaw58.ManifestOrder'. -/
def manifestOrderCard : Claim7 := { stood := { row := manifestOrderRow, standIns := [], harness := (true, "195ef8421860d3c904b32017d1dd8597365bfa35dcbd13ff5e58ffbc68873c3e"), looks := true }, kinds := [], alts := [], laidByText := true, laidKinds := [.data, .data, .data], laidTests := true, laidLooks := .later }
def ManifestOrderCardSaid : Prop := Claim7.holds Tryz.pinned (.plain (OpenSpec.ofChange manifestOrderSpec)) manifestOrderCard

/-- THE TIED CARD OF 'lorrylaw52.FairWorks'. -/
def fairWorksCard : Claim7 := { stood := { row := fairWorksRow, standIns := [], harness := (true, "195ef8421860d3c904b32017d1dd8597365bfa35dcbd13ff5e58ffbc68873c3e"), looks := true }, kinds := [], alts := [], laidByText := true, laidKinds := [.data, .data, .data], laidTests := true, laidLooks := .later }
def FairWorksCardSaid : Prop := Claim7.holds Tryz.pinned (.plain (OpenSpec.ofChange fairWorksSpec)) fairWorksCard

/-- THE TIED CARD OF 'lorrylaw52.FairRoutes'. -/
def fairRoutesCard : Claim7 := { stood := { row := fairRoutesRow, standIns := [], harness := (true, "195ef8421860d3c904b32017d1dd8597365bfa35dcbd13ff5e58ffbc68873c3e"), looks := true }, kinds := [], alts := [], laidByText := true, laidKinds := [.data, .data, .data], laidTests := true, laidLooks := .later }
def FairRoutesCardSaid : Prop := Claim7.holds Tryz.pinned (.plain (OpenSpec.ofChange fairRoutesSpec)) fairRoutesCard

/-- THE TIED CARD OF 'lorrylaw52.FairJudges'. -/
def fairJudgesCard : Claim7 := { stood := { row := fairJudgesRow, standIns := [], harness := (true, "195ef8421860d3c904b32017d1dd8597365bfa35dcbd13ff5e58ffbc68873c3e"), looks := true }, kinds := [], alts := [], laidByText := true, laidKinds := [.data, .data, .data], laidTests := true, laidLooks := .later }
def FairJudgesCardSaid : Prop := Claim7.holds Tryz.pinned (.plain (OpenSpec.ofChange fairJudgesSpec)) fairJudgesCard

/-- THE TIED CARD OF 'lorrylaw52.FairOrder'. -/
def fairOrderCard : Claim7 := { stood := { row := fairOrderRow, standIns := [], harness := (true, "195ef8421860d3c904b32017d1dd8597365bfa35dcbd13ff5e58ffbc68873c3e"), looks := true }, kinds := [], alts := [], laidByText := true, laidKinds := [.data, .data, .data], laidTests := true, laidLooks := .later }
def FairOrderCardSaid : Prop := Claim7.holds Tryz.pinned (.plain (OpenSpec.ofChange fairOrderSpec)) fairOrderCard

/-- THE TIED CARD OF 'lorrylaw23.PlanOf'. -/
def planOfCard : Claim7 := { stood := { row := planOfRow, standIns := [], harness := (true, "195ef8421860d3c904b32017d1dd8597365bfa35dcbd13ff5e58ffbc68873c3e"), looks := true }, kinds := [], alts := [], laidByText := true, laidKinds := [.data, .data, .data, .sentinel, .sentinel], laidTests := true, laidLooks := .later }
def PlanOfCardSaid : Prop := Claim7.holds Tryz.pinned (.plain (OpenSpec.ofChange planOfSpec)) planOfCard

/-- THE TIED CARD OF 'lorrylaw23.PlanChecks'. -/
def planChecksCard : Claim7 := { stood := { row := planChecksRow, standIns := [], harness := (true, "195ef8421860d3c904b32017d1dd8597365bfa35dcbd13ff5e58ffbc68873c3e"), looks := true }, kinds := [], alts := [], laidByText := true, laidKinds := [.data, .data, .data, .sentinel, .sentinel], laidTests := true, laidLooks := .later }
def PlanChecksCardSaid : Prop := Claim7.holds Tryz.pinned (.plain (OpenSpec.ofChange planChecksSpec)) planChecksCard

/-- THE SECOND FORM's CARD OF 'lorrylaw58.ManifestRows'. -/
def manifestRowsUptoCard : Claim7 := { stood := { row := manifestRowsUptoRow, standIns := [], harness := (true, "195ef8421860d3c904b32017d1dd8597365bfa35dcbd13ff5e58ffbc68873c3e"), looks := true }, kinds := [], alts := [], laidByText := true, laidKinds := [.data, .data, .data], laidTests := true, laidLooks := .later }
def ManifestRowsUptoCardSaid : Prop := Claim7.holds Tryz.pinned (.plain (OpenSpec.upto manifestRowsSpec)) manifestRowsUptoCard

/-- THE SECOND FORM's CARD OF 'lorrylaw58.ManifestTicks'. -/
def manifestTicksUptoCard : Claim7 := { stood := { row := manifestTicksUptoRow, standIns := [], harness := (true, "195ef8421860d3c904b32017d1dd8597365bfa35dcbd13ff5e58ffbc68873c3e"), looks := true }, kinds := [], alts := [], laidByText := true, laidKinds := [.data, .data, .data], laidTests := true, laidLooks := .later }
def ManifestTicksUptoCardSaid : Prop := Claim7.holds Tryz.pinned (.plain (OpenSpec.upto manifestTicksSpec)) manifestTicksUptoCard

/-- THE SECOND FORM's CARD OF 'lorrylaw58.ManifestTotals'. -/
def manifestTotalsUptoCard : Claim7 := { stood := { row := manifestTotalsUptoRow, standIns := [], harness := (true, "195ef8421860d3c904b32017d1dd8597365bfa35dcbd13ff5e58ffbc68873c3e"), looks := true }, kinds := [], alts := [], laidByText := true, laidKinds := [.data, .data, .data], laidTests := true, laidLooks := .later }
def ManifestTotalsUptoCardSaid : Prop := Claim7.holds Tryz.pinned (.plain (OpenSpec.upto manifestTotalsSpec)) manifestTotalsUptoCard

/-- THE SECOND FORM's CARD OF 'lorrylaw58.ManifestOrder'. -/
def manifestOrderUptoCard : Claim7 := { stood := { row := manifestOrderUptoRow, standIns := [], harness := (true, "195ef8421860d3c904b32017d1dd8597365bfa35dcbd13ff5e58ffbc68873c3e"), looks := true }, kinds := [], alts := [], laidByText := true, laidKinds := [.data, .data, .data], laidTests := true, laidLooks := .later }
def ManifestOrderUptoCardSaid : Prop := Claim7.holds Tryz.pinned (.plain (OpenSpec.upto manifestOrderSpec)) manifestOrderUptoCard

/-- THE SECOND FORM's CARD OF 'lorrylaw52.FairWorks'. -/
def fairWorksUptoCard : Claim7 := { stood := { row := fairWorksUptoRow, standIns := [], harness := (true, "195ef8421860d3c904b32017d1dd8597365bfa35dcbd13ff5e58ffbc68873c3e"), looks := true }, kinds := [], alts := [], laidByText := true, laidKinds := [.data, .data, .data], laidTests := true, laidLooks := .later }
def FairWorksUptoCardSaid : Prop := Claim7.holds Tryz.pinned (.plain (OpenSpec.upto fairWorksSpec)) fairWorksUptoCard

/-- THE SECOND FORM's CARD OF 'lorrylaw52.FairRoutes'. -/
def fairRoutesUptoCard : Claim7 := { stood := { row := fairRoutesUptoRow, standIns := [], harness := (true, "195ef8421860d3c904b32017d1dd8597365bfa35dcbd13ff5e58ffbc68873c3e"), looks := true }, kinds := [], alts := [], laidByText := true, laidKinds := [.data, .data, .data], laidTests := true, laidLooks := .later }
def FairRoutesUptoCardSaid : Prop := Claim7.holds Tryz.pinned (.plain (OpenSpec.upto fairRoutesSpec)) fairRoutesUptoCard

/-- THE SECOND FORM's CARD OF 'lorrylaw52.FairJudges'. -/
def fairJudgesUptoCard : Claim7 := { stood := { row := fairJudgesUptoRow, standIns := [], harness := (true, "195ef8421860d3c904b32017d1dd8597365bfa35dcbd13ff5e58ffbc68873c3e"), looks := true }, kinds := [], alts := [], laidByText := true, laidKinds := [.data, .data, .data], laidTests := true, laidLooks := .later }
def FairJudgesUptoCardSaid : Prop := Claim7.holds Tryz.pinned (.plain (OpenSpec.upto fairJudgesSpec)) fairJudgesUptoCard

/-- THE SECOND FORM's CARD OF 'lorrylaw52.FairOrder'. -/
def fairOrderUptoCard : Claim7 := { stood := { row := fairOrderUptoRow, standIns := [], harness := (true, "195ef8421860d3c904b32017d1dd8597365bfa35dcbd13ff5e58ffbc68873c3e"), looks := true }, kinds := [], alts := [], laidByText := true, laidKinds := [.data, .data, .data], laidTests := true, laidLooks := .later }
def FairOrderUptoCardSaid : Prop := Claim7.holds Tryz.pinned (.plain (OpenSpec.upto fairOrderSpec)) fairOrderUptoCard

/-- THE SECOND FORM's CARD OF 'lorrylaw23.PlanOf'. -/
def planOfUptoCard : Claim7 := { stood := { row := planOfUptoRow, standIns := [], harness := (true, "195ef8421860d3c904b32017d1dd8597365bfa35dcbd13ff5e58ffbc68873c3e"), looks := true }, kinds := [], alts := [], laidByText := true, laidKinds := [.data, .data, .data, .sentinel, .sentinel], laidTests := true, laidLooks := .later }
def PlanOfUptoCardSaid : Prop := Claim7.holds Tryz.pinned (.plain (OpenSpec.upto planOfSpec)) planOfUptoCard

/-- THE SECOND FORM's CARD OF 'lorrylaw23.PlanChecks'. -/
def planChecksUptoCard : Claim7 := { stood := { row := planChecksUptoRow, standIns := [], harness := (true, "195ef8421860d3c904b32017d1dd8597365bfa35dcbd13ff5e58ffbc68873c3e"), looks := true }, kinds := [], alts := [], laidByText := true, laidKinds := [.data, .data, .data, .sentinel, .sentinel], laidTests := true, laidLooks := .later }
def PlanChecksUptoCardSaid : Prop := Claim7.holds Tryz.pinned (.plain (OpenSpec.upto planChecksSpec)) planChecksUptoCard
end Rows
end Go.Proofs.YtcllkjiebfmjpaaGreatDoor
