/-
  DERIVED. GIVEN WITH THE SEED: THE CARDS: each row of YtkhgmjdijnmhbaaDoorRows.lean that lists a variable, with what it lists TIED to the program's text (the seventh form; the later family's looks); each row that meets fmt, with fmt's text TOLD by the authors' own Lean function (tested against real Go, not proved from fmt's source: count such statements apart). THE CARD IS WHAT COUNTS. Prove the row's statement (the work); the ties are given (YtkhgmjdijnmhbaaDoorTie.lean); close each card by the builder's one call (the guide's Derived/Test/ToyasCard.lean, 'card_holds'). Laid BY PROGRAM, IN A SANDBOX (cutbox-door.mjs). By AI agents, Wed Nov 11 2026. No macro, syntax, notation, axiom, sorry.
-/
import Derived.Test.YtkhgmjdijnmhbaaDoorRows
import GoSem.ClaimSeven
namespace Go.Proofs.YtkhgmjdijnmhbaaDoor
namespace Rows

/-- THE TIED CARD OF 'lorrylaw24.ExactChooses'. -/
def exactChoosesCard : Claim7 := { stood := { row := exactChoosesRow, standIns := [], harness := (true, "8d5be9367201bbb85ddf76a9b658a2f3ac00d60fd86442c11144f9e9d90e5188"), looks := false }, kinds := [], alts := [], laidByText := true, laidKinds := [.data, .data], laidTests := true, laidLooks := .later }
def ExactChoosesCardSaid : Prop := Claim7.holds Tryd.pinned (.plain (OpenSpec.ofChange exactChoosesSpec)) exactChoosesCard

/-- THE TIED CARD OF 'lorrylaw24.ExactOrder'. -/
def exactOrderCard : Claim7 := { stood := { row := exactOrderRow, standIns := [], harness := (true, "8d5be9367201bbb85ddf76a9b658a2f3ac00d60fd86442c11144f9e9d90e5188"), looks := false }, kinds := [], alts := [], laidByText := true, laidKinds := [.data, .data], laidTests := true, laidLooks := .later }
def ExactOrderCardSaid : Prop := Claim7.holds Tryd.pinned (.plain (OpenSpec.ofChange exactOrderSpec)) exactOrderCard

/-- THE SECOND FORM's CARD OF 'lorrylaw24.ExactChooses'. -/
def exactChoosesUptoCard : Claim7 := { stood := { row := exactChoosesUptoRow, standIns := [], harness := (true, "8d5be9367201bbb85ddf76a9b658a2f3ac00d60fd86442c11144f9e9d90e5188"), looks := false }, kinds := [], alts := [], laidByText := true, laidKinds := [.data, .data], laidTests := true, laidLooks := .later }
def ExactChoosesUptoCardSaid : Prop := Claim7.holds Tryd.pinned (.plain (OpenSpec.upto exactChoosesSpec)) exactChoosesUptoCard

/-- THE SECOND FORM's CARD OF 'lorrylaw24.ExactOrder'. -/
def exactOrderUptoCard : Claim7 := { stood := { row := exactOrderUptoRow, standIns := [], harness := (true, "8d5be9367201bbb85ddf76a9b658a2f3ac00d60fd86442c11144f9e9d90e5188"), looks := false }, kinds := [], alts := [], laidByText := true, laidKinds := [.data, .data], laidTests := true, laidLooks := .later }
def ExactOrderUptoCardSaid : Prop := Claim7.holds Tryd.pinned (.plain (OpenSpec.upto exactOrderSpec)) exactOrderUptoCard
end Rows
end Go.Proofs.YtkhgmjdijnmhbaaDoor
