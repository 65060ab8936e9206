/-
  No cell of these rows narrows 'for every input' (looked for: loops, veiled, ifaces, maps, wideKeys, modest, calm, conditions, laid).
  DERIVED. THE GIVEN ROWS OF THIS SEAT. 6 by the template 'for every input the law returns true; each argument reads behind the call as it read before'; 0 by the template 'total and deterministic' (their statements: YtalmcdllbibknaaTotals.lean).
  GIVEN WITH THE SEED: the statements are not yours to turn. If you find one false, say at which input.
  Laid BY PROGRAM, IN A SANDBOX (cutbox-rows.mjs): the forced cells as the released guide's own fill.sh prints them over the translation 9fdb4f18e2dc108f… (all of the seat's roots in one cut). By AI agents, Wed Nov 11 2026. No macro, syntax, notation, axiom, sorry.
-/
import Derived.Test.YtalmcdllbibknaaChecked
import GoSem.Claim
import GoSem.ClaimJoined
import GoSem.ClaimMapViews
import Derived.JoinedTies
import Derived.KernelRfl
namespace Go.Proofs.Ytalmcdllbibknaa
/- THE CELL 'sum', in the pinned program and in every row, IS THE sha256 OF THE DUMP (.gsa) THAT YtalmcdllbibknaaProg.lean LOADS. Nothing in Lean hashes anything: it is a label: what it is worth is what the hold of that sum in a sandbox is worth. -/
noncomputable def Try.pinned : Pinned := { name := "ytalmcdllbibknaa", sum := "9fdb4f18e2dc108f284f1bc55fb7b218393dd28056597cffdad5d26f02ea2180", checked := Try.checked }
namespace Rows
def none {H : Type} : Left H := { results := [], args := [] }

/-- 'lorrylaw12.RulesChecks': WHATEVER THE INPUT: true; the input reads as it did. -/
def rulesChecksSpec : ChangeSpec := { name := "rulesChecks", fn := fun _ => fun
  | [d1, d2, d3] => { results := [.lit (.bool true)], args := [d1, d2, d3] }
  | _ => none }
def rulesChecksRow : OpenClaim := { program := "ytalmcdllbibknaa", sum := "9fdb4f18e2dc108f284f1bc55fb7b218393dd28056597cffdad5d26f02ea2180", func := "lorry/lorrylaw12.RulesChecks", spec := "rulesChecks", unfollowed := true, recurses := true, apart := false }
def RulesChecksSaid : Prop := rulesChecksRow.holds Try.pinned (OpenSpec.ofChange rulesChecksSpec)

/-- ITS FALSE NEIGHBOUR: 'it returns false'. Refute it at one input. -/
def rulesChecksWrong : ChangeSpec := { name := "rulesChecks", fn := fun _ => fun
  | [d1, d2, d3] => { results := [.lit (.bool false)], args := [d1, d2, d3] }
  | _ => none }
def RulesChecksWrongFalsely : Prop := rulesChecksRow.holds Try.pinned (OpenSpec.ofChange rulesChecksWrong)

/-- 'lorrylaw12.RulesChains': WHATEVER THE INPUT: true; the input reads as it did. -/
def rulesChainsSpec : ChangeSpec := { name := "rulesChains", fn := fun _ => fun
  | [d1, d2] => { results := [.lit (.bool true)], args := [d1, d2] }
  | _ => none }
def rulesChainsRow : OpenClaim := { program := "ytalmcdllbibknaa", sum := "9fdb4f18e2dc108f284f1bc55fb7b218393dd28056597cffdad5d26f02ea2180", func := "lorry/lorrylaw12.RulesChains", spec := "rulesChains", unfollowed := true, recurses := true, apart := false }
def RulesChainsSaid : Prop := rulesChainsRow.holds Try.pinned (OpenSpec.ofChange rulesChainsSpec)

/-- ITS FALSE NEIGHBOUR: 'it returns false'. Refute it at one input. -/
def rulesChainsWrong : ChangeSpec := { name := "rulesChains", fn := fun _ => fun
  | [d1, d2] => { results := [.lit (.bool false)], args := [d1, d2] }
  | _ => none }
def RulesChainsWrongFalsely : Prop := rulesChainsRow.holds Try.pinned (OpenSpec.ofChange rulesChainsWrong)

/-- 'lorrylaw12.RulesAllow': WHATEVER THE INPUT: true; the input reads as it did. -/
def rulesAllowSpec : ChangeSpec := { name := "rulesAllow", fn := fun _ => fun
  | [d1, d2] => { results := [.lit (.bool true)], args := [d1, d2] }
  | _ => none }
def rulesAllowRow : OpenClaim := { program := "ytalmcdllbibknaa", sum := "9fdb4f18e2dc108f284f1bc55fb7b218393dd28056597cffdad5d26f02ea2180", func := "lorry/lorrylaw12.RulesAllow", spec := "rulesAllow", unfollowed := true, recurses := true, apart := false }
def RulesAllowSaid : Prop := rulesAllowRow.holds Try.pinned (OpenSpec.ofChange rulesAllowSpec)

/-- ITS FALSE NEIGHBOUR: 'it returns false'. Refute it at one input. -/
def rulesAllowWrong : ChangeSpec := { name := "rulesAllow", fn := fun _ => fun
  | [d1, d2] => { results := [.lit (.bool false)], args := [d1, d2] }
  | _ => none }
def RulesAllowWrongFalsely : Prop := rulesAllowRow.holds Try.pinned (OpenSpec.ofChange rulesAllowWrong)

/-- 'lorrylaw12.RulesTransitive': WHATEVER THE INPUT: true; the input reads as it did. -/
def rulesTransitiveSpec : ChangeSpec := { name := "rulesTransitive", fn := fun _ => fun
  | [d] => { results := [.lit (.bool true)], args := [d] }
  | _ => none }
def rulesTransitiveRow : OpenClaim := { program := "ytalmcdllbibknaa", sum := "9fdb4f18e2dc108f284f1bc55fb7b218393dd28056597cffdad5d26f02ea2180", func := "lorry/lorrylaw12.RulesTransitive", spec := "rulesTransitive", unfollowed := true, recurses := true, apart := false }
def RulesTransitiveSaid : Prop := rulesTransitiveRow.holds Try.pinned (OpenSpec.ofChange rulesTransitiveSpec)

/-- ITS FALSE NEIGHBOUR: 'it returns false'. Refute it at one input. -/
def rulesTransitiveWrong : ChangeSpec := { name := "rulesTransitive", fn := fun _ => fun
  | [d] => { results := [.lit (.bool false)], args := [d] }
  | _ => none }
def RulesTransitiveWrongFalsely : Prop := rulesTransitiveRow.holds Try.pinned (OpenSpec.ofChange rulesTransitiveWrong)

/-- 'lorrylaw12.RulesComplete': WHATEVER THE INPUT: true; the input reads as it did. -/
def rulesCompleteSpec : ChangeSpec := { name := "rulesComplete", fn := fun _ => fun
  | [d] => { results := [.lit (.bool true)], args := [d] }
  | _ => none }
def rulesCompleteRow : OpenClaim := { program := "ytalmcdllbibknaa", sum := "9fdb4f18e2dc108f284f1bc55fb7b218393dd28056597cffdad5d26f02ea2180", func := "lorry/lorrylaw12.RulesComplete", spec := "rulesComplete", unfollowed := true, recurses := true, apart := false }
def RulesCompleteSaid : Prop := rulesCompleteRow.holds Try.pinned (OpenSpec.ofChange rulesCompleteSpec)

/-- ITS FALSE NEIGHBOUR: 'it returns false'. Refute it at one input. -/
def rulesCompleteWrong : ChangeSpec := { name := "rulesComplete", fn := fun _ => fun
  | [d] => { results := [.lit (.bool false)], args := [d] }
  | _ => none }
def RulesCompleteWrongFalsely : Prop := rulesCompleteRow.holds Try.pinned (OpenSpec.ofChange rulesCompleteWrong)

/-- 'lorrylaw12.RulesParts': WHATEVER THE INPUT: true; the input reads as it did. -/
def rulesPartsSpec : ChangeSpec := { name := "rulesParts", fn := fun _ => fun
  | [d1, d2, d3] => { results := [.lit (.bool true)], args := [d1, d2, d3] }
  | _ => none }
def rulesPartsRow : OpenClaim := { program := "ytalmcdllbibknaa", sum := "9fdb4f18e2dc108f284f1bc55fb7b218393dd28056597cffdad5d26f02ea2180", func := "lorry/lorrylaw12.RulesParts", spec := "rulesParts", unfollowed := true, recurses := true, apart := false }
def RulesPartsSaid : Prop := rulesPartsRow.holds Try.pinned (OpenSpec.ofChange rulesPartsSpec)

/-- ITS FALSE NEIGHBOUR: 'it returns false'. Refute it at one input. -/
def rulesPartsWrong : ChangeSpec := { name := "rulesParts", fn := fun _ => fun
  | [d1, d2, d3] => { results := [.lit (.bool false)], args := [d1, d2, d3] }
  | _ => none }
def RulesPartsWrongFalsely : Prop := rulesPartsRow.holds Try.pinned (OpenSpec.ofChange rulesPartsWrong)

/- THE SECOND FORM. 'bulk': how many values and letters a reading holds, each counted each time it is reached (what is shared counts as often as it is met; a slice's spare places count too). A statement '..UptoSaid' is the law's where the arguments, and the package variables that the reading takes, are together of bulk at most 1048576: NARROWER than '..Said'. Prove '..Said' where nothing that the law and all that it calls make is longer than what came in: it says more and counts as full. Else prove '..UptoSaid'. A law counts once. -/
mutual
def uptoBulk {H : Type} : DataW H → Nat
  | .lit (.string bytes) => bytes.length + 1
  | .lit _ => 1
  | .nil => 1
  | .ptr d => uptoBulk d + 1
  | .slice elems spare => uptoBulkAll elems + uptoBulkAll spare + 1
  | .agg parts => uptoBulkAll parts + 1
  | .iface _ d => uptoBulk d + 1
  | .map entries => uptoBulkEntries entries + 1
  | .held _ => 1
def uptoBulkAll {H : Type} : List (DataW H) → Nat
  | [] => 0
  | d :: r => uptoBulk d + uptoBulkAll r
def uptoBulkEntries {H : Type} : List (Lit × DataW H) → Nat
  | [] => 0
  | x :: r => uptoBulkEntry x + uptoBulkEntries r
def uptoBulkEntry {H : Type} : Lit × DataW H → Nat
  | (.string bytes, d) => bytes.length + uptoBulk d + 1
  | (_, d) => uptoBulk d + 1
 end
def uptoSmall : (H : Type) → List (DataW H) → Bool := fun _ ds => decide (uptoBulkAll ds ≤ 1048576)
def OpenSpec.upto (s : _root_.Go.ChangeSpec) : _root_.Go.OpenSpec := { _root_.Go.OpenSpec.ofChange s with cond := some uptoSmall }

/-- 'lorrylaw12.RulesChecks', WHERE WHAT IT READS IS OF BULK AT MOST 1048576: true; the input reads as it did. -/
def rulesChecksUptoRow : OpenClaim := { program := "ytalmcdllbibknaa", sum := "9fdb4f18e2dc108f284f1bc55fb7b218393dd28056597cffdad5d26f02ea2180", func := "lorry/lorrylaw12.RulesChecks", spec := "rulesChecks", unfollowed := true, recurses := true, apart := false, narrowed := true }
def RulesChecksUptoSaid : Prop := rulesChecksUptoRow.holds Try.pinned (OpenSpec.upto rulesChecksSpec)

/-- 'lorrylaw12.RulesChains', WHERE WHAT IT READS IS OF BULK AT MOST 1048576: true; the input reads as it did. -/
def rulesChainsUptoRow : OpenClaim := { program := "ytalmcdllbibknaa", sum := "9fdb4f18e2dc108f284f1bc55fb7b218393dd28056597cffdad5d26f02ea2180", func := "lorry/lorrylaw12.RulesChains", spec := "rulesChains", unfollowed := true, recurses := true, apart := false, narrowed := true }
def RulesChainsUptoSaid : Prop := rulesChainsUptoRow.holds Try.pinned (OpenSpec.upto rulesChainsSpec)

/-- 'lorrylaw12.RulesAllow', WHERE WHAT IT READS IS OF BULK AT MOST 1048576: true; the input reads as it did. -/
def rulesAllowUptoRow : OpenClaim := { program := "ytalmcdllbibknaa", sum := "9fdb4f18e2dc108f284f1bc55fb7b218393dd28056597cffdad5d26f02ea2180", func := "lorry/lorrylaw12.RulesAllow", spec := "rulesAllow", unfollowed := true, recurses := true, apart := false, narrowed := true }
def RulesAllowUptoSaid : Prop := rulesAllowUptoRow.holds Try.pinned (OpenSpec.upto rulesAllowSpec)

/-- 'lorrylaw12.RulesTransitive', WHERE WHAT IT READS IS OF BULK AT MOST 1048576: true; the input reads as it did. -/
def rulesTransitiveUptoRow : OpenClaim := { program := "ytalmcdllbibknaa", sum := "9fdb4f18e2dc108f284f1bc55fb7b218393dd28056597cffdad5d26f02ea2180", func := "lorry/lorrylaw12.RulesTransitive", spec := "rulesTransitive", unfollowed := true, recurses := true, apart := false, narrowed := true }
def RulesTransitiveUptoSaid : Prop := rulesTransitiveUptoRow.holds Try.pinned (OpenSpec.upto rulesTransitiveSpec)

/-- 'lorrylaw12.RulesComplete', WHERE WHAT IT READS IS OF BULK AT MOST 1048576: true; the input reads as it did. -/
def rulesCompleteUptoRow : OpenClaim := { program := "ytalmcdllbibknaa", sum := "9fdb4f18e2dc108f284f1bc55fb7b218393dd28056597cffdad5d26f02ea2180", func := "lorry/lorrylaw12.RulesComplete", spec := "rulesComplete", unfollowed := true, recurses := true, apart := false, narrowed := true }
def RulesCompleteUptoSaid : Prop := rulesCompleteUptoRow.holds Try.pinned (OpenSpec.upto rulesCompleteSpec)

/-- 'lorrylaw12.RulesParts', WHERE WHAT IT READS IS OF BULK AT MOST 1048576: true; the input reads as it did. -/
def rulesPartsUptoRow : OpenClaim := { program := "ytalmcdllbibknaa", sum := "9fdb4f18e2dc108f284f1bc55fb7b218393dd28056597cffdad5d26f02ea2180", func := "lorry/lorrylaw12.RulesParts", spec := "rulesParts", unfollowed := true, recurses := true, apart := false, narrowed := true }
def RulesPartsUptoSaid : Prop := rulesPartsUptoRow.holds Try.pinned (OpenSpec.upto rulesPartsSpec)

end Rows
end Go.Proofs.Ytalmcdllbibknaa
