/-
  NARROWER THAN 'FOR EVERY INPUT', by the rows' own cells (each row's printed sentence says how): ManifestRows: laid · ManifestTicks: laid · ManifestTotals: laid · ManifestOrder: laid · FairWorks: laid · FairRoutes: laid · FairJudges: laid · FairOrder: laid · PlanOf: laid · PlanChecks: laid.
  DERIVED. THE GIVEN ROWS OF THIS SEAT. 10 by the template 'for every input the law returns true; each argument reads behind the call as it read before'; 0 by the template 'total and deterministic' (their statements: YtcllkjiebfmjpaaGreatDoorTotals.lean).
  GIVEN WITH THE SEED: the statements are not yours to turn. If you find one false, say at which input.
  Laid BY PROGRAM, IN A SANDBOX (cutbox-rows.mjs): the forced cells as the released guide's own fill.sh prints them over the translation 0a90a77477339661… (all of the seat's roots in one cut). By AI agents, Wed Nov 11 2026. No macro, syntax, notation, axiom, sorry.
-/
import Derived.Test.YtcllkjiebfmjpaaGreatDoorChecked
import GoSem.Claim
import GoSem.ClaimJoined
import GoSem.ClaimMapViews
import Derived.JoinedTies
import Derived.KernelRfl
namespace Go.Proofs.YtcllkjiebfmjpaaGreatDoor
/- THE CELL 'sum', in the pinned program and in every row, IS THE sha256 OF THE DUMP (.gsa) THAT YtcllkjiebfmjpaaGreatDoorProg.lean LOADS. Nothing in Lean hashes anything: it is a label: what it is worth is what the hold of that sum in a sandbox is worth. -/
noncomputable def Tryz.pinned : Pinned := { name := "ytcllkjiebfmjpaagreatdoor", sum := "0a90a7747733966166d479ae4b519d422e1bf02a49bbe518ae77fd2d510ed6d0", checked := Tryz.checked }
namespace Rows
def none {H : Type} : Left H := { results := [], args := [] }

/- WHAT THE LISTED PACKAGE-LEVEL VARIABLES READ AS WHEN THE CALL BEGINS. Each datum BY PROGRAM (the guide's laid-datum.mjs) off the statement by which the dump's own 'gosem.cut.vars' lays the variable. In a bare row this is a premise. The card (YtcllkjiebfmjpaaGreatDoorCards.lean) ties it to the program's text. -/
def laid_math_bits_deBruijn32tab {H : Type} : DataW H := .agg [.lit (.int .u8 0), .lit (.int .u8 1), .lit (.int .u8 28), .lit (.int .u8 2), .lit (.int .u8 29), .lit (.int .u8 14), .lit (.int .u8 24), .lit (.int .u8 3), .lit (.int .u8 30), .lit (.int .u8 22), .lit (.int .u8 20), .lit (.int .u8 15), .lit (.int .u8 25), .lit (.int .u8 17), .lit (.int .u8 4), .lit (.int .u8 8), .lit (.int .u8 31), .lit (.int .u8 27), .lit (.int .u8 13), .lit (.int .u8 23), .lit (.int .u8 21), .lit (.int .u8 19), .lit (.int .u8 16), .lit (.int .u8 7), .lit (.int .u8 26), .lit (.int .u8 12), .lit (.int .u8 18), .lit (.int .u8 6), .lit (.int .u8 11), .lit (.int .u8 5), .lit (.int .u8 10), .lit (.int .u8 9)]
def laid_math_bits_deBruijn64tab {H : Type} : DataW H := .agg [.lit (.int .u8 0), .lit (.int .u8 1), .lit (.int .u8 56), .lit (.int .u8 2), .lit (.int .u8 57), .lit (.int .u8 49), .lit (.int .u8 28), .lit (.int .u8 3), .lit (.int .u8 61), .lit (.int .u8 58), .lit (.int .u8 42), .lit (.int .u8 50), .lit (.int .u8 38), .lit (.int .u8 29), .lit (.int .u8 17), .lit (.int .u8 4), .lit (.int .u8 62), .lit (.int .u8 47), .lit (.int .u8 59), .lit (.int .u8 36), .lit (.int .u8 45), .lit (.int .u8 43), .lit (.int .u8 51), .lit (.int .u8 22), .lit (.int .u8 53), .lit (.int .u8 39), .lit (.int .u8 33), .lit (.int .u8 30), .lit (.int .u8 24), .lit (.int .u8 18), .lit (.int .u8 12), .lit (.int .u8 5), .lit (.int .u8 63), .lit (.int .u8 55), .lit (.int .u8 48), .lit (.int .u8 27), .lit (.int .u8 60), .lit (.int .u8 41), .lit (.int .u8 37), .lit (.int .u8 16), .lit (.int .u8 46), .lit (.int .u8 35), .lit (.int .u8 44), .lit (.int .u8 21), .lit (.int .u8 52), .lit (.int .u8 32), .lit (.int .u8 23), .lit (.int .u8 11), .lit (.int .u8 54), .lit (.int .u8 26), .lit (.int .u8 40), .lit (.int .u8 15), .lit (.int .u8 34), .lit (.int .u8 20), .lit (.int .u8 31), .lit (.int .u8 10), .lit (.int .u8 25), .lit (.int .u8 14), .lit (.int .u8 19), .lit (.int .u8 9), .lit (.int .u8 13), .lit (.int .u8 8), .lit (.int .u8 7), .lit (.int .u8 6)]
def laid_internal_strconv_uint64pow10 {H : Type} : DataW H := .agg [.lit (.int .u64 1), .lit (.int .u64 10), .lit (.int .u64 100), .lit (.int .u64 1000), .lit (.int .u64 10000), .lit (.int .u64 100000), .lit (.int .u64 1000000), .lit (.int .u64 10000000), .lit (.int .u64 100000000), .lit (.int .u64 1000000000), .lit (.int .u64 10000000000), .lit (.int .u64 100000000000), .lit (.int .u64 1000000000000), .lit (.int .u64 10000000000000), .lit (.int .u64 100000000000000), .lit (.int .u64 1000000000000000), .lit (.int .u64 10000000000000000), .lit (.int .u64 100000000000000000), .lit (.int .u64 1000000000000000000), .lit (.int .u64 10000000000000000000)]
def laid_strconv_ErrRange {H : Type} : DataW H := .iface "*errors.errorString" (.ptr (.agg [.lit (.string [118, 97, 108, 117, 101, 32, 111, 117, 116, 32, 111, 102, 32, 114, 97, 110, 103, 101])]))
def laid_strconv_ErrSyntax {H : Type} : DataW H := .iface "*errors.errorString" (.ptr (.agg [.lit (.string [105, 110, 118, 97, 108, 105, 100, 32, 115, 121, 110, 116, 97, 120])]))

/-- 'lorrylaw58.ManifestRows': WHATEVER THE INPUT: true; the input reads as it did. -/
def manifestRowsSpec : ChangeSpec := { name := "manifestRows", fn := fun _ => fun
  | [d1, d2] => { results := [.lit (.bool true)], args := [d1, d2] }
  | _ => none }
def manifestRowsRow : OpenClaim := { program := "ytcllkjiebfmjpaagreatdoor", sum := "0a90a7747733966166d479ae4b519d422e1bf02a49bbe518ae77fd2d510ed6d0", func := "lorry/lorrylaw58.ManifestRows", spec := "manifestRows", inPlace := ["internal/abi.NoEscape", "internal/bytealg.MakeNoZero"], unfollowed := true, recurses := true, named := ["internal/strconv.uint64pow10", "math/bits.deBruijn32tab", "math/bits.deBruijn64tab"], apart := false, laid := [("math/bits.deBruijn32tab", laid_math_bits_deBruijn32tab), ("math/bits.deBruijn64tab", laid_math_bits_deBruijn64tab), ("internal/strconv.uint64pow10", laid_internal_strconv_uint64pow10)] }
def ManifestRowsSaid : Prop := manifestRowsRow.holds Tryz.pinned (OpenSpec.ofChange manifestRowsSpec)

/-- ITS FALSE NEIGHBOUR: 'it returns false'. Refute it at one input. -/
def manifestRowsWrong : ChangeSpec := { name := "manifestRows", fn := fun _ => fun
  | [d1, d2] => { results := [.lit (.bool false)], args := [d1, d2] }
  | _ => none }
def ManifestRowsWrongFalsely : Prop := manifestRowsRow.holds Tryz.pinned (OpenSpec.ofChange manifestRowsWrong)

/-- 'lorrylaw58.ManifestTicks': WHATEVER THE INPUT: true; the input reads as it did. -/
def manifestTicksSpec : ChangeSpec := { name := "manifestTicks", fn := fun _ => fun
  | [d1, d2, d3] => { results := [.lit (.bool true)], args := [d1, d2, d3] }
  | _ => none }
def manifestTicksRow : OpenClaim := { program := "ytcllkjiebfmjpaagreatdoor", sum := "0a90a7747733966166d479ae4b519d422e1bf02a49bbe518ae77fd2d510ed6d0", func := "lorry/lorrylaw58.ManifestTicks", spec := "manifestTicks", inPlace := ["internal/abi.NoEscape", "internal/bytealg.MakeNoZero"], unfollowed := true, recurses := true, named := ["internal/strconv.uint64pow10", "math/bits.deBruijn32tab", "math/bits.deBruijn64tab"], apart := false, laid := [("math/bits.deBruijn32tab", laid_math_bits_deBruijn32tab), ("math/bits.deBruijn64tab", laid_math_bits_deBruijn64tab), ("internal/strconv.uint64pow10", laid_internal_strconv_uint64pow10)] }
def ManifestTicksSaid : Prop := manifestTicksRow.holds Tryz.pinned (OpenSpec.ofChange manifestTicksSpec)

/-- ITS FALSE NEIGHBOUR: 'it returns false'. Refute it at one input. -/
def manifestTicksWrong : ChangeSpec := { name := "manifestTicks", fn := fun _ => fun
  | [d1, d2, d3] => { results := [.lit (.bool false)], args := [d1, d2, d3] }
  | _ => none }
def ManifestTicksWrongFalsely : Prop := manifestTicksRow.holds Tryz.pinned (OpenSpec.ofChange manifestTicksWrong)

/-- 'lorrylaw58.ManifestTotals': WHATEVER THE INPUT: true; the input reads as it did. -/
def manifestTotalsSpec : ChangeSpec := { name := "manifestTotals", fn := fun _ => fun
  | [d1, d2] => { results := [.lit (.bool true)], args := [d1, d2] }
  | _ => none }
def manifestTotalsRow : OpenClaim := { program := "ytcllkjiebfmjpaagreatdoor", sum := "0a90a7747733966166d479ae4b519d422e1bf02a49bbe518ae77fd2d510ed6d0", func := "lorry/lorrylaw58.ManifestTotals", spec := "manifestTotals", inPlace := ["internal/abi.NoEscape", "internal/bytealg.MakeNoZero"], unfollowed := true, recurses := true, named := ["internal/strconv.uint64pow10", "math/bits.deBruijn32tab", "math/bits.deBruijn64tab"], apart := false, laid := [("math/bits.deBruijn32tab", laid_math_bits_deBruijn32tab), ("math/bits.deBruijn64tab", laid_math_bits_deBruijn64tab), ("internal/strconv.uint64pow10", laid_internal_strconv_uint64pow10)] }
def ManifestTotalsSaid : Prop := manifestTotalsRow.holds Tryz.pinned (OpenSpec.ofChange manifestTotalsSpec)

/-- ITS FALSE NEIGHBOUR: 'it returns false'. Refute it at one input. -/
def manifestTotalsWrong : ChangeSpec := { name := "manifestTotals", fn := fun _ => fun
  | [d1, d2] => { results := [.lit (.bool false)], args := [d1, d2] }
  | _ => none }
def ManifestTotalsWrongFalsely : Prop := manifestTotalsRow.holds Tryz.pinned (OpenSpec.ofChange manifestTotalsWrong)

/-- 'lorrylaw58.ManifestOrder': WHATEVER THE INPUT: true; the input reads as it did. -/
def manifestOrderSpec : ChangeSpec := { name := "manifestOrder", fn := fun _ => fun
  | [d1, d2] => { results := [.lit (.bool true)], args := [d1, d2] }
  | _ => none }
def manifestOrderRow : OpenClaim := { program := "ytcllkjiebfmjpaagreatdoor", sum := "0a90a7747733966166d479ae4b519d422e1bf02a49bbe518ae77fd2d510ed6d0", func := "lorry/lorrylaw58.ManifestOrder", spec := "manifestOrder", inPlace := ["internal/abi.NoEscape", "internal/bytealg.MakeNoZero"], unfollowed := true, recurses := true, named := ["internal/strconv.uint64pow10", "math/bits.deBruijn32tab", "math/bits.deBruijn64tab"], apart := false, laid := [("math/bits.deBruijn32tab", laid_math_bits_deBruijn32tab), ("math/bits.deBruijn64tab", laid_math_bits_deBruijn64tab), ("internal/strconv.uint64pow10", laid_internal_strconv_uint64pow10)] }
def ManifestOrderSaid : Prop := manifestOrderRow.holds Tryz.pinned (OpenSpec.ofChange manifestOrderSpec)

/-- ITS FALSE NEIGHBOUR: 'it returns false'. Refute it at one input. -/
def manifestOrderWrong : ChangeSpec := { name := "manifestOrder", fn := fun _ => fun
  | [d1, d2] => { results := [.lit (.bool false)], args := [d1, d2] }
  | _ => none }
def ManifestOrderWrongFalsely : Prop := manifestOrderRow.holds Tryz.pinned (OpenSpec.ofChange manifestOrderWrong)

/-- 'lorrylaw52.FairWorks': WHATEVER THE INPUT: true; the input reads as it did. -/
def fairWorksSpec : ChangeSpec := { name := "fairWorks", fn := fun _ => fun
  | [d1, d2] => { results := [.lit (.bool true)], args := [d1, d2] }
  | _ => none }
def fairWorksRow : OpenClaim := { program := "ytcllkjiebfmjpaagreatdoor", sum := "0a90a7747733966166d479ae4b519d422e1bf02a49bbe518ae77fd2d510ed6d0", func := "lorry/lorrylaw52.FairWorks", spec := "fairWorks", unfollowed := true, recurses := true, named := ["internal/strconv.uint64pow10", "math/bits.deBruijn32tab", "math/bits.deBruijn64tab"], apart := false, laid := [("math/bits.deBruijn32tab", laid_math_bits_deBruijn32tab), ("math/bits.deBruijn64tab", laid_math_bits_deBruijn64tab), ("internal/strconv.uint64pow10", laid_internal_strconv_uint64pow10)] }
def FairWorksSaid : Prop := fairWorksRow.holds Tryz.pinned (OpenSpec.ofChange fairWorksSpec)

/-- ITS FALSE NEIGHBOUR: 'it returns false'. Refute it at one input. -/
def fairWorksWrong : ChangeSpec := { name := "fairWorks", fn := fun _ => fun
  | [d1, d2] => { results := [.lit (.bool false)], args := [d1, d2] }
  | _ => none }
def FairWorksWrongFalsely : Prop := fairWorksRow.holds Tryz.pinned (OpenSpec.ofChange fairWorksWrong)

/-- 'lorrylaw52.FairRoutes': WHATEVER THE INPUT: true; the input reads as it did. -/
def fairRoutesSpec : ChangeSpec := { name := "fairRoutes", fn := fun _ => fun
  | [d1, d2] => { results := [.lit (.bool true)], args := [d1, d2] }
  | _ => none }
def fairRoutesRow : OpenClaim := { program := "ytcllkjiebfmjpaagreatdoor", sum := "0a90a7747733966166d479ae4b519d422e1bf02a49bbe518ae77fd2d510ed6d0", func := "lorry/lorrylaw52.FairRoutes", spec := "fairRoutes", unfollowed := true, recurses := true, named := ["internal/strconv.uint64pow10", "math/bits.deBruijn32tab", "math/bits.deBruijn64tab"], apart := false, laid := [("math/bits.deBruijn32tab", laid_math_bits_deBruijn32tab), ("math/bits.deBruijn64tab", laid_math_bits_deBruijn64tab), ("internal/strconv.uint64pow10", laid_internal_strconv_uint64pow10)] }
def FairRoutesSaid : Prop := fairRoutesRow.holds Tryz.pinned (OpenSpec.ofChange fairRoutesSpec)

/-- ITS FALSE NEIGHBOUR: 'it returns false'. Refute it at one input. -/
def fairRoutesWrong : ChangeSpec := { name := "fairRoutes", fn := fun _ => fun
  | [d1, d2] => { results := [.lit (.bool false)], args := [d1, d2] }
  | _ => none }
def FairRoutesWrongFalsely : Prop := fairRoutesRow.holds Tryz.pinned (OpenSpec.ofChange fairRoutesWrong)

/-- 'lorrylaw52.FairJudges': WHATEVER THE INPUT: true; the input reads as it did. -/
def fairJudgesSpec : ChangeSpec := { name := "fairJudges", fn := fun _ => fun
  | [d1, d2, d3] => { results := [.lit (.bool true)], args := [d1, d2, d3] }
  | _ => none }
def fairJudgesRow : OpenClaim := { program := "ytcllkjiebfmjpaagreatdoor", sum := "0a90a7747733966166d479ae4b519d422e1bf02a49bbe518ae77fd2d510ed6d0", func := "lorry/lorrylaw52.FairJudges", spec := "fairJudges", unfollowed := true, recurses := true, named := ["internal/strconv.uint64pow10", "math/bits.deBruijn32tab", "math/bits.deBruijn64tab"], apart := false, laid := [("math/bits.deBruijn32tab", laid_math_bits_deBruijn32tab), ("math/bits.deBruijn64tab", laid_math_bits_deBruijn64tab), ("internal/strconv.uint64pow10", laid_internal_strconv_uint64pow10)] }
def FairJudgesSaid : Prop := fairJudgesRow.holds Tryz.pinned (OpenSpec.ofChange fairJudgesSpec)

/-- ITS FALSE NEIGHBOUR: 'it returns false'. Refute it at one input. -/
def fairJudgesWrong : ChangeSpec := { name := "fairJudges", fn := fun _ => fun
  | [d1, d2, d3] => { results := [.lit (.bool false)], args := [d1, d2, d3] }
  | _ => none }
def FairJudgesWrongFalsely : Prop := fairJudgesRow.holds Tryz.pinned (OpenSpec.ofChange fairJudgesWrong)

/-- 'lorrylaw52.FairOrder': WHATEVER THE INPUT: true; the input reads as it did. -/
def fairOrderSpec : ChangeSpec := { name := "fairOrder", fn := fun _ => fun
  | [d1, d2, d3, d4, d5, d6] => { results := [.lit (.bool true)], args := [d1, d2, d3, d4, d5, d6] }
  | _ => none }
def fairOrderRow : OpenClaim := { program := "ytcllkjiebfmjpaagreatdoor", sum := "0a90a7747733966166d479ae4b519d422e1bf02a49bbe518ae77fd2d510ed6d0", func := "lorry/lorrylaw52.FairOrder", spec := "fairOrder", unfollowed := true, recurses := true, named := ["internal/strconv.uint64pow10", "math/bits.deBruijn32tab", "math/bits.deBruijn64tab"], apart := false, laid := [("math/bits.deBruijn32tab", laid_math_bits_deBruijn32tab), ("math/bits.deBruijn64tab", laid_math_bits_deBruijn64tab), ("internal/strconv.uint64pow10", laid_internal_strconv_uint64pow10)] }
def FairOrderSaid : Prop := fairOrderRow.holds Tryz.pinned (OpenSpec.ofChange fairOrderSpec)

/-- ITS FALSE NEIGHBOUR: 'it returns false'. Refute it at one input. -/
def fairOrderWrong : ChangeSpec := { name := "fairOrder", fn := fun _ => fun
  | [d1, d2, d3, d4, d5, d6] => { results := [.lit (.bool false)], args := [d1, d2, d3, d4, d5, d6] }
  | _ => none }
def FairOrderWrongFalsely : Prop := fairOrderRow.holds Tryz.pinned (OpenSpec.ofChange fairOrderWrong)

/-- 'lorrylaw23.PlanOf': WHATEVER THE INPUT: true; the input reads as it did. -/
def planOfSpec : ChangeSpec := { name := "planOf", fn := fun _ => fun
  | [d1, d2] => { results := [.lit (.bool true)], args := [d1, d2] }
  | _ => none }
def planOfRow : OpenClaim := { program := "ytcllkjiebfmjpaagreatdoor", sum := "0a90a7747733966166d479ae4b519d422e1bf02a49bbe518ae77fd2d510ed6d0", func := "lorry/lorrylaw23.PlanOf", spec := "planOf", inPlace := ["internal/bytealg.IndexByteString", "internal/bytealg.IndexString", "internal/abi.NoEscape", "internal/bytealg.MakeNoZero"], unfollowed := true, recurses := true, named := ["internal/bytealg.MaxLen", "strconv.ErrSyntax", "strconv.ErrRange", "internal/strconv.uint64pow10", "math/bits.deBruijn32tab", "math/bits.deBruijn64tab"], apart := false, laid := [("math/bits.deBruijn32tab", laid_math_bits_deBruijn32tab), ("math/bits.deBruijn64tab", laid_math_bits_deBruijn64tab), ("internal/strconv.uint64pow10", laid_internal_strconv_uint64pow10), ("strconv.ErrRange", laid_strconv_ErrRange), ("strconv.ErrSyntax", laid_strconv_ErrSyntax)] }
def PlanOfSaid : Prop := planOfRow.holds Tryz.pinned (OpenSpec.ofChange planOfSpec)

/-- ITS FALSE NEIGHBOUR: 'it returns false'. Refute it at one input. -/
def planOfWrong : ChangeSpec := { name := "planOf", fn := fun _ => fun
  | [d1, d2] => { results := [.lit (.bool false)], args := [d1, d2] }
  | _ => none }
def PlanOfWrongFalsely : Prop := planOfRow.holds Tryz.pinned (OpenSpec.ofChange planOfWrong)

/-- 'lorrylaw23.PlanChecks': WHATEVER THE INPUT: true; the input reads as it did. -/
def planChecksSpec : ChangeSpec := { name := "planChecks", fn := fun _ => fun
  | [d1, d2] => { results := [.lit (.bool true)], args := [d1, d2] }
  | _ => none }
def planChecksRow : OpenClaim := { program := "ytcllkjiebfmjpaagreatdoor", sum := "0a90a7747733966166d479ae4b519d422e1bf02a49bbe518ae77fd2d510ed6d0", func := "lorry/lorrylaw23.PlanChecks", spec := "planChecks", inPlace := ["internal/bytealg.IndexByteString", "internal/bytealg.IndexString", "internal/abi.NoEscape", "internal/bytealg.MakeNoZero"], unfollowed := true, recurses := true, named := ["internal/bytealg.MaxLen", "strconv.ErrSyntax", "strconv.ErrRange", "internal/strconv.uint64pow10", "math/bits.deBruijn32tab", "math/bits.deBruijn64tab"], apart := false, laid := [("math/bits.deBruijn32tab", laid_math_bits_deBruijn32tab), ("math/bits.deBruijn64tab", laid_math_bits_deBruijn64tab), ("internal/strconv.uint64pow10", laid_internal_strconv_uint64pow10), ("strconv.ErrRange", laid_strconv_ErrRange), ("strconv.ErrSyntax", laid_strconv_ErrSyntax)] }
def PlanChecksSaid : Prop := planChecksRow.holds Tryz.pinned (OpenSpec.ofChange planChecksSpec)

/-- ITS FALSE NEIGHBOUR: 'it returns false'. Refute it at one input. -/
def planChecksWrong : ChangeSpec := { name := "planChecks", fn := fun _ => fun
  | [d1, d2] => { results := [.lit (.bool false)], args := [d1, d2] }
  | _ => none }
def PlanChecksWrongFalsely : Prop := planChecksRow.holds Tryz.pinned (OpenSpec.ofChange planChecksWrong)

/- THE SECOND FORM. 'bulk': how many values and letters a reading holds, each counted each time it is reached (what is shared counts as often as it is met; a slice's spare places count too). A statement '..UptoSaid' is the law's where the arguments, and the package variables that the reading takes, are together of bulk at most 1048576: NARROWER than '..Said'. Prove '..Said' where nothing that the law and all that it calls make is longer than what came in: it says more and counts as full. Else prove '..UptoSaid'. A law counts once. -/
mutual
def uptoBulk {H : Type} : DataW H → Nat
  | .lit (.string bytes) => bytes.length + 1
  | .lit _ => 1
  | .nil => 1
  | .ptr d => uptoBulk d + 1
  | .slice elems spare => uptoBulkAll elems + uptoBulkAll spare + 1
  | .agg parts => uptoBulkAll parts + 1
  | .iface _ d => uptoBulk d + 1
  | .map entries => uptoBulkEntries entries + 1
  | .held _ => 1
def uptoBulkAll {H : Type} : List (DataW H) → Nat
  | [] => 0
  | d :: r => uptoBulk d + uptoBulkAll r
def uptoBulkEntries {H : Type} : List (Lit × DataW H) → Nat
  | [] => 0
  | x :: r => uptoBulkEntry x + uptoBulkEntries r
def uptoBulkEntry {H : Type} : Lit × DataW H → Nat
  | (.string bytes, d) => bytes.length + uptoBulk d + 1
  | (_, d) => uptoBulk d + 1
 end
def uptoSmall : (H : Type) → List (DataW H) → Bool := fun _ ds => decide (uptoBulkAll ds ≤ 1048576)
def OpenSpec.upto (s : _root_.Go.ChangeSpec) : _root_.Go.OpenSpec := { _root_.Go.OpenSpec.ofChange s with cond := some uptoSmall }

/-- 'lorrylaw58.ManifestRows', WHERE WHAT IT READS IS OF BULK AT MOST 1048576: true; the input reads as it did. -/
def manifestRowsUptoRow : OpenClaim := { program := "ytcllkjiebfmjpaagreatdoor", sum := "0a90a7747733966166d479ae4b519d422e1bf02a49bbe518ae77fd2d510ed6d0", func := "lorry/lorrylaw58.ManifestRows", spec := "manifestRows", inPlace := ["internal/abi.NoEscape", "internal/bytealg.MakeNoZero"], unfollowed := true, recurses := true, named := ["internal/strconv.uint64pow10", "math/bits.deBruijn32tab", "math/bits.deBruijn64tab"], apart := false, laid := [("math/bits.deBruijn32tab", laid_math_bits_deBruijn32tab), ("math/bits.deBruijn64tab", laid_math_bits_deBruijn64tab), ("internal/strconv.uint64pow10", laid_internal_strconv_uint64pow10)], narrowed := true }
def ManifestRowsUptoSaid : Prop := manifestRowsUptoRow.holds Tryz.pinned (OpenSpec.upto manifestRowsSpec)

/-- 'lorrylaw58.ManifestTicks', WHERE WHAT IT READS IS OF BULK AT MOST 1048576: true; the input reads as it did. -/
def manifestTicksUptoRow : OpenClaim := { program := "ytcllkjiebfmjpaagreatdoor", sum := "0a90a7747733966166d479ae4b519d422e1bf02a49bbe518ae77fd2d510ed6d0", func := "lorry/lorrylaw58.ManifestTicks", spec := "manifestTicks", inPlace := ["internal/abi.NoEscape", "internal/bytealg.MakeNoZero"], unfollowed := true, recurses := true, named := ["internal/strconv.uint64pow10", "math/bits.deBruijn32tab", "math/bits.deBruijn64tab"], apart := false, laid := [("math/bits.deBruijn32tab", laid_math_bits_deBruijn32tab), ("math/bits.deBruijn64tab", laid_math_bits_deBruijn64tab), ("internal/strconv.uint64pow10", laid_internal_strconv_uint64pow10)], narrowed := true }
def ManifestTicksUptoSaid : Prop := manifestTicksUptoRow.holds Tryz.pinned (OpenSpec.upto manifestTicksSpec)

/-- 'lorrylaw58.ManifestTotals', WHERE WHAT IT READS IS OF BULK AT MOST 1048576: true; the input reads as it did. -/
def manifestTotalsUptoRow : OpenClaim := { program := "ytcllkjiebfmjpaagreatdoor", sum := "0a90a7747733966166d479ae4b519d422e1bf02a49bbe518ae77fd2d510ed6d0", func := "lorry/lorrylaw58.ManifestTotals", spec := "manifestTotals", inPlace := ["internal/abi.NoEscape", "internal/bytealg.MakeNoZero"], unfollowed := true, recurses := true, named := ["internal/strconv.uint64pow10", "math/bits.deBruijn32tab", "math/bits.deBruijn64tab"], apart := false, laid := [("math/bits.deBruijn32tab", laid_math_bits_deBruijn32tab), ("math/bits.deBruijn64tab", laid_math_bits_deBruijn64tab), ("internal/strconv.uint64pow10", laid_internal_strconv_uint64pow10)], narrowed := true }
def ManifestTotalsUptoSaid : Prop := manifestTotalsUptoRow.holds Tryz.pinned (OpenSpec.upto manifestTotalsSpec)

/-- 'lorrylaw58.ManifestOrder', WHERE WHAT IT READS IS OF BULK AT MOST 1048576: true; the input reads as it did. -/
def manifestOrderUptoRow : OpenClaim := { program := "ytcllkjiebfmjpaagreatdoor", sum := "0a90a7747733966166d479ae4b519d422e1bf02a49bbe518ae77fd2d510ed6d0", func := "lorry/lorrylaw58.ManifestOrder", spec := "manifestOrder", inPlace := ["internal/abi.NoEscape", "internal/bytealg.MakeNoZero"], unfollowed := true, recurses := true, named := ["internal/strconv.uint64pow10", "math/bits.deBruijn32tab", "math/bits.deBruijn64tab"], apart := false, laid := [("math/bits.deBruijn32tab", laid_math_bits_deBruijn32tab), ("math/bits.deBruijn64tab", laid_math_bits_deBruijn64tab), ("internal/strconv.uint64pow10", laid_internal_strconv_uint64pow10)], narrowed := true }
def ManifestOrderUptoSaid : Prop := manifestOrderUptoRow.holds Tryz.pinned (OpenSpec.upto manifestOrderSpec)

/-- 'lorrylaw52.FairWorks', WHERE WHAT IT READS IS OF BULK AT MOST 1048576: true; the input reads as it did. -/
def fairWorksUptoRow : OpenClaim := { program := "ytcllkjiebfmjpaagreatdoor", sum := "0a90a7747733966166d479ae4b519d422e1bf02a49bbe518ae77fd2d510ed6d0", func := "lorry/lorrylaw52.FairWorks", spec := "fairWorks", unfollowed := true, recurses := true, named := ["internal/strconv.uint64pow10", "math/bits.deBruijn32tab", "math/bits.deBruijn64tab"], apart := false, laid := [("math/bits.deBruijn32tab", laid_math_bits_deBruijn32tab), ("math/bits.deBruijn64tab", laid_math_bits_deBruijn64tab), ("internal/strconv.uint64pow10", laid_internal_strconv_uint64pow10)], narrowed := true }
def FairWorksUptoSaid : Prop := fairWorksUptoRow.holds Tryz.pinned (OpenSpec.upto fairWorksSpec)

/-- 'lorrylaw52.FairRoutes', WHERE WHAT IT READS IS OF BULK AT MOST 1048576: true; the input reads as it did. -/
def fairRoutesUptoRow : OpenClaim := { program := "ytcllkjiebfmjpaagreatdoor", sum := "0a90a7747733966166d479ae4b519d422e1bf02a49bbe518ae77fd2d510ed6d0", func := "lorry/lorrylaw52.FairRoutes", spec := "fairRoutes", unfollowed := true, recurses := true, named := ["internal/strconv.uint64pow10", "math/bits.deBruijn32tab", "math/bits.deBruijn64tab"], apart := false, laid := [("math/bits.deBruijn32tab", laid_math_bits_deBruijn32tab), ("math/bits.deBruijn64tab", laid_math_bits_deBruijn64tab), ("internal/strconv.uint64pow10", laid_internal_strconv_uint64pow10)], narrowed := true }
def FairRoutesUptoSaid : Prop := fairRoutesUptoRow.holds Tryz.pinned (OpenSpec.upto fairRoutesSpec)

/-- 'lorrylaw52.FairJudges', WHERE WHAT IT READS IS OF BULK AT MOST 1048576: true; the input reads as it did. -/
def fairJudgesUptoRow : OpenClaim := { program := "ytcllkjiebfmjpaagreatdoor", sum := "0a90a7747733966166d479ae4b519d422e1bf02a49bbe518ae77fd2d510ed6d0", func := "lorry/lorrylaw52.FairJudges", spec := "fairJudges", unfollowed := true, recurses := true, named := ["internal/strconv.uint64pow10", "math/bits.deBruijn32tab", "math/bits.deBruijn64tab"], apart := false, laid := [("math/bits.deBruijn32tab", laid_math_bits_deBruijn32tab), ("math/bits.deBruijn64tab", laid_math_bits_deBruijn64tab), ("internal/strconv.uint64pow10", laid_internal_strconv_uint64pow10)], narrowed := true }
def FairJudgesUptoSaid : Prop := fairJudgesUptoRow.holds Tryz.pinned (OpenSpec.upto fairJudgesSpec)

/-- 'lorrylaw52.FairOrder', WHERE WHAT IT READS IS OF BULK AT MOST 1048576: true; the input reads as it did. -/
def fairOrderUptoRow : OpenClaim := { program := "ytcllkjiebfmjpaagreatdoor", sum := "0a90a7747733966166d479ae4b519d422e1bf02a49bbe518ae77fd2d510ed6d0", func := "lorry/lorrylaw52.FairOrder", spec := "fairOrder", unfollowed := true, recurses := true, named := ["internal/strconv.uint64pow10", "math/bits.deBruijn32tab", "math/bits.deBruijn64tab"], apart := false, laid := [("math/bits.deBruijn32tab", laid_math_bits_deBruijn32tab), ("math/bits.deBruijn64tab", laid_math_bits_deBruijn64tab), ("internal/strconv.uint64pow10", laid_internal_strconv_uint64pow10)], narrowed := true }
def FairOrderUptoSaid : Prop := fairOrderUptoRow.holds Tryz.pinned (OpenSpec.upto fairOrderSpec)

/-- 'lorrylaw23.PlanOf', WHERE WHAT IT READS IS OF BULK AT MOST 1048576: true; the input reads as it did. -/
def planOfUptoRow : OpenClaim := { program := "ytcllkjiebfmjpaagreatdoor", sum := "0a90a7747733966166d479ae4b519d422e1bf02a49bbe518ae77fd2d510ed6d0", func := "lorry/lorrylaw23.PlanOf", spec := "planOf", inPlace := ["internal/bytealg.IndexByteString", "internal/bytealg.IndexString", "internal/abi.NoEscape", "internal/bytealg.MakeNoZero"], unfollowed := true, recurses := true, named := ["internal/bytealg.MaxLen", "strconv.ErrSyntax", "strconv.ErrRange", "internal/strconv.uint64pow10", "math/bits.deBruijn32tab", "math/bits.deBruijn64tab"], apart := false, laid := [("math/bits.deBruijn32tab", laid_math_bits_deBruijn32tab), ("math/bits.deBruijn64tab", laid_math_bits_deBruijn64tab), ("internal/strconv.uint64pow10", laid_internal_strconv_uint64pow10), ("strconv.ErrRange", laid_strconv_ErrRange), ("strconv.ErrSyntax", laid_strconv_ErrSyntax)], narrowed := true }
def PlanOfUptoSaid : Prop := planOfUptoRow.holds Tryz.pinned (OpenSpec.upto planOfSpec)

/-- 'lorrylaw23.PlanChecks', WHERE WHAT IT READS IS OF BULK AT MOST 1048576: true; the input reads as it did. -/
def planChecksUptoRow : OpenClaim := { program := "ytcllkjiebfmjpaagreatdoor", sum := "0a90a7747733966166d479ae4b519d422e1bf02a49bbe518ae77fd2d510ed6d0", func := "lorry/lorrylaw23.PlanChecks", spec := "planChecks", inPlace := ["internal/bytealg.IndexByteString", "internal/bytealg.IndexString", "internal/abi.NoEscape", "internal/bytealg.MakeNoZero"], unfollowed := true, recurses := true, named := ["internal/bytealg.MaxLen", "strconv.ErrSyntax", "strconv.ErrRange", "internal/strconv.uint64pow10", "math/bits.deBruijn32tab", "math/bits.deBruijn64tab"], apart := false, laid := [("math/bits.deBruijn32tab", laid_math_bits_deBruijn32tab), ("math/bits.deBruijn64tab", laid_math_bits_deBruijn64tab), ("internal/strconv.uint64pow10", laid_internal_strconv_uint64pow10), ("strconv.ErrRange", laid_strconv_ErrRange), ("strconv.ErrSyntax", laid_strconv_ErrSyntax)], narrowed := true }
def PlanChecksUptoSaid : Prop := planChecksUptoRow.holds Tryz.pinned (OpenSpec.upto planChecksSpec)

end Rows
end Go.Proofs.YtcllkjiebfmjpaaGreatDoor
