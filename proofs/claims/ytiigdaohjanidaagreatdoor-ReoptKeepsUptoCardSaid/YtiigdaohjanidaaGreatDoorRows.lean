/-
  NARROWER THAN 'FOR EVERY INPUT', by the rows' own cells (each row's printed sentence says how): WeekPlans: laid · WeekLeast: laid · WeekOthers: laid · ReoptSolves: laid · ReoptKeeps: laid · ReoptStays: laid.
  DERIVED. THE GIVEN ROWS OF THIS SEAT. 6 by the template 'for every input the law returns true; each argument reads behind the call as it read before'; 0 by the template 'total and deterministic' (their statements: YtiigdaohjanidaaGreatDoorTotals.lean).
  GIVEN WITH THE SEED: the statements are not yours to turn. If you find one false, say at which input.
  Laid BY PROGRAM, IN A SANDBOX (cutbox-rows.mjs): the forced cells as the released guide's own fill.sh prints them over the translation c45448a7879bc8e3… (all of the seat's roots in one cut). By AI agents, Wed Nov 11 2026. No macro, syntax, notation, axiom, sorry.
-/
import Derived.Test.YtiigdaohjanidaaGreatDoorChecked
import GoSem.Claim
import GoSem.ClaimJoined
import GoSem.ClaimMapViews
import Derived.JoinedTies
import Derived.KernelRfl
namespace Go.Proofs.YtiigdaohjanidaaGreatDoor
/- THE CELL 'sum', in the pinned program and in every row, IS THE sha256 OF THE DUMP (.gsa) THAT YtiigdaohjanidaaGreatDoorProg.lean LOADS. Nothing in Lean hashes anything: it is a label: what it is worth is what the hold of that sum in a sandbox is worth. -/
noncomputable def Tryz.pinned : Pinned := { name := "ytiigdaohjanidaagreatdoor", sum := "c45448a7879bc8e38264ec6e85cc9ae98aaa1376c37e8915e18000efcf0aa25f", checked := Tryz.checked }
namespace Rows
def none {H : Type} : Left H := { results := [], args := [] }

/- WHAT THE LISTED PACKAGE-LEVEL VARIABLES READ AS WHEN THE CALL BEGINS. Each datum BY PROGRAM (the guide's laid-datum.mjs) off the statement by which the dump's own 'gosem.cut.vars' lays the variable. In a bare row this is a premise. The card (YtiigdaohjanidaaGreatDoorCards.lean) ties it to the program's text. -/
def laid_math_bits_deBruijn32tab {H : Type} : DataW H := .agg [.lit (.int .u8 0), .lit (.int .u8 1), .lit (.int .u8 28), .lit (.int .u8 2), .lit (.int .u8 29), .lit (.int .u8 14), .lit (.int .u8 24), .lit (.int .u8 3), .lit (.int .u8 30), .lit (.int .u8 22), .lit (.int .u8 20), .lit (.int .u8 15), .lit (.int .u8 25), .lit (.int .u8 17), .lit (.int .u8 4), .lit (.int .u8 8), .lit (.int .u8 31), .lit (.int .u8 27), .lit (.int .u8 13), .lit (.int .u8 23), .lit (.int .u8 21), .lit (.int .u8 19), .lit (.int .u8 16), .lit (.int .u8 7), .lit (.int .u8 26), .lit (.int .u8 12), .lit (.int .u8 18), .lit (.int .u8 6), .lit (.int .u8 11), .lit (.int .u8 5), .lit (.int .u8 10), .lit (.int .u8 9)]
def laid_math_bits_deBruijn64tab {H : Type} : DataW H := .agg [.lit (.int .u8 0), .lit (.int .u8 1), .lit (.int .u8 56), .lit (.int .u8 2), .lit (.int .u8 57), .lit (.int .u8 49), .lit (.int .u8 28), .lit (.int .u8 3), .lit (.int .u8 61), .lit (.int .u8 58), .lit (.int .u8 42), .lit (.int .u8 50), .lit (.int .u8 38), .lit (.int .u8 29), .lit (.int .u8 17), .lit (.int .u8 4), .lit (.int .u8 62), .lit (.int .u8 47), .lit (.int .u8 59), .lit (.int .u8 36), .lit (.int .u8 45), .lit (.int .u8 43), .lit (.int .u8 51), .lit (.int .u8 22), .lit (.int .u8 53), .lit (.int .u8 39), .lit (.int .u8 33), .lit (.int .u8 30), .lit (.int .u8 24), .lit (.int .u8 18), .lit (.int .u8 12), .lit (.int .u8 5), .lit (.int .u8 63), .lit (.int .u8 55), .lit (.int .u8 48), .lit (.int .u8 27), .lit (.int .u8 60), .lit (.int .u8 41), .lit (.int .u8 37), .lit (.int .u8 16), .lit (.int .u8 46), .lit (.int .u8 35), .lit (.int .u8 44), .lit (.int .u8 21), .lit (.int .u8 52), .lit (.int .u8 32), .lit (.int .u8 23), .lit (.int .u8 11), .lit (.int .u8 54), .lit (.int .u8 26), .lit (.int .u8 40), .lit (.int .u8 15), .lit (.int .u8 34), .lit (.int .u8 20), .lit (.int .u8 31), .lit (.int .u8 10), .lit (.int .u8 25), .lit (.int .u8 14), .lit (.int .u8 19), .lit (.int .u8 9), .lit (.int .u8 13), .lit (.int .u8 8), .lit (.int .u8 7), .lit (.int .u8 6)]
def laid_internal_strconv_uint64pow10 {H : Type} : DataW H := .agg [.lit (.int .u64 1), .lit (.int .u64 10), .lit (.int .u64 100), .lit (.int .u64 1000), .lit (.int .u64 10000), .lit (.int .u64 100000), .lit (.int .u64 1000000), .lit (.int .u64 10000000), .lit (.int .u64 100000000), .lit (.int .u64 1000000000), .lit (.int .u64 10000000000), .lit (.int .u64 100000000000), .lit (.int .u64 1000000000000), .lit (.int .u64 10000000000000), .lit (.int .u64 100000000000000), .lit (.int .u64 1000000000000000), .lit (.int .u64 10000000000000000), .lit (.int .u64 100000000000000000), .lit (.int .u64 1000000000000000000), .lit (.int .u64 10000000000000000000)]

/-- 'lorrylaw59.WeekPlans': WHATEVER THE INPUT: true; the input reads as it did. -/
def weekPlansSpec : ChangeSpec := { name := "weekPlans", fn := fun _ => fun
  | [d] => { results := [.lit (.bool true)], args := [d] }
  | _ => none }
def weekPlansRow : OpenClaim := { program := "ytiigdaohjanidaagreatdoor", sum := "c45448a7879bc8e38264ec6e85cc9ae98aaa1376c37e8915e18000efcf0aa25f", func := "lorry/lorrylaw59.WeekPlans", spec := "weekPlans", unfollowed := true, recurses := true, named := ["internal/strconv.uint64pow10", "math/bits.deBruijn32tab", "math/bits.deBruijn64tab"], plainKeys := false, apart := false, laid := [("math/bits.deBruijn32tab", laid_math_bits_deBruijn32tab), ("math/bits.deBruijn64tab", laid_math_bits_deBruijn64tab), ("internal/strconv.uint64pow10", laid_internal_strconv_uint64pow10)] }
def WeekPlansSaid : Prop := weekPlansRow.holds Tryz.pinned (OpenSpec.ofChange weekPlansSpec)

/-- ITS FALSE NEIGHBOUR: 'it returns false'. Refute it at one input. -/
def weekPlansWrong : ChangeSpec := { name := "weekPlans", fn := fun _ => fun
  | [d] => { results := [.lit (.bool false)], args := [d] }
  | _ => none }
def WeekPlansWrongFalsely : Prop := weekPlansRow.holds Tryz.pinned (OpenSpec.ofChange weekPlansWrong)

/-- 'lorrylaw59.WeekLeast': WHATEVER THE INPUT: true; the input reads as it did. -/
def weekLeastSpec : ChangeSpec := { name := "weekLeast", fn := fun _ => fun
  | [d1, d2, d3] => { results := [.lit (.bool true)], args := [d1, d2, d3] }
  | _ => none }
def weekLeastRow : OpenClaim := { program := "ytiigdaohjanidaagreatdoor", sum := "c45448a7879bc8e38264ec6e85cc9ae98aaa1376c37e8915e18000efcf0aa25f", func := "lorry/lorrylaw59.WeekLeast", spec := "weekLeast", unfollowed := true, recurses := true, named := ["internal/strconv.uint64pow10", "math/bits.deBruijn32tab", "math/bits.deBruijn64tab"], plainKeys := false, apart := false, laid := [("math/bits.deBruijn32tab", laid_math_bits_deBruijn32tab), ("math/bits.deBruijn64tab", laid_math_bits_deBruijn64tab), ("internal/strconv.uint64pow10", laid_internal_strconv_uint64pow10)] }
def WeekLeastSaid : Prop := weekLeastRow.holds Tryz.pinned (OpenSpec.ofChange weekLeastSpec)

/-- ITS FALSE NEIGHBOUR: 'it returns false'. Refute it at one input. -/
def weekLeastWrong : ChangeSpec := { name := "weekLeast", fn := fun _ => fun
  | [d1, d2, d3] => { results := [.lit (.bool false)], args := [d1, d2, d3] }
  | _ => none }
def WeekLeastWrongFalsely : Prop := weekLeastRow.holds Tryz.pinned (OpenSpec.ofChange weekLeastWrong)

/-- 'lorrylaw59.WeekOthers': WHATEVER THE INPUT: true; the input reads as it did. -/
def weekOthersSpec : ChangeSpec := { name := "weekOthers", fn := fun _ => fun
  | [d] => { results := [.lit (.bool true)], args := [d] }
  | _ => none }
def weekOthersRow : OpenClaim := { program := "ytiigdaohjanidaagreatdoor", sum := "c45448a7879bc8e38264ec6e85cc9ae98aaa1376c37e8915e18000efcf0aa25f", func := "lorry/lorrylaw59.WeekOthers", spec := "weekOthers", unfollowed := true, recurses := true, named := ["internal/strconv.uint64pow10", "math/bits.deBruijn32tab", "math/bits.deBruijn64tab"], plainKeys := false, apart := false, laid := [("math/bits.deBruijn32tab", laid_math_bits_deBruijn32tab), ("math/bits.deBruijn64tab", laid_math_bits_deBruijn64tab), ("internal/strconv.uint64pow10", laid_internal_strconv_uint64pow10)] }
def WeekOthersSaid : Prop := weekOthersRow.holds Tryz.pinned (OpenSpec.ofChange weekOthersSpec)

/-- ITS FALSE NEIGHBOUR: 'it returns false'. Refute it at one input. -/
def weekOthersWrong : ChangeSpec := { name := "weekOthers", fn := fun _ => fun
  | [d] => { results := [.lit (.bool false)], args := [d] }
  | _ => none }
def WeekOthersWrongFalsely : Prop := weekOthersRow.holds Tryz.pinned (OpenSpec.ofChange weekOthersWrong)

/-- 'lorrylaw48.ReoptSolves': WHATEVER THE INPUT: true; the input reads as it did. -/
def reoptSolvesSpec : ChangeSpec := { name := "reoptSolves", fn := fun _ => fun
  | [d] => { results := [.lit (.bool true)], args := [d] }
  | _ => none }
def reoptSolvesRow : OpenClaim := { program := "ytiigdaohjanidaagreatdoor", sum := "c45448a7879bc8e38264ec6e85cc9ae98aaa1376c37e8915e18000efcf0aa25f", func := "lorry/lorrylaw48.ReoptSolves", spec := "reoptSolves", unfollowed := true, recurses := true, named := ["internal/strconv.uint64pow10", "math/bits.deBruijn32tab", "math/bits.deBruijn64tab"], plainKeys := false, apart := false, laid := [("math/bits.deBruijn32tab", laid_math_bits_deBruijn32tab), ("math/bits.deBruijn64tab", laid_math_bits_deBruijn64tab), ("internal/strconv.uint64pow10", laid_internal_strconv_uint64pow10)] }
def ReoptSolvesSaid : Prop := reoptSolvesRow.holds Tryz.pinned (OpenSpec.ofChange reoptSolvesSpec)

/-- ITS FALSE NEIGHBOUR: 'it returns false'. Refute it at one input. -/
def reoptSolvesWrong : ChangeSpec := { name := "reoptSolves", fn := fun _ => fun
  | [d] => { results := [.lit (.bool false)], args := [d] }
  | _ => none }
def ReoptSolvesWrongFalsely : Prop := reoptSolvesRow.holds Tryz.pinned (OpenSpec.ofChange reoptSolvesWrong)

/-- 'lorrylaw48.ReoptKeeps': WHATEVER THE INPUT: true; the input reads as it did. -/
def reoptKeepsSpec : ChangeSpec := { name := "reoptKeeps", fn := fun _ => fun
  | [d1, d2] => { results := [.lit (.bool true)], args := [d1, d2] }
  | _ => none }
def reoptKeepsRow : OpenClaim := { program := "ytiigdaohjanidaagreatdoor", sum := "c45448a7879bc8e38264ec6e85cc9ae98aaa1376c37e8915e18000efcf0aa25f", func := "lorry/lorrylaw48.ReoptKeeps", spec := "reoptKeeps", unfollowed := true, recurses := true, named := ["internal/strconv.uint64pow10", "math/bits.deBruijn32tab", "math/bits.deBruijn64tab"], plainKeys := false, apart := false, laid := [("math/bits.deBruijn32tab", laid_math_bits_deBruijn32tab), ("math/bits.deBruijn64tab", laid_math_bits_deBruijn64tab), ("internal/strconv.uint64pow10", laid_internal_strconv_uint64pow10)] }
def ReoptKeepsSaid : Prop := reoptKeepsRow.holds Tryz.pinned (OpenSpec.ofChange reoptKeepsSpec)

/-- ITS FALSE NEIGHBOUR: 'it returns false'. Refute it at one input. -/
def reoptKeepsWrong : ChangeSpec := { name := "reoptKeeps", fn := fun _ => fun
  | [d1, d2] => { results := [.lit (.bool false)], args := [d1, d2] }
  | _ => none }
def ReoptKeepsWrongFalsely : Prop := reoptKeepsRow.holds Tryz.pinned (OpenSpec.ofChange reoptKeepsWrong)

/-- 'lorrylaw48.ReoptStays': WHATEVER THE INPUT: true; the input reads as it did. -/
def reoptStaysSpec : ChangeSpec := { name := "reoptStays", fn := fun _ => fun
  | [d] => { results := [.lit (.bool true)], args := [d] }
  | _ => none }
def reoptStaysRow : OpenClaim := { program := "ytiigdaohjanidaagreatdoor", sum := "c45448a7879bc8e38264ec6e85cc9ae98aaa1376c37e8915e18000efcf0aa25f", func := "lorry/lorrylaw48.ReoptStays", spec := "reoptStays", unfollowed := true, recurses := true, named := ["internal/strconv.uint64pow10", "math/bits.deBruijn32tab", "math/bits.deBruijn64tab"], plainKeys := false, apart := false, laid := [("math/bits.deBruijn32tab", laid_math_bits_deBruijn32tab), ("math/bits.deBruijn64tab", laid_math_bits_deBruijn64tab), ("internal/strconv.uint64pow10", laid_internal_strconv_uint64pow10)] }
def ReoptStaysSaid : Prop := reoptStaysRow.holds Tryz.pinned (OpenSpec.ofChange reoptStaysSpec)

/-- ITS FALSE NEIGHBOUR: 'it returns false'. Refute it at one input. -/
def reoptStaysWrong : ChangeSpec := { name := "reoptStays", fn := fun _ => fun
  | [d] => { results := [.lit (.bool false)], args := [d] }
  | _ => none }
def ReoptStaysWrongFalsely : Prop := reoptStaysRow.holds Tryz.pinned (OpenSpec.ofChange reoptStaysWrong)

/- THE SECOND FORM. 'bulk': how many values and letters a reading holds, each counted each time it is reached (what is shared counts as often as it is met; a slice's spare places count too). A statement '..UptoSaid' is the law's where the arguments, and the package variables that the reading takes, are together of bulk at most 1048576: NARROWER than '..Said'. Prove '..Said' where nothing that the law and all that it calls make is longer than what came in: it says more and counts as full. Else prove '..UptoSaid'. A law counts once. -/
mutual
def uptoBulk {H : Type} : DataW H → Nat
  | .lit (.string bytes) => bytes.length + 1
  | .lit _ => 1
  | .nil => 1
  | .ptr d => uptoBulk d + 1
  | .slice elems spare => uptoBulkAll elems + uptoBulkAll spare + 1
  | .agg parts => uptoBulkAll parts + 1
  | .iface _ d => uptoBulk d + 1
  | .map entries => uptoBulkEntries entries + 1
  | .held _ => 1
def uptoBulkAll {H : Type} : List (DataW H) → Nat
  | [] => 0
  | d :: r => uptoBulk d + uptoBulkAll r
def uptoBulkEntries {H : Type} : List (Lit × DataW H) → Nat
  | [] => 0
  | x :: r => uptoBulkEntry x + uptoBulkEntries r
def uptoBulkEntry {H : Type} : Lit × DataW H → Nat
  | (.string bytes, d) => bytes.length + uptoBulk d + 1
  | (_, d) => uptoBulk d + 1
 end
def uptoSmall : (H : Type) → List (DataW H) → Bool := fun _ ds => decide (uptoBulkAll ds ≤ 1048576)
def OpenSpec.upto (s : _root_.Go.ChangeSpec) : _root_.Go.OpenSpec := { _root_.Go.OpenSpec.ofChange s with cond := some uptoSmall }

/-- 'lorrylaw59.WeekPlans', WHERE WHAT IT READS IS OF BULK AT MOST 1048576: true; the input reads as it did. -/
def weekPlansUptoRow : OpenClaim := { program := "ytiigdaohjanidaagreatdoor", sum := "c45448a7879bc8e38264ec6e85cc9ae98aaa1376c37e8915e18000efcf0aa25f", func := "lorry/lorrylaw59.WeekPlans", spec := "weekPlans", unfollowed := true, recurses := true, named := ["internal/strconv.uint64pow10", "math/bits.deBruijn32tab", "math/bits.deBruijn64tab"], plainKeys := false, apart := false, laid := [("math/bits.deBruijn32tab", laid_math_bits_deBruijn32tab), ("math/bits.deBruijn64tab", laid_math_bits_deBruijn64tab), ("internal/strconv.uint64pow10", laid_internal_strconv_uint64pow10)], narrowed := true }
def WeekPlansUptoSaid : Prop := weekPlansUptoRow.holds Tryz.pinned (OpenSpec.upto weekPlansSpec)

/-- 'lorrylaw59.WeekLeast', WHERE WHAT IT READS IS OF BULK AT MOST 1048576: true; the input reads as it did. -/
def weekLeastUptoRow : OpenClaim := { program := "ytiigdaohjanidaagreatdoor", sum := "c45448a7879bc8e38264ec6e85cc9ae98aaa1376c37e8915e18000efcf0aa25f", func := "lorry/lorrylaw59.WeekLeast", spec := "weekLeast", unfollowed := true, recurses := true, named := ["internal/strconv.uint64pow10", "math/bits.deBruijn32tab", "math/bits.deBruijn64tab"], plainKeys := false, apart := false, laid := [("math/bits.deBruijn32tab", laid_math_bits_deBruijn32tab), ("math/bits.deBruijn64tab", laid_math_bits_deBruijn64tab), ("internal/strconv.uint64pow10", laid_internal_strconv_uint64pow10)], narrowed := true }
def WeekLeastUptoSaid : Prop := weekLeastUptoRow.holds Tryz.pinned (OpenSpec.upto weekLeastSpec)

/-- 'lorrylaw59.WeekOthers', WHERE WHAT IT READS IS OF BULK AT MOST 1048576: true; the input reads as it did. -/
def weekOthersUptoRow : OpenClaim := { program := "ytiigdaohjanidaagreatdoor", sum := "c45448a7879bc8e38264ec6e85cc9ae98aaa1376c37e8915e18000efcf0aa25f", func := "lorry/lorrylaw59.WeekOthers", spec := "weekOthers", unfollowed := true, recurses := true, named := ["internal/strconv.uint64pow10", "math/bits.deBruijn32tab", "math/bits.deBruijn64tab"], plainKeys := false, apart := false, laid := [("math/bits.deBruijn32tab", laid_math_bits_deBruijn32tab), ("math/bits.deBruijn64tab", laid_math_bits_deBruijn64tab), ("internal/strconv.uint64pow10", laid_internal_strconv_uint64pow10)], narrowed := true }
def WeekOthersUptoSaid : Prop := weekOthersUptoRow.holds Tryz.pinned (OpenSpec.upto weekOthersSpec)

/-- 'lorrylaw48.ReoptSolves', WHERE WHAT IT READS IS OF BULK AT MOST 1048576: true; the input reads as it did. -/
def reoptSolvesUptoRow : OpenClaim := { program := "ytiigdaohjanidaagreatdoor", sum := "c45448a7879bc8e38264ec6e85cc9ae98aaa1376c37e8915e18000efcf0aa25f", func := "lorry/lorrylaw48.ReoptSolves", spec := "reoptSolves", unfollowed := true, recurses := true, named := ["internal/strconv.uint64pow10", "math/bits.deBruijn32tab", "math/bits.deBruijn64tab"], plainKeys := false, apart := false, laid := [("math/bits.deBruijn32tab", laid_math_bits_deBruijn32tab), ("math/bits.deBruijn64tab", laid_math_bits_deBruijn64tab), ("internal/strconv.uint64pow10", laid_internal_strconv_uint64pow10)], narrowed := true }
def ReoptSolvesUptoSaid : Prop := reoptSolvesUptoRow.holds Tryz.pinned (OpenSpec.upto reoptSolvesSpec)

/-- 'lorrylaw48.ReoptKeeps', WHERE WHAT IT READS IS OF BULK AT MOST 1048576: true; the input reads as it did. -/
def reoptKeepsUptoRow : OpenClaim := { program := "ytiigdaohjanidaagreatdoor", sum := "c45448a7879bc8e38264ec6e85cc9ae98aaa1376c37e8915e18000efcf0aa25f", func := "lorry/lorrylaw48.ReoptKeeps", spec := "reoptKeeps", unfollowed := true, recurses := true, named := ["internal/strconv.uint64pow10", "math/bits.deBruijn32tab", "math/bits.deBruijn64tab"], plainKeys := false, apart := false, laid := [("math/bits.deBruijn32tab", laid_math_bits_deBruijn32tab), ("math/bits.deBruijn64tab", laid_math_bits_deBruijn64tab), ("internal/strconv.uint64pow10", laid_internal_strconv_uint64pow10)], narrowed := true }
def ReoptKeepsUptoSaid : Prop := reoptKeepsUptoRow.holds Tryz.pinned (OpenSpec.upto reoptKeepsSpec)

/-- 'lorrylaw48.ReoptStays', WHERE WHAT IT READS IS OF BULK AT MOST 1048576: true; the input reads as it did. -/
def reoptStaysUptoRow : OpenClaim := { program := "ytiigdaohjanidaagreatdoor", sum := "c45448a7879bc8e38264ec6e85cc9ae98aaa1376c37e8915e18000efcf0aa25f", func := "lorry/lorrylaw48.ReoptStays", spec := "reoptStays", unfollowed := true, recurses := true, named := ["internal/strconv.uint64pow10", "math/bits.deBruijn32tab", "math/bits.deBruijn64tab"], plainKeys := false, apart := false, laid := [("math/bits.deBruijn32tab", laid_math_bits_deBruijn32tab), ("math/bits.deBruijn64tab", laid_math_bits_deBruijn64tab), ("internal/strconv.uint64pow10", laid_internal_strconv_uint64pow10)], narrowed := true }
def ReoptStaysUptoSaid : Prop := reoptStaysUptoRow.holds Tryz.pinned (OpenSpec.upto reoptStaysSpec)

end Rows
end Go.Proofs.YtiigdaohjanidaaGreatDoor
