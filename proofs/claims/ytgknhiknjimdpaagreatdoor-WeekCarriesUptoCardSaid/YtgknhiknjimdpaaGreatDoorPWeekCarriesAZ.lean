
/- The law WeekCarries: what its row says of the functions that are reached. -/
import Derived.Test.YtgknhiknjimdpaaGreatDoorZ21
set_option linter.unusedVariables false
set_option linter.unusedSimpArgs false
namespace Go.Proofs.YtgknhiknjimdpaaGreatDoor.K
open Go Go.AM Go.Proofs Go.RowKit
theorem weekCarries_h1 : (Rows.weekCarriesUptoRow.inPlace == Tryz.prog.inPlace 3) = true := by kernel_rfl
theorem weekCarries_h2 : (Rows.weekCarriesUptoRow.unfollowed == Tryz.prog.unfollowed 3) = true := by kernel_rfl
theorem weekCarries_h3 : (Rows.weekCarriesUptoRow.recurses == Tryz.prog.recurses 3) = true := by kernel_rfl
theorem weekCarries_h4 : (Rows.weekCarriesUptoRow.named == Tryz.prog.varsNamed 3) = true := by kernel_rfl
end Go.Proofs.YtgknhiknjimdpaaGreatDoor.K
