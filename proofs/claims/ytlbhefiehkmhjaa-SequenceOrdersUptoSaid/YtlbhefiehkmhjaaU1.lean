/- The bulk of the given rows bounds the size of the data. -/
import Derived.Test.YtlbhefiehkmhjaaG
import Derived.Test.YtlbhefiehkmhjaaA4
set_option linter.unusedVariables false
set_option linter.unusedSimpArgs false
namespace Go.Proofs.Ytlbhefiehkmhjaa.K
open Go Go.AM Go.Proofs

mutual
theorem dsz_le {H : Type} : (d : DataW H) → dsz d ≤ Rows.uptoBulk d
  | .lit l => by cases l <;> simp [dsz, Rows.uptoBulk]
  | .nil => by simp [dsz, Rows.uptoBulk]
  | .ptr d => by have := dsz_le d; simp only [dsz, Rows.uptoBulk]; omega
  | .slice es sp => by have := dszs_le es; have := dszs_le sp; simp only [dsz, Rows.uptoBulk]; omega
  | .agg ps => by have := dszs_le ps; simp only [dsz, Rows.uptoBulk]; omega
  | .iface _ d => by have := dsz_le d; simp only [dsz, Rows.uptoBulk]; omega
  | .map es => by simp only [dsz, Rows.uptoBulk]; omega
  | .held h => by simp [dsz, Rows.uptoBulk]
theorem dszs_le {H : Type} : (l : List (DataW H)) → dszs l ≤ Rows.uptoBulkAll l
  | [] => by simp [dszs, Rows.uptoBulkAll]
  | d :: r => by have := dsz_le d; have := dszs_le r; simp only [dszs, Rows.uptoBulkAll]; omega
end
theorem small_dszs {H : Type} {l : List (DataW H)} (h : Rows.uptoSmall H l = true) : dszs l ≤ 1048576 := by
  have h1 := dszs_le l
  have h2 : Rows.uptoBulkAll l ≤ 1048576 := of_decide_eq_true h
  omega
end Go.Proofs.Ytlbhefiehkmhjaa.K
