/- Closed facts of the row of SymbolChecks. -/
import Derived.Test.YtjlbgjodfikplaaGreatRows
import Derived.Test.YtjlbgjodfikplaaGreatXu
import Derived.KernelRfl
set_option linter.unusedVariables false
set_option linter.unusedSimpArgs false
namespace Go.Proofs.YtjlbgjodfikplaaGreat.symbolChecks
open Go Go.Ab Go.Proofs
theorem small : smallFacts Tryz.prog 3 Tryz.f3 Rows.symbolChecksSpec Rows.symbolChecksRow = true := by kernel_rfl
theorem c9 : (Rows.symbolChecksRow.inPlace == Tryz.prog.inPlace 3) = true := by kernel_rfl
theorem c10 : (Rows.symbolChecksRow.unfollowed == Tryz.prog.unfollowed 3) = true := by kernel_rfl
theorem c11 : (Rows.symbolChecksRow.recurses == Tryz.prog.recurses 3) = true := by kernel_rfl
theorem c12 : (Rows.symbolChecksRow.named == Tryz.prog.varsNamed 3) = true := by kernel_rfl
end Go.Proofs.YtjlbgjodfikplaaGreat.symbolChecks
