/- Closed facts of the row of SymbolFits. -/
import Derived.Test.YtjlbgjodfikplaaGreatRows
import Derived.Test.YtjlbgjodfikplaaGreatXu
import Derived.KernelRfl
set_option linter.unusedVariables false
set_option linter.unusedSimpArgs false
namespace Go.Proofs.YtjlbgjodfikplaaGreat.symbolFits
open Go Go.Ab Go.Proofs
theorem small : smallFacts Tryz.prog 4 Tryz.f4 Rows.symbolFitsSpec Rows.symbolFitsRow = true := by kernel_rfl
theorem c9 : (Rows.symbolFitsRow.inPlace == Tryz.prog.inPlace 4) = true := by kernel_rfl
theorem c10 : (Rows.symbolFitsRow.unfollowed == Tryz.prog.unfollowed 4) = true := by kernel_rfl
theorem c11 : (Rows.symbolFitsRow.recurses == Tryz.prog.recurses 4) = true := by kernel_rfl
theorem c12 : (Rows.symbolFitsRow.named == Tryz.prog.varsNamed 4) = true := by kernel_rfl
end Go.Proofs.YtjlbgjodfikplaaGreat.symbolFits
