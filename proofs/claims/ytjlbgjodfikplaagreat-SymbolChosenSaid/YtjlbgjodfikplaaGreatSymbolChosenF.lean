/- Closed facts of the row of SymbolChosen. -/
import Derived.Test.YtjlbgjodfikplaaGreatRows
import Derived.Test.YtjlbgjodfikplaaGreatXu
import Derived.KernelRfl
set_option linter.unusedVariables false
set_option linter.unusedSimpArgs false
namespace Go.Proofs.YtjlbgjodfikplaaGreat.symbolChosen
open Go Go.Ab Go.Proofs
theorem small : smallFacts Tryz.prog 7 Tryz.f7 Rows.symbolChosenSpec Rows.symbolChosenRow = true := by kernel_rfl
theorem c9 : (Rows.symbolChosenRow.inPlace == Tryz.prog.inPlace 7) = true := by kernel_rfl
theorem c10 : (Rows.symbolChosenRow.unfollowed == Tryz.prog.unfollowed 7) = true := by kernel_rfl
theorem c11 : (Rows.symbolChosenRow.recurses == Tryz.prog.recurses 7) = true := by kernel_rfl
theorem c12 : (Rows.symbolChosenRow.named == Tryz.prog.varsNamed 7) = true := by kernel_rfl
end Go.Proofs.YtjlbgjodfikplaaGreat.symbolChosen
