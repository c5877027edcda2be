/- Closed facts of the row of FeatureFinds. -/
import Derived.Test.YtjlbgjodfikplaaGreatRows
import Derived.Test.YtjlbgjodfikplaaGreatXu
import Derived.KernelRfl
set_option linter.unusedVariables false
set_option linter.unusedSimpArgs false
namespace Go.Proofs.YtjlbgjodfikplaaGreat.featureFinds
open Go Go.Ab Go.Proofs
theorem small : smallFacts Tryz.prog 9 Tryz.f9 Rows.featureFindsSpec Rows.featureFindsRow = true := by kernel_rfl
theorem c9 : (Rows.featureFindsRow.inPlace == Tryz.prog.inPlace 9) = true := by kernel_rfl
theorem c10 : (Rows.featureFindsRow.unfollowed == Tryz.prog.unfollowed 9) = true := by kernel_rfl
theorem c11 : (Rows.featureFindsRow.recurses == Tryz.prog.recurses 9) = true := by kernel_rfl
theorem c12 : (Rows.featureFindsRow.named == Tryz.prog.varsNamed 9) = true := by kernel_rfl
end Go.Proofs.YtjlbgjodfikplaaGreat.featureFinds
