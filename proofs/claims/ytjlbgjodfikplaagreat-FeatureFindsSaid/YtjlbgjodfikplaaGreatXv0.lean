/- Closed facts of the program. -/
import Derived.Test.YtjlbgjodfikplaaGreatRows
import Derived.KernelRfl
set_option linter.unusedVariables false
set_option linter.unusedSimpArgs false
namespace Go.Ab
open Go.Proofs Go.Proofs.YtjlbgjodfikplaaGreat
theorem laidOut : laidOutB Tryz.prog = true := by kernel_rfl
theorem rowed : mapsRowed Tryz.prog = true := by kernel_rfl
theorem heard : Tryz.prog.stopsHeard = true := by kernel_rfl
theorem lift : (Rows.symbolFitsRow.lifted == Tryz.prog.liftsFinal) = true := by kernel_rfl
end Go.Ab
