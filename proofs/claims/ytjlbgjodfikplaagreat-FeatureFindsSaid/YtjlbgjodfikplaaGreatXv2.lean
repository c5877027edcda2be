/- Closed facts of the program. -/
import Derived.Test.YtjlbgjodfikplaaGreatRows
import Derived.KernelRfl
set_option linter.unusedVariables false
set_option linter.unusedSimpArgs false
namespace Go.Ab
open Go.Proofs Go.Proofs.YtjlbgjodfikplaaGreat
theorem makeOk : (Tryz.prog.make == some Rows.symbolFitsRow.make) = true := by kernel_rfl
end Go.Ab
