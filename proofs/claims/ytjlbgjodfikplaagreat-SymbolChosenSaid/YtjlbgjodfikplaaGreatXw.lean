/- The examples of the laws of layer 46 hold: by running the evaluator. -/
import Derived.Test.YtjlbgjodfikplaaGreatXp
import Derived.Test.YtjlbgjodfikplaaGreatXe
import Derived.KernelRfl
set_option linter.unusedVariables false
set_option linter.unusedSimpArgs false
namespace Go.Ab
theorem awake46_lv : (lv prim1 F 60).p 17 [] = some (.bool true) := by kernel_rfl
theorem awake46 : (om prim1 F).p 17 [] = some (.bool true) := (om_p_iff prim1 F).2 ⟨60, awake46_lv⟩
end Go.Ab
