/- The examples of layer 17: calls of Check, by running the evaluator. -/
import Derived.Test.YtjlbgjodfikplaaGreatXp
import Derived.Test.YtjlbgjodfikplaaGreatXe
import Derived.KernelRfl
set_option linter.unusedVariables false
set_option linter.unusedSimpArgs false
namespace Go.Ab
theorem aw17_20 : (om prim1 F).p 30 [.agg [.ro 3 [[.int .i64 1, .int .i64 0, .int .i64 0]], .ro 6 [[.int .i64 1, .int .i64 1, .int .i64 1, .ro 2 [[.int .i64 10, .int .i64 0], [.int .i64 10, .int .i64 10], [.int .i64 0, .int .i64 10]], .int .i64 1, .int .i64 0]], .ro 1 [[.int .i64 1]], .ro 5 [[.int .i64 5, .int .i64 5, .int .i64 1, .str [], .nils]]]] = some (.int .i64 1) := (om_p_iff prim1 F).2 ⟨59, by kernel_rfl⟩
end Go.Ab
