/- Runs of the evaluator, by the kernel, part 4. No condition. -/
import Derived.Test.YtmigfpedabokcaaGreatDoorCo2
import Derived.Test.YtmigfpedabokcaaGreatDoorSd5
import Derived.KernelRfl
set_option linter.unusedVariables false
set_option linter.unusedSimpArgs false
namespace Go.Cg.Law
theorem run_1_false : isTrue (callF (prog [(0, 5, 1)]) 100000 60 p3 [.sym 0, .bool false] (.mk .e .lf)) = true := by kernel_rfl
theorem run_3_false : isTrue (callF (prog [(0, 5, 3)]) 100000 60 p3 [.sym 0, .bool false] (.mk .e .lf)) = true := by kernel_rfl

end Go.Cg.Law
