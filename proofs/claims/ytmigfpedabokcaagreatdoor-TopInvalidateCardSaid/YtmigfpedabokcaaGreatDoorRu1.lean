/- Runs of the evaluator, by the kernel, part 1. No condition. -/
import Derived.Test.YtmigfpedabokcaaGreatDoorCo2
import Derived.Test.YtmigfpedabokcaaGreatDoorSd5
import Derived.KernelRfl
set_option linter.unusedVariables false
set_option linter.unusedSimpArgs false
namespace Go.Cg.Law
theorem run_0_true : isTrue (callF (prog [(0, 5, 0)]) 100000 60 p3 [.sym 0, .bool true] (.mk .e .lf)) = true := by kernel_rfl
theorem run_2_true : isTrue (callF (prog [(0, 5, 2)]) 100000 60 p3 [.sym 0, .bool true] (.mk .e .lf)) = true := by kernel_rfl
theorem run_4_true : isTrue (callF (prog [(0, 5, 4)]) 100000 60 p3 [.sym 0, .bool true] (.mk .e .lf)) = true := by kernel_rfl

end Go.Cg.Law
