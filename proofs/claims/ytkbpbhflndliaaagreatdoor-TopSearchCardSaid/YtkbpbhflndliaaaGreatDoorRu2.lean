/- Runs of the evaluator, by the kernel, part 2. No condition. -/
import Derived.Test.YtkbpbhflndliaaaGreatDoorCo2
import Derived.Test.YtkbpbhflndliaaaGreatDoorSd5
import Derived.KernelRfl
set_option linter.unusedVariables false
set_option linter.unusedSimpArgs false
namespace Go.Cg.Law
theorem run_1 : isTrue (callF (prog [(0, 3, 1)]) 100000 60 p3 [.sym 0] (.mk .e .lf)) = true := by kernel_rfl

end Go.Cg.Law
