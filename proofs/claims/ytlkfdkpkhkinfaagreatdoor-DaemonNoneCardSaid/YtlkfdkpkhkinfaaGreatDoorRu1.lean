/- Runs of the evaluator, by the kernel, part 1. No condition. -/
import Derived.Test.YtlkfdkpkhkinfaaGreatDoorCo2
import Derived.Test.YtlkfdkpkhkinfaaGreatDoorSd5
import Derived.KernelRfl
set_option linter.unusedVariables false
set_option linter.unusedSimpArgs false
namespace Go.Cg.Law
theorem run1 : isTrue (callF prog 100000 60 p3 [] (.mk .e .lf)) = true := by kernel_rfl

end Go.Cg.Law
