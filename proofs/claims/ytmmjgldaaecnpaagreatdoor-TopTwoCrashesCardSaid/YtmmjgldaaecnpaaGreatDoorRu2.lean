/- Runs of the evaluator, by the kernel, part 2. No condition. -/
import Derived.Test.YtmmjgldaaecnpaaGreatDoorCo2
import Derived.Test.YtmmjgldaaecnpaaGreatDoorSd5
import Derived.KernelRfl
set_option linter.unusedVariables false
set_option linter.unusedSimpArgs false
namespace Go.Cg.Law
theorem run_0_1 : isTrue (callF (prog [(0, 9, 0), (1, 12, 1)]) 100000 60 p3 [.sym 0, .sym 1] (.mk .e .lf)) = true := by kernel_rfl
theorem run_0_9 : isTrue (callF (prog [(0, 9, 0), (1, 12, 9)]) 100000 60 p3 [.sym 0, .sym 1] (.mk .e .lf)) = true := by kernel_rfl
theorem run_1_5 : isTrue (callF (prog [(0, 9, 1), (1, 12, 5)]) 100000 60 p3 [.sym 0, .sym 1] (.mk .e .lf)) = true := by kernel_rfl
theorem run_2_1 : isTrue (callF (prog [(0, 9, 2), (1, 12, 1)]) 100000 60 p3 [.sym 0, .sym 1] (.mk .e .lf)) = true := by kernel_rfl
theorem run_2_9 : isTrue (callF (prog [(0, 9, 2), (1, 12, 9)]) 100000 60 p3 [.sym 0, .sym 1] (.mk .e .lf)) = true := by kernel_rfl
theorem run_3_5 : isTrue (callF (prog [(0, 9, 3), (1, 12, 5)]) 100000 60 p3 [.sym 0, .sym 1] (.mk .e .lf)) = true := by kernel_rfl
theorem run_4_1 : isTrue (callF (prog [(0, 9, 4), (1, 12, 1)]) 100000 60 p3 [.sym 0, .sym 1] (.mk .e .lf)) = true := by kernel_rfl
theorem run_4_9 : isTrue (callF (prog [(0, 9, 4), (1, 12, 9)]) 100000 60 p3 [.sym 0, .sym 1] (.mk .e .lf)) = true := by kernel_rfl
theorem run_5_5 : isTrue (callF (prog [(0, 9, 5), (1, 12, 5)]) 100000 60 p3 [.sym 0, .sym 1] (.mk .e .lf)) = true := by kernel_rfl
theorem run_6_1 : isTrue (callF (prog [(0, 9, 6), (1, 12, 1)]) 100000 60 p3 [.sym 0, .sym 1] (.mk .e .lf)) = true := by kernel_rfl
theorem run_6_9 : isTrue (callF (prog [(0, 9, 6), (1, 12, 9)]) 100000 60 p3 [.sym 0, .sym 1] (.mk .e .lf)) = true := by kernel_rfl
theorem run_7_5 : isTrue (callF (prog [(0, 9, 7), (1, 12, 5)]) 100000 60 p3 [.sym 0, .sym 1] (.mk .e .lf)) = true := by kernel_rfl
theorem run_8_1 : isTrue (callF (prog [(0, 9, 8), (1, 12, 1)]) 100000 60 p3 [.sym 0, .sym 1] (.mk .e .lf)) = true := by kernel_rfl
theorem run_8_9 : isTrue (callF (prog [(0, 9, 8), (1, 12, 9)]) 100000 60 p3 [.sym 0, .sym 1] (.mk .e .lf)) = true := by kernel_rfl

end Go.Cg.Law
