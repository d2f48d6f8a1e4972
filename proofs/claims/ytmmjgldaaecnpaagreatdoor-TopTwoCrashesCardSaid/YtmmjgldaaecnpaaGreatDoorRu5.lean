/- Runs of the evaluator, by the kernel, part 5. No condition. -/
import Derived.Test.YtmmjgldaaecnpaaGreatDoorCo2
import Derived.Test.YtmmjgldaaecnpaaGreatDoorSd5
import Derived.KernelRfl
set_option linter.unusedVariables false
set_option linter.unusedSimpArgs false
namespace Go.Cg.Law
theorem run_0_4 : isTrue (callF (prog [(0, 9, 0), (1, 12, 4)]) 100000 60 p3 [.sym 0, .sym 1] (.mk .e .lf)) = true := by kernel_rfl
theorem run_1_0 : isTrue (callF (prog [(0, 9, 1), (1, 12, 0)]) 100000 60 p3 [.sym 0, .sym 1] (.mk .e .lf)) = true := by kernel_rfl
theorem run_1_8 : isTrue (callF (prog [(0, 9, 1), (1, 12, 8)]) 100000 60 p3 [.sym 0, .sym 1] (.mk .e .lf)) = true := by kernel_rfl
theorem run_2_4 : isTrue (callF (prog [(0, 9, 2), (1, 12, 4)]) 100000 60 p3 [.sym 0, .sym 1] (.mk .e .lf)) = true := by kernel_rfl
theorem run_3_0 : isTrue (callF (prog [(0, 9, 3), (1, 12, 0)]) 100000 60 p3 [.sym 0, .sym 1] (.mk .e .lf)) = true := by kernel_rfl
theorem run_3_8 : isTrue (callF (prog [(0, 9, 3), (1, 12, 8)]) 100000 60 p3 [.sym 0, .sym 1] (.mk .e .lf)) = true := by kernel_rfl
theorem run_4_4 : isTrue (callF (prog [(0, 9, 4), (1, 12, 4)]) 100000 60 p3 [.sym 0, .sym 1] (.mk .e .lf)) = true := by kernel_rfl
theorem run_5_0 : isTrue (callF (prog [(0, 9, 5), (1, 12, 0)]) 100000 60 p3 [.sym 0, .sym 1] (.mk .e .lf)) = true := by kernel_rfl
theorem run_5_8 : isTrue (callF (prog [(0, 9, 5), (1, 12, 8)]) 100000 60 p3 [.sym 0, .sym 1] (.mk .e .lf)) = true := by kernel_rfl
theorem run_6_4 : isTrue (callF (prog [(0, 9, 6), (1, 12, 4)]) 100000 60 p3 [.sym 0, .sym 1] (.mk .e .lf)) = true := by kernel_rfl
theorem run_7_0 : isTrue (callF (prog [(0, 9, 7), (1, 12, 0)]) 100000 60 p3 [.sym 0, .sym 1] (.mk .e .lf)) = true := by kernel_rfl
theorem run_7_8 : isTrue (callF (prog [(0, 9, 7), (1, 12, 8)]) 100000 60 p3 [.sym 0, .sym 1] (.mk .e .lf)) = true := by kernel_rfl
theorem run_8_4 : isTrue (callF (prog [(0, 9, 8), (1, 12, 4)]) 100000 60 p3 [.sym 0, .sym 1] (.mk .e .lf)) = true := by kernel_rfl

end Go.Cg.Law
