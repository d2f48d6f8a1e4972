/- Runs of the evaluator, by the kernel, part 7. No condition. -/
import Derived.Test.YtmmjgldaaecnpaaGreatDoorCo2
import Derived.Test.YtmmjgldaaecnpaaGreatDoorSd5
import Derived.KernelRfl
set_option linter.unusedVariables false
set_option linter.unusedSimpArgs false
namespace Go.Cg.Law
theorem run_0_6 : isTrue (callF (prog [(0, 9, 0), (1, 12, 6)]) 100000 60 p3 [.sym 0, .sym 1] (.mk .e .lf)) = true := by kernel_rfl
theorem run_1_2 : isTrue (callF (prog [(0, 9, 1), (1, 12, 2)]) 100000 60 p3 [.sym 0, .sym 1] (.mk .e .lf)) = true := by kernel_rfl
theorem run_1_10 : isTrue (callF (prog [(0, 9, 1), (1, 12, 10)]) 100000 60 p3 [.sym 0, .sym 1] (.mk .e .lf)) = true := by kernel_rfl
theorem run_2_6 : isTrue (callF (prog [(0, 9, 2), (1, 12, 6)]) 100000 60 p3 [.sym 0, .sym 1] (.mk .e .lf)) = true := by kernel_rfl
theorem run_3_2 : isTrue (callF (prog [(0, 9, 3), (1, 12, 2)]) 100000 60 p3 [.sym 0, .sym 1] (.mk .e .lf)) = true := by kernel_rfl
theorem run_3_10 : isTrue (callF (prog [(0, 9, 3), (1, 12, 10)]) 100000 60 p3 [.sym 0, .sym 1] (.mk .e .lf)) = true := by kernel_rfl
theorem run_4_6 : isTrue (callF (prog [(0, 9, 4), (1, 12, 6)]) 100000 60 p3 [.sym 0, .sym 1] (.mk .e .lf)) = true := by kernel_rfl
theorem run_5_2 : isTrue (callF (prog [(0, 9, 5), (1, 12, 2)]) 100000 60 p3 [.sym 0, .sym 1] (.mk .e .lf)) = true := by kernel_rfl
theorem run_5_10 : isTrue (callF (prog [(0, 9, 5), (1, 12, 10)]) 100000 60 p3 [.sym 0, .sym 1] (.mk .e .lf)) = true := by kernel_rfl
theorem run_6_6 : isTrue (callF (prog [(0, 9, 6), (1, 12, 6)]) 100000 60 p3 [.sym 0, .sym 1] (.mk .e .lf)) = true := by kernel_rfl
theorem run_7_2 : isTrue (callF (prog [(0, 9, 7), (1, 12, 2)]) 100000 60 p3 [.sym 0, .sym 1] (.mk .e .lf)) = true := by kernel_rfl
theorem run_7_10 : isTrue (callF (prog [(0, 9, 7), (1, 12, 10)]) 100000 60 p3 [.sym 0, .sym 1] (.mk .e .lf)) = true := by kernel_rfl
theorem run_8_6 : isTrue (callF (prog [(0, 9, 8), (1, 12, 6)]) 100000 60 p3 [.sym 0, .sym 1] (.mk .e .lf)) = true := by kernel_rfl

end Go.Cg.Law
