/- Runs of the evaluator, by the kernel, part 4. No condition. -/
import Derived.Test.YtmmjgldaaecnpaaGreatDoorCo2
import Derived.Test.YtmmjgldaaecnpaaGreatDoorSd5
import Derived.KernelRfl
set_option linter.unusedVariables false
set_option linter.unusedSimpArgs false
namespace Go.Cg.Law
theorem run_0_3 : isTrue (callF (prog [(0, 9, 0), (1, 12, 3)]) 100000 60 p3 [.sym 0, .sym 1] (.mk .e .lf)) = true := by kernel_rfl
theorem run_0_11 : isTrue (callF (prog [(0, 9, 0), (1, 12, 11)]) 100000 60 p3 [.sym 0, .sym 1] (.mk .e .lf)) = true := by kernel_rfl
theorem run_1_7 : isTrue (callF (prog [(0, 9, 1), (1, 12, 7)]) 100000 60 p3 [.sym 0, .sym 1] (.mk .e .lf)) = true := by kernel_rfl
theorem run_2_3 : isTrue (callF (prog [(0, 9, 2), (1, 12, 3)]) 100000 60 p3 [.sym 0, .sym 1] (.mk .e .lf)) = true := by kernel_rfl
theorem run_2_11 : isTrue (callF (prog [(0, 9, 2), (1, 12, 11)]) 100000 60 p3 [.sym 0, .sym 1] (.mk .e .lf)) = true := by kernel_rfl
theorem run_3_7 : isTrue (callF (prog [(0, 9, 3), (1, 12, 7)]) 100000 60 p3 [.sym 0, .sym 1] (.mk .e .lf)) = true := by kernel_rfl
theorem run_4_3 : isTrue (callF (prog [(0, 9, 4), (1, 12, 3)]) 100000 60 p3 [.sym 0, .sym 1] (.mk .e .lf)) = true := by kernel_rfl
theorem run_4_11 : isTrue (callF (prog [(0, 9, 4), (1, 12, 11)]) 100000 60 p3 [.sym 0, .sym 1] (.mk .e .lf)) = true := by kernel_rfl
theorem run_5_7 : isTrue (callF (prog [(0, 9, 5), (1, 12, 7)]) 100000 60 p3 [.sym 0, .sym 1] (.mk .e .lf)) = true := by kernel_rfl
theorem run_6_3 : isTrue (callF (prog [(0, 9, 6), (1, 12, 3)]) 100000 60 p3 [.sym 0, .sym 1] (.mk .e .lf)) = true := by kernel_rfl
theorem run_6_11 : isTrue (callF (prog [(0, 9, 6), (1, 12, 11)]) 100000 60 p3 [.sym 0, .sym 1] (.mk .e .lf)) = true := by kernel_rfl
theorem run_7_7 : isTrue (callF (prog [(0, 9, 7), (1, 12, 7)]) 100000 60 p3 [.sym 0, .sym 1] (.mk .e .lf)) = true := by kernel_rfl
theorem run_8_3 : isTrue (callF (prog [(0, 9, 8), (1, 12, 3)]) 100000 60 p3 [.sym 0, .sym 1] (.mk .e .lf)) = true := by kernel_rfl
theorem run_8_11 : isTrue (callF (prog [(0, 9, 8), (1, 12, 11)]) 100000 60 p3 [.sym 0, .sym 1] (.mk .e .lf)) = true := by kernel_rfl

end Go.Cg.Law
