/- Runs of the evaluator, by the kernel, part 7. No condition. -/
import Derived.Test.YtamgknnmocnamaaDoorCo1
import Derived.Test.YtamgknnmocnamaaDoorSd5
import Derived.KernelRfl
set_option linter.unusedVariables false
set_option linter.unusedSimpArgs false
namespace Go.Cg.Law
theorem run_1_2 : isTrue (callF prog 100000 60 p4 [.int .i64 1, .int .i64 2] (.mk .e .lf)) = true := by kernel_rfl
theorem run_5_2 : isTrue (callF prog 100000 60 p4 [.int .i64 5, .int .i64 2] (.mk .e .lf)) = true := by kernel_rfl
theorem run_9_2 : isTrue (callF prog 100000 60 p4 [.int .i64 9, .int .i64 2] (.mk .e .lf)) = true := by kernel_rfl
theorem run_13_2 : isTrue (callF prog 100000 60 p4 [.int .i64 13, .int .i64 2] (.mk .e .lf)) = true := by kernel_rfl
theorem run_17_2 : isTrue (callF prog 100000 60 p4 [.int .i64 17, .int .i64 2] (.mk .e .lf)) = true := by kernel_rfl
theorem run_21_2 : isTrue (callF prog 100000 60 p4 [.int .i64 21, .int .i64 2] (.mk .e .lf)) = true := by kernel_rfl
theorem run_25_2 : isTrue (callF prog 100000 60 p4 [.int .i64 25, .int .i64 2] (.mk .e .lf)) = true := by kernel_rfl
theorem run_29_2 : isTrue (callF prog 100000 60 p4 [.int .i64 29, .int .i64 2] (.mk .e .lf)) = true := by kernel_rfl
theorem run_33_2 : isTrue (callF prog 100000 60 p4 [.int .i64 33, .int .i64 2] (.mk .e .lf)) = true := by kernel_rfl
theorem run_37_2 : isTrue (callF prog 100000 60 p4 [.int .i64 37, .int .i64 2] (.mk .e .lf)) = true := by kernel_rfl

end Go.Cg.Law
