/- Runs of the evaluator, by the kernel, part 16. No condition. -/
import Derived.Test.YtamgknnmocnamaaDoorCo1
import Derived.Test.YtamgknnmocnamaaDoorSd5
import Derived.KernelRfl
set_option linter.unusedVariables false
set_option linter.unusedSimpArgs false
namespace Go.Cg.Law
theorem run_3_3 : isTrue (callF prog 100000 60 p4 [.int .i64 3, .int .i64 3] (.mk .e .lf)) = true := by kernel_rfl
theorem run_7_3 : isTrue (callF prog 100000 60 p4 [.int .i64 7, .int .i64 3] (.mk .e .lf)) = true := by kernel_rfl
theorem run_11_3 : isTrue (callF prog 100000 60 p4 [.int .i64 11, .int .i64 3] (.mk .e .lf)) = true := by kernel_rfl
theorem run_15_3 : isTrue (callF prog 100000 60 p4 [.int .i64 15, .int .i64 3] (.mk .e .lf)) = true := by kernel_rfl
theorem run_19_3 : isTrue (callF prog 100000 60 p4 [.int .i64 19, .int .i64 3] (.mk .e .lf)) = true := by kernel_rfl
theorem run_23_3 : isTrue (callF prog 100000 60 p4 [.int .i64 23, .int .i64 3] (.mk .e .lf)) = true := by kernel_rfl
theorem run_27_3 : isTrue (callF prog 100000 60 p4 [.int .i64 27, .int .i64 3] (.mk .e .lf)) = true := by kernel_rfl
theorem run_31_3 : isTrue (callF prog 100000 60 p4 [.int .i64 31, .int .i64 3] (.mk .e .lf)) = true := by kernel_rfl
theorem run_35_3 : isTrue (callF prog 100000 60 p4 [.int .i64 35, .int .i64 3] (.mk .e .lf)) = true := by kernel_rfl
theorem run_39_3 : isTrue (callF prog 100000 60 p4 [.int .i64 39, .int .i64 3] (.mk .e .lf)) = true := by kernel_rfl

end Go.Cg.Law
