/- Runs of the evaluator, by the kernel, part 9. No condition. -/
import Derived.Test.YtamgknnmocnamaaDoorCo1
import Derived.Test.YtamgknnmocnamaaDoorSd5
import Derived.KernelRfl
set_option linter.unusedVariables false
set_option linter.unusedSimpArgs false
namespace Go.Cg.Law
theorem run_2_0 : isTrue (callF prog 100000 60 p4 [.int .i64 2, .int .i64 0] (.mk .e .lf)) = true := by kernel_rfl
theorem run_6_0 : isTrue (callF prog 100000 60 p4 [.int .i64 6, .int .i64 0] (.mk .e .lf)) = true := by kernel_rfl
theorem run_10_0 : isTrue (callF prog 100000 60 p4 [.int .i64 10, .int .i64 0] (.mk .e .lf)) = true := by kernel_rfl
theorem run_14_0 : isTrue (callF prog 100000 60 p4 [.int .i64 14, .int .i64 0] (.mk .e .lf)) = true := by kernel_rfl
theorem run_18_0 : isTrue (callF prog 100000 60 p4 [.int .i64 18, .int .i64 0] (.mk .e .lf)) = true := by kernel_rfl
theorem run_22_0 : isTrue (callF prog 100000 60 p4 [.int .i64 22, .int .i64 0] (.mk .e .lf)) = true := by kernel_rfl
theorem run_26_0 : isTrue (callF prog 100000 60 p4 [.int .i64 26, .int .i64 0] (.mk .e .lf)) = true := by kernel_rfl
theorem run_30_0 : isTrue (callF prog 100000 60 p4 [.int .i64 30, .int .i64 0] (.mk .e .lf)) = true := by kernel_rfl
theorem run_34_0 : isTrue (callF prog 100000 60 p4 [.int .i64 34, .int .i64 0] (.mk .e .lf)) = true := by kernel_rfl
theorem run_38_0 : isTrue (callF prog 100000 60 p4 [.int .i64 38, .int .i64 0] (.mk .e .lf)) = true := by kernel_rfl

end Go.Cg.Law
