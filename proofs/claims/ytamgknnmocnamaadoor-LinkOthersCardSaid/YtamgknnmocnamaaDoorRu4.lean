/- Runs of the evaluator, by the kernel, part 4. No condition. -/
import Derived.Test.YtamgknnmocnamaaDoorCo1
import Derived.Test.YtamgknnmocnamaaDoorSd5
import Derived.KernelRfl
set_option linter.unusedVariables false
set_option linter.unusedSimpArgs false
namespace Go.Cg.Law
theorem run_0_3 : isTrue (callF prog 100000 60 p4 [.int .i64 0, .int .i64 3] (.mk .e .lf)) = true := by kernel_rfl
theorem run_4_3 : isTrue (callF prog 100000 60 p4 [.int .i64 4, .int .i64 3] (.mk .e .lf)) = true := by kernel_rfl
theorem run_8_3 : isTrue (callF prog 100000 60 p4 [.int .i64 8, .int .i64 3] (.mk .e .lf)) = true := by kernel_rfl
theorem run_12_3 : isTrue (callF prog 100000 60 p4 [.int .i64 12, .int .i64 3] (.mk .e .lf)) = true := by kernel_rfl
theorem run_16_3 : isTrue (callF prog 100000 60 p4 [.int .i64 16, .int .i64 3] (.mk .e .lf)) = true := by kernel_rfl
theorem run_20_3 : isTrue (callF prog 100000 60 p4 [.int .i64 20, .int .i64 3] (.mk .e .lf)) = true := by kernel_rfl
theorem run_24_3 : isTrue (callF prog 100000 60 p4 [.int .i64 24, .int .i64 3] (.mk .e .lf)) = true := by kernel_rfl
theorem run_28_3 : isTrue (callF prog 100000 60 p4 [.int .i64 28, .int .i64 3] (.mk .e .lf)) = true := by kernel_rfl
theorem run_32_3 : isTrue (callF prog 100000 60 p4 [.int .i64 32, .int .i64 3] (.mk .e .lf)) = true := by kernel_rfl
theorem run_36_3 : isTrue (callF prog 100000 60 p4 [.int .i64 36, .int .i64 3] (.mk .e .lf)) = true := by kernel_rfl
theorem run_40_3 : isTrue (callF prog 100000 60 p4 [.int .i64 40, .int .i64 3] (.mk .e .lf)) = true := by kernel_rfl

end Go.Cg.Law
