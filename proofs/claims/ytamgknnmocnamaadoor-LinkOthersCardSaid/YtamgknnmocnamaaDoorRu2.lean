/- Runs of the evaluator, by the kernel, part 2. No condition. -/
import Derived.Test.YtamgknnmocnamaaDoorCo1
import Derived.Test.YtamgknnmocnamaaDoorSd5
import Derived.KernelRfl
set_option linter.unusedVariables false
set_option linter.unusedSimpArgs false
namespace Go.Cg.Law
theorem run_0_1 : isTrue (callF prog 100000 60 p4 [.int .i64 0, .int .i64 1] (.mk .e .lf)) = true := by kernel_rfl
theorem run_4_1 : isTrue (callF prog 100000 60 p4 [.int .i64 4, .int .i64 1] (.mk .e .lf)) = true := by kernel_rfl
theorem run_8_1 : isTrue (callF prog 100000 60 p4 [.int .i64 8, .int .i64 1] (.mk .e .lf)) = true := by kernel_rfl
theorem run_12_1 : isTrue (callF prog 100000 60 p4 [.int .i64 12, .int .i64 1] (.mk .e .lf)) = true := by kernel_rfl
theorem run_16_1 : isTrue (callF prog 100000 60 p4 [.int .i64 16, .int .i64 1] (.mk .e .lf)) = true := by kernel_rfl
theorem run_20_1 : isTrue (callF prog 100000 60 p4 [.int .i64 20, .int .i64 1] (.mk .e .lf)) = true := by kernel_rfl
theorem run_24_1 : isTrue (callF prog 100000 60 p4 [.int .i64 24, .int .i64 1] (.mk .e .lf)) = true := by kernel_rfl
theorem run_28_1 : isTrue (callF prog 100000 60 p4 [.int .i64 28, .int .i64 1] (.mk .e .lf)) = true := by kernel_rfl
theorem run_32_1 : isTrue (callF prog 100000 60 p4 [.int .i64 32, .int .i64 1] (.mk .e .lf)) = true := by kernel_rfl
theorem run_36_1 : isTrue (callF prog 100000 60 p4 [.int .i64 36, .int .i64 1] (.mk .e .lf)) = true := by kernel_rfl
theorem run_40_1 : isTrue (callF prog 100000 60 p4 [.int .i64 40, .int .i64 1] (.mk .e .lf)) = true := by kernel_rfl

end Go.Cg.Law
