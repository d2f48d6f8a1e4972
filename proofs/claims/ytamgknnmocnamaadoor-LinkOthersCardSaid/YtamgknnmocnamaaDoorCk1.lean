/- These functions are the program's, part 1: each by the kernel. No condition. -/
import Derived.Test.YtamgknnmocnamaaDoorCo1
import Derived.Test.YtamgknnmocnamaaDoorProg
import Derived.KernelRfl
set_option linter.unusedVariables false
set_option linter.unusedSimpArgs false
namespace Go.Cg.Law
open Go.Proofs
theorem c4 : compFunc Tryd.prog dyn e4 Tryd.f4 = some a4 := by kernel_rfl
theorem c18 : compFunc Tryd.prog dyn e18 Tryd.f18 = some a18 := by kernel_rfl
theorem c21 : compFunc Tryd.prog dyn e21 Tryd.f21 = some a21 := by kernel_rfl
theorem c26 : compFunc Tryd.prog dyn e26 Tryd.f26 = some a26 := by kernel_rfl
theorem c31 : compFunc Tryd.prog dyn e31 Tryd.f31 = some a31 := by kernel_rfl
theorem c34 : compFunc Tryd.prog dyn e34 Tryd.f34 = some a34 := by kernel_rfl
theorem c37 : compFunc Tryd.prog dyn e37 Tryd.f37 = some a37 := by kernel_rfl
theorem c40 : compFunc Tryd.prog dyn e40 Tryd.f40 = some a40 := by kernel_rfl
theorem c43 : compFunc Tryd.prog dyn e43 Tryd.f43 = some a43 := by kernel_rfl
theorem c46 : compFunc Tryd.prog dyn e46 Tryd.f46 = some a46 := by kernel_rfl
theorem c49 : compFunc Tryd.prog dyn e49 Tryd.f49 = some a49 := by kernel_rfl
theorem c52 : compFunc Tryd.prog dyn e52 Tryd.f52 = some a52 := by kernel_rfl
theorem c55 : compFunc Tryd.prog dyn e55 Tryd.f55 = some a55 := by kernel_rfl
theorem c58 : compFunc Tryd.prog dyn e58 Tryd.f58 = some a58 := by kernel_rfl
theorem c62 : compFunc Tryd.prog dyn e62 Tryd.f62 = some a62 := by kernel_rfl
theorem c92 : compFunc Tryd.prog dyn e92 Tryd.f92 = some a92 := by kernel_rfl
theorem c98 : compFunc Tryd.prog dyn e98 Tryd.f98 = some a98 := by kernel_rfl
theorem c101 : compFunc Tryd.prog dyn e101 Tryd.f101 = some a101 := by kernel_rfl
theorem c105 : compFunc Tryd.prog dyn e105 Tryd.f105 = some a105 := by kernel_rfl
end Go.Cg.Law
