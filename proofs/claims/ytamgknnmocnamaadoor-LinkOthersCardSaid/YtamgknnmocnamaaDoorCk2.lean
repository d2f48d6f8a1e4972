/- These functions are the program's, part 2: each by the kernel. No condition. -/
import Derived.Test.YtamgknnmocnamaaDoorCo1
import Derived.Test.YtamgknnmocnamaaDoorProg
import Derived.KernelRfl
set_option linter.unusedVariables false
set_option linter.unusedSimpArgs false
namespace Go.Cg.Law
open Go.Proofs
theorem c16 : compFunc Tryd.prog dyn e16 Tryd.f16 = some a16 := by kernel_rfl
theorem c19 : compFunc Tryd.prog dyn e19 Tryd.f19 = some a19 := by kernel_rfl
theorem c23 : compFunc Tryd.prog dyn e23 Tryd.f23 = some a23 := by kernel_rfl
theorem c27 : compFunc Tryd.prog dyn e27 Tryd.f27 = some a27 := by kernel_rfl
theorem c32 : compFunc Tryd.prog dyn e32 Tryd.f32 = some a32 := by kernel_rfl
theorem c35 : compFunc Tryd.prog dyn e35 Tryd.f35 = some a35 := by kernel_rfl
theorem c38 : compFunc Tryd.prog dyn e38 Tryd.f38 = some a38 := by kernel_rfl
theorem c41 : compFunc Tryd.prog dyn e41 Tryd.f41 = some a41 := by kernel_rfl
theorem c44 : compFunc Tryd.prog dyn e44 Tryd.f44 = some a44 := by kernel_rfl
theorem c47 : compFunc Tryd.prog dyn e47 Tryd.f47 = some a47 := by kernel_rfl
theorem c50 : compFunc Tryd.prog dyn e50 Tryd.f50 = some a50 := by kernel_rfl
theorem c53 : compFunc Tryd.prog dyn e53 Tryd.f53 = some a53 := by kernel_rfl
theorem c56 : compFunc Tryd.prog dyn e56 Tryd.f56 = some a56 := by kernel_rfl
theorem c59 : compFunc Tryd.prog dyn e59 Tryd.f59 = some a59 := by kernel_rfl
theorem c66 : compFunc Tryd.prog dyn e66 Tryd.f66 = some a66 := by kernel_rfl
theorem c96 : compFunc Tryd.prog dyn e96 Tryd.f96 = some a96 := by kernel_rfl
theorem c99 : compFunc Tryd.prog dyn e99 Tryd.f99 = some a99 := by kernel_rfl
theorem c102 : compFunc Tryd.prog dyn e102 Tryd.f102 = some a102 := by kernel_rfl
end Go.Cg.Law
