/- These functions are the program's, part 3: each by the kernel. No condition. -/
import Derived.Test.YtamgknnmocnamaaDoorCo1
import Derived.Test.YtamgknnmocnamaaDoorProg
import Derived.KernelRfl
set_option linter.unusedVariables false
set_option linter.unusedSimpArgs false
namespace Go.Cg.Law
open Go.Proofs
theorem c17 : compFunc Tryd.prog dyn e17 Tryd.f17 = some a17 := by kernel_rfl
theorem c20 : compFunc Tryd.prog dyn e20 Tryd.f20 = some a20 := by kernel_rfl
theorem c25 : compFunc Tryd.prog dyn e25 Tryd.f25 = some a25 := by kernel_rfl
theorem c28 : compFunc Tryd.prog dyn e28 Tryd.f28 = some a28 := by kernel_rfl
theorem c33 : compFunc Tryd.prog dyn e33 Tryd.f33 = some a33 := by kernel_rfl
theorem c36 : compFunc Tryd.prog dyn e36 Tryd.f36 = some a36 := by kernel_rfl
theorem c39 : compFunc Tryd.prog dyn e39 Tryd.f39 = some a39 := by kernel_rfl
theorem c42 : compFunc Tryd.prog dyn e42 Tryd.f42 = some a42 := by kernel_rfl
theorem c45 : compFunc Tryd.prog dyn e45 Tryd.f45 = some a45 := by kernel_rfl
theorem c48 : compFunc Tryd.prog dyn e48 Tryd.f48 = some a48 := by kernel_rfl
theorem c51 : compFunc Tryd.prog dyn e51 Tryd.f51 = some a51 := by kernel_rfl
theorem c54 : compFunc Tryd.prog dyn e54 Tryd.f54 = some a54 := by kernel_rfl
theorem c57 : compFunc Tryd.prog dyn e57 Tryd.f57 = some a57 := by kernel_rfl
theorem c61 : compFunc Tryd.prog dyn e61 Tryd.f61 = some a61 := by kernel_rfl
theorem c68 : compFunc Tryd.prog dyn e68 Tryd.f68 = some a68 := by kernel_rfl
theorem c97 : compFunc Tryd.prog dyn e97 Tryd.f97 = some a97 := by kernel_rfl
theorem c100 : compFunc Tryd.prog dyn e100 Tryd.f100 = some a100 := by kernel_rfl
theorem c103 : compFunc Tryd.prog dyn e103 Tryd.f103 = some a103 := by kernel_rfl
end Go.Cg.Law
