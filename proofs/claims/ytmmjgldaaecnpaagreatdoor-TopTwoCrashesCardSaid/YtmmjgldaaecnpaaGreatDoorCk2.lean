/- These functions are the program's, part 2: each by the kernel. No condition. -/
import Derived.Test.YtmmjgldaaecnpaaGreatDoorCo2
import Derived.Test.YtmmjgldaaecnpaaGreatDoorProg
import Derived.KernelRfl
set_option linter.unusedVariables false
set_option linter.unusedSimpArgs false
namespace Go.Cg.Law
open Go.Proofs
theorem c4 : compFunc Tryz.prog dyn e4 Tryz.f4 = some a4 := by kernel_rfl
theorem c8 : compFunc Tryz.prog dyn e8 Tryz.f8 = some a8 := by kernel_rfl
theorem c11 : compFunc Tryz.prog dyn e11 Tryz.f11 = some a11 := by kernel_rfl
theorem c14 : compFunc Tryz.prog dyn e14 Tryz.f14 = some a14 := by kernel_rfl
theorem c18 : compFunc Tryz.prog dyn e18 Tryz.f18 = some a18 := by kernel_rfl
theorem c26 : compFunc Tryz.prog dyn e26 Tryz.f26 = some a26 := by kernel_rfl
theorem c31 : compFunc Tryz.prog dyn e31 Tryz.f31 = some a31 := by kernel_rfl
theorem c34 : compFunc Tryz.prog dyn e34 Tryz.f34 = some a34 := by kernel_rfl
theorem c38 : compFunc Tryz.prog dyn e38 Tryz.f38 = some a38 := by kernel_rfl
theorem c42 : compFunc Tryz.prog dyn e42 Tryz.f42 = some a42 := by kernel_rfl
theorem c50 : compFunc Tryz.prog dyn e50 Tryz.f50 = some a50 := by kernel_rfl
theorem c55 : compFunc Tryz.prog dyn e55 Tryz.f55 = some a55 := by kernel_rfl
theorem c58 : compFunc Tryz.prog dyn e58 Tryz.f58 = some a58 := by kernel_rfl
theorem c61 : compFunc Tryz.prog dyn e61 Tryz.f61 = some a61 := by kernel_rfl
theorem c64 : compFunc Tryz.prog dyn e64 Tryz.f64 = some a64 := by kernel_rfl
theorem c67 : compFunc Tryz.prog dyn e67 Tryz.f67 = some a67 := by kernel_rfl
theorem c72 : compFunc Tryz.prog dyn e72 Tryz.f72 = some a72 := by kernel_rfl
theorem c77 : compFunc Tryz.prog dyn e77 Tryz.f77 = some a77 := by kernel_rfl
theorem c81 : compFunc Tryz.prog dyn e81 Tryz.f81 = some a81 := by kernel_rfl
theorem c92 : compFunc Tryz.prog dyn e92 Tryz.f92 = some a92 := by kernel_rfl
theorem c97 : compFunc Tryz.prog dyn e97 Tryz.f97 = some a97 := by kernel_rfl
theorem c101 : compFunc Tryz.prog dyn e101 Tryz.f101 = some a101 := by kernel_rfl
theorem c106 : compFunc Tryz.prog dyn e106 Tryz.f106 = some a106 := by kernel_rfl
theorem c116 : compFunc Tryz.prog dyn e116 Tryz.f116 = some a116 := by kernel_rfl
theorem c122 : compFunc Tryz.prog dyn e122 Tryz.f122 = some a122 := by kernel_rfl
theorem c127 : compFunc Tryz.prog dyn e127 Tryz.f127 = some a127 := by kernel_rfl
theorem c130 : compFunc Tryz.prog dyn e130 Tryz.f130 = some a130 := by kernel_rfl
theorem c133 : compFunc Tryz.prog dyn e133 Tryz.f133 = some a133 := by kernel_rfl
theorem c145 : compFunc Tryz.prog dyn e145 Tryz.f145 = some a145 := by kernel_rfl
theorem c151 : compFunc Tryz.prog dyn e151 Tryz.f151 = some a151 := by kernel_rfl
theorem c155 : compFunc Tryz.prog dyn e155 Tryz.f155 = some a155 := by kernel_rfl
theorem c158 : compFunc Tryz.prog dyn e158 Tryz.f158 = some a158 := by kernel_rfl
theorem c166 : compFunc Tryz.prog dyn e166 Tryz.f166 = some a166 := by kernel_rfl
theorem c175 : compFunc Tryz.prog dyn e175 Tryz.f175 = some a175 := by kernel_rfl
theorem c180 : compFunc Tryz.prog dyn e180 Tryz.f180 = some a180 := by kernel_rfl
theorem c183 : compFunc Tryz.prog dyn e183 Tryz.f183 = some a183 := by kernel_rfl
theorem c186 : compFunc Tryz.prog dyn e186 Tryz.f186 = some a186 := by kernel_rfl
theorem c189 : compFunc Tryz.prog dyn e189 Tryz.f189 = some a189 := by kernel_rfl
theorem c199 : compFunc Tryz.prog dyn e199 Tryz.f199 = some a199 := by kernel_rfl
theorem c203 : compFunc Tryz.prog dyn e203 Tryz.f203 = some a203 := by kernel_rfl
theorem c211 : compFunc Tryz.prog dyn e211 Tryz.f211 = some a211 := by kernel_rfl
theorem c214 : compFunc Tryz.prog dyn e214 Tryz.f214 = some a214 := by kernel_rfl
theorem c230 : compFunc Tryz.prog dyn e230 Tryz.f230 = some a230 := by kernel_rfl
theorem c237 : compFunc Tryz.prog dyn e237 Tryz.f237 = some a237 := by kernel_rfl
theorem c282 : compFunc Tryz.prog dyn e282 Tryz.f282 = some a282 := by kernel_rfl
theorem c353 : compFunc Tryz.prog dyn e353 Tryz.f353 = some a353 := by kernel_rfl
theorem c357 : compFunc Tryz.prog dyn e357 Tryz.f357 = some a357 := by kernel_rfl
theorem c360 : compFunc Tryz.prog dyn e360 Tryz.f360 = some a360 := by kernel_rfl
theorem c369 : compFunc Tryz.prog dyn e369 Tryz.f369 = some a369 := by kernel_rfl
theorem c425 : compFunc Tryz.prog dyn e425 Tryz.f425 = some a425 := by kernel_rfl
end Go.Cg.Law
