/- These functions are the program's, part 2: each by the kernel. No condition. -/
import Derived.Test.YtlkfdkpkhkinfaaGreatDoorCo2
import Derived.Test.YtlkfdkpkhkinfaaGreatDoorProg
import Derived.KernelRfl
set_option linter.unusedVariables false
set_option linter.unusedSimpArgs false
namespace Go.Cg.Law
open Go.Proofs
theorem c4 : compFunc Tryz.prog dyn e4 Tryz.f4 = some a4 := by kernel_rfl
theorem c7 : compFunc Tryz.prog dyn e7 Tryz.f7 = some a7 := by kernel_rfl
theorem c10 : compFunc Tryz.prog dyn e10 Tryz.f10 = some a10 := by kernel_rfl
theorem c13 : compFunc Tryz.prog dyn e13 Tryz.f13 = some a13 := by kernel_rfl
theorem c16 : compFunc Tryz.prog dyn e16 Tryz.f16 = some a16 := by kernel_rfl
theorem c19 : compFunc Tryz.prog dyn e19 Tryz.f19 = some a19 := by kernel_rfl
theorem c24 : compFunc Tryz.prog dyn e24 Tryz.f24 = some a24 := by kernel_rfl
theorem c27 : compFunc Tryz.prog dyn e27 Tryz.f27 = some a27 := by kernel_rfl
theorem c30 : compFunc Tryz.prog dyn e30 Tryz.f30 = some a30 := by kernel_rfl
theorem c33 : compFunc Tryz.prog dyn e33 Tryz.f33 = some a33 := by kernel_rfl
theorem c36 : compFunc Tryz.prog dyn e36 Tryz.f36 = some a36 := by kernel_rfl
theorem c42 : compFunc Tryz.prog dyn e42 Tryz.f42 = some a42 := by kernel_rfl
theorem c49 : compFunc Tryz.prog dyn e49 Tryz.f49 = some a49 := by kernel_rfl
theorem c52 : compFunc Tryz.prog dyn e52 Tryz.f52 = some a52 := by kernel_rfl
theorem c56 : compFunc Tryz.prog dyn e56 Tryz.f56 = some a56 := by kernel_rfl
theorem c60 : compFunc Tryz.prog dyn e60 Tryz.f60 = some a60 := by kernel_rfl
theorem c63 : compFunc Tryz.prog dyn e63 Tryz.f63 = some a63 := by kernel_rfl
theorem c66 : compFunc Tryz.prog dyn e66 Tryz.f66 = some a66 := by kernel_rfl
theorem c71 : compFunc Tryz.prog dyn e71 Tryz.f71 = some a71 := by kernel_rfl
theorem c75 : compFunc Tryz.prog dyn e75 Tryz.f75 = some a75 := by kernel_rfl
theorem c79 : compFunc Tryz.prog dyn e79 Tryz.f79 = some a79 := by kernel_rfl
theorem c82 : compFunc Tryz.prog dyn e82 Tryz.f82 = some a82 := by kernel_rfl
theorem c87 : compFunc Tryz.prog dyn e87 Tryz.f87 = some a87 := by kernel_rfl
theorem c90 : compFunc Tryz.prog dyn e90 Tryz.f90 = some a90 := by kernel_rfl
theorem c93 : compFunc Tryz.prog dyn e93 Tryz.f93 = some a93 := by kernel_rfl
theorem c96 : compFunc Tryz.prog dyn e96 Tryz.f96 = some a96 := by kernel_rfl
theorem c99 : compFunc Tryz.prog dyn e99 Tryz.f99 = some a99 := by kernel_rfl
theorem c102 : compFunc Tryz.prog dyn e102 Tryz.f102 = some a102 := by kernel_rfl
theorem c107 : compFunc Tryz.prog dyn e107 Tryz.f107 = some a107 := by kernel_rfl
theorem c111 : compFunc Tryz.prog dyn e111 Tryz.f111 = some a111 := by kernel_rfl
theorem c122 : compFunc Tryz.prog dyn e122 Tryz.f122 = some a122 := by kernel_rfl
theorem c125 : compFunc Tryz.prog dyn e125 Tryz.f125 = some a125 := by kernel_rfl
theorem c129 : compFunc Tryz.prog dyn e129 Tryz.f129 = some a129 := by kernel_rfl
theorem c135 : compFunc Tryz.prog dyn e135 Tryz.f135 = some a135 := by kernel_rfl
theorem c140 : compFunc Tryz.prog dyn e140 Tryz.f140 = some a140 := by kernel_rfl
theorem c143 : compFunc Tryz.prog dyn e143 Tryz.f143 = some a143 := by kernel_rfl
theorem c146 : compFunc Tryz.prog dyn e146 Tryz.f146 = some a146 := by kernel_rfl
theorem c149 : compFunc Tryz.prog dyn e149 Tryz.f149 = some a149 := by kernel_rfl
theorem c152 : compFunc Tryz.prog dyn e152 Tryz.f152 = some a152 := by kernel_rfl
theorem c155 : compFunc Tryz.prog dyn e155 Tryz.f155 = some a155 := by kernel_rfl
theorem c160 : compFunc Tryz.prog dyn e160 Tryz.f160 = some a160 := by kernel_rfl
theorem c165 : compFunc Tryz.prog dyn e165 Tryz.f165 = some a165 := by kernel_rfl
theorem c172 : compFunc Tryz.prog dyn e172 Tryz.f172 = some a172 := by kernel_rfl
theorem c183 : compFunc Tryz.prog dyn e183 Tryz.f183 = some a183 := by kernel_rfl
theorem c186 : compFunc Tryz.prog dyn e186 Tryz.f186 = some a186 := by kernel_rfl
theorem c197 : compFunc Tryz.prog dyn e197 Tryz.f197 = some a197 := by kernel_rfl
theorem c204 : compFunc Tryz.prog dyn e204 Tryz.f204 = some a204 := by kernel_rfl
theorem c207 : compFunc Tryz.prog dyn e207 Tryz.f207 = some a207 := by kernel_rfl
theorem c213 : compFunc Tryz.prog dyn e213 Tryz.f213 = some a213 := by kernel_rfl
theorem c220 : compFunc Tryz.prog dyn e220 Tryz.f220 = some a220 := by kernel_rfl
theorem c226 : compFunc Tryz.prog dyn e226 Tryz.f226 = some a226 := by kernel_rfl
theorem c231 : compFunc Tryz.prog dyn e231 Tryz.f231 = some a231 := by kernel_rfl
theorem c238 : compFunc Tryz.prog dyn e238 Tryz.f238 = some a238 := by kernel_rfl
theorem c266 : compFunc Tryz.prog dyn e266 Tryz.f266 = some a266 := by kernel_rfl
theorem c279 : compFunc Tryz.prog dyn e279 Tryz.f279 = some a279 := by kernel_rfl
theorem c282 : compFunc Tryz.prog dyn e282 Tryz.f282 = some a282 := by kernel_rfl
theorem c316 : compFunc Tryz.prog dyn e316 Tryz.f316 = some a316 := by kernel_rfl
theorem c349 : compFunc Tryz.prog dyn e349 Tryz.f349 = some a349 := by kernel_rfl
theorem c352 : compFunc Tryz.prog dyn e352 Tryz.f352 = some a352 := by kernel_rfl
theorem c356 : compFunc Tryz.prog dyn e356 Tryz.f356 = some a356 := by kernel_rfl
theorem c391 : compFunc Tryz.prog dyn e391 Tryz.f391 = some a391 := by kernel_rfl
end Go.Cg.Law
