/- These functions are the program's, part 3: each by the kernel. No condition. -/
import Derived.Test.YtmmjgldaaecnpaaGreatDoorCo2
import Derived.Test.YtmmjgldaaecnpaaGreatDoorProg
import Derived.KernelRfl
set_option linter.unusedVariables false
set_option linter.unusedSimpArgs false
namespace Go.Cg.Law
open Go.Proofs
theorem c6 : compFunc Tryz.prog dyn e6 Tryz.f6 = some a6 := by kernel_rfl
theorem c9 : compFunc Tryz.prog dyn e9 Tryz.f9 = some a9 := by kernel_rfl
theorem c12 : compFunc Tryz.prog dyn e12 Tryz.f12 = some a12 := by kernel_rfl
theorem c15 : compFunc Tryz.prog dyn e15 Tryz.f15 = some a15 := by kernel_rfl
theorem c22 : compFunc Tryz.prog dyn e22 Tryz.f22 = some a22 := by kernel_rfl
theorem c27 : compFunc Tryz.prog dyn e27 Tryz.f27 = some a27 := by kernel_rfl
theorem c32 : compFunc Tryz.prog dyn e32 Tryz.f32 = some a32 := by kernel_rfl
theorem c36 : compFunc Tryz.prog dyn e36 Tryz.f36 = some a36 := by kernel_rfl
theorem c39 : compFunc Tryz.prog dyn e39 Tryz.f39 = some a39 := by kernel_rfl
theorem c43 : compFunc Tryz.prog dyn e43 Tryz.f43 = some a43 := by kernel_rfl
theorem c51 : compFunc Tryz.prog dyn e51 Tryz.f51 = some a51 := by kernel_rfl
theorem c56 : compFunc Tryz.prog dyn e56 Tryz.f56 = some a56 := by kernel_rfl
theorem c59 : compFunc Tryz.prog dyn e59 Tryz.f59 = some a59 := by kernel_rfl
theorem c62 : compFunc Tryz.prog dyn e62 Tryz.f62 = some a62 := by kernel_rfl
theorem c65 : compFunc Tryz.prog dyn e65 Tryz.f65 = some a65 := by kernel_rfl
theorem c68 : compFunc Tryz.prog dyn e68 Tryz.f68 = some a68 := by kernel_rfl
theorem c75 : compFunc Tryz.prog dyn e75 Tryz.f75 = some a75 := by kernel_rfl
theorem c78 : compFunc Tryz.prog dyn e78 Tryz.f78 = some a78 := by kernel_rfl
theorem c83 : compFunc Tryz.prog dyn e83 Tryz.f83 = some a83 := by kernel_rfl
theorem c95 : compFunc Tryz.prog dyn e95 Tryz.f95 = some a95 := by kernel_rfl
theorem c98 : compFunc Tryz.prog dyn e98 Tryz.f98 = some a98 := by kernel_rfl
theorem c102 : compFunc Tryz.prog dyn e102 Tryz.f102 = some a102 := by kernel_rfl
theorem c107 : compFunc Tryz.prog dyn e107 Tryz.f107 = some a107 := by kernel_rfl
theorem c117 : compFunc Tryz.prog dyn e117 Tryz.f117 = some a117 := by kernel_rfl
theorem c125 : compFunc Tryz.prog dyn e125 Tryz.f125 = some a125 := by kernel_rfl
theorem c128 : compFunc Tryz.prog dyn e128 Tryz.f128 = some a128 := by kernel_rfl
theorem c131 : compFunc Tryz.prog dyn e131 Tryz.f131 = some a131 := by kernel_rfl
theorem c136 : compFunc Tryz.prog dyn e136 Tryz.f136 = some a136 := by kernel_rfl
theorem c148 : compFunc Tryz.prog dyn e148 Tryz.f148 = some a148 := by kernel_rfl
theorem c152 : compFunc Tryz.prog dyn e152 Tryz.f152 = some a152 := by kernel_rfl
theorem c156 : compFunc Tryz.prog dyn e156 Tryz.f156 = some a156 := by kernel_rfl
theorem c159 : compFunc Tryz.prog dyn e159 Tryz.f159 = some a159 := by kernel_rfl
theorem c167 : compFunc Tryz.prog dyn e167 Tryz.f167 = some a167 := by kernel_rfl
theorem c176 : compFunc Tryz.prog dyn e176 Tryz.f176 = some a176 := by kernel_rfl
theorem c181 : compFunc Tryz.prog dyn e181 Tryz.f181 = some a181 := by kernel_rfl
theorem c184 : compFunc Tryz.prog dyn e184 Tryz.f184 = some a184 := by kernel_rfl
theorem c187 : compFunc Tryz.prog dyn e187 Tryz.f187 = some a187 := by kernel_rfl
theorem c190 : compFunc Tryz.prog dyn e190 Tryz.f190 = some a190 := by kernel_rfl
theorem c200 : compFunc Tryz.prog dyn e200 Tryz.f200 = some a200 := by kernel_rfl
theorem c209 : compFunc Tryz.prog dyn e209 Tryz.f209 = some a209 := by kernel_rfl
theorem c212 : compFunc Tryz.prog dyn e212 Tryz.f212 = some a212 := by kernel_rfl
theorem c215 : compFunc Tryz.prog dyn e215 Tryz.f215 = some a215 := by kernel_rfl
theorem c235 : compFunc Tryz.prog dyn e235 Tryz.f235 = some a235 := by kernel_rfl
theorem c262 : compFunc Tryz.prog dyn e262 Tryz.f262 = some a262 := by kernel_rfl
theorem c306 : compFunc Tryz.prog dyn e306 Tryz.f306 = some a306 := by kernel_rfl
theorem c355 : compFunc Tryz.prog dyn e355 Tryz.f355 = some a355 := by kernel_rfl
theorem c358 : compFunc Tryz.prog dyn e358 Tryz.f358 = some a358 := by kernel_rfl
theorem c362 : compFunc Tryz.prog dyn e362 Tryz.f362 = some a362 := by kernel_rfl
theorem c393 : compFunc Tryz.prog dyn e393 Tryz.f393 = some a393 := by kernel_rfl
theorem c149 : compFunc Tryz.prog dyn e149 Tryz.f149 = some a149 := by kernel_rfl
end Go.Cg.Law
